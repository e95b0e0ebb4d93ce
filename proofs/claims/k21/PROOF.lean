import PyProof.Rows.All
import Wide.All
import OpenK.AllK
import Wide.FinOn
import HandS.ForMost
import HandS.Exc
import HandS.TryOnly
import HandS.ExcOwn
import HandS.WordsExc
import HandS.Defaults
import HandS.Flow
import HandS.WideBits
import HandS.Lambda
import HandS.EndTab
import HandS.TupAny
import HandS.IsInst
import HandS.Walk
import HandS.Conv
import HandS.Deep
import HandS.SortInts
import HandS.Small
import HandS.Style
import KE.KStateDown
import HandS.More
import HandS.Head0
import HandS.Head1
import HandS.Head2
import HandS.HeadEnd
import HandS.HeadHook1
import HandS.HeadHook2
import HandS.Codes
import HandS.SortKw
import HandS.Nested
import HandS.HeadHook4
import HandS.HeadHook3
import HandS.Zip
import KE.GoesMore
import KE.SortData
import HandS.Dict
import HandS.Iter
import KE.KDictWalk
import HandS.DictComp
import HandS.MakeKwOnly
import KE.KUnpackStar
import HandS.ExcInit
import HandS.ExcField
import HandS.ExcIs
import HandS.HotCalls
import KE.KExcInit
import KE.KExcIs
import HandS.TryMany
import KE.GoesEnumKw
import KE.DataMinMax
import HandS.SortRule
import HandS.SuiteRaise
import HandS.RaiseFrom
import PySem.Challenge.RW_fadeleaf_k21_deeds_that_fit
set_option Elab.async false
set_option linter.all false
set_option maxRecDepth 100000
set_option maxHeartbeats 2000000
/-! G0: promises of defs that know that no repr is under way (A.guards = some []): repr of data can be asked inside them. -/
namespace Y
open PySem PySem.Spec PyProof.Rows L2

/-- a def's promise, kept wherever no repr is under way -/
structure FnG (P : Program) (w : World) (K : PySem.W.Frag) (mg : Str → Option Value) (base : Heap) (CX : CXT) (k : Nat) (f : Addr) (fd : FuncData) (ps : List Str) (sp : Sp) : Prop where
  arity : ∀ vs H Q E, sp vs H Q E → vs.length = ps.length
  goes : ∀ (A : Around) (outer : List Env) (s : Shared) (H : Hp) (args : Args) (us : List Value) (vs : List V) (Q : VK) (E : XK),
    Room k A → A.guards = some [] → Env0 P w K mg base A outer s H → BindsTo s fd args (ps.zip us) → Vals vs us → sp vs H Q E →
    codeAny (model P w) A (.call (.ref f) args) (CR CX outer P w H s Q E) s

section
variable {P : Program} {w : World} {K : PySem.W.Frag} {mg : Str → Option Value} {base : Heap} {CX : CXT} {k j : Nat} {f : Addr} {fd : FuncData} {ps : List Str} {sp sp' : Sp}
theorem FnG.of (F : FnOk P w K mg base CX k f fd ps sp) : FnG P w K mg base CX k f fd ps sp :=
  ⟨F.len, fun A o s H a us vs Q E hr _ => F.run A o s H a us vs Q E hr⟩
theorem FnG.up (F : FnG P w K mg base CX j f fd ps sp) (h : j ≤ k) : FnG P w K mg base CX k f fd ps sp :=
  ⟨F.arity, fun A o s H a us vs Q E hr => F.goes A o s H a us vs Q E (hr.mono h)⟩
theorem FnG.weak (F : FnG P w K mg base CX k f fd ps sp) (h : ∀ vs H Q E, sp' vs H Q E → sp vs H Q E) : FnG P w K mg base CX k f fd ps sp' :=
  ⟨fun vs H Q E q => F.arity vs H Q E (h _ _ _ _ q), fun A o s H a us vs Q E r1 r2 r3 r4 r5 r6 => F.goes A o s H a us vs Q E r1 r2 r3 r4 r5 (h _ _ _ _ r6)⟩

/-- a def of the text keeps its promise, by its body, the guards known -/
theorem goes_of {nm qu : Str} {pa : Arguments} {bd : List Stmt} {sco : Scope} {v1 v2 v3 v4 v5 v6 v7 : Value} {a1 a2 : Option Addr}
    {sl : Array (Option Value)} {N : List Str} (look : K.lookup f = some ⟨v7, a2, .func (PySem.W.fnOf nm qu pa bd sco v1 v2 v3 v4 a1 v5 v6), sl⟩)
    (code : PySem.W.codeIn K v5 qu = true) (S : FnScope N ps sco) (ar : ∀ vs H Q E, sp vs H Q E → vs.length = ps.length)
    (body : ∀ (A : Around) (out : List Env) (s : Shared) (H : Hp) (vs : List V) (Q : VK) (E : XK), Room k (A.deeper (envOfC qu sco s.heap.objs.size f v5)) → A.guards = some [] → sp vs H Q E →
      ∃ t, PSs (cxOf CX P w K mg base N qu sco f v5 A out s H E) bd t ∧ t { nx := fun _ H' => Q .non H', rt := Q } (start N vs) H) :
    FnG P w K mg base CX (k + 1) f (PySem.W.fnOf nm qu pa bd sco v1 v2 v3 v4 a1 v5 v6) ps sp := by
  refine ⟨ar, fun A out s H args us vs Q E room gd env bnd rel want => ?_⟩
  have inK : K.In s.heap := env.mod.kin.keeps fun b o e => (env.bs b o e).1
  have noLim : s.heap.NoLimit := env.mod.nolimit.keeps fun b o e => (env.bs b o e).1
  have kinds : ∀ y ∈ ps.zip us, sco.names.lookup y.1 = some .local ∨ (sco.names.lookup y.1 = some .cell ∧ ((cellsFrom (s.heap.objs.size + 1) sco.names []).lookup y.1).isSome = true) := by
    rintro ⟨n, v⟩ hy
    cases S.par n (List.of_mem_zip hy).1 with
    | inl q => exact .inl q
    | inr q => exact .inr ⟨q, PySem.W.cellsFrom_some _ _ _ (.inl q)⟩
  refine codeAny_call_function room.depth (inK _ _ look) rfl S.co S.gen rfl (PySem.W.codeRec_of inK code) (bnd _ _ _ _ ?_)
  refine wpAny_newFunctionEnv_cells S.kind kinds fun env' he s1 x => ?_
  subst he
  refine ⟨noLim.keeps x.toInCall.keep, codeAny_func ?_⟩
  obtain ⟨t, ht, hq⟩ := body A out s H vs Q E (room.deeper _) gd want
  have I0 := inv_start (CX := CX) (E := E) S room.hd env (ar _ _ _ _ want) rel x
  refine wpAny_mono (ht.run [] s1 (start N vs) H _ I0 hq) (fun fl s' hs => ?_) fun _ _ hs => hs
  cases fl with
  | ret u =>
    obtain ⟨v, σ', H', J, rv, q⟩ := hs
    exact ⟨v, H', J.os, J.bare, J.base, J.hok, rv, q⟩
  | next =>
    obtain ⟨σ', H', J, q⟩ := hs
    exact ⟨V.non, H', J.os, J.bare, J.base, J.hok, rfl, q⟩
  | brk =>
    obtain ⟨_, _, _, q⟩ := hs
    exact q.elim
  | cont =>
    obtain ⟨_, _, _, q⟩ := hs
    exact q.elim
theorem funD_goes {x qual : Str} {params : Arguments} {body : List Stmt} {scope : Scope} {dvs : List V} {kws : List (Str × V)} {N : List Str} (F : FunD K x qual params body scope dvs kws f fd)
    (S : FnScope N ps scope) (ar : ∀ vs H Q E, sp vs H Q E → vs.length = ps.length)
    (hb : ∀ (cd : Value) (A : Around) (out : List Env) (s : Shared) (H : Hp) (vs : List V) (Q : VK) (E : XK), Room k (A.deeper (envOfC qual scope s.heap.objs.size f cd)) → A.guards = some [] → sp vs H Q E →
      ∃ t, PSs (cxOf CX P w K mg base N qual scope f cd A out s H E) body t ∧ t { nx := fun _ H' => Q .non H', rt := Q } (start N vs) H) : FnG P w K mg base CX (k + 1) f fd ps sp := by
  obtain ⟨_, _, _, _, _, _, _, cd, _, _, rfl, lk, hcd, _, _⟩ := F.ex
  exact goes_of lk hcd S ar fun A out s H vs Q E => hb cd A out s H vs Q E
end

/-! ### calls -/
section
variable {X : Cx} {CX : CXT} {k : Nat} {f : Addr} {fd : FuncData} {ps : List Str} {sp : Sp} {dvs : List V} {ds : List Value} {E : XK} {x : Str} {p pos : Pos} {e : Expr} {es : List Expr} {t : TA}
theorem goes_fn {pins : List (Addr × Obj)} {σ : L2.St} {H : Hp} {s : Shared} {Q : VK} {us : List Value} {vs : List V} (F : FnG X.prog X.w X.K X.mg X.base CX k f fd ps sp) (room : Room k X.A) (gd : X.A.guards = some [])
    (hb : Binds X.K fd ps ds) (hd : Vals dvs ds) (hx : Passes CX X E) (I : Inv X pins σ H s) (rel : Vals vs us) (want : sp (vs ++ dvs) H Q E) :
    wpAny (model X.prog X.w) X.A (call (.ref f) us) (EP X pins σ Q) X.xe s := by
  have r2 := rel.append hd
  have ln : (us ++ ds).length = ps.length := r2.length ▸ F.arity _ _ _ _ want
  refine wpAny_call (codeAny_mono (F.goes X.A X.stack s H ⟨us, []⟩ (us ++ ds) (vs ++ dvs) Q E room gd I.env0 (hb s us I.kIn ln) r2 want) ?_)
  intro r s' hq
  cases r with
  | error er => exact hx pins σ H s er s' I hq
  | ok fl =>
    cases fl with
    | ret u => exact I.after hq
    | next => exact hq.elim
    | brk => exact hq.elim
    | cont => exact hq.elim
/-- f(e, ..) -/
theorem pe_callG (F : FnG X.prog X.w X.K X.mg X.base CX k f fd ps sp) (room : Room k X.A) (gd : X.A.guards = some []) (hg : Gl X x) (hm : X.mg x = some (.ref f)) (hk : PySem.W.keepIn X.K (.ref f) = true)
    (hb : Binds X.K fd ps ds) (hd : Vals dvs ds) (hx : Passes CX X E) (ha : PA X (e :: es) t) (hdb : (x == ("__debug__" : Str)) = false := by decide)
    (h1 : starEach (e :: es) X.env = (false, eval e X.env) :: starEach es X.env := by rfl) (h2 : (backTo pos (starEach es X.env)).any (·.1) = false := by rfl) :
    PE X (.Call (.Name x p) (e :: es) [] pos) (tCall sp dvs E t) := by
  constructor
  intro pins s σ H Q I h
  refine wpAny_Call_Name_kw (ld_glob I hg hm ?_ hdb)
  refine PySem.W.callWith_K (h₀ := X.base) I.ok.mod.kin hk (thn (ha.run pos pins s σ H _ I h) ?_) h1 h2
  rintro us s1 ⟨vs, H1, I1, r, q⟩
  exact ⟨I1.kIn, goes_fn F room gd hb hd hx I1 r q⟩
end

/-! ### the end of a law: its promise at the heap behind the top, with tables of code objects -/
section
variable {P : Program} {w : World} {K : PySem.W.Frag} {mg mb : Str → Option Value} {CX : CXT} {k : Nat} {fa a : Addr} {cs : List (Addr × Addr)} {fd : FuncData} {x : Str} {sp : Sp} {s1 : Shared} {vs : List Value} {ns : List Int}
abbrev emptyTab : Obj := { cls := .none, data := .fields #[] }
abbrev scriptObj (vs : List Value) : Obj := { cls := .type "list", data := .seq vs.toArray }
/-- what a law's run must come to -/
abbrev LawEnd (s1 : Shared) (r : Result) (s' : Shared) : Prop := r = .ok (.ret (.bool true)) ∧ OldK s1.heap s'.heap ∧ s'.os = s1.os ∧ AllBare s'.gens
/-- the frames, the module, the tables at the entry -/
structure AtTop (K : PySem.W.Frag) (mg mb : Str → Option Value) (cs : List (Addr × Addr)) (s1 : Shared) : Prop where
  kin : K.In s1.heap
  glob : s1.heap.Ns mainGlobals mg
  blt : s1.heap.Ns builtinsNs mb
  blts : ∀ x : Str, x ≠ "__name__" → mb x = bootBuiltins x
  lim : s1.heap.NoLimit
  gens : s1.gens = #[]
  tabs : ∀ p ∈ cs, s1.heap.get? p.2 = some emptyTab
  tabK : ∀ p ∈ cs, K.lookup p.2 = none
  hds : ∀ p ∈ cs, PySem.W.CodeHd s1.heap p.1 p.2
  bmod : ∃ (bm : Addr) (ob : Obj), mg "__builtins__" = some (.ref bm) ∧ bm ≠ builtinsNs ∧ s1.heap.get? bm = some ob ∧ ob.cls = .type "module" ∧ ob.dict = some builtinsNs ∧ ob.data = .plain
/-- the abstract heap at the entry: the script and the tables alone -/
structure Entry (P : Program) (w : World) (K : PySem.W.Frag) (cs : List (Addr × Addr)) (s1 : Shared) (a : Addr) (H : Hp) : Prop where
  tbl : ∀ p ∈ cs, H p.2 = some (.tbl #[])
  form : ∀ b, H b = none ∨ b ∈ cs.map (·.2) ∨ ∃ o xs, H b = some (.frz o (.lst xs))
  held : HOk P w H s1.heap
  only : ∀ b, H b ≠ none → b = a ∨ b ∈ cs.map (·.2)
  noK : H a ≠ none → K.lookup a = none
theorem AtTop.tabAt (T : AtTop K mg mb cs s1) {b : Addr} (hb : b ∈ cs.map (·.2)) : s1.heap.get? b = some emptyTab := by
  obtain ⟨p, hp, rfl⟩ := List.mem_map.mp hb
  exact T.tabs p hp
/-- what is neither a sequence nor an empty table is not tracked -/
theorem Entry.free {H : Hp} (En : Entry P w K cs s1 a H) (T : AtTop K mg mb cs s1) (ha : s1.heap.get? a = some (scriptObj vs)) {b : Addr} {o : Obj} (e : s1.heap.get? b = some o)
    (n1 : ∀ us n, o.data ≠ .seq us n) (n2 : o.data ≠ .fields #[]) : H b = none := by
  cases q : H b with
  | none => rfl
  | some u =>
    rcases En.only b (by rw [q]; simp) with z | z
    · subst z
      rw [ha] at e
      exact (n1 _ _ (congrArg Obj.data (Option.some.inj e)).symm).elim
    · rw [T.tabAt z] at e
      exact (n2 (congrArg Obj.data (Option.some.inj e)).symm).elim
theorem Entry.run {H : Hp} (En : Entry P w K cs s1 a H) (T : AtTop K mg mb cs s1) (ha : s1.heap.get? a = some (scriptObj vs)) (room : Room k callerA)
    (F : ∀ base : Heap, K.In base → base.Ns mainGlobals mg → (∀ p ∈ cs, LamX.TabB base mg p.1 p.2) → FnG P w K mg base CX k fa fd [x] sp) (bnd : ∀ (s : Shared) (u : Value), BindsTo s fd ⟨[u], []⟩ [(x, u)])
    (want : sp [.ref a] H (fun v _ => v = .bl true) fun _ _ _ => False) (noX : ∀ H e s', CX [] H s1 (fun _ _ _ => False) e s' → False) :
    codeAny (model P w) callerA (.call (.ref fa) ⟨[.ref a], []⟩) (LawEnd s1) s1 := by
  have seen : ∀ {b : Addr} {o : Obj}, s1.heap.get? b = some o → H b = none → (hidT s1.heap H).get? b = some o := fun e n => hidT_get e n
  have nsK : ∀ {b : Addr} {m : Str → Option Value}, s1.heap.Ns b m → (hidT s1.heap H).Ns b m := by
    rintro b m ⟨o, es, ep, e, d, r⟩
    exact ⟨o, es, ep, seen e (En.free T ha e (fun _ _ z => by rw [d] at z; cases z) fun z => by rw [d] at z; cases z), d, r⟩
  have kb : K.In (hidT s1.heap H) := by
    intro b o e
    refine seen (T.kin b o e) ?_
    cases q : H b with
    | none => rfl
    | some u =>
      rcases En.only b (by rw [q]; simp) with z | z
      · subst z
        rw [En.noK (by rw [q]; simp)] at e
        cases e
      · obtain ⟨p, hp, rfl⟩ := List.mem_map.mp z
        rw [T.tabK p hp] at e
        cases e
  have md : L2.Mod K mg (hidT s1.heap H) := ⟨kb, nsK T.glob, ⟨mb, nsK T.blt, T.blts⟩, let ⟨mc, h1, h2⟩ := T.lim; ⟨mc, nsK h1, h2⟩⟩
  have tb : ∀ p ∈ cs, LamX.TabB (hidT s1.heap H) mg p.1 p.2 := by
    intro p hp
    have tp := T.tabs p hp
    refine ⟨?_, ?_, fun z => ?_⟩
    · obtain ⟨o, us, file, tf, flags, tg, inF, text, tt, e1, r1, r2, r3, more⟩ := T.hds p hp
      refine ⟨o, us, file, tf, flags, tg, inF, text, tt, seen e1 (En.free T ha e1 (fun _ _ z => ?_) fun z => ?_), r1, r2, r3, more⟩
      · rw [r2] at z
        cases z
      · rw [r2] at z
        cases z
        simp at r3
    · obtain ⟨bm, ob, b1, b2, b3, b4, b5, b6⟩ := T.bmod
      refine ⟨bm, ob, b1, b2, fun q => ?_, fun q => ?_, seen b3 (En.free T ha b3 (fun _ _ z => ?_) fun z => ?_), b4, b5, b6⟩
      · obtain ⟨o, es, ep, e, hd, _⟩ := T.glob
        rw [q, e] at b3
        cases b3
        rw [hd] at b6
        cases b6
      · rw [q, tp] at b3
        cases b3
        cases b6
      · rw [b6] at z
        cases z
      · rw [b6] at z
        cases z
    · obtain ⟨o, es, ep, e, hd, _⟩ := T.glob
      rw [z, tp] at e
      cases e
      cases hd
  have env : Env0 P w K mg (hidT s1.heap H) callerA [] s1 H :=
    ⟨rfl, md, fun _ _ e => of_hidT e, Nat.le_of_eq (hidT_size _ _), trivial, fun b hb => absurd (show b ∈ ([] : List Addr) from hb) (by simp), En.held, .of_eq T.gens⟩
  refine codeAny_mono ((F _ kb (nsK T.glob) tb).goes callerA [] s1 H ⟨[.ref a], []⟩ [.ref a] [.ref a] _ _ room rfl env (bnd s1 (.ref a)) (.cons rfl .nil) want) ?_
  intro r s' h
  match r, h with
  | .error e, h => exact (noX H e s' h).elim
  | .ok .next, h => exact h.elim
  | .ok .brk, h => exact h.elim
  | .ok .cont, h => exact h.elim
  | .ok (.ret u), h =>
    obtain ⟨v, H', os, bare, un, held', r', q⟩ := h
    have q' : v = .bl true := q
    subst q'
    obtain rfl : u = Value.bool true := r'
    have stay : ∀ b o, b ∉ cs.map (·.2) → s1.heap.get? b = some o → s'.heap.get? b = some o := by
      intro b o nb e
      cases q : H b with
      | none => exact un.keep b o e q (fun z => absurd (show b ∈ ([] : List Addr) from z) (by simp)) (by simp)
      | some u =>
        rcases En.form b with z | z | ⟨ob, xs, z⟩
        · rw [q] at z
          cases z
        · exact absurd z nb
        · obtain ⟨e1, _⟩ := En.held b _ z
          obtain ⟨e2, _⟩ := held' b _ (un.frzs b ob _ z)
          rw [e] at e1
          cases e1
          exact e2
    have grown : ∀ p ∈ cs, ∃ more : Array Value, s'.heap.get? p.2 = some { cls := .none, data := .fields more } := by
      intro p hp
      obtain ⟨more, z⟩ := un.tbls p.2 #[] (En.tbl p hp)
      exact ⟨_, held' p.2 _ z⟩
    refine ⟨rfl, ⟨fun b o e => ?_, fun b o e => ?_⟩, os, bare⟩
    · by_cases hb : b ∈ cs.map (·.2)
      · obtain ⟨p, hp, rfl⟩ := List.mem_map.mp hb
        obtain ⟨more, hm⟩ := grown p hp
        rw [T.tabs p hp] at e
        cases e
        exact .inr (.inl ⟨((T.hds p hp).tab (T.tabs p hp)).isCodeTable, rfl, #[], more, rfl, by rw [Array.empty_append]; exact hm⟩)
      · exact .inl (stay b o hb e)
    · by_cases hb : b ∈ cs.map (·.2)
      · obtain ⟨p, hp, rfl⟩ := List.mem_map.mp hb
        obtain ⟨more, hm⟩ := grown p hp
        exact ⟨_, hm⟩
      · exact ⟨o, stay b o hb e⟩
theorem law_goes (T : AtTop K mg mb cs s1) (ha : s1.heap.get? a = some (scriptObj vs)) (hi : IntsAre vs ns) (hl : ns.length ≤ sizeLine) (room : Room k callerA)
    (F : ∀ base : Heap, K.In base → base.Ns mainGlobals mg → (∀ p ∈ cs, LamX.TabB base mg p.1 p.2) → FnG P w K mg base CX k fa fd [x] sp) (bnd : ∀ (s : Shared) (u : Value), BindsTo s fd ⟨[u], []⟩ [(x, u)])
    (want : ∀ H : Hp, (∀ p ∈ cs, H p.2 = some (.tbl #[])) → SqL K H a (ns.map V.int) → sp [.ref a] H (fun v _ => v = .bl true) fun _ _ _ => False) (noX : ∀ H e s', CX [] H s1 (fun _ _ _ => False) e s' → False) :
    codeAny (model P w) callerA (.call (.ref fa) ⟨[.ref a], []⟩) (LawEnd s1) s1 := by
  have rv := vals_ints hi
  have lenV := hi.length
  have aT : a ∉ cs.map (·.2) := fun z => by
    have q := T.tabAt z
    rw [ha] at q
    have z' : Data.seq vs.toArray _ = Data.fields #[] := congrArg Obj.data (Option.some.inj q)
    cases z'
  cases hk : K.lookup a with
  | some o =>
    have e := T.kin a o hk
    rw [ha] at e
    cases e
    let H : Hp := fun b => if b ∈ cs.map (·.2) then some (.tbl #[]) else none
    have En : Entry P w K cs s1 a H := by
      refine ⟨fun p hp => if_pos (List.mem_map.mpr ⟨p, hp, rfl⟩), fun b => ?_, fun b u z => ?_, fun b z => ?_, fun z => absurd (show H a = none from if_neg aT) z⟩
      · by_cases hb : b ∈ cs.map (·.2)
        · exact .inr (.inl hb)
        · exact .inl (if_neg hb)
      · by_cases hb : b ∈ cs.map (·.2)
        · cases (if_pos hb).symm.trans z
          exact T.tabAt hb
        · cases (if_neg hb).symm.trans z
      · by_cases hb : b ∈ cs.map (·.2)
        · exact .inr hb
        · exact absurd (if_neg hb) z
    exact En.run T ha room F bnd (want H En.tbl (.inr ⟨_, vs.toArray, _, hk, rfl, rfl, rfl, by rw [List.size_toArray, lenV]; exact hl, by simpa using rv⟩)) noX
  | none =>
    let H : Hp := fun b => if b = a then some (.frz (scriptObj vs) (.lst (ns.map V.int))) else if b ∈ cs.map (·.2) then some (.tbl #[]) else none
    have En : Entry P w K cs s1 a H := by
      refine ⟨fun p hp => ?_, fun b => ?_, fun b u z => ?_, fun b z => ?_, fun _ => hk⟩
      · have m : p.2 ∈ cs.map (·.2) := List.mem_map.mpr ⟨p, hp, rfl⟩
        exact (if_neg (show ¬ p.2 = a from fun z => aT (z ▸ m))).trans (if_pos m)
      · by_cases hb : b = a
        · exact .inr (.inr ⟨_, _, if_pos hb⟩)
        · by_cases hb2 : b ∈ cs.map (·.2)
          · exact .inr (.inl hb2)
          · exact .inl ((if_neg hb).trans (if_neg hb2))
      · by_cases hb : b = a
        · cases (if_pos hb).symm.trans z
          rw [hb]
          exact ⟨ha, by rw [List.length_map]; exact hl, vs, _, rv, ha⟩
        · have z1 := (if_neg hb).symm.trans z
          by_cases hb2 : b ∈ cs.map (·.2)
          · cases (if_pos hb2).symm.trans z1
            exact T.tabAt hb2
          · cases (if_neg hb2).symm.trans z1
      · by_cases hb : b = a
        · exact .inl hb
        · by_cases hb2 : b ∈ cs.map (·.2)
          · exact .inr hb2
          · exact absurd ((if_neg hb).trans (if_neg hb2)) z
    exact En.run T ha room F bnd (want H En.tbl (.inl (.inr ⟨scriptObj vs, if_pos rfl⟩))) noX
end
/-- the promise of the law's def, at the head's heap h -/
def LawIs (l : PySem.W.OpenLaw) (w : World) (K : PySem.W.Frag) (CX : CXT) (k n : Nat) (x : Str) (mg : Str → Option Value) (fa : Addr) (h : Heap) : Prop :=
  ∃ (fd : FuncData) (cs : List (Addr × Addr)) (sp : Sp), (∀ p ∈ cs, h.get? p.2 = some emptyTab) ∧ (∀ p ∈ cs, K.lookup p.2 = none) ∧ (∀ p ∈ cs, PySem.W.CodeHd h p.1 p.2) ∧
    (∀ (s : Shared) (u : Value), BindsTo s fd ⟨[u], []⟩ [(x, u)]) ∧
    (∀ (H : Hp) (a : Addr) (ns : List Int), ns.length ≤ n → (∀ p ∈ cs, H p.2 = some (.tbl #[])) → SqL K H a (ns.map V.int) → sp [.ref a] H (fun v _ => v = .bl true) fun _ _ _ => False) ∧
    ∀ base : Heap, K.In base → base.Ns mainGlobals mg → (∀ p ∈ cs, LamX.TabB base mg p.1 p.2) → FnG l.prog w K mg base CX k fa fd [x] sp
theorem walk_G {l : PySem.W.OpenLaw} {n k : Nat} {q : Program} {loose : List Str} {XP : (Str → Option Value) → Heap → Prop} {YP : World → Heap → Prop} {d : DefRec} {CX : CXT} {x : Str}
    (hn : l.most = some n) (hn2 : n ≤ sizeLine) (hdf : d.params.defaults = []) (room : Room k callerA)
    (F : ∀ (w : World) (mg : Str → Option Value) (fa : Addr) (h : Heap), YP w h → h.Ns mainGlobals mg → mg d.name = some (.ref fa) → ∃ K : PySem.W.Frag, K.In h ∧ LawIs l w K CX k n x mg fa h)
    (noX : ∀ (H : Hp) (s : Shared) (e : Value) (s' : Shared), CX [] H s (fun _ _ _ => False) e s' → False) :
    PySem.W.WalkO q loose XP YP l.row.toRowW d [] (fun f vs => PySem.call f vs) := by
  refine Att.attach_call hn hdf ?_
  intro w s0 s1 mg mb fa o pm cd doc a vs ns G Yh ho hd hcd hmg hobj hints hlen hgens
  obtain ⟨K, inK, fd, cs, sp, h1, h2, h3, hb, hsp, hF⟩ := F w mg fa _ Yh G.T.g hmg
  exact law_goes ⟨inK, G.T.g, G.T.b, G.T.builtins, G.T.nolimit, hgens, h1, h2, h3, G.T.bmain⟩ hobj hints (Nat.le_trans hlen hn2) room hF hb (fun H hT hS => hsp H a ns hlen hT hS) fun H => noX H s1
end Y

set_option Elab.async false
set_option linter.all false
set_option maxRecDepth 100000
set_option maxHeartbeats 2000000
/-! Y1: readings that compute: where the values are known by their form, the reading goes on by itself. -/
namespace Y
open PySem PySem.Spec PyProof.Rows L2

section
variable {X : Cx}
theorem PE.imp {e : Expr} {t t' : TE} (h : PE X e t) (f : ∀ σ H Q, t' σ H Q → t σ H Q) : PE X e t' := ⟨fun pins s σ H Q I h' => h.run pins s σ H Q I (f σ H Q h')⟩
theorem PT.imp {e : Expr} {t t' : TT} (h : PT X e t) (f : ∀ σ H Q, t' σ H Q → t σ H Q) : PT X e t' := ⟨fun pins s σ H Q I h' => h.run pins s σ H Q I (f σ H Q h')⟩
theorem PS.imp {st : Stmt} {t t' : TS} (h : PS X st t) (f : ∀ D σ H, t' D σ H → t D σ H) : PS X st t' := ⟨fun pins s σ H D I h' => h.run pins s σ H D I (f D σ H h')⟩
theorem PG.imp {e : Expr} {t t' : TG} (h : PG X e t) (f : ∀ v σ H Q, t' v σ H Q → t v σ H Q) : PG X e t' := ⟨fun pins s σ H v u Q I r h' => h.run pins s σ H v u Q I r (f v σ H Q h')⟩
theorem PGs.imp {es : List Expr} {t t' : TGs} (h : PGs X es t) (f : ∀ v σ H Q, t' v σ H Q → t v σ H Q) : PGs X es t' := ⟨fun pins s σ H v u Q I r h' => h.run pins s σ H v u Q I r (f v σ H Q h')⟩
theorem PI.imp {tg e : Expr} {t t' : TI} (h : PI X tg e t) (f : ∀ σ H R, t' σ H R → t σ H R) : PI X tg e t' := ⟨fun pins s σ H R I h' => h.run pins s σ H R I (f σ H R h')⟩
theorem OpR.imp {g : Value → Value → Sem Value} {r r' : R2} (h : OpR X g r) (f : ∀ x y H Q, r' x y H Q → r x y H Q) : OpR X g r' := fun pins s σ H x y v u Q I rx ry h' => h pins s σ H x y v u Q I rx ry (f _ _ _ _ h')
theorem CallR.imp {g : Value} {r r' : List V → Hp → VK → Prop} (h : CallR X g r) (f : ∀ xs H Q, r' xs H Q → r xs H Q) : CallR X g r' := fun pins s σ H xs us Q I rx h' => h pins s σ H xs us Q I rx (f _ _ _ h')
theorem MtR.imp {id : String} {r r' : V → List V → Hp → VK → Prop} (h : MtR X id r) (f : ∀ x xs H Q, r' x xs H Q → r x xs H Q) : MtR X id r' := fun pins s σ H x xs v us Q I r1 r2 h' => h pins s σ H x xs v us Q I r1 r2 (f _ _ _ _ h')
theorem IxR.imp {r r' : R2} (h : IxR X r) (f : ∀ x y H Q, r' x y H Q → r x y H Q) : IxR X r' := fun a b pins s σ H x y v u Q I r1 r2 h' z => h a b pins s σ H x y v u Q I r1 r2 (f _ _ _ _ h') z
theorem PSet.imp {r r' : TSet} (h : PSet X r) (f : ∀ o i v H Q, r' o i v H Q → r o i v H Q) : PSet X r' := fun pins s σ H o i v a b c Q I r1 r2 r3 h' => h pins s σ H o i v a b c Q I r1 r2 r3 (f _ _ _ _ _ h')

/-! ### names -/
def yVar (i : Nat) : TE := fun σ H Q => match σ[i]? with
  | some (some v) => Q v H
  | _ => False
theorem yv (i : Nat) {x : Str} {pos : Pos} (hN : X.N[i]? = some x := by rfl) (hv : Vis X.env.scope x := by first | exact Or.inl rfl | exact Or.inr (Or.inl rfl) | exact Or.inr (Or.inr rfl)) (hd : (x == ("__debug__" : Str)) = false := by decide)
    (hcd : (x == ("__classdict__" : Str)) = false := by decide) : PE X (.Name x pos) (yVar i) :=
  PE.imp (pe_var hN hv hd hcd) fun σ H Q h => by
    unfold yVar at h
    unfold tVar
    split at h
    · rename_i v e
      exact ⟨v, e, h⟩
    · exact h.elim

/-! ### operators -/
def yAdd (K : PySem.W.Frag) : R2 := fun x y H Q => match x, y with
  | .int i, .int j => Q (.int (i + j)) H
  | .str a, .str b => a.length + b.length ≤ sizeLine ∧ Q (.str (a ++ b)) H
  | .ref a, .ref b => rCat (.ref a) (.ref b) H Q ∨ rCatA K (.ref a) (.ref b) H Q
  | _, _ => False
theorem oAdd : OpR X (binaryOp .Add) (yAdd X.K) := by
  intro pins s σ H x y v u Q I rx ry h
  unfold yAdd at h
  split at h
  · exact op_add pins s σ H _ _ v u Q I rx ry ⟨_, _, rfl, rfl, h⟩
  · exact op_add_str pins s σ H _ _ v u Q I rx ry ⟨_, _, rfl, rfl, h⟩
  · rcases h with h | h
    · exact op_cat pins s σ H _ _ v u Q I rx ry h
    · exact op_catA pins s σ H _ _ v u Q I rx ry h
  · exact h.elim
def ySub : R2 := fun x y H Q => match x, y with
  | .int i, .int j => Q (.int (i - j)) H
  | _, _ => False
theorem oSub : OpR X (binaryOp .Sub) ySub := by
  intro pins s σ H x y v u Q I rx ry h
  unfold ySub at h
  split at h
  · exact op_sub pins s σ H _ _ v u Q I rx ry ⟨_, _, rfl, rfl, h⟩
  · exact h.elim
/-- below 2 ^ 4000 in size -/
abbrev Mid (i : Int) : Prop := i.natAbs < 2 ^ 4000
def yMul : R2 := fun x y H Q => match x, y with
  | .int i, .int j => Mid i ∧ Mid j ∧ Q (.int (i * j)) H
  | .ref l, .int k => rRep (.ref l) (.int k) H Q
  | _, _ => False
theorem oMul : OpR X (binaryOp .Mult) yMul := by
  intro pins s σ H x y v u Q I rx ry h
  unfold yMul at h
  split at h
  · exact op_mulX pins s σ H _ _ v u Q I rx ry ⟨_, _, rfl, rfl, mulx_ok h.1 h.2.1 (by decide), h.2.2⟩
  · exact op_rep pins s σ H _ _ v u Q I rx ry h
  · exact h.elim
def yMod : R2 := fun x y H Q => match x, y with
  | .int i, .int j => 0 < j ∧ Q (.int (i % j)) H
  | _, _ => False
theorem oMod : OpR X (binaryOp .Mod) yMod := by
  intro pins s σ H x y v u Q I rx ry h
  unfold yMod at h
  split at h
  · exact op_mod pins s σ H _ _ v u Q I rx ry ⟨_, _, rfl, rfl, h⟩
  · exact h.elim
def yFdv : R2 := fun x y H Q => match x, y with
  | .int i, .int j => 0 < j ∧ j < 10 ^ 70 ∧ Q (.int (i / j)) H
  | _, _ => False
theorem small_div {j : Int} (h : 0 < j) (h2 : j < 10 ^ 70) : j.natAbs < 2 ^ 240 := by
  have e : (10 : Int) ^ 70 < 2 ^ 240 := by decide
  have e2 : ((2 : Nat) ^ 240 : Nat) = (2 : Int) ^ 240 := by norm_cast
  omega
theorem oFdv : OpR X (binaryOp .FloorDiv) yFdv := by
  intro pins s σ H x y v u Q I rx ry h
  unfold yFdv at h
  split at h
  · exact op_fdivW pins s σ H _ _ v u Q I rx ry ⟨_, _, rfl, rfl, wide_div h.1 (small_div h.1 h.2.1) (by decide) (by decide), h.2.2⟩
  · exact h.elim
def yPow : R2 := fun x y H Q => match x, y with
  | .int i, .int j => (0 ≤ j ∧ j ≤ 1000 ∧ i.natAbs < 2 ^ 64) ∧ Q (.int (i ^ j.toNat)) H
  | _, _ => False
theorem oPow : OpR X (binaryOp .Pow) yPow := by
  intro pins s σ H x y v u Q I rx ry h
  unfold yPow at h
  split at h
  · exact op_pow pins s σ H _ _ v u Q I rx ry ⟨_, _, rfl, rfl, ⟨h.1.1, by have := h.1.2.1; omega, h.1.2.2⟩, h.2⟩
  · exact h.elim
def yNeg : V → Hp → VK → Prop := fun x H Q => match x with
  | .int i => Q (.int (-i)) H
  | _ => False
theorem oNeg : UnR X (unaryOp .USub) yNeg := by
  intro pins s σ H x v Q I rx h
  unfold yNeg at h
  split at h
  · exact un_neg pins s σ H _ v Q I rx ⟨_, rfl, h⟩
  · exact h.elim
def yCmpI (p : Int → Int → Bool) : R2 := fun x y H Q => match x, y with
  | .int i, .int j => Q (.bl (p i j)) H
  | _, _ => False
theorem cmpI {op : CmpOp} {p : Int → Int → Bool} (h : OpR X (compareOp op) (rI0 fun i j => .bl (p i j))) : OpR X (compareOp op) (yCmpI p) :=
  OpR.imp h fun x y H Q h => by
    unfold yCmpI at h
    split at h
    · exact ⟨_, _, rfl, rfl, h⟩
    · exact h.elim
theorem oLt : OpR X (compareOp .Lt) (yCmpI fun i j => decide (i < j)) := cmpI op_lt
theorem oLe : OpR X (compareOp .LtE) (yCmpI fun i j => decide (i ≤ j)) := cmpI op_le
theorem oGt : OpR X (compareOp .Gt) (yCmpI fun i j => decide (j < i)) := cmpI op_gt
theorem oGe : OpR X (compareOp .GtE) (yCmpI fun i j => decide (j ≤ i)) := cmpI op_ge
/-- ==: scalars at once, other things as data -/
def yEq (K : PySem.W.Frag) : R2 := fun x y H Q => match x, y with
  | .int i, .int j => Q (.bl (decide (i = j))) H
  | .str a, .str b => Q (.bl (decide (a = b))) H
  | .bl a, .bl b => Q (.bl (decide (a = b))) H
  | .non, .non => Q (.bl true) H
  | .non, .int _ => Q (.bl false) H
  | .int _, .non => Q (.bl false) H
  | .non, .str _ => Q (.bl false) H
  | .str _, .non => Q (.bl false) H
  | x, y => rEqD K x y H Q
def yNe (K : PySem.W.Frag) : R2 := fun x y H Q => match x, y with
  | .int i, .int j => Q (.bl (!decide (i = j))) H
  | .str a, .str b => Q (.bl (!decide (a = b))) H
  | .bl a, .bl b => Q (.bl (!decide (a = b))) H
  | .non, .non => Q (.bl false) H
  | .non, .int _ => Q (.bl true) H
  | .int _, .non => Q (.bl true) H
  | .non, .str _ => Q (.bl true) H
  | .str _, .non => Q (.bl true) H
  | x, y => rNeD K x y H Q
theorem dec_int {i j : Int} : decide (V.int i = V.int j) = decide (i = j) := by simp
theorem dec_str {i j : Str} : decide (V.str i = V.str j) = decide (i = j) := by simp
theorem dec_bl {i j : Bool} : decide (V.bl i = V.bl j) = decide (i = j) := by simp
theorem oEq (hu : X.A.units + 64 < cLine) : OpR X (compareOp .Eq) (yEq X.K) := by
  intro pins s σ H x y v u Q I rx ry h
  unfold yEq at h
  split at h
  · exact op_eq pins s σ H _ _ v u Q I rx ry ⟨rfl, by rw [dec_int]; exact h⟩
  · exact op_eq pins s σ H _ _ v u Q I rx ry ⟨rfl, by rw [dec_str]; exact h⟩
  · exact op_eq pins s σ H _ _ v u Q I rx ry ⟨rfl, by rw [dec_bl]; exact h⟩
  · exact op_eq pins s σ H _ _ v u Q I rx ry ⟨rfl, h⟩
  · exact op_eq pins s σ H _ _ v u Q I rx ry ⟨rfl, h⟩
  · exact op_eq pins s σ H _ _ v u Q I rx ry ⟨rfl, h⟩
  · exact op_eq pins s σ H _ _ v u Q I rx ry ⟨rfl, h⟩
  · exact op_eq pins s σ H _ _ v u Q I rx ry ⟨rfl, h⟩
  · exact op_eqD hu pins s σ H _ _ v u Q I rx ry h
theorem oNe (hu : X.A.units + 64 < cLine) : OpR X (compareOp .NotEq) (yNe X.K) := by
  intro pins s σ H x y v u Q I rx ry h
  unfold yNe at h
  split at h
  · exact op_ne pins s σ H _ _ v u Q I rx ry ⟨rfl, by rw [dec_int]; exact h⟩
  · exact op_ne pins s σ H _ _ v u Q I rx ry ⟨rfl, by rw [dec_str]; exact h⟩
  · exact op_ne pins s σ H _ _ v u Q I rx ry ⟨rfl, by rw [dec_bl]; exact h⟩
  · exact op_ne pins s σ H _ _ v u Q I rx ry ⟨rfl, h⟩
  · exact op_ne pins s σ H _ _ v u Q I rx ry ⟨rfl, h⟩
  · exact op_ne pins s σ H _ _ v u Q I rx ry ⟨rfl, h⟩
  · exact op_ne pins s σ H _ _ v u Q I rx ry ⟨rfl, h⟩
  · exact op_ne pins s σ H _ _ v u Q I rx ry ⟨rfl, h⟩
  · exact op_neD hu pins s σ H _ _ v u Q I rx ry h
def yIsN : R2 := fun x y H Q => match y with
  | .non => Q (.bl (decide (x = .non))) H
  | _ => False
def yNotN : R2 := fun x y H Q => match y with
  | .non => Q (.bl (!decide (x = .non))) H
  | _ => False
theorem oIs : OpR X (compareOp .Is) yIsN := OpR.imp op_isN fun x y H Q h => by
  unfold yIsN at h
  split at h
  · exact ⟨rfl, h⟩
  · exact h.elim
theorem oIsNot : OpR X (compareOp .IsNot) yNotN := OpR.imp op_notN fun x y H Q h => by
  unfold yNotN at h
  split at h
  · exact ⟨rfl, h⟩
  · exact h.elim
/-- in, not in: a sign in a text; a flat thing in a list or a tuple -/
def yIn (K : PySem.W.Frag) (neg : Bool) : R2 := fun x y H Q => match x, y with
  | .str a, .str z => ∃ c : Nat, a = ⟨#[c]⟩ ∧ Q (.bl (if neg then !decide (c ∈ z.cps.toList) else decide (c ∈ z.cps.toList))) H
  | x, .ref p => rIn K neg x (.ref p) H Q
  | _, _ => False
theorem oIn : OpR X (compareOp .In) (yIn X.K false) := by
  intro pins s σ H x y v u Q I rx ry h
  unfold yIn at h
  split at h
  · obtain ⟨c, rfl, h⟩ := h
    exact op_in_sign pins s σ H _ _ v u Q I rx ry ⟨_, _, rfl, rfl, h⟩
  · exact op_in_seq pins s σ H _ _ v u Q I rx ry h
  · exact h.elim
theorem oNotIn : OpR X (compareOp .NotIn) (yIn X.K true) := by
  intro pins s σ H x y v u Q I rx ry h
  unfold yIn at h
  split at h
  · obtain ⟨c, rfl, h⟩ := h
    exact op_notIn_sign pins s σ H _ _ v u Q I rx ry ⟨_, _, rfl, rfl, h⟩
  · exact op_notIn_seq pins s σ H _ _ v u Q I rx ry h
  · exact h.elim

/-! ### tests -/
def yTest (t : TE) : TT := fun σ H Q => t σ H fun x H' => match x with
  | .bl k => Q k H'
  | _ => False
variable {a b c e : Expr} {ta tb tc te : TE} {pos : Pos}
/-- PE is used with weaker ends: the reading's wish may be weakened where it is a test's -/
theorem yt_cmp {op : CmpOp} {r : R2} (ho : OpR X (compareOp op) r) (ha : PE X a ta) (hb : PE X b tb) (hm : behindInMarks op b = false) : PT X (.Compare a [op] [b] pos) (yTest (tOp r ta tb)) := by
  refine ⟨fun pins s σ H Q I h => ?_⟩
  have h2 : PE X (.Compare a [op] [b] pos) (tOp r ta tb) := pe_cmpR ho ha hb hm
  refine wpAny_isTrue_Compare1 (binT ha hb I h fun v u s2 x y H2 I2 rx ry q => thn (ho pins s2 σ H2 x y v u _ I2 rx ry q) fun c s3 ⟨x3, H3, I3, r3, q3⟩ => ?_) hm
  cases x3 with
  | bl k =>
    cases r3
    exact wpAny_truthy_bool ⟨H3, I3, q3⟩
  | _ => exact q3.elim
theorem yt_val {t : TE} (h : PE X e t) (he : ∀ whole, isTrue e X.env whole = (do let v ← whole; standAt e.pos; holding [v] (truthy v)) := by intro _; rfl) : PT X e (yTest t) := by
  refine ⟨fun pins s σ H Q I hw => ?_⟩
  refine isTrue_plain (thn (h.run pins s σ H _ I hw) fun v s1 ⟨x, H1, I1, r1, q1⟩ => ?_) (he _)
  cases x with
  | bl k =>
    cases r1
    exact wpAny_truthy_bool ⟨H1, I1, q1⟩
  | _ => exact q1.elim

/-! ### and, or, not as values -/
def yAndV (ta tb : TE) : TE := fun σ H Q => ta σ H fun x H1 => match x with
  | .bl c => if c = true then tb σ H1 Q else Q (.bl false) H1
  | _ => False
def yOrV (ta tb : TE) : TE := fun σ H Q => ta σ H fun x H1 => match x with
  | .bl c => if c = true then Q (.bl true) H1 else tb σ H1 Q
  | _ => False
def yNotV (ta : TE) : TE := fun σ H Q => ta σ H fun x H1 => match x with
  | .bl c => Q (.bl (!c)) H1
  | _ => False
variable {rest : List Expr}
theorem ye_and (ha : PE X a ta) (hb : PE X (.BoolOp .And (b :: rest) pos) tb) : PE X (.BoolOp .And (a :: b :: rest) pos) (yAndV ta tb) := by
  refine ⟨fun pins s σ H Q I h => ?_⟩
  refine BoolOp_and (thn (ha.run pins s σ H _ I h) fun v s1 ⟨x, H1, I1, r1, q1⟩ => ?_)
  cases x with
  | bl c =>
    cases r1
    refine wpAny_truthy_bool ?_
    cases c with
    | true => exact hb.run pins s1 σ H1 Q I1 q1
    | false => exact ⟨.bl false, H1, I1, rfl, q1⟩
  | _ => exact q1.elim
theorem ye_or (ha : PE X a ta) (hb : PE X (.BoolOp .Or (b :: rest) pos) tb) : PE X (.BoolOp .Or (a :: b :: rest) pos) (yOrV ta tb) := by
  refine ⟨fun pins s σ H Q I h => ?_⟩
  refine BoolOp_or (thn (ha.run pins s σ H _ I h) fun v s1 ⟨x, H1, I1, r1, q1⟩ => ?_)
  cases x with
  | bl c =>
    cases r1
    refine wpAny_truthy_bool ?_
    cases c with
    | false => exact hb.run pins s1 σ H1 Q I1 q1
    | true => exact ⟨.bl true, H1, I1, rfl, q1⟩
  | _ => exact q1.elim
theorem ye_not (ha : PE X a ta) : PE X (.UnaryOp .Not a pos) (yNotV ta) := by
  refine ⟨fun pins s σ H Q I h => ?_⟩
  refine UnaryOp_ (thn (ha.run pins s σ H _ I h) fun v s1 ⟨x, H1, I1, r1, q1⟩ => ?_)
  cases x with
  | bl c =>
    cases r1
    exact not_of (wpAny_truthy_bool ⟨.bl (!c), H1, I1, rfl, q1⟩)
  | _ => exact q1.elim

/-! ### displays -/
def yTup (t : TA) : TE := fun σ H Q => t σ H fun xs H1 => match Nat.ble xs.length 1000 with
  | true => ∀ p, H1 p = none → Q (.ref p) (upd H1 p (.tup xs))
  | false => False
def yLst (t : TA) : TE := fun σ H Q => t σ H fun xs H1 => match Nat.ble xs.length 1000 with
  | true => ∀ p, H1 p = none → Q (.ref p) (upd H1 p (.lst xs))
  | false => False
theorem le_line {n : Nat} (h : Nat.ble n 1000 = true) : n ≤ sizeLine := Nat.le_trans (Nat.le_of_ble_eq_true h) (by decide)
variable {es : List Expr} {t : TA}
theorem ye_tup {x1} (h : PA X es t) : PE X (.Tuple es x1 pos) (yTup t) := by
  refine ⟨fun pins s σ H Q I hq => ?_⟩
  refine wpAny_Tuple_spliced (thn (h.run pos pins s σ H _ I hq) fun us s1 ⟨xs, H1, I1, r, z⟩ => ?_)
  cases hb : Nat.ble xs.length 1000 with
  | false =>
    simp only [hb] at z
  | true =>
    simp only [hb] at z
    have z1 := le_line hb
    have hf : H1 s1.heap.objs.size = none := I1.hok.fresh (Nat.le_refl _)
    refine ⟨by rw [← r.length]; exact z1, .ref s1.heap.objs.size, upd H1 s1.heap.objs.size (.tup xs), I1.laid (t' := s1.toks) (fun b u e => Heap.get?_push_of_some _ e) (Nat.le_refl _) ?_, rfl, z _ hf⟩
    exact ⟨z1, us, r, ⟨_, Heap.get?_push_size _ rfl, rfl, _, rfl⟩⟩
theorem ye_lst (h : PA X es t) : PE X (.List es pos) (yLst t) := by
  refine ⟨fun pins s σ H Q I hq => ?_⟩
  refine wpAny_List_spliced (thn (h.run pos pins s σ H _ I hq) fun us s1 ⟨xs, H1, I1, r, z⟩ => ?_)
  cases hb : Nat.ble xs.length 1000 with
  | false =>
    simp only [hb] at z
  | true =>
    simp only [hb] at z
    have z1 := le_line hb
    have hf : H1 s1.heap.objs.size = none := I1.hok.fresh (Nat.le_refl _)
    refine ⟨by rw [← r.length]; exact z1, .ref s1.heap.objs.size, upd H1 s1.heap.objs.size (.lst xs), I1.laid (t' := s1.toks) (fun b u e => Heap.get?_push_of_some _ e) (Nat.le_refl _) ?_, rfl, z _ hf⟩
    exact ⟨z1, us, 0, r, Heap.get?_push_size _ rfl⟩

/-! ### items, slices -/
def yIx (K : PySem.W.Frag) : R2 := fun x y H Q => match x, y with
  | .str z, .int i => z.length ≤ sizeLine ∧ ∃ c, atI z.cps.toList i = some c ∧ Q (.str ⟨#[c]⟩) H
  | .ref p, .int i => ∃ xs v, (SqL K H p xs ∨ SqT K H p xs) ∧ atI xs i = some v ∧ Q v H
  | _, _ => False
theorem oIx : IxR X (yIx X.K) := IxR.imp ix_seq fun x y H Q h => by
  unfold yIx at h
  split at h
  · obtain ⟨h1, c, h2, h3⟩ := h
    exact .inr (.inr ⟨_, _, c, rfl, rfl, h1, h2, h3⟩)
  · obtain ⟨xs, v, h1, h2, h3⟩ := h
    rcases h1 with h1 | h1
    · exact .inl ⟨_, xs, _, v, rfl, rfl, h1, h2, h3⟩
    · exact .inr (.inl ⟨_, xs, _, v, rfl, rfl, h1, h2, h3⟩)
  · exact h.elim
theorem ye_ix (ha : PE X a ta) (hb : PE X b tb) (hs : PlainIx b := by exact fun _ _ => rfl) : PE X (.Subscript a b pos) (tOp (yIx X.K) ta tb) := pe_ix oIx ha hb hs
def ySetI : TSet := fun o i v H Q => match o, i with
  | .ref p, .int k => ∃ xs j, H p = some (.lst xs) ∧ ixN xs.length k = some j ∧ Q (upd H p (.lst (xs.set j v)))
  | _, _ => False
theorem oSetI : PSet X ySetI := PSet.imp set_list fun o i v H Q h => by
  unfold ySetI at h
  split at h
  · obtain ⟨xs, j, h1, h2, h3⟩ := h
    exact ⟨_, xs, _, j, rfl, rfl, h1, h2, h3⟩
  · exact h.elim

/-! ### built-ins -/
def yLen (K : PySem.W.Frag) : List V → Hp → VK → Prop := fun xs H Q => match xs with
  | [.str z] => z.length ≤ sizeLine ∧ Q (.int z.length) H
  | [.ref p] => ∃ ys, (SqL K H p ys ∨ SqT K H p ys) ∧ Q (.int ys.length) H
  | _ => False
theorem cLen : CallR X (.builtin "len") (yLen X.K) := by
  intro pins s σ H xs us Q I r h
  unfold yLen at h
  split at h
  · exact call_len_str pins s σ H _ us Q I r ⟨_, rfl, h⟩
  · obtain ⟨ys, h1, h2⟩ := h
    exact call_len_seq pins s σ H _ us Q I r ⟨_, ys, rfl, h1, h2⟩
  · exact h.elim
def yAbs : List V → Hp → VK → Prop := fun xs H Q => match xs with
  | [.int i] => Q (.int (i.natAbs : Int)) H
  | _ => False
theorem cAbs : CallR X (.builtin "abs") yAbs := CallR.imp call_abs fun xs H Q h => by
  unfold yAbs at h
  split at h
  · rename_i i
    refine ⟨i, rfl, ?_⟩
    have e : (if i < 0 then -i else i) = (i.natAbs : Int) := by split <;> omega
    rw [e]
    exact h
  · exact h.elim
def yMax2 : List V → Hp → VK → Prop := fun xs H Q => match xs with
  | [.int i, .int j] => Q (.int (max i j)) H
  | _ => False
def yMin2 : List V → Hp → VK → Prop := fun xs H Q => match xs with
  | [.int i, .int j] => Q (.int (min i j)) H
  | _ => False
theorem cMax2 (hc : X.calm = true) : CallR X (.builtin "max") yMax2 := CallR.imp (call_max2 hc) fun xs H Q h => by
  unfold yMax2 at h
  split at h
  · rename_i i j
    refine ⟨i, j, rfl, ?_⟩
    have e : (if j > i then j else i) = max i j := by split <;> omega
    rw [e]
    exact h
  · exact h.elim
theorem cMin2 (hc : X.calm = true) : CallR X (.builtin "min") yMin2 := CallR.imp (call_min2 hc) fun xs H Q h => by
  unfold yMin2 at h
  split at h
  · rename_i i j
    refine ⟨i, j, rfl, ?_⟩
    have e : (if j < i then j else i) = min i j := by split <;> omega
    rw [e]
    exact h
  · exact h.elim
def yDivmod : List V → Hp → VK → Prop := fun xs H Q => match xs with
  | [.int i, .int j] => (0 < j ∧ j < 10 ^ 70) ∧ ∀ p, H p = none → Q (.ref p) (upd H p (.tup [.int (i / j), .int (i % j)]))
  | _ => False
theorem divP {i j : Int} (h : 0 < j) (h2 : j < 10 ^ 70) : CDivP i j := by
  refine ⟨h, ?_⟩
  have hb := small_div h h2
  have hl : j.natAbs.log2 < 240 := by
    by_cases h0 : j.natAbs = 0
    · omega
    · exact (Nat.log2_lt h0).mpr hb
  show (decide ((if j == 0 then 0 else j.natAbs.log2 / 30 + 1) > 300) && _) = false
  rw [decide_eq_false, Bool.false_and]
  split <;> omega
theorem cDivmod : CallR X (.builtin "divmod") yDivmod := CallR.imp call_divmodW fun xs H Q h => by
  unfold yDivmod at h
  split at h
  · exact ⟨_, _, rfl, divP h.1.1 h.1.2, h.2⟩
  · exact h.elim
def yInt1 : List V → Hp → VK → Prop := fun xs H Q => match xs with
  | [.int i] => Q (.int i) H
  | [.bl k] => Q (.int (if k then 1 else 0)) H
  | _ => False
theorem cInt1 : CallR X (.type "int") yInt1 := CallR.imp call_int1 fun xs H Q h => by
  unfold yInt1 at h
  split at h
  · exact .inl ⟨_, rfl, h⟩
  · exact .inr ⟨_, rfl, h⟩
  · exact h.elim
def yTuple (K : PySem.W.Frag) : List V → Hp → VK → Prop := fun xs H Q => match xs with
  | [.ref p] => ∃ ys, (SqL K H p ys ∧ ∀ l, H l = none → Q (.ref l) (upd H l (.tup ys))) ∨ (SqT K H p ys ∧ Q (.ref p) H)
  | _ => False
theorem cTuple : CallR X (.type "tuple") (yTuple X.K) := CallR.imp call_tuple_of fun xs H Q h => by
  unfold yTuple at h
  split at h
  · obtain ⟨ys, h⟩ := h
    exact ⟨_, ys, rfl, h⟩
  · exact h.elim
def yList (K : PySem.W.Frag) : List V → Hp → VK → Prop := fun xs H Q => match xs with
  | [.ref p] => ∃ ys, (SqL K H p ys ∨ SqT K H p ys) ∧ ∀ l, H l = none → Q (.ref l) (upd H l (.lst ys))
  | _ => False
theorem cList : CallR X (.type "list") (yList X.K) := CallR.imp call_list_of fun xs H Q h => by
  unfold yList at h
  split at h
  · obtain ⟨ys, h1, h2⟩ := h
    exact ⟨_, ys, rfl, h1, h2⟩
  · exact h.elim
def ySum (K : PySem.W.Frag) : List V → Hp → VK → Prop := fun xs H Q => match xs with
  | [.ref p] => ∃ ns : List Int, SqL K H p (ns.map V.int) ∧ Q (.int ns.sum) H
  | _ => False
theorem cSum (hc : X.calm = true) : CallR X (.builtin "sum") (ySum X.K) := CallR.imp (cr_sum hc) fun xs H Q h => by
  unfold ySum at h
  split at h
  · obtain ⟨ns, h1, h2⟩ := h
    exact ⟨_, ns, rfl, h1, h2⟩
  · exact h.elim
def yAll (K : PySem.W.Frag) : List V → Hp → VK → Prop := fun xs H Q => match xs with
  | [.ref p] => ∃ bs : List Bool, SqL K H p (bs.map V.bl) ∧ Q (.bl (bs.all id)) H
  | _ => False
theorem cAll (hc : X.calm = true) : CallR X (.builtin "all") (yAll X.K) := CallR.imp (cr_all hc) fun xs H Q h => by
  unfold yAll at h
  split at h
  · obtain ⟨ns, h1, h2⟩ := h
    exact ⟨_, ns, rfl, h1, h2⟩
  · exact h.elim
def yAny (K : PySem.W.Frag) : List V → Hp → VK → Prop := fun xs H Q => match xs with
  | [.ref p] => ∃ bs : List Bool, SqL K H p (bs.map V.bl) ∧ Q (.bl (bs.any id)) H
  | _ => False
theorem cAny (hc : X.calm = true) : CallR X (.builtin "any") (yAny X.K) := CallR.imp (cr_any hc) fun xs H Q h => by
  unfold yAny at h
  split at h
  · obtain ⟨ns, h1, h2⟩ := h
    exact ⟨_, ns, rfl, h1, h2⟩
  · exact h.elim
/-- sorted of a list of whole numbers -/
def ySorted (K : PySem.W.Frag) : List V → Hp → VK → Prop := fun xs H Q => match xs with
  | [.ref p] => ∃ ns : List Int, SqL K H p (ns.map V.int) ∧ ∀ (ns' : List Int) (q : Addr), ns'.Perm ns → ns'.Pairwise (· ≤ ·) → H q = none → Q (.ref q) (upd H q (.lst (ns'.map V.int)))
  | _ => False
theorem cSorted : CallR X (.builtin "sorted") (ySorted X.K) := CallR.imp cr_sortedI fun xs H Q h => by
  unfold ySorted at h
  split at h
  · obtain ⟨ns, h1, h2⟩ := h
    exact ⟨_, ns, rfl, h1, h2⟩
  · exact h.elim

/-! ### methods of lists and texts -/
def yAppend : V → List V → Hp → VK → Prop := fun x vs H Q => match x, vs with
  | .ref l, [y] => ∃ xs, H l = some (.lst xs) ∧ xs.length < sizeLine ∧ Q .non (upd H l (.lst (xs ++ [y])))
  | _, _ => False
theorem mAppend : MtR X "list.append" yAppend := MtR.imp mt_append fun x vs H Q h => by
  unfold yAppend at h
  split at h
  · obtain ⟨xs, h1, h2, h3⟩ := h
    exact ⟨_, xs, _, rfl, rfl, h1, h2, h3⟩
  · exact h.elim
/-- a list's method: the receiver is a list -/
def yBM (K : PySem.W.Frag) (r : V → List V → Hp → VK → Prop) (to : TE) (t : TA) : TE := fun σ H Q => to σ H fun x H1 => t σ H1 fun xs H2 => r x xs H2 Q

/-! ### targets -/
variable {tgE : Expr}
def yNilG : TGs := fun vs σ H Q => match vs with
  | [] => Q σ H
  | _ => False
def yConsG (t : TG) (u : TGs) : TGs := fun vs σ H Q => match vs with
  | v :: r => t v σ H fun σ' H' => u r σ' H' Q
  | [] => False
theorem yg_nil : PGs X [] yNilG := PGs.imp pgs_nil fun vs σ H Q h => by
  unfold yNilG at h
  split at h
  · exact ⟨rfl, h⟩
  · exact h.elim
def yTupG (K : PySem.W.Frag) (n : Nat) (t : TGs) : TG := fun v σ H Q => match v with
  | .ref a => ∃ xs, SqT K H a xs ∧ xs.length = n ∧ t xs σ H Q
  | _ => False

/-! ### walks -/
def ySeqL (K : PySem.W.Frag) (tl : TE) : TI := fun σ H R => tl σ H fun x H1 => match x with
  | .ref a => (∃ xs, SqL K H1 a xs) ∧ R (Itl K a) H1
  | _ => False
def ySeqT (K : PySem.W.Frag) (tl : TE) : TI := fun σ H R => tl σ H fun x H1 => match x with
  | .ref a => (∃ xs, SqT K H1 a xs) ∧ R (Itt K a) H1
  | _ => False
def ySeqS (tl : TE) : TI := fun σ H R => tl σ H fun x H1 => match x with
  | .str z => R (Its z) H1
  | _ => False
def yRng1 (ta : TA) : TI := fun σ H R => ta σ H fun vs H1 => match vs with
  | [.int j] => (-(2 ^ 62) ≤ j ∧ j < 2 ^ 62) ∧ R (Itr 0 j.toNat) H1
  | _ => False
def yRng2 (ta : TA) : TI := fun σ H R => ta σ H fun vs H1 => match vs with
  | [.int i, .int j] => (-(2 ^ 62) ≤ i ∧ i < 2 ^ 62 ∧ -(2 ^ 62) ≤ j ∧ j < 2 ^ 62) ∧ R (Itr i (j - i).toNat) H1
  | _ => False
/-- readings with weaker wishes -/
def cl (t : TE) : TE := fun σ H Q => ∃ Q' : VK, t σ H Q' ∧ ∀ x H1, Q' x H1 → Q x H1
def clA (t : TA) : TA := fun σ H Q => ∃ Q' : List V → Hp → Prop, t σ H Q' ∧ ∀ x H1, Q' x H1 → Q x H1
theorem PE.cl (h : PE X e te) : PE X e (cl te) := ⟨fun pins s σ H Q I ⟨Q', h1, h2⟩ => thn (h.run pins s σ H Q' I h1) fun _ _ ⟨x, H1, I1, r1, q1⟩ => ⟨x, H1, I1, r1, h2 x H1 q1⟩⟩
theorem PA.cl (h : PA X es t) : PA X es (clA t) := ⟨fun pos pins s σ H Q I ⟨Q', h1, h2⟩ => thn (h.run pos pins s σ H Q' I h1) fun _ _ ⟨x, H1, I1, r1, q1⟩ => ⟨x, H1, I1, r1, h2 x H1 q1⟩⟩
theorem yi_list {tg l : Expr} {tl : TE} (hl : PE X l tl) : PI X tg l (ySeqL X.K tl) := PI.imp (pi_list (PE.cl hl)) fun σ H R h => ⟨_, h, fun x H1 q => by
  cases x with
  | ref a => exact ⟨a, rfl, q⟩
  | _ => exact q.elim⟩
theorem yi_tup {tg l : Expr} {tl : TE} (hl : PE X l tl) : PI X tg l (ySeqT X.K tl) := PI.imp (pi_tup (PE.cl hl)) fun σ H R h => ⟨_, h, fun x H1 q => by
  cases x with
  | ref a => exact ⟨a, rfl, q⟩
  | _ => exact q.elim⟩
theorem yi_str {tg l : Expr} {tl : TE} (hl : PE X l tl) : PI X tg l (ySeqS tl) := PI.imp (pi_str (PE.cl hl)) fun σ H R h => ⟨_, h, fun x H1 q => by
  cases x with
  | str a => exact ⟨a, rfl, q⟩
  | _ => exact q.elim⟩
theorem yi_range1 {tg a : Expr} {ta : TA} {p pos : Pos} (hg : Gl X "range") (hm : X.mg "range" = none) (ha : PA X [a] ta) (hs : starEach [a] X.env = [(false, eval a X.env)] := by rfl) : PI X tg (.Call (.Name "range" p) [a] [] pos) (yRng1 ta) :=
  PI.imp (pi_range1 hg hm (PA.cl ha) hs) fun σ H R h => ⟨_, h, fun x H1 q => by
    split at q
    · exact ⟨_, rfl, q.1.1, q.1.2, q.2⟩
    · exact q.elim⟩
theorem yi_range2 {tg a b : Expr} {ta : TA} {p pos : Pos} (hg : Gl X "range") (hm : X.mg "range" = none) (ha : PA X [a, b] ta) (hs : starEach [a, b] X.env = [(false, eval a X.env), (false, eval b X.env)] := by rfl) (hs2 : starEach [b] X.env = [(false, eval b X.env)] := by rfl) :
    PI X tg (.Call (.Name "range" p) [a, b] [] pos) (yRng2 ta) :=
  PI.imp (pi_range2 hg hm (PA.cl ha) hs hs2) fun σ H R h => ⟨_, h, fun x H1 q => by
    split at q
    · exact ⟨_, _, rfl, q.1, q.2⟩
    · exact q.elim⟩
theorem yg_cons {tg : Expr} {tgs : List Expr} {t : TG} {u : TGs} (h1 : PG X tg t) (h2 : PGs X tgs u)
    (hs : (assignEach (tg :: tgs) X.env).map (·.2) = assign tg X.env :: (assignEach tgs X.env).map (·.2) := by rfl) : PGs X (tg :: tgs) (yConsG t u) := PGs.imp (pgs_cons h1 h2 hs) fun vs σ H Q h => by
  unfold yConsG at h
  split at h
  · exact ⟨_, _, rfl, h⟩
  · exact h.elim
theorem yg_tup {tgs : List Expr} {k : Nat} {t : TGs} {n : Nat} (hc : X.calm = true) (h : PGs X tgs t)
    (hn : (assignEach tgs X.env).length = n := by rfl) (hst : (assignEach tgs X.env).findIdx? (·.1) = none := by rfl) : PG X (.Tuple tgs k pos) (yTupG X.K n t) := PG.imp (pg_tup hc h hn hst) fun v σ H Q h => by
  unfold yTupG at h
  split at h
  · obtain ⟨xs, h1, h2, h3⟩ := h
    exact ⟨_, xs, rfl, h1, h2, h3⟩
  · exact h.elim
/-- l.append(e) -/
def yApp (to te : TE) : TE := fun σ H Q => to σ H fun x H1 => match x with
  | .ref l => (∃ xs, H1 l = some (.lst xs)) ∧ te σ H1 fun y H2 => ∃ xs, H2 l = some (.lst xs) ∧ xs.length < sizeLine ∧ Q .non (upd H2 l (.lst (xs ++ [y])))
  | _ => False
variable {o : Expr} {to : TE}
theorem ye_append (h : PE X e (tBM X.K "list" rAppend (cl to) (tCons (cl te) tNil))) : PE X e (yApp to te) :=
  PE.imp h fun σ H Q h => ⟨_, h, fun x H1 q => by
    cases x with
    | ref l =>
      obtain ⟨⟨xs, hx⟩, q⟩ := q
      refine ⟨.inl ⟨rfl, xs, SqL.of hx⟩, _, q, fun y H2 q2 => ?_⟩
      obtain ⟨ys, h1, h2, h3⟩ := q2
      exact ⟨l, ys, y, rfl, rfl, h1, h2, h3⟩
    | _ => exact q.elim⟩
/-- l.extend(e), l.reverse() -/
def yExt (to te : TE) : TE := fun σ H Q => to σ H fun x H1 => match x with
  | .ref l => (∃ xs, H1 l = some (.lst xs)) ∧ te σ H1 fun y H2 => match y with
    | .ref b => ∃ xs ys, H2 l = some (.lst xs) ∧ H2 b = some (.lst ys) ∧ xs.length + ys.length ≤ sizeLine ∧ Q .non (upd H2 l (.lst (xs ++ ys)))
    | _ => False
  | _ => False
theorem ye_extend (h : PE X e (tBM X.K "list" rExtend (cl to) (tCons (cl te) tNil))) : PE X e (yExt to te) :=
  PE.imp h fun σ H Q h => ⟨_, h, fun x H1 q => by
    cases x with
    | ref l =>
      obtain ⟨⟨xs, hx⟩, q⟩ := q
      refine ⟨.inl ⟨rfl, xs, SqL.of hx⟩, _, q, fun y H2 q2 => ?_⟩
      cases y with
      | ref b =>
        obtain ⟨zs, ys, h1, h2, h3, h4⟩ := q2
        exact ⟨l, b, zs, ys, rfl, rfl, h1, h2, h3, h4⟩
      | _ => exact q2.elim
    | _ => exact q.elim⟩
def yRev (to : TE) : TE := fun σ H Q => to σ H fun x H1 => match x with
  | .ref l => ∃ xs, H1 l = some (.lst xs) ∧ Q .non (upd H1 l (.lst xs.reverse))
  | _ => False
theorem ye_reverse (h : PE X e (tBM0 X.K "list" rReverse (cl to))) : PE X e (yRev to) :=
  PE.imp h fun σ H Q h => ⟨_, h, fun x H1 q => by
    cases x with
    | ref l =>
      obtain ⟨xs, hx, q⟩ := q
      exact ⟨.inl ⟨rfl, xs, SqL.of hx⟩, l, xs, rfl, rfl, hx, q⟩
    | _ => exact q.elim⟩
/-- sep.join(e) -/
def yJoin (K : PySem.W.Frag) (to te : TE) : TE := fun σ H Q => to σ H fun x H1 => match x with
  | .str a => te σ H1 fun y H2 => match y with
    | .ref p => ∃ ys : List Str, (SqL K H2 p (ys.map V.str) ∨ SqT K H2 p (ys.map V.str)) ∧ (ys.map (·.length)).sum + ys.length * a.length ≤ 16777216 ∧ Q (.str (Txt.join a ys)) H2
    | _ => False
  | _ => False
theorem ye_join {apos cpos : Pos} (ho : PE X o to) (he : PE X e te) (hs : starEach [e] X.env = [(false, eval e X.env)] := by rfl) (hbase : attributeBase o "join" X.env (eval o X.env) = eval o X.env := by rfl) (hline : (apos.endLine == cpos.line) = true := by rfl) :
    PE X (.Call (.Attribute o "join" apos) [e] [] cpos) (yJoin X.K to te) :=
  PE.imp (pe_join (PE.cl ho) (PE.cl he) hs hbase hline) fun σ H Q h => ⟨_, h, fun x H1 q => by
    cases x with
    | str a =>
      refine ⟨⟨a, rfl⟩, _, q, fun y H2 q2 => ?_⟩
      cases y with
      | ref p =>
        obtain ⟨ys, h1, h2, h3⟩ := q2
        exact ⟨a, p, ys, rfl, rfl, h1, h2, h3⟩
      | _ => exact q2.elim
    | _ => exact q.elim⟩
/-- slices -/
def yPart (t : TE) : TO := fun σ H Q => t σ H fun x H1 => match x with
  | .int i => Q (some i) H1
  | _ => False
theorem yo_some (h : PE X e te) : PO X (some e) (yPart te) := by
  have h2 : PO X (some e) (tPart (Y.cl te)) := po_some (PE.cl h)
  constructor
  intro pins s σ H Q I hw
  refine h2.run pins s σ H Q I ⟨_, hw, fun x H1 q => ?_⟩
  cases x with
  | int i => exact ⟨i, rfl, q⟩
  | _ => exact q.elim
def ySl (K : PySem.W.Frag) : V → Option Int → Option Int → Hp → VK → Prop := fun x lo hi H Q => match x with
  | .str z => z.length ≤ sizeLine ∧ Q (.str (cutS z lo hi)) H
  | .ref a => (∃ xs, SqL K H a xs ∧ ∀ p, H p = none → Q (.ref p) (upd H p (.lst (cutV xs lo hi)))) ∨ rSlA K (.ref a) lo hi H Q
  | _ => False
theorem oSl : SlR X (ySl X.K) := by
  intro pins s σ H x v vl vu lo hi sl Q I rx hs pl pu h
  unfold ySl at h
  split at h
  · exact sl_str pins s σ H _ v vl vu lo hi sl Q I rx hs pl pu ⟨_, rfl, h⟩
  · rcases h with ⟨xs, h1, h2⟩ | h
    · exact sl_list pins s σ H _ v vl vu lo hi sl Q I rx hs pl pu ⟨_, xs, rfl, h1, h2⟩
    · exact sl_tupA pins s σ H _ v vl vu lo hi sl Q I rx hs pl pu h
  · exact h.elim
theorem ye_slice {lo hi : Option Expr} {tl th : TO} {p2 : Pos} (he : PE X e te) (hl : PO X lo tl) (hu : PO X hi th) : PE X (.Subscript e (.Slice lo hi none p2) pos) (tSl (ySl X.K) te tl th) := pe_slice oSl he hl hu
end

/-! ### defs of the text, by name -/
/-- the def st stands at the module's name x -/
def DefAt (K : PySem.W.Frag) (mg : Str → Option Value) (x : Str) (st : Stmt) : Prop :=
  ∃ f fd, FunD K x x (defArgs st) (defBody st) (defScope st) [] [] f fd ∧ mg x = some (.ref f)
/-- a call of the module's name x keeps sp, by at most level k -/
def Cal (P : Program) (w : World) (K : PySem.W.Frag) (mg : Str → Option Value) (base : Heap) (k : Nat) (x : Str) (sp : Sp) : Prop :=
  ∃ f fd ps, FnG P w K mg base CX0 k f fd ps sp ∧ mg x = some (.ref f) ∧ PySem.W.keepIn K (.ref f) = true ∧ Binds K fd ps []
section
variable {P : Program} {w : World} {K : PySem.W.Frag} {mg : Str → Option Value} {base : Heap} {k : Nat} {x : Str} {sp : Sp}
theorem fnG_of {st : Stmt} {N ps : List Str} {f : Addr} {fd : FuncData} (F : FunD K x x (defArgs st) (defBody st) (defScope st) [] [] f fd) (S : FnScope N ps (defScope st))
    (ar : ∀ vs H Q E, sp vs H Q E → vs.length = ps.length)
    (hb : ∀ (f : Addr) (cd : Value) (A : Around) (out : List Env) (s : Shared) (H : Hp) (vs : List V) (Q : VK) (E : XK), Room k (A.deeper (envOfC x (defScope st) s.heap.objs.size f cd)) → (A.deeper (envOfC x (defScope st) s.heap.objs.size f cd)).guards = some [] → sp vs H Q E →
      ∃ t, PSs (cxOf CX0 P w K mg base N x (defScope st) f cd A out s H E).nox (defBody st) t ∧ t { nx := fun _ H' => Q .non H', rt := Q } (start N vs) H) : FnG P w K mg base CX0 (k + 1) f fd ps sp := by
  refine funD_goes F S ar fun cd A out s H vs Q E r g q => ?_
  obtain ⟨t, h1, h2⟩ := hb f cd A out s H vs Q E r g q
  exact ⟨t, h1.nox, h2⟩
theorem cal_of {st : Stmt} {N ps : List Str} (D : DefAt K mg x st) (S : FnScope N ps (defScope st))
    (bnd : ∀ (kV doc pm : Value) (an : Option Addr) (cdv ct : Value) (us : List Value), us.length = ps.length → bindArgs (PySem.W.fnOf x x (defArgs st) (defBody st) (defScope st) .none kV doc pm an cdv ct) ⟨us, []⟩ = pure (ps.zip us))
    (ar : ∀ vs H Q E, sp vs H Q E → vs.length = ps.length)
    (hb : ∀ (f : Addr) (cd : Value) (A : Around) (out : List Env) (s : Shared) (H : Hp) (vs : List V) (Q : VK) (E : XK), Room k (A.deeper (envOfC x (defScope st) s.heap.objs.size f cd)) → (A.deeper (envOfC x (defScope st) s.heap.objs.size f cd)).guards = some [] → sp vs H Q E →
      ∃ t, PSs (cxOf CX0 P w K mg base N x (defScope st) f cd A out s H E).nox (defBody st) t ∧ t { nx := fun _ H' => Q .non H', rt := Q } (start N vs) H) : Cal P w K mg base (k + 1) x sp := by
  obtain ⟨f, fd, F, hm⟩ := D
  refine ⟨f, fd, ps, funD_goes F S ar fun cd A out s H vs Q E r g q => ?_, hm, F.kp, F.bindsN bnd⟩
  obtain ⟨t, h1, h2⟩ := hb f cd A out s H vs Q E r g q
  exact ⟨t, h1.nox, h2⟩
theorem Cal.up {j : Nat} (c : Cal P w K mg base j x sp) (h : j ≤ k) : Cal P w K mg base k x sp := by
  obtain ⟨f, fd, ps, F, r⟩ := c
  exact ⟨f, fd, ps, F.up h, r⟩
theorem Cal.weak {sp' : Sp} (c : Cal P w K mg base k x sp) (h : ∀ vs H Q E, sp' vs H Q E → sp vs H Q E) : Cal P w K mg base k x sp' := by
  obtain ⟨f, fd, ps, F, r⟩ := c
  exact ⟨f, fd, ps, F.weak h, r⟩
end
section
variable {X : Cx} {k j : Nat} {x : Str} {sp : Sp} {p pos : Pos} {e : Expr} {es : List Expr} {t : TA}
def yCall (sp : Sp) (t : TA) : TE := fun σ H Q => t σ H fun vs H1 => sp vs H1 Q E0
theorem ye_call (c : Cal X.prog X.w X.K X.mg X.base k x sp) (room : Room j X.A) (gd : X.A.guards = some []) (hg : Gl X x) (ha : PA X (e :: es) t) (hk : k ≤ j := by decide) (hdb : (x == ("__debug__" : Str)) = false := by decide)
    (h1 : starEach (e :: es) X.env = (false, eval e X.env) :: starEach es X.env := by rfl) (h2 : (backTo pos (starEach es X.env)).any (·.1) = false := by rfl) :
    PE X (.Call (.Name x p) (e :: es) [] pos) (yCall sp t) := by
  obtain ⟨f, fd, ps, F, hm, kp, hb⟩ := c
  refine PE.imp (pe_callG (F.up hk) room gd hg hm kp hb .nil pass0 ha hdb h1 h2) fun σ H Q h => ?_
  have e1 : tCall sp [] E0 t = yCall sp t := by
    unfold tCall yCall
    funext σ H Q
    simp only [List.append_nil]
  rw [e1]
  exact h
end
end Y

set_option Elab.async false
set_option linter.all false
set_option maxRecDepth 100000
set_option maxHeartbeats 2000000
set_option exponentiation.threshold 600
/-! Y2: stores with slots found by themselves; repr of data; what stays; data that never change. -/
namespace Y
open PySem PySem.Spec PyProof.Rows L2

section
variable {X : Cx} {e : Expr} {te : TE} {pos : Pos}
theorem yg_name (i : Nat) {x : Str} (hN : X.N.Nodup) (hi : X.N[i]? = some x := by rfl) (hx : Loc X.env.scope x := by first | exact Or.inl rfl | exact Or.inr rfl)
    (hf : X.fn x = true ∨ X.env.scope.names.lookup x = some .local := by first | exact Or.inl rfl | exact Or.inr rfl) : PG X (.Name x pos) (gName i) := pg_name hN hi hx hf
theorem ys_set (i : Nat) {x : Str} {pos' : Pos} (hN : X.N.Nodup) (he : PE X e te) (hi : X.N[i]? = some x := by rfl) (hx : Loc X.env.scope x := by first | exact Or.inl rfl | exact Or.inr rfl)
    (hs : swapsWith e (some (.Name x pos')) pos.line X.env = pure false := by rfl) (hf : X.fn x = true ∨ X.env.scope.names.lookup x = some .local := by first | exact Or.inl rfl | exact Or.inr rfl) :
    PS X (.Assign [.Name x pos'] e pos) (tAsg te (gName i)) := ps_set hN hi hx he hs hf
def yIAdd : TIp := fun x y H Q => match x, y with
  | .int i, .int j => Q (.int (i + j)) H
  | _, _ => False
theorem oIAdd : PIp X .Add yIAdd := by
  intro pins s σ H x y v u Q I rx ry h
  unfold yIAdd at h
  split at h
  · exact ip_add pins s σ H _ _ v u Q I rx ry ⟨_, _, rfl, rfl, h⟩
  · exact h.elim
def yISub : TIp := fun x y H Q => match x, y with
  | .int i, .int j => Q (.int (i - j)) H
  | _, _ => False
theorem oISub : PIp X .Sub yISub := by
  intro pins s σ H x y v u Q I rx ry h
  unfold yISub at h
  split at h
  · exact ip_sub pins s σ H _ _ v u Q I rx ry ⟨_, _, rfl, rfl, h⟩
  · exact h.elim
theorem ys_aug (i : Nat) {x : Str} {op : Operator} {ti : TIp} {pos' : Pos} (hN : X.N.Nodup) (he : PE X e te) (ho : PIp X op ti) (hi : X.N[i]? = some x := by rfl) (hx : Loc X.env.scope x := by first | exact Or.inl rfl | exact Or.inr rfl)
    (hf : X.fn x = true ∨ X.env.scope.names.lookup x = some .local := by first | exact Or.inl rfl | exact Or.inr rfl) : PS X (.AugAssign (.Name x pos') op e pos) (tAug i te ti) := ps_aug hN hi hx he ho hf
end

/-! ### repr of data -/
mutual
/-- shown by repr within the line: whole numbers below 10 ** 500, texts of code points -/
def fine : PyData → Bool
  | .none | .bool _ => true
  | .int i => decide (i.natAbs < 10 ^ 500)
  | .str x => x.cps.toList.all fun c => decide (c < 0x110000)
  | .list xs | .tuple xs => fineAll xs
  | .dict _ => false
def fineAll : List PyData → Bool
  | [] => true
  | x :: xs => fine x && fineAll xs
end
theorem log_of_fine {i : Int} (h : i.natAbs < 10 ^ 500) : i.natAbs.log2 < 1920 := by
  by_cases h0 : i.natAbs = 0
  · rw [h0]; decide
  · refine (Nat.log2_lt h0).mpr (Nat.lt_trans h ?_)
    decide +kernel
mutual
theorem fine_lay : ∀ d : PyData, fine d = true → d.canLay0 = true
  | .none, _ => rfl
  | .bool _, _ => rfl
  | .int _, _ => rfl
  | .str x, h => by
    show x.cps.all (· < 0x110000) = true
    rw [← Array.all_toList]
    exact h
  | .list xs, h => fineAll_lay xs h
  | .tuple xs, h => fineAll_lay xs h
  | .dict _, h => by cases h
theorem fineAll_lay : ∀ xs : List PyData, fineAll xs = true → PyData.canLayAll0 xs = true
  | [], _ => rfl
  | x :: xs, h => by
    have h' : fine x = true ∧ fineAll xs = true := by simpa [fineAll] using h
    show (x.canLay0 && PyData.canLayAll0 xs) = true
    rw [fine_lay x h'.1, fineAll_lay xs h'.2]; rfl
end
mutual
theorem fine_show : ∀ d : PyData, fine d = true → d.showable = true
  | .none, _ => rfl
  | .bool _, _ => rfl
  | .int i, h => by
    have h' : i.natAbs < 10 ^ 500 := by simpa [fine] using h
    show decide (i.natAbs.log2 < 1920) = true
    exact decide_eq_true (log_of_fine h')
  | .str x, h => rfl
  | .list xs, h => by
    rw [PyData.showable]
    exact fineAll_show xs h
  | .tuple xs, h => by
    rw [PyData.showable]
    exact fineAll_show xs h
  | .dict _, h => by cases h
theorem fineAll_show : ∀ xs : List PyData, fineAll xs = true → PyData.showableAll xs = true
  | [], _ => rfl
  | x :: xs, h => by
    have h' : fine x = true ∧ fineAll xs = true := by simpa [fineAll] using h
    rw [PyData.showableAll, fine_show x h'.1, fineAll_show xs h'.2]; rfl
end
mutual
theorem fine_short : ∀ d : PyData, fine d = true → d.leavesShort 501 = true
  | .none, _ => by simp [PyData.leavesShort]
  | .bool _, _ => by simp [PyData.leavesShort]
  | .int i, h => by
    have h' : i.natAbs < 10 ^ 500 := by simpa [fine] using h
    rw [PyData.leavesShort, decide_eq_true_eq]
    show (Str.ofString (toString i)).length ≤ 501
    have e := int_text_length_le10 (k := 500) (by decide) h'
    rw [PySem.ofString_length]
    exact e
  | .str x, h => by
    have h' : (x.cps.toList.all fun c => decide (c < 0x110000)) = true := h
    rw [PyData.leavesShort]
    rw [List.all_eq_true] at h' ⊢
    intro c hc
    have q := h' c hc
    rw [decide_eq_true_eq] at q ⊢
    exact Nat.lt_trans q (by decide)
  | .list xs, h => by
    rw [PyData.leavesShort]
    exact fineAll_short xs h
  | .tuple xs, h => by
    rw [PyData.leavesShort]
    exact fineAll_short xs h
  | .dict _, h => by cases h
theorem fineAll_short : ∀ xs : List PyData, fineAll xs = true → PyData.leavesShortAll 501 xs = true
  | [], _ => by simp [PyData.leavesShortAll]
  | x :: xs, h => by
    have h' : fine x = true ∧ fineAll xs = true := by simpa [fineAll] using h
    rw [PyData.leavesShortAll, fine_short x h'.1, fineAll_short xs h'.2]; rfl
end
theorem fine_fits {d : PyData} (h : fine d = true) (hb : d.bulk ≤ 33000) : d.shown.length ≤ sizeLine := by
  have h1 := PyData.shown_le_bulk 501 (by decide) d (fine_short d h)
  have e : sizeLine = 16777216 := by decide
  rw [e]
  omega
theorem fine_shaped {d : PyData} (h : fine d = true) (hd : d.depth ≤ 50) : SeqAt.shaped d = true := by
  unfold SeqAt.shaped
  rw [fine_lay d h, decide_eq_true (by omega : d.depth ≤ 64)]; rfl
/-- d can be shown: fine, not deep, not bulky -/
structure Sh (d : PyData) : Prop where
  fine : fine d = true
  deep : d.depth ≤ 50
  bulk : d.bulk ≤ 33000
def yRepr (K : PySem.W.Frag) : List V → Hp → VK → Prop := fun xs H Q => match xs with
  | [v] => ∃ d, Dp K H v d ∧ Sh d ∧ Q (.str d.shown) H
  | _ => False
theorem cRepr {X : Cx} (hu : X.A.units + 64 < cLine) (gd : X.A.guards = some []) : CallR X (.builtin "repr") (yRepr X.K) := by
  intro pins s σ H xs us Q I r h
  unfold yRepr at h
  split at h
  · rename_i v
    obtain ⟨d, hd, hS, q⟩ := h
    obtain ⟨u, rfl, ru⟩ : ∃ u, us = [u] ∧ RelV v u := by
      cases r with
      | cons r1 r2 => cases r2; exact ⟨_, rfl, r1⟩
    obtain ⟨as, rd⟩ := Dp.reads I d v u hd ru
    have sz := fine_fits hS.fine hS.bulk
    have lay := fine_lay d hS.fine
    cases hd with
    | non =>
      cases ru
      exact PySem.P.repr_of_none ⟨.str _, H, I.tok _, ⟨_, rfl⟩, q⟩
    | bl b =>
      cases ru
      exact PySem.P.repr_of_bool ⟨.str _, H, I.tok _, ⟨_, rfl⟩, q⟩
    | int i =>
      obtain ⟨t, rfl⟩ := ru
      have h' : i.natAbs < 10 ^ 500 := by have := hS.fine; simpa [Y.fine] using this
      exact PySem.P.repr_of_int (log_of_fine h') ⟨.str _, H, I.tok _, ⟨_, rfl⟩, q⟩
    | str x =>
      obtain ⟨t, rfl⟩ := ru
      exact PySem.P.repr_of_str ⟨.str _, H, I.tok _, ⟨_, rfl⟩, q⟩ sz
    | lst h1 h2 =>
      cases ru
      exact repr_of_reads' rd (fine_show _ hS.fine) (PyData.noDict_hsm (PyData.hasDict_of_canLay _ lay)) gd (by have := hS.deep; omega) (fun _ _ e => e) (fun h' u tk hk => ⟨.str _, H, I.kept hk, ⟨_, rfl⟩, q⟩) sz
    | tup h1 h2 =>
      cases ru
      exact repr_of_reads' rd (fine_show _ hS.fine) (PyData.noDict_hsm (PyData.hasDict_of_canLay _ lay)) gd (by have := hS.deep; omega) (fun _ _ e => e) (fun h' u tk hk => ⟨.str _, H, I.kept hk, ⟨_, rfl⟩, q⟩) sz
  · exact h.elim

/-! ### the rules whose readings name the written part: K is told, so that they stand within comprehensions, too -/
section
variable {X : Cx} {K : PySem.W.Frag}
theorem kAdd (h : X.K = K) : OpR X (binaryOp .Add) (yAdd K) := h ▸ oAdd
theorem kEq (h : X.K = K) (hu : X.A.units + 64 < cLine) : OpR X (compareOp .Eq) (yEq K) := h ▸ oEq hu
theorem kNe (h : X.K = K) (hu : X.A.units + 64 < cLine) : OpR X (compareOp .NotEq) (yNe K) := h ▸ oNe hu
theorem kIn (h : X.K = K) : OpR X (compareOp .In) (yIn K false) := h ▸ oIn
theorem kNotIn (h : X.K = K) : OpR X (compareOp .NotIn) (yIn K true) := h ▸ oNotIn
theorem kLen (h : X.K = K) : CallR X (.builtin "len") (yLen K) := h ▸ cLen
theorem kTuple (h : X.K = K) : CallR X (.type "tuple") (yTuple K) := h ▸ cTuple
theorem kList (h : X.K = K) : CallR X (.type "list") (yList K) := h ▸ cList
theorem kSum (h : X.K = K) (hc : X.calm = true) : CallR X (.builtin "sum") (ySum K) := h ▸ cSum hc
theorem kAll (h : X.K = K) (hc : X.calm = true) : CallR X (.builtin "all") (yAll K) := h ▸ cAll hc
theorem kAny (h : X.K = K) (hc : X.calm = true) : CallR X (.builtin "any") (yAny K) := h ▸ cAny hc
theorem kSorted (h : X.K = K) : CallR X (.builtin "sorted") (ySorted K) := h ▸ cSorted
theorem kRepr (h : X.K = K) (hu : X.A.units + 64 < cLine) (gd : X.A.guards = some []) : CallR X (.builtin "repr") (yRepr K) := h ▸ cRepr hu gd
theorem kIx {a b : Expr} {ta tb : TE} {pos : Pos} (h : X.K = K) (ha : PE X a ta) (hb : PE X b tb) (hs : PlainIx b := by exact fun _ _ => rfl) : PE X (.Subscript a b pos) (tOp (yIx K) ta tb) := h ▸ ye_ix ha hb hs
theorem kSl {e : Expr} {te : TE} {pos : Pos} {lo hi : Option Expr} {tl th : TO} {p2 : Pos} (h : X.K = K) (he : PE X e te) (hl : PO X lo tl) (hu : PO X hi th) : PE X (.Subscript e (.Slice lo hi none p2) pos) (tSl (ySl K) te tl th) := h ▸ ye_slice he hl hu
theorem kJoin {o e : Expr} {to te : TE} {apos cpos : Pos} (h : X.K = K) (ho : PE X o to) (he : PE X e te) (hs : starEach [e] X.env = [(false, eval e X.env)] := by rfl) (hbase : attributeBase o "join" X.env (eval o X.env) = eval o X.env := by rfl) (hline : (apos.endLine == cpos.line) = true := by rfl) :
    PE X (.Call (.Attribute o "join" apos) [e] [] cpos) (yJoin K to te) := h ▸ ye_join ho he hs hbase hline
theorem kgTup {tgs : List Expr} {k : Nat} {t : TGs} {n : Nat} {pos : Pos} (h0 : X.K = K) (hc : X.calm = true) (h : PGs X tgs t)
    (hn : (assignEach tgs X.env).length = n := by rfl) (hst : (assignEach tgs X.env).findIdx? (·.1) = none := by rfl) : PG X (.Tuple tgs k pos) (yTupG K n t) := h0 ▸ yg_tup hc h hn hst
theorem kiList {tg l : Expr} {tl : TE} (h : X.K = K) (hl : PE X l tl) : PI X tg l (ySeqL K tl) := h ▸ yi_list hl
theorem kiTup {tg l : Expr} {tl : TE} (h : X.K = K) (hl : PE X l tl) : PI X tg l (ySeqT K tl) := h ▸ yi_tup hl
end

/-! ### what stays -/
/-- the tables of code objects that a law's lambdas use: where, and the name of what they tell -/
class Tb where
  tabs : List (Addr × Str)
/-- the tables are as they should be -/
abbrev TbOk [Tb] (H : Hp) : Prop := LamX.Tabs Tb.tabs H
def NT : HO → Prop
  | .tbl _ => False
  | _ => True
def Pl : HO → Prop
  | .tbl _ => False
  | .ext _ => False
  | _ => True
def Pm : HO → Prop
  | .tup _ => False
  | .tbl _ => False
  | .ext _ => False
  | _ => True
/-- but for S all is as it was (tables may grow); tuples are always -/
structure Kp [Tb] (S : Addr → Prop) (H H' : Hp) : Prop where
  all : ∀ b o, H b = some o → ¬ S b → (nt : NT o := by exact True.intro) → H' b = some o
  tup : ∀ b xs, H b = some (.tup xs) → H' b = some (.tup xs)
  dom : ∀ b, H' b = none → H b = none
  tab : TbOk H → TbOk H'
abbrev No : Addr → Prop := fun _ => False
abbrev At (p : Addr) : Addr → Prop := fun b => b = p
section
variable [Tb] {S S' : Addr → Prop} {H H1 H2 : Hp} {p : Addr} {o : HO}
theorem Kp.refl (H : Hp) : Kp S H H := ⟨fun _ _ h _ _ => h, fun _ _ h => h, fun _ h => h, fun h => h⟩
theorem Kp.trans (a : Kp S H H1) (b : Kp S H1 H2) : Kp S H H2 := ⟨fun c o h n nt => b.all c o (a.all c o h n nt) n nt, fun c xs h => b.tup c xs (a.tup c xs h), fun c h => a.dom c (b.dom c h), fun h => b.tab (a.tab h)⟩
theorem Kp.mono (a : Kp S H H1) (h : ∀ b, S b → S' b) : Kp S' H H1 := ⟨fun c o e n nt => a.all c o e (fun z => n (h c z)) nt, a.tup, a.dom, a.tab⟩
theorem Kp.no (a : Kp No H H1) : Kp S H H1 := a.mono fun _ z => z.elim
theorem Kp.seq {K : PySem.W.Frag} {a : Addr} {xs : List V} (k : Kp S H H1) (h : SqL K H a xs) (n : ¬ S a := by exact fun z => z) : SqL K H1 a xs := by
  rcases h with (h | ⟨o, h⟩) | h
  · exact .inl (.inl (k.all a _ h n))
  · exact .inl (.inr ⟨o, k.all a _ h n⟩)
  · exact .inr h
theorem Kp.of (a : Same H H1) : Kp S H H1 := ⟨fun b o h _ _ => a b o h, fun b xs h => a b _ h, fun b h => a.free h, fun h => h.ext a⟩
/-- a new object -/
theorem Kp.new (h : H p = none) : Kp S H (upd H p o) := Kp.of fun b u e => by rw [upd_ne (ne_of_none e h)]; exact e
theorem tab_upd {u : HO} (h : H p = some u) (pl : Pl u) (t : TbOk H) : TbOk (upd H p o) := fun x hx => by
  obtain ⟨ps, h1, h2, h3⟩ := t x hx
  refine ⟨ps, ?_, h2, fun pos cv hc => ?_⟩
  · rw [upd_ne (fun z => by rw [z, h] at h1; rw [Option.some.inj h1] at pl; exact pl)]
    exact h1
  · obtain ⟨c, e1, e2⟩ := h3 pos cv hc
    refine ⟨c, e1, ?_⟩
    rw [upd_ne (fun z => by rw [z, h] at e2; rw [Option.some.inj e2] at pl; exact pl)]
    exact e2
/-- an object that H does not know may change -/
theorem Kp.put {u : HO} (a : Kp S H H1) (h : H p = none) (hu : H1 p = some u) (pl : Pl u := by exact True.intro) : Kp S H (upd H1 p o) := ⟨fun b v e n nt => by rw [upd_ne (ne_of_none e h)]; exact a.all b v e n nt, fun b xs e => by rw [upd_ne (ne_of_none e h)]; exact a.tup b xs e,
  fun b e => by
    by_cases hb : b = p
    · rw [hb]; exact h
    · rw [upd_ne hb] at e; exact a.dom b e, fun t => tab_upd hu pl (a.tab t)⟩
/-- an object of S changes that is no tuple -/
theorem Kp.set {u : HO} (hS : S p) (h : H p = some u) (pm : Pm u := by exact True.intro) : Kp S H (upd H p o) := ⟨fun b v e n _ => by
    rw [upd_ne (fun z => n (by rw [z]; exact hS))]; exact e, fun b xs e => by
    rw [upd_ne (fun z => by rw [z, h] at e; rw [Option.some.inj e] at pm; exact pm)]; exact e, fun b e => by
    by_cases hb : b = p
    · rw [hb, upd_same] at e; cases e
    · rw [upd_ne hb] at e; exact e, fun t => tab_upd h (by cases u <;> first | exact pm | exact pm.elim | exact True.intro) t⟩
end

/-! ### data that never change: none, truths, whole numbers, texts, tuples of such -/
/-- a tuple that is tracked, or one of the module's own text -/
def Tp (K : PySem.W.Frag) (H : Hp) (a : Addr) (xs : List V) : Prop := H a = some (.tup xs) ∨ ∀ H', SqT K H' a xs
mutual
inductive Im (K : PySem.W.Frag) (H : Hp) : V → PyData → Prop
  | non : Im K H .non .none
  | bl (b : Bool) : Im K H (.bl b) (.bool b)
  | int (i : Int) : Im K H (.int i) (.int i)
  | str (x : Str) : Im K H (.str x) (.str x)
  | tup {a : Addr} {xs : List V} {ds : List PyData} : Tp K H a xs → ImAll K H xs ds → Im K H (.ref a) (.tuple ds)
inductive ImAll (K : PySem.W.Frag) (H : Hp) : List V → List PyData → Prop
  | nil : ImAll K H [] []
  | cons {v : V} {vs : List V} {d : PyData} {ds : List PyData} : Im K H v d → ImAll K H vs ds → ImAll K H (v :: vs) (d :: ds)
end
section
variable {K : PySem.W.Frag} {H H' : Hp} {S : Addr → Prop}
theorem Tp.sq {a : Addr} {xs : List V} (h : Tp K H a xs) : SqT K H a xs := by
  rcases h with h | h
  · exact .inl (.inl h)
  · exact h H
theorem Tp.up [Tb] {a : Addr} {xs : List V} (h : Tp K H a xs) (k : Kp S H H') : Tp K H' a xs := by
  rcases h with h | h
  · exact .inl (k.tup a xs h)
  · exact .inr h
mutual
theorem Im.up [Tb] (k : Kp S H H') : ∀ (d : PyData) (v : V), Im K H v d → Im K H' v d
  | .none, _, h => by cases h; exact .non
  | .bool b, _, h => by cases h; exact .bl b
  | .int i, _, h => by cases h; exact .int i
  | .str x, _, h => by cases h; exact .str x
  | .tuple ds, _, h => by
    cases h with
    | tup h1 h2 => exact .tup (h1.up k) (ImAll.up k ds _ h2)
  | .list _, _, h => by cases h
  | .dict _, _, h => by cases h
theorem ImAll.up [Tb] (k : Kp S H H') : ∀ (ds : List PyData) (vs : List V), ImAll K H vs ds → ImAll K H' vs ds
  | [], _, h => by cases h; exact .nil
  | d :: ds, _, h => by
    cases h with
    | cons h1 h2 => exact .cons (Im.up k d _ h1) (ImAll.up k ds _ h2)
end
mutual
theorem Im.dp : ∀ (d : PyData) (v : V), Im K H v d → Dp K H v d
  | .none, _, h => by cases h; exact .non
  | .bool b, _, h => by cases h; exact .bl b
  | .int i, _, h => by cases h; exact .int i
  | .str x, _, h => by cases h; exact .str x
  | .tuple ds, _, h => by
    cases h with
    | tup h1 h2 => exact .tup h1.sq (ImAll.dp ds _ h2)
  | .list _, _, h => by cases h
  | .dict _, _, h => by cases h
theorem ImAll.dp : ∀ (ds : List PyData) (vs : List V), ImAll K H vs ds → DpAll K H vs ds
  | [], _, h => by cases h; exact .nil
  | d :: ds, _, h => by
    cases h with
    | cons h1 h2 => exact .cons (Im.dp d _ h1) (ImAll.dp ds _ h2)
end
theorem ImAll.length : ∀ {vs : List V} {ds : List PyData}, ImAll K H vs ds → vs.length = ds.length
  | [], [], _ => rfl
  | _ :: _, _ :: _, .cons _ h => congrArg Nat.succ h.length
theorem ImAll.get : ∀ {vs : List V} {ds : List PyData} {i : Nat} {v : V}, ImAll K H vs ds → vs[i]? = some v → ∃ d, ds[i]? = some d ∧ Im K H v d
  | [], [], _, _, _, e => by simp at e
  | v :: vs, d :: ds, 0, _, .cons h _, e => by
    simp at e
    subst e
    exact ⟨d, rfl, h⟩
  | v :: vs, d :: ds, i + 1, _, .cons _ h, e => by
    simp at e
    obtain ⟨d', h1, h2⟩ := ImAll.get h e
    exact ⟨d', by simpa using h1, h2⟩
theorem ImAll.at_ : ∀ {vs : List V} {ds : List PyData} {i : Nat} {d : PyData}, ImAll K H vs ds → ds[i]? = some d → ∃ v, vs[i]? = some v ∧ Im K H v d
  | [], [], _, _, _, e => by simp at e
  | v :: vs, d :: ds, 0, _, .cons h _, e => by
    simp at e
    subst e
    exact ⟨v, rfl, h⟩
  | v :: vs, d :: ds, i + 1, _, .cons _ h, e => by
    simp at e
    obtain ⟨d', h1, h2⟩ := ImAll.at_ h e
    exact ⟨d', by simpa using h1, h2⟩
theorem ImAll.app : ∀ {vs ws : List V} {ds es : List PyData}, ImAll K H vs ds → ImAll K H ws es → ImAll K H (vs ++ ws) (ds ++ es)
  | [], _, [], _, _, h => h
  | _ :: _, _, _ :: _, _, .cons h1 h2, h => .cons h1 (h2.app h)
theorem ImAll.snoc {vs : List V} {ds : List PyData} {v : V} {d : PyData} (h : ImAll K H vs ds) (h2 : Im K H v d) : ImAll K H (vs ++ [v]) (ds ++ [d]) := h.app (.cons h2 .nil)
theorem Im.mk {a : Addr} {xs : List V} {ds : List PyData} (h : H a = some (.tup xs)) (h2 : ImAll K H xs ds) : Im K H (.ref a) (.tuple ds) := .tup (.inl h) h2
theorem Im.tupInv {v : V} {ds : List PyData} (h : Im K H v (.tuple ds)) : ∃ a xs, v = .ref a ∧ Tp K H a xs ∧ ImAll K H xs ds := by
  cases h with
  | tup h1 h2 => exact ⟨_, _, rfl, h1, h2⟩
theorem Im.intInv {v : V} {i : Int} (h : Im K H v (.int i)) : v = .int i := by cases h; rfl
theorem Im.strInv {v : V} {x : Str} (h : Im K H v (.str x)) : v = .str x := by cases h; rfl
theorem Im.noneInv {v : V} (h : Im K H v .none) : v = .non := by cases h; rfl
theorem Im.blInv {v : V} {b : Bool} (h : Im K H v (.bool b)) : v = .bl b := by cases h; rfl
end

/-! ### comprehensions over data that never change, whose elements are such -/
section
variable [Tb] {K : PySem.W.Frag} {J : It} {n : Nat} {G : Hp → Prop} {Yy : Nat → Hp → V → Hp → Prop} {g : TG} {tt : TT} {te : TE} {vs : List Nat} {σ : L2.St} {H1 : Hp} {D : Addr} {Qd : Hp → Prop}
/-- what a list comprehension's reading asks behind its walk -/
abbrev LcGoal (J : It) (g : TG) (tt : TT) (te : TE) (vs : List Nat) (σ : L2.St) (H1 : Hp) (D : Addr) (Qd : Hp → Prop) : Prop :=
  ∃ W : Nat → Nat → Hp → Prop, (∃ m, W 0 m (upd H1 D (.lst []))) ∧ ∀ i m H, W i m H →
      (J.stop i H ∧ Qd H) ∨ (J.go i H ∧ ∃ Nx : Hp → Prop, (∀ H', Nx H' → ∃ m', m' < m ∧ W (i + 1) m' H') ∧ ∀ x H', J.yld i H x H' → g x (wipe σ vs) H' fun σ2 H2 => wipe σ2 vs = wipe σ vs ∧ tt σ2 H2 fun b H3 =>
        if b = true then te σ2 H3 fun y H4 => ∃ acc, H4 D = some (.lst acc) ∧ acc.length < sizeLine ∧ Nx (upd H4 D (.lst (acc ++ [y]))) else Nx H3)
/-- a walk over r, each item data that never change; each element, too, or left out -/
theorem lc_map {α β : Type} (dA : α → PyData) (dB : β → PyData) (f : α → Option β) (r : List α) (w : Walk J r.length G Yy) (hD : H1 D = none)
    (hy : ∀ i Ha x Hb (hi : i < r.length), Kp No H1 Ha → Yy i Ha x Hb → Hb = Ha ∧ Im K Ha x (dA r[i])) (hl : r.length ≤ 100000)
    (hG : ∀ H, Kp No H1 H → G H)
    (hs : ∀ x a Ha (k : VK) (kn : Hp → Prop), a ∈ r → Im K Ha x (dA a) → Kp No H1 Ha → (∀ y b H4, f a = some b → Kp No Ha H4 → Im K H4 y (dB b) → k y H4) → (∀ H3, f a = none → Kp No Ha H3 → kn H3) →
      g x (wipe σ vs) Ha fun σ2 H2 => wipe σ2 vs = wipe σ vs ∧ tt σ2 H2 fun b H3 => if b = true then te σ2 H3 k else kn H3)
    (hd : ∀ ys H, H D = some (.lst ys) → Kp No H1 H → ImAll K H ys ((r.filterMap f).map dB) → Qd H) : LcGoal J g tt te vs σ H1 D Qd := by
  refine lc_it w (fun i H => ∃ ys, H D = some (.lst ys) ∧ Kp No H1 H ∧ ImAll K H ys (((r.take i).filterMap f).map dB)) ⟨[], upd_same, Kp.new hD, by simpa using ImAll.nil⟩ (fun i H _ ⟨ys, _, h2, _⟩ => hG H h2) ?_ ?_
  · rintro i x Ha Hb hir ⟨ys, h1, h2, h3⟩ hyy
    obtain ⟨eH, hd2⟩ := hy i Ha x Hb hir h2 hyy
    subst eH
    have et : (r.take (i + 1)).filterMap f = (r.take i).filterMap f ++ (f r[i]).toList := by
      rw [List.take_add_one, List.getElem?_eq_getElem hir, List.filterMap_append]
      cases hf : f r[i] <;> simp [hf]
    have ely : ys.length ≤ i := by
      rw [h3.length, List.length_map]
      exact Nat.le_trans (List.length_filterMap_le _ _) (by rw [List.length_take]; omega)
    refine hs x r[i] _ _ _ (List.getElem_mem hir) hd2 h2 (fun y b H4 e k4 im => ?_) (fun H3 e k3 => ?_)
    · have hD4 := k4.all D _ h1 fun z => z
      refine ⟨ys, hD4, Nat.lt_of_le_of_lt ely (Nat.lt_of_lt_of_le (show i < 1000000 by omega) (by decide)), ys ++ [y], upd_same, (h2.trans k4).put hD hD4, ?_⟩
      rw [et, e, List.map_append]
      have k5 : Kp (At D) _ (upd _ D (.lst (ys ++ [y]))) := Kp.set rfl hD4
      exact (ImAll.up k5 _ _ (ImAll.up k4 _ _ h3)).snoc (Im.up k5 _ _ im)
    · refine ⟨ys, k3.all D _ h1 fun z => z, h2.trans k3, ?_⟩
      rw [et, e]
      simpa using ImAll.up k3 _ _ h3
  · rintro H ⟨ys, h1, h2, h3⟩
    rw [List.take_length] at h3
    exact hd ys H h1 h2 h3
/-- .. over a tuple, a list -/
theorem lc_mapT {α β : Type} (dA : α → PyData) (dB : β → PyData) (f : α → Option β) (r : List α) {a : Addr} {xs : List V} (hD : H1 D = none) (ht : Tp K H1 a xs) (src : ImAll K H1 xs (r.map dA)) (hl : r.length ≤ 100000)
    (hs : ∀ x a Ha (k : VK) (kn : Hp → Prop), a ∈ r → Im K Ha x (dA a) → Kp No H1 Ha → (∀ y b H4, f a = some b → Kp No Ha H4 → Im K H4 y (dB b) → k y H4) → (∀ H3, f a = none → Kp No Ha H3 → kn H3) →
      g x (wipe σ vs) Ha fun σ2 H2 => wipe σ2 vs = wipe σ vs ∧ tt σ2 H2 fun b H3 => if b = true then te σ2 H3 k else kn H3)
    (hd : ∀ ys H, H D = some (.lst ys) → Kp No H1 H → ImAll K H ys ((r.filterMap f).map dB) → Qd H) : LcGoal (Itt K a) g tt te vs σ H1 D Qd := by
  have el : xs.length = r.length := by rw [src.length, List.length_map]
  refine lc_map dA dB f r (el ▸ walk_tup (xs := xs)) hD (fun i Ha x Hb hi k y => ?_) hl (fun H k => (ht.up k).sq) hs hd
  obtain ⟨eH, hx⟩ := y
  obtain ⟨d, h1, h2⟩ := src.get hx
  rw [List.getElem?_map, List.getElem?_eq_getElem hi] at h1
  obtain rfl := Option.some.inj h1
  exact ⟨eH, Im.up k _ _ h2⟩
theorem lc_mapL {α β : Type} (dA : α → PyData) (dB : β → PyData) (f : α → Option β) (r : List α) {a : Addr} {xs : List V} (hD : H1 D = none) (ht : SqL K H1 a xs) (src : ImAll K H1 xs (r.map dA)) (hl : r.length ≤ 100000)
    (hs : ∀ x a Ha (k : VK) (kn : Hp → Prop), a ∈ r → Im K Ha x (dA a) → Kp No H1 Ha → (∀ y b H4, f a = some b → Kp No Ha H4 → Im K H4 y (dB b) → k y H4) → (∀ H3, f a = none → Kp No Ha H3 → kn H3) →
      g x (wipe σ vs) Ha fun σ2 H2 => wipe σ2 vs = wipe σ vs ∧ tt σ2 H2 fun b H3 => if b = true then te σ2 H3 k else kn H3)
    (hd : ∀ ys H, H D = some (.lst ys) → Kp No H1 H → ImAll K H ys ((r.filterMap f).map dB) → Qd H) : LcGoal (Itl K a) g tt te vs σ H1 D Qd := by
  have el : xs.length = r.length := by rw [src.length, List.length_map]
  refine lc_map dA dB f r (el ▸ walk_list (xs := xs)) hD (fun i Ha x Hb hi k y => ?_) hl (fun H k => k.seq ht) hs hd
  obtain ⟨eH, hx⟩ := y
  obtain ⟨d, h1, h2⟩ := src.get hx
  rw [List.getElem?_map, List.getElem?_eq_getElem hi] at h1
  obtain rfl := Option.some.inj h1
  exact ⟨eH, Im.up k _ _ h2⟩
/-- .. over a text's signs -/
theorem lc_mapS {β : Type} (dB : β → PyData) (f : Nat → Option β) {z : Str} (hD : H1 D = none) (hl : z.cps.toList.length ≤ 100000)
    (hs : ∀ (c : Nat) Ha (k : VK) (kn : Hp → Prop), c ∈ z.cps.toList → Kp No H1 Ha → (∀ y b H4, f c = some b → Kp No Ha H4 → Im K H4 y (dB b) → k y H4) → (∀ H3, f c = none → Kp No Ha H3 → kn H3) →
      g (.str ⟨#[c]⟩) (wipe σ vs) Ha fun σ2 H2 => wipe σ2 vs = wipe σ vs ∧ tt σ2 H2 fun b H3 => if b = true then te σ2 H3 k else kn H3)
    (hd : ∀ ys H, H D = some (.lst ys) → Kp No H1 H → ImAll K H ys ((z.cps.toList.filterMap f).map dB) → Qd H) : LcGoal (Its z) g tt te vs σ H1 D Qd := by
  have el : z.cps.size = z.cps.toList.length := by simp
  refine lc_map (fun c : Nat => PyData.str ⟨#[c]⟩) dB f z.cps.toList (el ▸ walk_str) hD (fun i Ha x Hb hi k y => ?_) hl (fun _ _ => trivial) (fun x a Ha k kn ha im kp h1 h2 => ?_) hd
  · obtain ⟨eH, c, hc, rfl⟩ := y
    refine ⟨eH, ?_⟩
    have e : z.cps.toList[i] = c := by
      rw [← Array.getElem?_toList, List.getElem?_eq_getElem hi] at hc
      exact Option.some.inj hc
    rw [e]
    exact .str _
  · have e : x = .str ⟨#[a]⟩ := by cases im; rfl
    subst e
    exact hs a Ha k kn ha kp h1 h2
/-- .. over a range from 0 -/
theorem lc_mapR {β : Type} (dB : β → PyData) (f : Nat → Option β) {n : Nat} (hD : H1 D = none) (hl : n ≤ 100000)
    (hs : ∀ (i : Nat) Ha (k : VK) (kn : Hp → Prop), i < n → Kp No H1 Ha → (∀ y b H4, f i = some b → Kp No Ha H4 → Im K H4 y (dB b) → k y H4) → (∀ H3, f i = none → Kp No Ha H3 → kn H3) →
      g (.int (0 + i)) (wipe σ vs) Ha fun σ2 H2 => wipe σ2 vs = wipe σ vs ∧ tt σ2 H2 fun b H3 => if b = true then te σ2 H3 k else kn H3)
    (hd : ∀ ys H, H D = some (.lst ys) → Kp No H1 H → ImAll K H ys (((List.range n).filterMap f).map dB) → Qd H) : LcGoal (Itr 0 n) g tt te vs σ H1 D Qd := by
  have wr : Walk (Itr 0 n) (List.range n).length (fun _ => True) (YFn fun i => .int (0 + (i : Int))) := by
    rw [List.length_range]
    exact walk_range
  refine lc_map (fun c : Nat => PyData.int (0 + (c : Int))) dB f (List.range n) wr hD (fun i Ha x Hb hi k y => ?_) (by simpa using hl) (fun _ _ => trivial) (fun x a Ha k kn ha im kp h1 h2 => ?_) hd
  · obtain ⟨eH, rfl⟩ := y
    refine ⟨eH, ?_⟩
    rw [List.getElem_range]
    exact .int _
  · have e : x = .int (0 + a) := by cases im; rfl
    subst e
    exact hs a Ha k kn (List.mem_range.mp ha) kp h1 h2

/-! ### the drawing pot -/
def Pot (H : Hp) (p : Addr) : Prop := ∃ a b : Int, H p = some (.lst [.int a, .int b]) ∧ 0 ≤ a ∧ 0 ≤ b ∧ b < 2 ^ 32
theorem Pot.keep [Tb] {S : Addr → Prop} {H H' : Hp} {p : Addr} (h : Pot H p) (k : Kp S H H') (n : ¬ S p) : Pot H' p := by
  obtain ⟨a, b, e, r⟩ := h
  exact ⟨a, b, k.all p _ e n, r⟩
theorem Pot.ne {H : Hp} {p q : Addr} (h : Pot H p) (hq : H q = none) : p ≠ q := by
  obtain ⟨a, b, e, r⟩ := h
  exact ne_of_none e hq
theorem Pot.upd_ {H : Hp} {p q : Addr} {o : HO} (h : Pot H p) (n : p ≠ q) : Pot (upd H q o) p := by
  obtain ⟨a, b, e, r⟩ := h
  exact ⟨a, b, by rw [upd_ne n]; exact e, r⟩
theorem lc_draw {β : Type} (dB : β → PyData) (P : β → Prop) {lo : Int} {p : Addr} (hD : H1 D = none) (pot : Pot H1 p) (hl : n ≤ 100000)
    (hs : ∀ (i : Nat) Ha (k : VK) (kn : Hp → Prop), i < n → Kp (At p) H1 Ha → Pot Ha p → (∀ y b H4, P b → Kp (At p) Ha H4 → Pot H4 p → Im K H4 y (dB b) → k y H4) →
      g (.int (lo + i)) (wipe σ vs) Ha fun σ2 H2 => wipe σ2 vs = wipe σ vs ∧ tt σ2 H2 fun b H3 => if b = true then te σ2 H3 k else kn H3)
    (hd : ∀ (ys : List V) (bs : List β) H, H D = some (.lst ys) → Kp (At p) H1 H → Pot H p → bs.length = n → (∀ b ∈ bs, P b) → ImAll K H ys (bs.map dB) → Qd H) : LcGoal (Itr lo n) g tt te vs σ H1 D Qd := by
  have nD : p ≠ D := pot.ne hD
  refine lc_it walk_range (fun i H => ∃ (ys : List V) (bs : List β), H D = some (.lst ys) ∧ Kp (At p) H1 H ∧ Pot H p ∧ bs.length = i ∧ (∀ b ∈ bs, P b) ∧ ImAll K H ys (bs.map dB)) ⟨[], [], upd_same, Kp.new hD, pot.upd_ nD, rfl, fun b hb => (nomatch hb), ImAll.nil⟩ (fun _ _ _ _ => trivial) ?_ ?_
  · rintro i x Ha Hb hi ⟨ys, bs, h1, h2, h3, h4, h5, h6⟩ ⟨rfl, rfl⟩
    refine hs i _ _ _ hi h2 h3 (fun y b H4 hb k4 p4 im => ?_)
    have hD4 := k4.all D _ h1 fun z => nD z.symm
    have ely : ys.length = i := by rw [h6.length, List.length_map, h4]
    have k5 : Kp (At D) _ (upd _ D (.lst (ys ++ [y]))) := Kp.set rfl hD4
    refine ⟨ys, hD4, by rw [ely]; exact Nat.lt_of_lt_of_le (show i < 1000000 by omega) (by decide), ys ++ [y], bs ++ [b], upd_same, (h2.trans k4).put hD hD4, p4.upd_ nD, by simp [h4], ?_, ?_⟩
    · intro c hc
      rcases List.mem_append.mp hc with hc | hc
      · exact h5 c hc
      · rw [List.mem_singleton.mp hc]; exact hb
    · rw [List.map_append]
      exact (ImAll.up k5 _ _ (ImAll.up k4 _ _ h6)).snoc (Im.up k5 _ _ im)
  · rintro H ⟨ys, bs, h1, h2, h3, h4, h5, h6⟩
    exact hd ys bs H h1 h2 h3 h4 h5 h6
end
end Y

set_option Elab.async false
set_option linter.all false
set_option maxRecDepth 100000
set_option maxHeartbeats 2000000
set_option exponentiation.threshold 600
/-! Y3: names, layers, rows as data; small mathematics. -/
namespace Y
open PySem PySem.Spec PyProof.Rows L2

theorem mid_of {i : Int} {n : Nat} (h : i.natAbs < 2 ^ n) (hn : n ≤ 4000) : Mid i := Nat.lt_of_lt_of_le h (Nat.pow_le_pow_right (by decide) hn)
theorem mid64 {i : Int} (h1 : -18446744073709551616 < i) (h2 : i < 18446744073709551616) : Mid i := mid_of (n := 64) (by omega) (by decide)
theorem mid500 {i : Int} (h : i.natAbs < 10 ^ 500) : Mid i := mid_of (n := 1661) (Nat.lt_of_lt_of_le h (by decide +kernel)) (by decide)

theorem iteNb {A B : Prop} {b : Bool} (h : b = true) (hB : B) : if (!b) = true then A else B := by
  rw [h]
  exact iteF hB
theorem iteD {A B : Prop} {c : Prop} [Decidable c] (h1 : c → A) (h2 : ¬ c → B) : if decide c = true then A else B := by
  by_cases h : c
  · rw [decide_eq_true h]; exact h1 h
  · rw [decide_eq_false h]; exact h2 h
/-- what H does not know may have changed -/
theorem Kp.drop [Tb] {H H1 H2 : Hp} {p : Addr} (a : Kp No H H1) (hp : H p = none) (b : Kp (At p) H1 H2) : Kp No H H2 :=
  ⟨fun c o e n nt => b.all c o (a.all c o e n nt) (fun z => by rw [z, hp] at e; cases e) nt, fun c xs e => b.tup c xs (a.tup c xs e), fun c e => a.dom c (b.dom c e), fun t => b.tab (a.tab t)⟩
theorem eqv_nil (ds : List PyData) : PyData.eqv (.tuple ds) (.tuple []) = ds.isEmpty := by
  cases ds <;> simp [PyData.eqv, PyData.eqvAll]
theorem sh_nil : SeqAt.shaped (.tuple []) = true := by decide
theorem kT {K : PySem.W.Frag} {H : Hp} {a : Addr} (h : H a = some (.tup [])) : Dp K H (.ref a) (.tuple []) := .tup (.inl (.inl h)) .nil

theorem pow_le {m n : Nat} (h : m ≤ n) : (10 : Int) ^ m ≤ 10 ^ n := by
  have e := Nat.pow_le_pow_right (show 0 < 10 by decide) h
  have e2 : ((10 ^ m : Nat) : Int) ≤ ((10 ^ n : Nat) : Int) := by omega
  simpa using e2

/-! ### names -/
/-- a text of one to eight small letters -/
structure Nm (z : Str) : Prop where
  one : 1 ≤ z.length
  eight : z.length ≤ 8
  abc : ∀ c ∈ z.cps.toList, 97 ≤ c ∧ c ≤ 122
abbrev abc : Str := "abcdefghijklmnopqrstuvwxyz"
theorem abc_list : abc.cps.toList = (List.range 26).map (97 + ·) := by decide +kernel
theorem abc_at {d : Int} (h0 : 0 ≤ d) (h1 : d < 26) : atI abc.cps.toList d = some (97 + d.toNat) := by
  obtain ⟨k, rfl⟩ : ∃ k : Nat, d = k := ⟨d.toNat, by omega⟩
  refine atI_nat ?_
  rw [abc_list, List.getElem?_map, List.getElem?_range (by omega)]
  rfl
theorem str_eq {x y : Str} (h : x.cps.toList = y.cps.toList) : x = y := TL.ext_tl h
theorem len_tl (x : Str) : x.length = x.cps.toList.length := by simp [Str.length]
theorem joinL_nil : ∀ ys : List (List Nat), TL.joinL [] ys = ys.flatten
  | [] => rfl
  | [p] => by simp [TL.joinL]
  | p :: q :: r => by
    rw [TL.joinL, joinL_nil (q :: r)]
    simp
theorem flatten_single (cs : List Nat) : (cs.map fun c => [c]).flatten = cs := by induction cs with
  | nil => rfl
  | cons c cs ih => simp [ih]
theorem join_signs (cs : List Nat) : Txt.join "" (cs.map fun c => (⟨#[c]⟩ : Str)) = ⟨cs.toArray⟩ := by
  have e : (cs.map fun c => (⟨#[c]⟩ : Str)) = (cs.map fun c => [c]).map SX.S := by rw [List.map_map]; rfl
  have e2 : ("" : Str) = SX.S [] := by decide +kernel
  rw [e, e2, SX.join_S, joinL_nil, flatten_single]
theorem signs_len (cs : List Nat) : ((cs.map fun c => (⟨#[c]⟩ : Str)).map (·.length)).sum = cs.length := by
  induction cs with
  | nil => rfl
  | cons c cs ih =>
    rw [List.map_cons, List.map_cons, List.sum_cons, ih, List.length_cons]
    show 1 + cs.length = cs.length + 1
    omega
theorem nm_of_codes {cs : List Nat} (h1 : 1 ≤ cs.length) (h8 : cs.length ≤ 8) (h : ∀ c ∈ cs, 97 ≤ c ∧ c ≤ 122) : Nm ⟨cs.toArray⟩ :=
  ⟨by rw [len_tl]; exact h1, by rw [len_tl]; exact h8, h⟩
/-- the first seven signs and a letter -/
def alt (z : Str) (c : Nat) : Str := ⟨(z.cps.toList.take 7 ++ [c]).toArray⟩
theorem cut7 (z : Str) : cutS z none (some 7) = ⟨(z.cps.toList.take 7).toArray⟩ := by
  unfold cutS
  rw [show HT.sIx z.length 0 none = 0 from rfl, show HT.sIx z.length z.length (some 7) = min 7 z.length from HT.sIx_nat _ _ 7, List.drop_zero, Nat.sub_zero]
  have e : z.cps.toList.take (min 7 z.length) = z.cps.toList.take 7 := by
    rw [len_tl]
    by_cases h : z.cps.toList.length ≤ 7
    · rw [Nat.min_eq_right h, List.take_length, List.take_of_length_le h]
    · rw [Nat.min_eq_left (by omega)]
  rw [e]
theorem alt_eq (z : Str) (c : Nat) : cutS z none (some 7) ++ (⟨#[c]⟩ : Str) = alt z c := by
  rw [cut7]
  refine str_eq ?_
  show TL.tl (_ ++ _) = _
  rw [TL.tl_append]
  simp [TL.tl, alt]
theorem alt_nm {z : Str} {c : Nat} (h : Nm z) (h1 : 97 ≤ c) (h2 : c ≤ 122) : Nm (alt z c) := by
  refine nm_of_codes ?_ ?_ ?_
  · simp
  · rw [List.length_append, List.length_take]
    simp
    omega
  · intro d hd
    rcases List.mem_append.mp hd with hd | hd
    · exact h.abc d (List.mem_of_mem_take hd)
    · rw [List.mem_singleton.mp hd]; exact ⟨h1, h2⟩
theorem alt_inj {z : Str} {c d : Nat} (h : alt z c = alt z d) : c = d := by
  have e : (z.cps.toList.take 7 ++ [c]) = (z.cps.toList.take 7 ++ [d]) := congrArg (fun x : Str => x.cps.toList) h
  have e2 := List.append_cancel_left e
  simpa using e2
theorem alt_len (z : Str) (c : Nat) : (cutS z none (some 7)).length ≤ 7 := by
  rw [cut7, len_tl]
  simp
  omega
/-- a list without doubles within another one is no longer -/
theorem nodup_le {α : Type} [DecidableEq α] : ∀ {l m : List α}, l.Nodup → (∀ x ∈ l, x ∈ m) → l.length ≤ m.length
  | [], _, _, _ => Nat.zero_le _
  | x :: l, m, hn, hs => by
    obtain ⟨h1, h2⟩ := List.nodup_cons.mp hn
    have hx : x ∈ m := hs x (List.mem_cons_self ..)
    have ih := nodup_le (l := l) (m := m.erase x) h2 (fun y hy => (List.mem_erase_of_ne (fun e : y = x => h1 (by rw [← e]; exact hy))).mpr (hs y (List.mem_cons_of_mem _ hy)))
    have e := List.length_erase_of_mem hx
    have p := List.length_pos_of_mem hx
    rw [List.length_cons]
    omega
/-- the names to choose of -/
def cands (z : Str) : List Str := z :: (List.range 26).map fun k => alt z (97 + k)
theorem cands_nm {z y : Str} (h : Nm z) (hy : y ∈ cands z) : Nm y := by
  rcases List.mem_cons.mp hy with e | hy
  · rw [e]; exact h
  · obtain ⟨k, hk, rfl⟩ := List.mem_map.mp hy
    have := List.mem_range.mp hk
    exact alt_nm h (by omega) (by omega)
theorem cands_free {z : Str} {found : List Str} (h : found.length < 26) : ∃ y ys, (cands z).filter (fun y => !decide (y ∈ found)) = y :: ys := by
  cases e : (cands z).filter (fun y => !decide (y ∈ found)) with
  | cons y ys => exact ⟨y, ys, rfl⟩
  | nil =>
    exfalso
    have hall : ∀ y ∈ (List.range 26).map (fun k => alt z (97 + k)), y ∈ found := fun y hy => by
      have h2 : y ∉ (cands z).filter (fun y => !decide (y ∈ found)) := by rw [e]; exact List.not_mem_nil
      rw [List.mem_filter] at h2
      by_cases hf : y ∈ found
      · exact hf
      · exact absurd ⟨List.mem_cons_of_mem _ hy, by simp [hf]⟩ h2
    have nd : ((List.range 26).map (fun k => alt z (97 + k))).Nodup := by
      refine List.pairwise_map.mpr ((List.nodup_range (n := 26)).imp fun {a b} hab e => hab ?_)
      have := alt_inj e
      omega
    have := nodup_le nd hall
    rw [List.length_map, List.length_range] at this
    omega

/-! ### layers and rows -/
abbrev Lay := Str × Int
def layD (l : Lay) : PyData := .tuple [.str l.1, .int l.2]
def rowD (r : List Lay) : PyData := .tuple (r.map layD)
/-- a layer that can be shown: a name, a strength above 0 -/
structure LayOk (l : Lay) : Prop where
  nm : Nm l.1
  pos : 0 < l.2
  big : l.2 < 10 ^ 400
theorem nm_fine {z : Str} (h : Nm z) : fine (.str z) = true := by
  show (z.cps.toList.all fun c => decide (c < 0x110000)) = true
  rw [List.all_eq_true]
  intro c hc
  exact decide_eq_true (Nat.lt_of_le_of_lt (h.abc c hc).2 (by decide))
theorem int_fine {i : Int} (h : i.natAbs < 10 ^ 500) : fine (.int i) = true := by
  rw [fine]
  exact decide_eq_true h
theorem pos_fine {i : Int} (h0 : 0 ≤ i) (h : i < 10 ^ 400) : fine (.int i) = true := by
  refine int_fine (Nat.lt_of_lt_of_le (m := 10 ^ 400) ?_ (Nat.pow_le_pow_right (by decide) (by decide)))
  have e : ((10 ^ 400 : Nat) : Int) = 10 ^ 400 := by norm_cast
  omega
theorem fineAll_of : ∀ {ds : List PyData}, (∀ d ∈ ds, fine d = true) → fineAll ds = true
  | [], _ => rfl
  | d :: ds, h => by
    rw [fineAll, h d (List.mem_cons_self ..), fineAll_of fun x hx => h x (List.mem_cons_of_mem _ hx)]; rfl
theorem fine_tuple {ds : List PyData} (h : ∀ d ∈ ds, fine d = true) : fine (.tuple ds) = true := by
  rw [fine]; exact fineAll_of h
theorem fine_list {ds : List PyData} (h : ∀ d ∈ ds, fine d = true) : fine (.list ds) = true := by
  rw [fine]; exact fineAll_of h
theorem layD_fine {l : Lay} (h : LayOk l) : fine (layD l) = true := by
  refine fine_tuple fun d hd => ?_
  rcases List.mem_cons.mp hd with e | hd
  · rw [e]; exact nm_fine h.nm
  · rw [List.mem_singleton.mp hd]; exact pos_fine (Int.le_of_lt h.pos) h.big
theorem depthAll_le {n : Nat} : ∀ {ds : List PyData}, (∀ d ∈ ds, d.depth ≤ n) → PyData.depthAll ds ≤ n
  | [], _ => Nat.zero_le _
  | d :: ds, h => by
    rw [PyData.depthAll]
    exact Nat.max_le.mpr ⟨h d (List.mem_cons_self ..), depthAll_le fun x hx => h x (List.mem_cons_of_mem _ hx)⟩
theorem bulkAll_le {n : Nat} : ∀ {ds : List PyData}, (∀ d ∈ ds, d.bulk ≤ n) → PyData.bulkAll ds ≤ (n + 1) * ds.length
  | [], _ => by rw [PyData.bulkAll]; exact Nat.zero_le _
  | d :: ds, h => by
    have h1 := h d (List.mem_cons_self ..)
    have h2 := bulkAll_le (n := n) fun x hx => h x (List.mem_cons_of_mem _ hx)
    rw [PyData.bulkAll, List.length_cons, Nat.mul_add, Nat.mul_one]
    omega
theorem layD_deep (l : Lay) : (layD l).depth ≤ 1 := by simp [layD, PyData.depth, PyData.depthAll]
theorem layD_bulk {l : Lay} (h : LayOk l) : (layD l).bulk ≤ 10 := by
  have h1 := h.nm.eight
  have e : l.1.length = l.1.cps.size := rfl
  simp only [layD, PyData.bulk, PyData.bulkAll]
  omega
theorem rowD_deep (r : List Lay) : (rowD r).depth ≤ 2 := by
  rw [rowD, PyData.depth]
  have := depthAll_le (n := 1) (ds := r.map layD) fun d hd => by
    obtain ⟨l, _, rfl⟩ := List.mem_map.mp hd
    exact layD_deep l
  omega
theorem rowD_bulk {r : List Lay} (h : ∀ l ∈ r, LayOk l) : (rowD r).bulk ≤ 11 * r.length := by
  rw [rowD, PyData.bulk]
  have := bulkAll_le (n := 10) (ds := r.map layD) fun d hd => by
    obtain ⟨l, hl, rfl⟩ := List.mem_map.mp hd
    exact layD_bulk (h l hl)
  rw [List.length_map] at this
  exact this
theorem rowD_fine {r : List Lay} (h : ∀ l ∈ r, LayOk l) : fine (rowD r) = true := fine_tuple fun d hd => by
  obtain ⟨l, hl, rfl⟩ := List.mem_map.mp hd
  exact layD_fine (h l hl)
theorem rowD_sh {r : List Lay} (h : ∀ l ∈ r, LayOk l) (hl : r.length ≤ 1000) : Sh (rowD r) := ⟨rowD_fine h, Nat.le_trans (rowD_deep r) (by decide), Nat.le_trans (rowD_bulk h) (by omega)⟩
theorem rowD_shaped {r : List Lay} (h : ∀ l ∈ r, LayOk l) : SeqAt.shaped (rowD r) = true := fine_shaped (rowD_fine h) (Nat.le_trans (rowD_deep r) (by decide))
theorem rowD_refl {r : List Lay} (h : ∀ l ∈ r, LayOk l) : PyData.eqv (rowD r) (rowD r) = true := SeqAt.eqv_refl _ (fine_lay _ (rowD_fine h))
theorem layD_inj {a b : Lay} (h : layD a = layD b) : a = b := by
  obtain ⟨a1, a2⟩ := a
  obtain ⟨b1, b2⟩ := b
  simp [layD] at h
  simp [h]
theorem Im.layInv {K : PySem.W.Frag} {H : Hp} {v : V} {l : Lay} (h : Im K H v (layD l)) : ∃ a, v = .ref a ∧ Tp K H a [.str l.1, .int l.2] := by
  obtain ⟨a, xs, rfl, h1, h2⟩ := Im.tupInv h
  cases h2 with
  | cons e1 h2 =>
    cases h2 with
    | cons e2 h3 =>
      cases h3
      rw [Im.strInv e1, Im.intInv e2] at h1
      exact ⟨a, rfl, h1⟩
theorem Im.layMk {K : PySem.W.Frag} {H : Hp} {a : Addr} {l : Lay} (h : H a = some (.tup [.str l.1, .int l.2])) : Im K H (.ref a) (layD l) := Im.mk h (.cons (.str _) (.cons (.int _) .nil))
theorem ImAll.strs {K : PySem.W.Frag} {H : Hp} : ∀ {ys : List V} {ss : List Str}, ImAll K H ys (ss.map PyData.str) → ys = ss.map V.str
  | [], [], _ => rfl
  | _ :: _, _ :: _, .cons h1 h2 => by rw [Im.strInv h1, ImAll.strs h2]; rfl
theorem ImAll.ints {K : PySem.W.Frag} {H : Hp} : ∀ {ys : List V} {ss : List Int}, ImAll K H ys (ss.map PyData.int) → ys = ss.map V.int
  | [], [], _ => rfl
  | _ :: _, _ :: _, .cons h1 h2 => by rw [Im.intInv h1, ImAll.ints h2]; rfl
theorem ImAll.ofStrs {K : PySem.W.Frag} {H : Hp} : ∀ ss : List Str, ImAll K H (ss.map V.str) (ss.map PyData.str)
  | [] => .nil
  | s :: ss => .cons (.str s) (ImAll.ofStrs ss)
theorem ImAll.ofInts {K : PySem.W.Frag} {H : Hp} : ∀ ss : List Int, ImAll K H (ss.map V.int) (ss.map PyData.int)
  | [] => .nil
  | s :: ss => .cons (.int s) (ImAll.ofInts ss)
end Y

set_option Elab.async false
set_option linter.all false
set_option maxRecDepth 100000
set_option maxHeartbeats 4000000
/-! L1: sorted(.., key=lambda ..): the lambda is made, its code object's table grows; the keys are whole numbers or pairs of such. -/
namespace Y
open PySem PySem.Spec PyProof.Rows L2 LamX NdefX

/-! ### an object of ours is tracked from now on -/
section
variable {X : Cx} {pins : List (Addr × Obj)} {σ : L2.St} {H : Hp} {s : Shared}
theorem adopt {h' : Heap} {t' : Nat} {a : Addr} {o : HO} (I : Inv X pins σ H s) (k : ∀ b u, b ≠ a → s.heap.get? b = some u → h'.get? b = some u) (hf : FpOk X pins H a) (new : ObjOk X.prog X.w (upd H a o) h' a o) :
    Inv X pins σ (upd H a o) { s with heap := h', toks := t' } := by
  obtain ⟨hn, f1, f2, f3, f4, f5⟩ := hf
  have ne : ∀ b u, H b = some u → b ≠ a := fun b u e z => by rw [z, hn] at e; cases e
  have out : ∀ {b : Addr}, b ∉ [a] → b ≠ a := fun hc z => hc (by simp [z])
  refine I.step (g' := s.gens) (d' := s.drawn) (ch := [a]) (fun b hb => ?_) (fun b u _ _ hc e _ => k b u (out hc) e) (fun b u _ _ hc e _ => ⟨u.slots, k b u (out hc) e⟩)
    (fun b u hc e n => (upd_ne (out hc)).trans n) (fun b u hc e => ⟨u, k b u (out hc) e⟩) (fun b xs e => (upd_ne (ne b _ e)).trans e) (fun b u v e => (upd_ne (ne b _ e)).trans e) (fun b ps e => ⟨#[], by rw [upd_ne (ne b _ e), e]; simp⟩) (fun m hm => ?_) (fun b u e => ?_) I.bare
  · obtain rfl : b = a := by simpa using hb
    exact ⟨f3, f1, f4, f5⟩
  · obtain ⟨ob, es, ep, ho, r⟩ := hm
    exact ⟨ob, es, ep, k _ ob (Ne.symm f1) ho, r⟩
  · by_cases hb : b = a
    · subst hb
      rw [upd_same] at e
      cases e
      exact new
    · rw [upd_ne hb] at e
      refine (I.hok b u e).stay (fun c v hc q => k c v ?_ q) (fun c q => (upd_ne (ne c _ q)).trans q) fun c xs q => (upd_ne (ne c _ q)).trans q
      rcases hc with z | z
      · rw [z]; exact hb
      · exact ne c _ z
end

/-! ### the lambda's object -/
structure LF where
  qual : Str
  params : Arguments
  body : Expr
  scope : Scope
  cl : List (Str × Addr)
  c : Addr
abbrev LF.nf (F : LF) : NF := ⟨"<lambda>", F.qual, F.params, [], F.scope, F.cl, F.c⟩
def LamO (f : Addr) (F : LF) : HO := .ext fun h => ∃ pm ctv, h.get? f = some (PySem.W.kla_obj "<lambda>" F.qual F.params F.body F.scope F.cl pm F.c ctv)
theorem lamO_ok {P : Program} {w : World} {H : Hp} {h : Heap} {f : Addr} {F : LF} {pm ctv : Value} (e : h.get? f = some (PySem.W.kla_obj "<lambda>" F.qual F.params F.body F.scope F.cl pm F.c ctv)) : ObjOk P w H h f (LamO f F) :=
  ⟨⟨pm, ctv, e⟩, ⟨_, e⟩, fun _ _ ⟨p, t, z⟩ st => ⟨p, t, st _ z⟩⟩
theorem lamO_at {P : Program} {w : World} {H : Hp} {h : Heap} {f : Addr} {F : LF} (hok : HOk P w H h) (e : H f = some (LamO f F)) : ∃ pm ctv, h.get? f = some (PySem.W.kla_obj "<lambda>" F.qual F.params F.body F.scope F.cl pm F.c ctv) := by
  obtain ⟨z, _, _⟩ := hok f _ e
  exact z
section
variable [Tb] {X : Cx} {pins : List (Addr × Obj)} {σ : L2.St} {H : Hp} {s : Shared}
/-- a code object is told by the table at Pt from now on -/
theorem kp_table {Pt c' : Addr} {q : Str} {ps : Array Value} {pos : Pos} (hP : H Pt = some (.tbl ps)) (nC : H c' = none) (hu : ∀ p ∈ Tb.tabs, p.1 = Pt → p.2 = q) :
    Kp No H (upd (upd H Pt (.tbl (ps ++ #[rawInt pos.line, rawInt pos.col, .ref c']))) c' (CodeO c' q)) := by
  have nPc : Pt ≠ c' := ne_of_none hP nC
  have stay : ∀ b o, H b = some o → NT o → upd (upd H Pt (.tbl (ps ++ #[rawInt pos.line, rawInt pos.col, .ref c']))) c' (CodeO c' q) b = some o := fun b o e nt => by
    rw [upd_ne (ne_of_none e nC), upd_ne (fun z => by rw [z, hP] at e; rw [← Option.some.inj e] at nt; exact nt)]
    exact e
  refine ⟨fun b o e _ nt => stay b o e nt, fun b xs e => stay b _ e True.intro, fun b e => upd_none (upd_none e), fun T p hp => ?_⟩
  obtain ⟨ps', a1, a2, a3⟩ := T p hp
  have keep : ∀ {p' : Pos} {cv : Value}, codeAmong p' ps'.toList = some cv → ∃ c, cv = .ref c ∧ upd (upd H Pt (.tbl (ps ++ #[rawInt pos.line, rawInt pos.col, .ref c']))) c' (CodeO c' q) c = some (CodeO c p.2) := fun {p' cv} hc => by
    obtain ⟨c0, e1, e2⟩ := a3 p' cv hc
    exact ⟨c0, e1, stay _ _ e2 True.intro⟩
  by_cases hb : p.1 = Pt
  · have e1 : ps' = ps := by
      rw [hb, hP] at a1
      cases a1
      rfl
    subst e1
    have eL : (ps' ++ #[rawInt pos.line, rawInt pos.col, .ref c']).toList = ps'.toList ++ [rawInt pos.line, rawInt pos.col, .ref c'] := by simp
    refine ⟨_, by rw [hb, upd_ne nPc, upd_same], by rw [eL]; exact PySem.TriplesOk_snoc _ _ _ _ a2, fun p' cv hc => ?_⟩
    rw [eL] at hc
    rcases among_app _ a2 hc with z | z
    · exact keep z
    · exact ⟨c', z, by rw [hu p hp hb]; exact upd_same⟩
  · exact ⟨ps', by rw [upd_ne (ne_of_none a1 nC), upd_ne hb]; exact a1, a2, fun p' cv hc => keep hc⟩
theorem lam_made {c Pt : Addr} {params : Arguments} {body : Expr} {scope : Scope} {pos : Pos} {E : Value → Shared → Prop} {Q : Value → Shared → Prop} (I : Inv X pins σ H s) (TB : TabB X.base X.mg c Pt) (hcode : X.env.code = .ref c)
    (hm : (Pt, X.env.qual ++ "<lambda>") ∈ Tb.tabs) (hu : ∀ p ∈ Tb.tabs, p.1 = Pt → p.2 = X.env.qual ++ "<lambda>") (hT : TbOk H) (hdef : defaultsOf params X.env = ([], [])) (hfree : ∀ y ∈ scope.names, y.2 = .free → ∃ c, X.env.cells.lookup y.1 = some c)
    (h : ∀ (f c' : Addr) (H1 : Hp) (s' : Shared), Inv X pins σ H1 s' → Kp No H H1 → H1 f = some (LamO f ⟨X.env.qual ++ "<lambda>", params, body, scope, cloFrom X.env.cells scope.names [], c'⟩) → H1 c' = some (CodeO c' (X.env.qual ++ "<lambda>")) → Q (.ref f) s') :
    wpAny (model X.prog X.w) X.A (eval (.Lambda params body scope pos) X.env) Q E s := by
  obtain ⟨ps, hP, ht, ha⟩ := hT _ hm
  refine PySem.W.kla_eval hdef ?_
  have bP : s.heap.BuiltinsAt X.mg Pt := TB.bm.keeps I.bk
  have hP' : s.heap.get? Pt = some { cls := .none, data := .fields ps } := I.hok Pt _ hP
  have fin : ∀ (Ha : Hp) (h' : Heap) (tk : Nat) (c' : Addr) (ctv : Value), Inv X pins σ Ha { s with heap := h', toks := tk } → Kp No H Ha → Ha c' = some (CodeO c' (X.env.qual ++ "<lambda>")) →
      Q (.ref h'.objs.size) { s with heap := h'.push (PySem.W.kla_obj "<lambda>" (X.env.qual ++ "<lambda>") params body scope (cloFrom X.env.cells scope.names []) ((X.mg "__name__").getD .none) c' ctv), toks := tk } := by
    intro Ha h' tk c' ctv Ia ka hc
    have nF : Ha h'.objs.size = none := Ia.hok.fresh (Nat.le_refl _)
    refine h h'.objs.size c' (upd Ha h'.objs.size (LamO h'.objs.size ⟨X.env.qual ++ "<lambda>", params, body, scope, cloFrom X.env.cells scope.names [], c'⟩)) _ (Ia.laid (t' := tk) (fun b u e => Heap.get?_push_of_some _ e) (Nat.le_refl _) (lamO_ok (Heap.get?_push_size _ rfl))) (ka.trans (Kp.new nF)) upd_same ((upd_ne (ne_of_none hc nF)).trans hc)
  cases hc : codeAmong pos ps.toList with
  | none =>
    refine PySem.W.kla_makeFunction (mg := X.mg) (c := c) (P := Pt) (ps := ps) (closure_ok hfree) I.ok.glob (I.mod.glob.keeps I.bk) hcode (TB.code.keeps I.bk) hP' ht hc TB.gP bP fun c' ctv h' tk hx hge hlt hrec htb => ?_
    obtain ⟨c2, oc, vs, t, e2, hoc, hd, hv⟩ := hrec
    cases e2
    exact fin _ h' tk c' ctv (inv_table (t' := tk) (more := #[rawInt pos.line, rawInt pos.col, .ref c']) I hP hx htb hge ⟨oc, vs, t, hoc, hd, hv⟩) (kp_table hP (I.hok.fresh hge) hu) upd_same
  | some cv =>
    obtain ⟨c', e, hco⟩ := ha pos cv hc
    subst e
    exact PySem.W.kla_makeFunctionHit (mg := X.mg) (c := c) (P := Pt) (ps := ps) (closure_ok hfree) I.ok.glob (I.mod.glob.keeps I.bk) hcode (TB.code.keeps I.bk) hP' ht hc bP fun ctv h' tk hx hsz => fin H h' tk c' ctv (I.kept hx) (Kp.refl H) hco
end

/-! ### the lambda, called -/
section
variable {X : Cx} {pins : List (Addr × Obj)} {σ : L2.St} {H : Hp} {s : Shared} {N ps fr : List Str} {F : LF} {f : Addr} {k : Nat} {A' : Around} {vs : List V} {ws : List (Option V)} {us : List Value} {tb : TE} {Q : VK}
/-- what is wanted of the lambda's words -/
structure LamW (X : Cx) (k : Nat) (N ps fr : List Str) (f : Addr) (F : LF) (tb : TE) : Prop where
  sc : NScope N ps fr F.scope
  bind : ∀ (pm ctv : Value) (us : List Value), us.length = ps.length → bindArgs (PySem.W.kla_fn "<lambda>" F.qual F.params F.body F.scope F.cl pm (.ref F.c) ctv) ⟨us, []⟩ = pure (ps.zip us)
  body : ∀ (A : Around) (outer : List Env) (s : Shared) (H : Hp) (E : XK), Room k (A.deeper (envF F.nf f s.heap.objs.size)) → PE (ncx CX0 X.prog X.w X.K X.mg X.base N F.nf f A outer s H E) F.body tb
theorem lam_call {E : Value → Shared → Prop} (W : LamW X k N ps fr f F tb) (room : Room (k + 1) A') (e0 : Env0 X.prog X.w X.K X.mg X.base A' X.stack s H) (I : Inv X pins σ H s) (hf : H f = some (LamO f F)) (hc : H F.c = some (CodeO F.c F.qual)) (C : CellsAt F.cl fr ws s.heap H)
    (r : Vals vs us) (hl : vs.length = ps.length) (q : tb (startF N vs ws) H Q) : wpAny (model X.prog X.w) A' (call (.ref f) us) (EP X pins σ Q) E s := by
  obtain ⟨pm, ctv, of1⟩ := lamO_at I.hok hf
  have rc : codeAny (model X.prog X.w) A' (.call (.ref f) ⟨us, []⟩) (CR CX0 X.stack X.prog X.w H s Q fun _ _ _ => False) s := by
    refine PySem.W.kla_callFunE room.depth of1 rfl W.sc.co W.sc.gen rfl (codeO_at I.hok hc) ?_
    rw [W.bind pm ctv us (by rw [← r.length]; exact hl)]
    refine wpAny_pure (wpAny_newFunctionEnv W.sc.nocell (fun ⟨n, _⟩ hy => W.sc.par n (List.of_mem_zip hy).1) (fun h₁ hns hsb => ⟨I.nolimit.fresh _ hsb, ?_⟩) W.sc.kind)
    show codeAny _ _ (.expr F.body (envF F.nf f s.heap.objs.size)) _ _
    have kp : ∀ b o, s.heap.get? b = some o → h₁.get? b = some o := fun b o e => hsb.extBut b o (Nat.ne_of_lt (Heap.lt_size e)) (Heap.get?_push_of_some _ e)
    have J : Inv (ncx CX0 X.prog X.w X.K X.mg X.base N F.nf f A' X.stack s H fun _ _ _ => False) [] (startF N vs ws) H { s with heap := h₁, toks := s.toks + (ps.zip us).length } := inv_startN W.sc room.hd e0 hl r C hns kp
    refine PySem.W.kla_codeExpr (wpAny_mono ((W.body A' X.stack s H _ (room.deeper _)).run [] _ _ H Q J q) (fun v s' hq => ?_) fun e s' hq => hq)
    obtain ⟨w', H', J', rv, q'⟩ := hq
    exact ⟨w', H', J'.os, J'.bare, J'.base, J'.hok, rv, q'⟩
  refine wpAny_call (codeAny_mono rc fun r s' hq => ?_)
  cases r with
  | error e => exact False.elim hq
  | ok fl =>
    cases fl with
    | ret u => exact I.after hq
    | next => exact False.elim hq
    | brk => exact False.elim hq
    | cont => exact False.elim hq
end

/-! ### keys -/
/-- the key k is the pair p (two), or the whole number p.1 -/
def KeyIs (two : Bool) (H : Hp) (k : V) (p : Int × Int) : Prop := match two with
  | true => ∃ t, k = .ref t ∧ H t = some (.tup [.int p.1, .int p.2])
  | false => k = .int p.1 ∧ p.2 = 0
theorem KeyIs.up [Tb] {two : Bool} {S : Addr → Prop} {H H' : Hp} {k : V} {p : Int × Int} (h : KeyIs two H k p) (kp : Kp S H H') : KeyIs two H' k p := by
  cases two with
  | true =>
    obtain ⟨t, e, ht⟩ := h
    exact ⟨t, e, kp.tup t _ ht⟩
  | false => exact h
/-- a key's pair, read off the values -/
def kvOf (H : Hp) : Value → Int × Int
  | .int i _ => (i, 0)
  | .ref t => match H t with
    | some (.tup [.int x, .int y]) => (x, y)
    | _ => (0, 0)
  | _ => (0, 0)
theorem KeyIs.kv {two : Bool} {H : Hp} {k : V} {p : Int × Int} {u : Value} (h : KeyIs two H k p) (r : RelV k u) : kvOf H u = p := by
  cases two with
  | true =>
    obtain ⟨t, rfl, ht⟩ := h
    obtain rfl : u = Value.ref t := r
    simp only [kvOf, ht]
  | false =>
    obtain ⟨rfl, h2⟩ := h
    obtain ⟨t, rfl⟩ := r
    simp only [kvOf]
    rw [← h2]
abbrev Keys (two : Bool) (H : Hp) : List V → List (Int × Int) → Prop := Paired (KeyIs two H)
theorem paired_len {α β : Type} {R : α → β → Prop} : ∀ {l : List α} {m : List β}, Paired R l m → l.length = m.length
  | _, _, .nil => rfl
  | _, _, .cons _ h => congrArg Nat.succ (paired_len h)
theorem paired_imp {α β : Type} {R R' : α → β → Prop} (f : ∀ a b, R a b → R' a b) : ∀ {l : List α} {m : List β}, Paired R l m → Paired R' l m
  | _, _, .nil => .nil
  | _, _, .cons h t => .cons (f _ _ h) (paired_imp f t)
theorem paired_snoc {α β : Type} {R : α → β → Prop} {a : α} {b : β} (h : R a b) : ∀ {l : List α} {m : List β}, Paired R l m → Paired R (l ++ [a]) (m ++ [b])
  | _, _, .nil => .cons h .nil
  | _, _, .cons h1 t => .cons h1 (paired_snoc h t)
/-- a rearrangement on the right is one on the left -/
theorem paired_perm {α β : Type} {R : α → β → Prop} {m m' : List β} (p : m.Perm m') : ∀ {l : List α}, Paired R l m → ∃ l', l'.Perm l ∧ Paired R l' m' := by
  induction p with
  | nil => intro l h; exact ⟨l, .refl _, h⟩
  | cons x _ ih =>
    intro l h
    cases h with
    | cons h t =>
      obtain ⟨l', p', h'⟩ := ih t
      exact ⟨_ :: l', p'.cons _, .cons h h'⟩
  | swap x y r =>
    intro l h
    cases h with
    | cons h1 t =>
      cases t with
      | cons h2 t => exact ⟨_, .swap _ _ _, .cons h2 (.cons h1 t)⟩
  | trans _ _ ih1 ih2 =>
    intro l h
    obtain ⟨l1, p1, h1⟩ := ih1 h
    obtain ⟨l2, p2, h2⟩ := ih2 h1
    exact ⟨l2, p2.trans p1, h2⟩
theorem paired_mem {α β : Type} {R : α → β → Prop} {b : β} : ∀ {l : List α} {m : List β}, Paired R l m → b ∈ m → ∃ a ∈ l, R a b
  | _, _, .nil, h => nomatch h
  | _, _, .cons h t, hb => by
    rcases List.mem_cons.mp hb with e | hb
    · exact ⟨_, List.mem_cons_self, by rw [e]; exact h⟩
    · obtain ⟨a, ha, r⟩ := paired_mem t hb
      exact ⟨a, List.mem_cons_of_mem _ ha, r⟩
theorem paired_pairwise {α β : Type} {R : α → β → Prop} {T : α → α → Prop} {T' : β → β → Prop} (f : ∀ a b a' b', R a b → R a' b' → T' b b' → T a a') : ∀ {l : List α} {m : List β}, Paired R l m → m.Pairwise T' → l.Pairwise T
  | _, _, .nil, _ => .nil
  | _, _, .cons (l₁ := l) (l₂ := m) (a := a) (b := b) h t, hp => by
    obtain ⟨h1, h2⟩ := List.pairwise_cons.mp hp
    refine List.pairwise_cons.mpr ⟨fun a' ha' => ?_, paired_pairwise f t h2⟩
    obtain ⟨b', hb', r'⟩ := (show ∀ {l : List α} {m : List β}, Paired R l m → a' ∈ l → ∃ b' ∈ m, R a' b' from by
      intro l m hh
      induction hh with
      | nil => intro z; cases z
      | cons h _ ih =>
        intro z
        rcases List.mem_cons.mp z with e | z
        · exact ⟨_, List.mem_cons_self, by rw [e]; exact h⟩
        · obtain ⟨b', hb', r⟩ := ih z
          exact ⟨b', List.mem_cons_of_mem _ hb', r⟩) t ha'
    exact f _ _ _ _ h r' (h1 b' hb')

/-! ### list.sort by the key -/
theorem sortable_imp {prog : Program} {w : World} {A : Around} {s : Shared} {a : Addr} {vs : List Value} {l1 l2 : Value → Value → Bool} (h : SrtO.SortableO prog w A s a vs l1) (e : ∀ u ∈ vs, ∀ v ∈ vs, l1 u v = l2 u v) : SrtO.SortableO prog w A s a vs l2 := by
  intro h' k
  obtain ⟨κ, h1, h2⟩ := h h' k
  refine ⟨κ, h1, fun p q hp hq => wpAny_mono (h2 p q hp hq) (fun r s' hr => ⟨hr.1, hr.2.trans (e _ hp _ hq)⟩) fun _ _ z => z⟩
theorem keys_sortable {X : Cx} {pins : List (Addr × Obj)} {σ : L2.St} {H : Hp} {s : Shared} {A : Around} {a : Addr} {n : Nat} {xs : Array Value} {two : Bool} {kvs : List V} {its : List Value} {ks : List (Int × Int)} (I : Inv X pins σ H s) (hk : Keys two H kvs ks) (rv : Vals kvs its)
    (h2 : 2 ≤ its.length) (ha : s.heap.get? a = some (seqObj "list" xs n)) : SrtO.SortableO X.prog X.w A s a its fun u v => SrtO.lexB (kvOf H u) (kvOf H v) := by
  cases two with
  | true =>
    refine SrtO.pairs_sortableO (k := kvOf H) (by omega) (fun v hv => ?_) (fun o e => by
      rw [ha] at e
      cases e
      exact fun z => by
        injection z with z3
        exact absurd z3 (by decide))
    obtain ⟨kk, hm, r⟩ := paired_mem rv hv
    obtain ⟨p, _, hp⟩ : ∃ p ∈ ks, KeyIs true H kk p := by
      clear rv h2 hv
      induction hk with
      | nil => cases hm
      | cons h _ ih =>
        rcases List.mem_cons.mp hm with e | hm
        · exact ⟨_, List.mem_cons_self, by rw [e]; exact h⟩
        · obtain ⟨p, h1, h2⟩ := ih hm
          exact ⟨p, List.mem_cons_of_mem _ h1, h2⟩
    rw [hp.kv r]
    obtain ⟨t, rfl, ht⟩ := hp
    obtain rfl : v = Value.ref t := r
    obtain ⟨_, its2, r2, o, ho, hc, n', hd⟩ := I.hok _ _ ht
    obtain ⟨u1, u2, rfl, ri, rj⟩ := vals2 r2
    obtain ⟨t1, rfl⟩ := ri
    obtain ⟨t2, rfl⟩ := rj
    exact ⟨t, o, t1, t2, n', rfl, ho, hc, hd⟩
  | false =>
    have hi : IntsAre its (ks.map Prod.fst) := by
      clear h2 ha
      induction hk generalizing its with
      | nil => cases rv; exact .nil
      | cons h _ ih =>
        cases rv with
        | cons r1 r2 =>
          obtain ⟨rfl, _⟩ := h
          obtain ⟨t, rfl⟩ := r1
          exact .cons _ _ (ih r2)
    refine sortable_imp (SrtO.ints_sortable hi h2) fun u hu v hv => ?_
    obtain ⟨i, t, rfl⟩ := SrtO.ints_mem hi u hu
    obtain ⟨j, t', rfl⟩ := SrtO.ints_mem hi v hv
    show decide (i < j) = SrtO.lexB (i, 0) (j, 0)
    unfold SrtO.lexB
    by_cases e : i = j
    · rw [if_pos e]; simp [e]
    · rw [if_neg e]
section
variable [Tb] {X : Cx} {pins : List (Addr × Obj)} {σ : L2.St} {H : Hp} {s : Shared} {N fr : List Str} {F : LF} {f a : Addr} {k : Nat} {A' : Around} {js : List Nat} {tb : TE} {xs : List V} {vs : List Value} {ks : List (Int × Int)} {two : Bool}
/-- behind the key store's making: what the sort ends with -/
theorem key_tail {kS e1 : Nat} {its : List Value} {kvs : List V} {st : SortSt} {R : PySem.Fin → Shared → Prop} {E : Value → Shared → Prop} {Hc : Hp}
    (I : Inv X ((a, seqObj "list" #[] e1) :: pins) σ Hc s) (fp : FpOk X pins Hc a) (hS : Hc kS = some (.lst kvs)) (hk : Keys two Hc kvs ks) (hlk : ks.length = xs.length) (ri : Vals kvs its) (rv : Vals xs vs) (hz : vs.length ≤ sizeLine)
    (hs : SrtO.Srtd (SrtO.lt2 fun u v => SrtO.lexB (kvOf Hc u) (kvOf Hc v)) (arrOf st).toList) (hp : (arrOf st).toList.Perm (its.zip vs)) (hfl : failedOf st = none)
    (h : ∀ (ps : List ((Int × Int) × V)) (s' : Shared), ps.Perm (ks.zip xs) → SrtO.Srtd (fun x y => SrtO.lexB x.1 y.1) ps → Inv X pins σ (upd (upd Hc kS (.lst [])) a (.lst (ps.map (·.2)))) s' → R (.done (.ret .none)) s') :
    wpAny (model X.prog X.w) A' (ksk_tail a false e1 (.ref kS) st) R E s := by
  obtain ⟨hzk, its', nk, rk, hob⟩ := I.hok kS _ hS
  have hpin := I.pin (a, seqObj "list" #[] e1) (List.mem_append_right _ List.mem_cons_self)
  have hka : a ≠ kS := fun z => by
    have q := hpin.2.1
    rw [show (a, seqObj "list" #[] e1).1 = a from rfl, z, hS] at q
    cases q
  have hz2 : xs.length ≤ sizeLine := by rw [rv.length]; exact hz
  have pr : Paired (fun (x : (Int × Int) × V) (q : Keyed) => RelV x.2 q.2 ∧ kvOf Hc q.1 = x.1) (ks.zip xs) (its.zip vs) := by
    clear hs hp hz hz2 hS h hzk rk hob
    induction rv generalizing kvs its ks with
    | nil => rw [List.zip_nil_right, List.zip_nil_right]; exact .nil
    | cons r1 _ ih =>
      cases hk with
      | nil => simp at hlk
      | cons k1 k2 =>
        cases ri with
        | cons r2 r3 => exact .cons ⟨r1, k1.kv r2⟩ (ih k2 (by simpa using hlk) r3)
  obtain ⟨ps, py, ry⟩ := paired_perm hp.symm pr
  have hpl : ps.length = xs.length := by rw [py.length_eq, List.length_zip, hlk, Nat.min_self]
  have hlen : (arrOf st).size = vs.length := by
    rw [← Array.length_toList, ← paired_len ry, hpl, rv.length]
  have sy : SrtO.Srtd (fun x y => SrtO.lexB x.1 y.1) ps := paired_pairwise (T' := fun p q => SrtO.lt2 (fun u v => SrtO.lexB (kvOf Hc u) (kvOf Hc v)) q p = false) (fun x p y q r1 r2 z => by
    have z' : SrtO.lexB (kvOf Hc q.1) (kvOf Hc p.1) = false := z
    rw [r1.2, r2.2] at z'
    exact z') ry hs
  have vy : Vals (ps.map (·.2)) ((arrOf st).toList.map (·.2)) := by
    exact (show ∀ {l : List ((Int × Int) × V)} {m : List Keyed}, Paired (fun (x : (Int × Int) × V) (q : Keyed) => RelV x.2 q.2 ∧ kvOf Hc q.1 = x.1) l m → Vals (l.map (·.2)) (m.map (·.2)) from by
      intro l m hh
      induction hh with
      | nil => exact .nil
      | cons r _ ih => exact .cons r.1 ih) ry
  unfold ksk_tail
  try dsimp only
  refine wpAny_bind (listUpdate_at hob rfl ?_ (by rw [List.size_toArray, ← rk.length]; exact hzk) (Nat.zero_le _))
  refine wpAny_bind (wpAny_letGo ?_)
  have get1 : ∀ b u, b ≠ kS → s.heap.get? b = some u → (s.heap.update kS (Obj.mapSeq fun _ => (#[] : Array Value))).get? b = some u := fun b u hb e => (Heap.get?_update_ne _ _ _ _ hb).trans e
  obtain ⟨e2, he2⟩ : ∃ e2, (s.heap.update kS (Obj.mapSeq fun _ => (#[] : Array Value))).get? kS = some (seqObj "list" #[] e2) := ⟨_, get?_update_seq hob fun _ => #[]⟩
  have I1 : Inv X ((a, seqObj "list" #[] e1) :: pins) σ (upd Hc kS (.lst [])) { s with heap := s.heap.update kS (Obj.mapSeq fun _ => (#[] : Array Value)) } :=
    I.write (e := kS) (t' := s.toks) (by rw [hS]; trivial) (.inl rfl) get1 ⟨_, he2⟩ ⟨Nat.zero_le _, [], e2, .nil, he2⟩
  have ga := (I1.pin (a, seqObj "list" #[] e1) (List.mem_append_right _ List.mem_cons_self)).1
  refine wpAny_bind (seqEpoch_at ga rfl ?_)
  refine wpAny_bind (listUpdate_at ga rfl ?_ (Nat.zero_le _) ?_)
  · rw [hfl]
    simp only [bne_self_eq_false, Bool.false_eq_true, if_false]
    obtain ⟨e3, he3⟩ : ∃ e3, ((s.heap.update kS (Obj.mapSeq fun _ => (#[] : Array Value))).update a (Obj.mapSeq fun _ => (arrOf st).map (·.2))).get? a = some (seqObj "list" ((arrOf st).map (·.2)) e3) := ⟨_, get?_update_seq ga fun _ => (arrOf st).map (·.2)⟩
    have I2 : Inv X pins σ (upd Hc kS (.lst [])) { s with heap := s.heap.update kS (Obj.mapSeq fun _ => (#[] : Array Value)) } := I1.pins_of fun p hp => I1.pin p (List.mem_append_right _ (List.mem_cons_of_mem _ hp))
    refine wpAny_pure (h ps _ py sy (adopt (s := { s with heap := s.heap.update kS (Obj.mapSeq fun _ => (#[] : Array Value)) }) (t' := s.toks) I2 (fun b u hb e => (Heap.get?_update_ne _ _ _ _ hb).trans e) ⟨(upd_ne hka).trans fp.1, fp.2⟩ ?_))
    refine ⟨by rw [List.length_map, hpl]; exact hz2, (arrOf st).toList.map (·.2), e3, vy, ?_⟩
    have ea : ((arrOf st).toList.map (·.2)).toArray = (arrOf st).map (·.2) := by
      apply Array.ext'
      simp
    rw [ea]
    exact he3
  · simp only [Bool.false_eq_true, if_false, Array.size_map, hlen]
    omega
theorem key_sort {p0 : Str} {n : Nat} {R : PySem.Fin → Shared → Prop} {E : Value → Shared → Prop} (W : LamW X k N [p0] fr f F tb) (room : Room (k + 1) A') (hA : A'.frames = X.A.frames) (I : Inv X pins σ H s) (hf : H f = some (LamO f F)) (hc : H F.c = some (CodeO F.c F.qual))
    (cp : Caps X F.cl fr js) (rv : Vals xs vs) (hz : vs.length ≤ sizeLine) (ho : s.heap.get? a = some (seqObj "list" vs.toArray n)) (fp : ∀ H', H' a = none → FpOk X pins H' a) (ha0 : H a = none)
    (hlk : ks.length = xs.length) (turn : ∀ (i : Nat) (x : V) (ki : Int × Int), xs[i]? = some x → ks[i]? = some ki → ∀ Hc, Kp No H Hc → tb (startF N [x] (js.map (slotAt σ))) Hc fun kk H3 => Kp No Hc H3 ∧ KeyIs two H3 kk ki)
    (h : ∀ (ps : List ((Int × Int) × V)) (H' : Hp) (s' : Shared), ps.Perm (ks.zip xs) → SrtO.Srtd (fun x y => SrtO.lexB x.1 y.1) ps → Kp No H H' → Inv X pins σ H' s' → H' a = some (.lst (ps.map (·.2))) → R (.done (.ret .none)) s') :
    wpAny (model X.prog X.w) A' (ksk_tree a (.ref f) false) R E s := by
  have ha : a < s.heap.objs.size := Heap.lt_size ho
  unfold ksk_tree
  refine wpAny_bind (listItems_at ho rfl ?_)
  refine wpAny_bind (listUpdate_at ho rfl ?_ (by rw [List.size_toArray]; exact hz) (Nat.zero_le _))
  obtain ⟨e1, ho1⟩ : ∃ e1, (s.heap.update a (Obj.mapSeq fun _ => (#[] : Array Value))).get? a = some (seqObj "list" #[] e1) := ⟨_, get?_update_seq ho fun _ => #[]⟩
  refine wpAny_bind (seqEpoch_at ho1 rfl ?_)
  refine wpAny_bind (wpAny_newTuple ?_ (by show vs.length ≤ _; exact hz))
  refine wpAny_bind (wpAny_newList ?_ (Nat.zero_le _))
  refine wpAny_holding ?_
  have I1 : Inv X pins σ H { s with heap := s.heap.update a (Obj.mapSeq fun _ => (#[] : Array Value)) } := I.turnedL (t' := s.toks) (ch := [a]) (fun b o hb e => (Heap.get?_update_ne _ _ _ _ (fun z => hb (by simp [z]))).trans e) fun b hb => by
    obtain rfl : b = a := by simpa using hb
    exact fp H ha0
  have I2 : Inv X pins σ H { s with heap := (s.heap.update a (Obj.mapSeq fun _ => (#[] : Array Value))).push (seqObj "tuple" vs.toArray 0) } := I1.kept (t' := s.toks) fun b o e => Heap.get?_push_of_some _ e
  generalize hh2 : (s.heap.update a (Obj.mapSeq fun _ => (#[] : Array Value))).push (seqObj "tuple" vs.toArray 0) = h2 at I2 ⊢
  have ho2 : h2.get? a = some (seqObj "list" #[] e1) := by rw [← hh2]; exact Heap.get?_push_of_some _ ho1
  have nS : H h2.objs.size = none := I2.hok.fresh (Nat.le_refl _)
  have I3 : Inv X pins σ (upd H h2.objs.size (.lst [])) { s with heap := h2.push (seqObj "list" #[] 0) } := I2.laid (t' := s.toks) (fun b o e => Heap.get?_push_of_some _ e) (Nat.le_refl _) ⟨Nat.zero_le _, [], 0, .nil, Heap.get?_push_size _ rfl⟩
  have haS : a ≠ h2.objs.size := Nat.ne_of_lt (Heap.lt_size ho2)
  have na3 : upd H h2.objs.size (.lst []) a = none := (upd_ne haS).trans ha0
  have fpa := fp _ na3
  have I4 : Inv X ((a, seqObj "list" #[] e1) :: pins) σ (upd H h2.objs.size (.lst [])) { s with heap := h2.push (seqObj "list" #[] 0) } := I3.pins_of fun p hp => by
    rcases List.mem_cons.mp hp with e | hp
    · rw [e]
      exact ⟨Heap.get?_push_of_some _ ho2, na3, fpa.2.1, fpa.2.2.1, fun v z => by cases z⟩
    · exact I3.pin p (List.mem_append_right _ hp)
  show wpAny (model X.prog X.w) A' (ksk_rest a (.ref f) false vs.toArray e1 (.ref h2.objs.size)) R E { s with heap := h2.push (seqObj "list" #[] 0) }
  generalize h2.objs.size = kS at *
  unfold ksk_rest
  refine wpAny_bind (wpAny_rule ?_)
  first
    | rw [List.forIn_toArray]
    | (rw [← Array.forIn_toList]; simp only [List.toList_toArray])
    | rw [← Array.forIn_toList]
  refine wpAny_bind (ksk_fold (fun i s' => ∃ (Hc : Hp) (kvs : List V), Inv X ((a, seqObj "list" #[] e1) :: pins) σ Hc s' ∧ Kp No H Hc ∧ Hc kS = some (.lst kvs) ∧ Keys two Hc kvs (ks.take i)) vs 0 _
    ⟨_, [], I4, Kp.new nS, upd_same, by simpa using Paired.nil⟩ ?step ?done)
  case step =>
    rintro j u s' hu ⟨Hc, kvs, Ic, kc, hS, hk⟩
    simp only [Nat.zero_add] at hk ⊢
    have hj : j < vs.length := (List.getElem?_eq_some_iff.mp hu).1
    have hjx : j < xs.length := by rw [rv.length]; exact hj
    have ex : xs[j]? = some xs[j] := List.getElem?_eq_getElem hjx
    obtain ⟨u', hu', rx⟩ := rv.get ex
    rw [hu] at hu'
    cases hu'
    have hjk : j < ks.length := by rw [hlk]; exact hjx
    have ek : ks[j]? = some ks[j] := List.getElem?_eq_getElem hjk
    have e0 : Env0 X.prog X.w X.K X.mg X.base A' X.stack s' Hc := { Ic.env0 with frames := hA.trans Ic.env0.frames }
    refine wpAny_bind (wpAny_attempt (wpAny_mono (lam_call (E := fun _ _ => False) W room e0 Ic (kc.all f _ hf id) (kc.all F.c _ hc id) (cells_of Ic cp) (.cons rx .nil) rfl (turn j _ _ ex ek Hc kc)) (fun v s'' he => ?_) fun _ _ hF => hF.elim))
    obtain ⟨kk, H3, I3', rk, k3, key⟩ := he
    have hS3 := k3.all kS _ hS id
    obtain ⟨hzk, its, n3, rk3, hob⟩ := I3'.hok kS _ hS3
    have lk : kvs.length = j := by rw [paired_len hk, List.length_take]; omega
    have li : its.toArray.size = j := by rw [List.size_toArray, ← rk3.length, lk]
    try dsimp only
    obtain ⟨c2, hc2⟩ : ∃ c2, (s''.heap.update kS (Obj.mapSeq (·.push v))).get? kS = some (seqObj "list" (its.toArray.push v) c2) := ⟨_, get?_update_seq hob (·.push v)⟩
    refine wpAny_bind (listUpdate_at hob rfl ?_ (by rw [li]; omega) (Nat.le_trans (Nat.le_of_eq (Array.size_push ..)) (by rw [li]; omega)))
    refine wpAny_pure ⟨rfl, upd H3 kS (.lst (kvs ++ [kk])), kvs ++ [kk], I3'.write (e := kS) (t' := s''.toks) (by rw [hS3]; trivial) (.inl rfl) (fun b o hb e => (Heap.get?_update_ne _ _ _ _ hb).trans e) ⟨_, hc2⟩ ⟨?_, its ++ [v], c2, paired_snoc rk rk3, by
        have ea : (its ++ [v]).toArray = its.toArray.push v := by simp
        rw [ea]
        exact hc2⟩, (kc.trans k3).put nS hS3, upd_same, ?_⟩
    · rw [List.length_append, lk]
      have : j + 1 ≤ vs.length := hj
      simp only [List.length_singleton]
      omega
    · have et : ks.take (j + 1) = ks.take j ++ [ks[j]] := by
        rw [List.take_add_one, ek]
        rfl
      rw [et]
      have kset : Kp (At kS) H3 (upd H3 kS (.lst (kvs ++ [kk]))) := Kp.set rfl hS3
      exact paired_snoc (key.up kset) (paired_imp (fun _ _ z => (z.up k3).up kset) hk)
  case done =>
    rintro s' ⟨Hc, kvs, Ic, kc, hS, hk⟩
    have ef : ks.take (0 + vs.length) = ks := List.take_of_length_le (by rw [hlk, rv.length]; omega)
    rw [ef] at hk
    obtain ⟨hzk, its, n3, rk3, hob⟩ := Ic.hok kS _ hS
    have hpin := Ic.pin (a, seqObj "list" #[] e1) (List.mem_append_right _ List.mem_cons_self)
    have li : its.length = vs.length := by rw [← rk3.length, paired_len hk, hlk, rv.length]
    refine wpAny_bind (listItems_at hob rfl ?_)
    have fin : ∀ st : SortSt, SrtO.Srtd (SrtO.lt2 fun u v => SrtO.lexB (kvOf Hc u) (kvOf Hc v)) (arrOf st).toList → (arrOf st).toList.Perm (its.zip vs) → failedOf st = none → wpAny (model X.prog X.w) A' (ksk_tail a false e1 (.ref kS) st) R E s' := fun st h1 h2 h3 =>
      key_tail (two := two) Ic (fp Hc hpin.2.1) hS hk hlk rk3 rv hz h1 h2 h3 fun ys s2 p1 p2 I5 => h ys _ s2 p1 p2 (by
        have kk1 : Kp No H (upd Hc kS (.lst [])) := kc.put nS hS
        have na : upd Hc kS (.lst []) a = none := (upd_ne haS).trans hpin.2.1
        exact kk1.trans (Kp.new na)) I5 upd_same
    have ez : (its.toArray.zip vs.toArray).toList = its.zip vs := ksk_zip its.toArray vs
    unfold ksk_end
    simp only [Bool.false_eq_true, if_false]
    by_cases h2 : vs.toArray.size < 2
    · rw [if_pos h2, if_pos h2]
      refine wpAny_bind (wpAny_pure ?_)
      rw [StateT.run_pure]
      refine wpAny_bind (wpAny_pure ?_)
      refine fin (SortSt.mk' general' (its.toArray.zip vs.toArray) #[] 7 none) ?_ ?_ rfl
      · show SrtO.Srtd _ (its.toArray.zip vs.toArray).toList
        rw [ez]
        have hs : (its.zip vs).length < 2 := by
          rw [List.length_zip, li]
          rw [List.size_toArray] at h2
          omega
        generalize its.zip vs = l at hs
        match l, hs with
        | [], _ => exact .nil
        | [v], _ => exact List.pairwise_singleton _ _
        | _ :: _ :: l, h => exact absurd h (by rw [List.length_cons, List.length_cons]; omega)
      · show (its.toArray.zip vs.toArray).toList.Perm _
        rw [ez]
    · rw [if_neg h2, if_neg h2]
      rw [List.size_toArray] at h2
      obtain ⟨κ, hkind, hT⟩ := keys_sortable (A := A') Ic hk rk3 (by omega) hpin.1 s'.heap fun _ _ _ e => e
      refine wpAny_bind (hkind _ _ ?_)
      refine wpAny_bind (wpAny_mono (SrtO.wpS_sortO (st0 := SortSt.mk' κ (its.toArray.zip vs.toArray) #[] 7 none)
        (Q := fun _ st' => SrtO.Srtd (SrtO.lt2 fun u v => SrtO.lexB (kvOf Hc u) (kvOf Hc v)) (arrOf st').toList ∧ (arrOf st').toList.Perm (its.zip vs) ∧ failedOf st' = none) (SrtO.swo2 (SrtO.swo_lex (kvOf Hc))) hT rfl (fun p hm => ?_) rfl rfl fun st' a1 a2 a3 => ⟨a1, by
          have q := a2.perm
          rw [show (arrOf (SortSt.mk' κ (its.toArray.zip vs.toArray) #[] 7 none)).toList = its.zip vs from ez] at q
          exact q, a3⟩) ?_ fun _ _ e => e)
      · have hm' : p ∈ (its.toArray.zip vs.toArray).toList := hm
        rw [ez] at hm'
        exact (List.of_mem_zip (a := p.1) (b := p.2) hm').1
      · rintro ⟨⟨⟩, st'⟩ s2 ⟨rfl, hp1, hp2, hf2⟩
        exact fin st' hp1 hp2 hf2
end

/-! ### sorted(.., key=lambda ..) as a rule -/
/-- the items of a list, of a range from 0 -/
def Src (K : PySem.W.Frag) (H : Hp) (v : V) (xs : List V) : Prop := ∃ a, v = .ref a ∧ (SqL K H a xs ∨ ∃ n : Nat, H a = some (.rng 0 n) ∧ n ≤ 100000 ∧ xs = (List.range n).map fun i : Nat => V.int i)
/-- the keys are told one by one; the result as pairs of keys and items -/
def tSortI [Tb] (K : PySem.W.Frag) (N : List Str) (js : List Nat) (tb : TE) (te : TE) : TE := fun σ H Q => te σ H fun v H1 => TbOk H1 ∧ ∃ (xs : List V) (two : Bool) (ks : List (Int × Int)), Src K H1 v xs ∧ ks.length = xs.length ∧
  (∀ (i : Nat) (x : V) (ki : Int × Int), xs[i]? = some x → ks[i]? = some ki → ∀ Hc, Kp No H1 Hc → tb (startF N [x] (js.map (slotAt σ))) Hc fun kk H3 => Kp No Hc H3 ∧ KeyIs two H3 kk ki) ∧
  ∀ (ps : List ((Int × Int) × V)) (p : Addr) (H' : Hp), ps.Perm (ks.zip xs) → SrtO.Srtd (fun x y => SrtO.lexB x.1 y.1) ps → Kp No H1 H' → H1 p = none → H' p = some (.lst (ps.map (·.2))) → Q (.ref p) H'
def tSortL [Tb] (K : PySem.W.Frag) (N : List Str) (js : List Nat) (tb : TE) (te : TE) : TE := fun σ H Q => te σ H fun v H1 => TbOk H1 ∧ ∃ (xs : List V) (two : Bool) (kf : V → Int × Int), Src K H1 v xs ∧
  (∀ x ∈ xs, ∀ Hc, Kp No H1 Hc → tb (startF N [x] (js.map (slotAt σ))) Hc fun kk H3 => Kp No Hc H3 ∧ KeyIs two H3 kk (kf x)) ∧
  ∀ (ys : List V) (p : Addr) (H' : Hp), ys.Perm xs → SrtO.Srtd (fun x y => SrtO.lexB (kf x) (kf y)) ys → Kp No H1 H' → H1 p = none → H' p = some (.lst ys) → Q (.ref p) H'
def tLamb [Tb] (mk : Addr → LF) : TE := fun σ H Q => TbOk H ∧ ∀ f c' H1, Kp No H H1 → H1 f = some (LamO f (mk c')) → H1 c' = some (CodeO c' (mk c').qual) → Q (.ref f) H1
section
variable [Tb] {X : Cx} {c Pt : Addr} {params : Arguments} {body : Expr} {scope : Scope} {lpos kpos pos p : Pos} {e : Expr} {te tb : TE} {N fr : List Str} {js : List Nat} {k : Nat} {p0 : Str}
theorem pe_lamb (TB : TabB X.base X.mg c Pt) (hcode : X.env.code = .ref c) (hm : (Pt, X.env.qual ++ "<lambda>") ∈ Tb.tabs) (hu : ∀ p ∈ Tb.tabs, p.1 = Pt → p.2 = X.env.qual ++ "<lambda>") (hdef : defaultsOf params X.env = ([], []))
    (hfree : ∀ y ∈ scope.names, y.2 = .free → X.env.scope.names.lookup y.1 = some .cell ∨ X.env.scope.names.lookup y.1 = some .free) :
    PE X (.Lambda params body scope lpos) (tLamb fun c' => ⟨X.env.qual ++ "<lambda>", params, body, scope, cloFrom X.env.cells scope.names [], c'⟩) := by
  refine ⟨fun pins s σ H Q I h => ?_⟩
  obtain ⟨hT, h⟩ := h
  exact lam_made I TB hcode hm hu hT hdef (fun y hy e => (hfree y hy e).elim (fun z => I.ok.has _ (.inl z)) fun z => I.ok.has _ (.inr z)) fun f c' H1 s' I1 k1 h1 h2 => ⟨.ref f, H1, I1, rfl, h f c' H1 k1 h1 h2⟩
theorem vals_range {acc : Array Value} {n : Nat} (h : ItemsOf (fun i v => ∃ t, v = Value.int ((0 : Int) + (i : Int) * 1) t) acc n) : Vals ((List.range n).map fun i : Nat => V.int i) acc.toList := by
  have key : ∀ (l : List Value) (j : Nat), (∀ i v, l[i]? = some v → ∃ t, v = Value.int ((j + i : Nat) : Int) t) → Vals ((List.range' j l.length).map fun i : Nat => V.int i) l := by
    intro l
    induction l with
    | nil => intro j _; exact .nil
    | cons v l ih =>
      intro j hj
      rw [List.length_cons, List.range'_succ, List.map_cons]
      refine .cons (hj 0 v rfl) (ih (j + 1) fun i u hu => ?_)
      obtain ⟨t, e⟩ := hj (i + 1) u (by simpa using hu)
      exact ⟨t, by rw [e]; congr 1; omega⟩
  have q := key acc.toList 0 fun i v hv => by
    obtain ⟨t, e⟩ := h.2 i v (by rw [← Array.getElem?_toList]; exact hv)
    exact ⟨t, by rw [e]; congr 1; omega⟩
  rw [Array.length_toList, h.1, ← List.range_eq_range'] at q
  exact q
theorem collect_src {pins : List (Addr × Obj)} {σ : L2.St} {H : Hp} {s : Shared} {v : V} {u : Value} {xs : List V} {A : Around} {R : List Value → Shared → Prop} {E : Value → Shared → Prop} (I : Inv X pins σ H s) (hh : A.handled = none) (hs : Src X.K H v xs) (r : RelV v u)
    (h : ∀ (acc : List Value) (h' : Heap) (tk : Nat), (∀ b o, s.heap.get? b = some o → h'.get? b = some o) → Vals xs acc → acc.length ≤ sizeLine → R acc { s with heap := h', toks := tk }) : wpAny (model X.prog X.w) A (collect u) R E s := by
  obtain ⟨a, rfl, hs⟩ := hs
  obtain rfl : u = Value.ref a := r
  rcases hs with hs | ⟨n, hr, hn, rfl⟩
  · obtain ⟨its, rv, hl, hz⟩ := I.list hs
    refine collect_list hl.isList (h its _ s.toks (fun b o q => ?_) rv (by rw [← rv.length]; exact hz)) (by rw [← rv.length]; exact hz)
    have hlt : b < s.heap.objs.size := Heap.lt_size q
    exact (Heap.get?_update_ne _ _ _ _ (Nat.ne_of_lt hlt)).trans (Heap.get?_push_of_some _ q)
  · obtain ⟨t, u, v, ho⟩ := I.hok a _ hr
    have es : Builtin.Range.rangeSize 0 n 1 = n := by
      unfold Builtin.Range.rangeSize
      split <;> omega
    refine collect_range (a := 0) (b := n) (c := 1) hh ho (small_one (by decide) (by decide) (by omega) (by omega)) es (by omega) fun h' tk acc hk hi => ?_
    have rv := vals_range hi
    refine h acc.toList h' tk hk rv ?_
    rw [← rv.length, List.length_map, List.length_range]
    exact Nat.le_trans hn (by decide)
/-- sorted(e, key=lambda p0: body) -/
theorem ye_sortI (TB : TabB X.base X.mg c Pt) (hcode : X.env.code = .ref c) (hm : (Pt, X.env.qual ++ "<lambda>") ∈ Tb.tabs) (hu : ∀ p ∈ Tb.tabs, p.1 = Pt → p.2 = X.env.qual ++ "<lambda>") (hb : ndefB X.env.scope scope fr = true)
    (hjs : js.map (fun j => X.N[j]?) = fr.map some) (hdef : defaultsOf params X.env = ([], [])) (room : Room (k + 3) X.A) (hg : Gl X "sorted") (hmg : X.mg "sorted" = none)
    (W : ∀ f c', LamW X k N [p0] fr f ⟨X.env.qual ++ "<lambda>", params, body, scope, cloFrom X.env.cells scope.names [], c'⟩ tb) (he : PE X e te)
    (h1 : backTo pos (starEach [e] X.env) = (false, eval e X.env) :: backTo pos (starEach [] X.env) := by rfl) (hpl : (backTo pos (starEach [e] X.env)).any (·.1) = false := by rfl) (hsp : starEach [e] X.env = (false, eval e X.env) :: starEach [] X.env := by rfl) :
    PE X (.Call (.Name "sorted" p) [e] [⟨some "key", .Lambda params body scope lpos, kpos⟩] pos) (tSortI X.K N js tb te) := by
  refine ⟨fun pins s σ H Q I h => ?_⟩
  have hk := pk_cons (nm := some "key") (kpos := kpos) (pe_lamb (lpos := lpos) (body := body) TB hcode hm hu hdef (ndef_free hb)) pk_nil
  refine wpAny_Call_Name_kw (ld_blt I hg hmg boot_sorted ?_ (by decide) (by decide))
  refine PyProof.Rows.callWith_kw (one_arg he I h (fun v s1 x H1 I1 r1 q1 => ?_) hsp) h1 hpl (by rfl) (by rfl)
  obtain ⟨hT, xs, two, ks, src, hlk, turn, q⟩ := q1
  refine thn (hk.run pos pins s1 σ H1 (fun zs H2 => ∃ f c', zs = [.ref f] ∧ Kp No H1 H2 ∧ H2 f = some (LamO f ⟨X.env.qual ++ "<lambda>", params, body, scope, cloFrom X.env.cells scope.names [], c'⟩) ∧ H2 c' = some (CodeO c' (X.env.qual ++ "<lambda>"))) I1 ⟨hT, fun f c' H2 k2 hf hc => ⟨f, c', rfl, k2, hf, hc⟩⟩) fun ws s2 ⟨zs, H2, I2, r2, f, c', ez, k2, hf, hc⟩ => ?_
  subst ez
  obtain rfl := Vals.ref1 r2
  show wpAny _ _ (call (.builtin "sorted") [v] [(Str.ofString "key", .ref f)]) _ _ _
  have src2 : Src X.K H2 x xs := by
    obtain ⟨a, e1, hs⟩ := src
    refine ⟨a, e1, ?_⟩
    rcases hs with hs | ⟨n, h1, h2⟩
    · exact .inl (k2.seq hs)
    · exact .inr ⟨n, k2.all a _ h1 id, h2⟩
  refine call_function_entry_kw kind_sorted plain_sorted entry_sorted (ksk_s1 _ _) ?_
  unfold Builtin.«sorted»
  refine wpAny_bind (m := checkCount "sorted" 1 1 _) (wpAny_pure ?_)
  refine wpAny_bind (collect_src I2 room.in1.hd src2 r1 fun acc h' tk kp rv hz => ?_)
  refine wpAny_bind (wpAny_newList ?_ hz)
  have I3 : Inv X pins σ H2 { s2 with heap := h', toks := tk } := I2.kept kp
  have I4 : Inv X pins σ H2 { s2 with heap := h'.push (seqObj "list" acc.toArray 0), toks := tk } := I3.kept (t' := tk) fun b o e => Heap.get?_push_of_some _ e
  have hoL : (h'.push (seqObj "list" acc.toArray 0)).get? h'.objs.size = some (seqObj "list" acc.toArray 0) := Heap.get?_push_size _ rfl
  have na : H2 h'.objs.size = none := I3.hok.fresh (Nat.le_refl _)
  refine wpAny_bind (wpAny_holding (wpAny_call_entry_kw slot_list_sort ⟨_, hoL, rfl⟩ entry_list_sort ?body (ksk_l1 _ _)))
  case body =>
    rw [ksk_t1]
    refine key_sort (two := two) (ks := ks) (W f c') (room.in1.in1) rfl I4 hf hc (Caps.made I4.ok (ndef_free hb) (ndef_fr hb) hjs) rv hz hoL (fun H' hn => I3.fpOk (Nat.le_refl _) hn) na hlk (fun i x' ki h1 h2 Hc kc => turn i x' ki h1 h2 Hc (k2.trans kc)) fun ys H' s' p1 p2 k3 I5 hp => ⟨_, rfl, ?_⟩
    exact wpAny_pure ⟨_, rfl, ⟨.ref h'.objs.size, H', I5, rfl, q ys _ H' p1 p2 (k2.trans k3) (k2.dom _ na) hp⟩⟩
theorem zip_map_mem {kf : V → Int × Int} : ∀ {xs : List V} {p : (Int × Int) × V}, p ∈ (xs.map kf).zip xs → p.1 = kf p.2
  | x :: xs, p, h => by
    rw [List.map_cons, List.zip_cons_cons] at h
    rcases List.mem_cons.mp h with e | h
    · rw [e]
    · exact zip_map_mem h
theorem ye_sortL {e : Expr} {te : TE} (h : PE X (.Call (.Name "sorted" p) [e] [⟨some "key", .Lambda params body scope lpos, kpos⟩] pos) (tSortI X.K N js tb (cl te))) :
    PE X (.Call (.Name "sorted" p) [e] [⟨some "key", .Lambda params body scope lpos, kpos⟩] pos) (tSortL X.K N js tb te) :=
  PE.imp h fun σ H Q h => ⟨_, h, fun v H1 q => by
    obtain ⟨hT, xs, two, kf, src, turn, q⟩ := q
    refine ⟨hT, xs, two, xs.map kf, src, List.length_map .., fun i x ki h1 h2 Hc kc => ?_, fun ps pa H' p1 p2 k1 n1 h1 => ?_⟩
    · rw [List.getElem?_map, h1] at h2
      obtain rfl := Option.some.inj h2
      exact turn x (List.mem_of_getElem? h1) Hc kc
    · refine q (ps.map (·.2)) pa H' ?_ ?_ k1 n1 h1
      · have z := p1.map (·.2)
        have e2 : ((xs.map kf).zip xs).map (·.2) = xs := List.map_snd_zip (by rw [List.length_map]; exact Nat.le_refl _)
        rw [e2] at z
        exact z
      · refine List.pairwise_map.mpr (p2.imp_of_mem fun {a b} ha hb z => ?_)
        have z' : SrtO.lexB b.1 a.1 = false := z
        rw [zip_map_mem (p1.mem_iff.mp ha), zip_map_mem (p1.mem_iff.mp hb)] at z'
        exact z'⟩
end
end Y

set_option Elab.async false
set_option linter.all false
set_option maxRecDepth 100000
set_option maxHeartbeats 4000000
/-! M1: defs that make lambdas, by name; range as a thing; isinstance. -/
namespace Y
open PySem PySem.Spec PyProof.Rows L2 LamX NdefX

/-! ### a def whose code object and table are known -/
def DefL (K : PySem.W.Frag) (mg : Str → Option Value) (x : Str) (st : Stmt) (c : Addr) : Prop :=
  ∃ f fd, FunD K x x (defArgs st) (defBody st) (defScope st) [] [] f fd ∧ mg x = some (.ref f) ∧ fd.code = .ref c
abbrev lamName (x : Str) : Str := (x ++ ".<locals>.") ++ "<lambda>"
/-- the def st at the module's name x makes lambdas; its table is one of those that are kept -/
def LamAt [Tb] (K : PySem.W.Frag) (mg : Str → Option Value) (base : Heap) (x : Str) (st : Stmt) : Prop :=
  ∃ c Pt, DefL K mg x st c ∧ TabB base mg c Pt ∧ (Pt, lamName x) ∈ Tb.tabs ∧ ∀ p ∈ Tb.tabs, p.1 = Pt → p.2 = lamName x
section
variable {P : Program} {w : World} {K : PySem.W.Frag} {mg : Str → Option Value} {base : Heap} {k : Nat} {x : Str} {sp : Sp}
theorem defL_of {st : Stmt} {p : Str × Option Str} {fd : FuncData} (F : FunD K x x (defArgs st) (defBody st) (defScope st) [] [] (He.fAd K p) fd) (hm : mg x = some (.ref (He.fAd K p))) : DefL K mg x st (He.codeOf K p) := by
  refine ⟨_, fd, F, hm, ?_⟩
  obtain ⟨_, _, _, _, _, _, _, cd, _, _, e, lk, hcd, _, _⟩ := F.ex
  obtain ⟨c, rfl⟩ := He.codeIn_ref hcd
  have e2 : fd.code = .ref c := by rw [e]
  rw [He.codeOf_eq lk e2]
  exact e2
theorem cal_ofL {st : Stmt} {N ps : List Str} {c : Addr} (D : DefL K mg x st c) (S : FnScope N ps (defScope st))
    (bnd : ∀ (kV doc pm : Value) (an : Option Addr) (cdv ct : Value) (us : List Value), us.length = ps.length → bindArgs (PySem.W.fnOf x x (defArgs st) (defBody st) (defScope st) .none kV doc pm an cdv ct) ⟨us, []⟩ = pure (ps.zip us))
    (ar : ∀ vs H Q E, sp vs H Q E → vs.length = ps.length)
    (hb : ∀ (f : Addr) (A : Around) (out : List Env) (s : Shared) (H : Hp) (vs : List V) (Q : VK) (E : XK), Room k (A.deeper (envOfC x (defScope st) s.heap.objs.size f (.ref c))) → (A.deeper (envOfC x (defScope st) s.heap.objs.size f (.ref c))).guards = some [] → sp vs H Q E →
      ∃ t, PSs (cxOf CX0 P w K mg base N x (defScope st) f (.ref c) A out s H E).nox (defBody st) t ∧ t { nx := fun _ H' => Q .non H', rt := Q } (start N vs) H) : Cal P w K mg base (k + 1) x sp := by
  obtain ⟨f, fd, F, hm, hc⟩ := D
  refine ⟨f, fd, ps, ?_, hm, F.kp, F.bindsN bnd⟩
  obtain ⟨_, _, _, _, _, _, _, cd, _, _, rfl, lk, hcd, _, _⟩ := F.ex
  obtain rfl : cd = .ref c := hc
  refine goes_of lk hcd S ar fun A out s H vs Q E r g q => ?_
  obtain ⟨t, h1, h2⟩ := hb f A out s H vs Q E r g q
  exact ⟨t, h1.nox, h2⟩
end

/-! ### range(n) as a thing, types, isinstance -/
section
variable {X : Cx} {K : PySem.W.Frag}
def yRg1 : List V → Hp → VK → Prop := fun vs H Q => match vs with
  | [.int n] => ∀ p, H p = none → Q (.ref p) (upd H p (.rng 0 n))
  | _ => False
theorem cRange1 : CallR X (.type "range") yRg1 := by
  intro pins s σ H vs us Q I r h
  unfold yRg1 at h
  split at h
  · rename_i n
    obtain ⟨u1, rfl, r1⟩ := vals1 r
    obtain ⟨t, rfl⟩ := r1
    refine call_range_1 ⟨.ref s.heap.objs.size, upd H s.heap.objs.size (.rng 0 n), I.laid (t' := s.toks + 1 + 1) (fun b o e => Heap.get?_push_of_some _ e) (Nat.le_refl _) ?_, rfl, h _ (I.hok.fresh (Nat.le_refl _))⟩
    exact ⟨_, _, _, Heap.get?_push_size _ rfl⟩
  · exact h.elim
theorem ye_ty {x : Str} {n : String} {pos : Pos} (hg : Gl X x) (hm : X.mg x = none) (hv : bootBuiltins x = some (.type n)) (hn : x ≠ "__name__" := by decide) (hdb : (x == ("__debug__" : Str)) = false := by decide) : PE X (.Name x pos) (tC (.ty n)) :=
  ⟨fun pins s σ H Q I h => ld_blt I hg hm hv ⟨.ty n, H, I, rfl, h⟩ hn hdb⟩
def yIsi (K : PySem.W.Frag) : List V → Hp → VK → Prop := fun xs H Q => match xs with
  | [x, .ty n] => ∃ m b, TyX K H x (.type m) ∧ kitB m n = some b ∧ Q (.bl b) H
  | _ => False
theorem kIsi (h : X.K = K) : CallR X (.builtin "isinstance") (yIsi K) := by
  subst h
  refine CallR.imp call_isi fun xs H Q h => ?_
  unfold yIsi at h
  split at h
  · obtain ⟨m, b, h1, h2, h3⟩ := h
    exact ⟨_, _, _, _, b, rfl, .ty _, h1, kit_ty h2, h3⟩
  · exact h.elim
end
end Y

set_option Elab.async false
set_option linter.all false
set_option maxRecDepth 100000
set_option maxHeartbeats 4000000
/-! R1: ranks, as mathematics. -/
namespace Y
open PySem PySem.Spec PyProof.Rows L2

theorem perm_uniq {α : Type} {R : α → α → Prop} (anti : ∀ a b, R a b → R b a → a = b) : ∀ {l m : List α}, l.Perm m → l.Pairwise R → m.Pairwise R → l = m
  | [], m, p, _, _ => (List.Perm.eq_nil p.symm).symm
  | a :: l, [], p, _, _ => absurd p.length_eq (by simp)
  | a :: l, b :: m, p, hl, hm => by
    have e : a = b := by
      rcases List.mem_cons.mp (p.mem_iff.mp (List.mem_cons_self (a := a) (l := l))) with e | ha
      · exact e
      · rcases List.mem_cons.mp (p.mem_iff.mpr (List.mem_cons_self (a := b) (l := m))) with e | hb
        · exact e.symm
        · exact anti a b ((List.pairwise_cons.mp hl).1 b hb) ((List.pairwise_cons.mp hm).1 a ha)
    subst e
    rw [perm_uniq anti p.cons_inv (List.pairwise_cons.mp hl).2 (List.pairwise_cons.mp hm).2]

/-- a layer's strength, by its number -/
def stg (r : List Lay) (i : Nat) : Int := (r.getD i (default, 0)).2
theorem stg_at {r : List Lay} {i : Nat} (h : i < r.length) : stg r i = r[i].2 := by
  unfold stg
  rw [List.getD_eq_getElem?_getD, List.getElem?_eq_getElem h]
  rfl
/-- i ranks ahead of j -/
def ahead (r : List Lay) (i j : Nat) : Bool := decide (stg r j < stg r i) || (decide (stg r i = stg r j) && decide (j < i))
theorem ahead_iff {r : List Lay} {i j : Nat} : ahead r i j = true ↔ stg r j < stg r i ∨ (stg r i = stg r j ∧ j < i) := by
  unfold ahead
  simp
theorem ahead_no {r : List Lay} {i j : Nat} : ahead r i j = false ↔ ¬ (stg r j < stg r i ∨ (stg r i = stg r j ∧ j < i)) := by
  rw [← ahead_iff]
  cases ahead r i j <;> simp
theorem ahead_anti (r : List Lay) (i j : Nat) (h1 : ahead r j i = false) (h2 : ahead r i j = false) : i = j := by
  rw [ahead_no] at h1 h2
  omega
def rankM (r : List Lay) : List Nat := (List.range r.length).mergeSort fun i j => !ahead r j i
theorem rankM_perm (r : List Lay) : (rankM r).Perm (List.range r.length) := List.mergeSort_perm _ _
theorem rankM_sorted (r : List Lay) : (rankM r).Pairwise fun i j => ahead r j i = false := by
  have h := List.pairwise_mergeSort (le := fun i j => !ahead r j i) (fun a b c h1 h2 => by
    simp only [Bool.not_eq_true'] at h1 h2 ⊢
    rw [ahead_no] at h1 h2 ⊢
    omega) (fun a b => by
    cases h : ahead r b a with
    | false => rfl
    | true =>
      have := ahead_iff.mp h
      have q : ahead r a b = false := ahead_no.mpr (by omega)
      rw [q]
      rfl) (List.range r.length)
  exact h.imp fun z => by simpa using z
theorem rankM_uniq {r : List Lay} {ys : List Nat} (p : ys.Perm (List.range r.length)) (s : ys.Pairwise fun i j => ahead r j i = false) : ys = rankM r :=
  perm_uniq (ahead_anti r) (p.trans (rankM_perm r).symm) s (rankM_sorted r)
theorem rankM_length (r : List Lay) : (rankM r).length = r.length := by rw [(rankM_perm r).length_eq, List.length_range]
theorem rankM_mem {r : List Lay} {i : Nat} : i ∈ rankM r ↔ i < r.length := by rw [(rankM_perm r).mem_iff, List.mem_range]
theorem rankM_nodup (r : List Lay) : (rankM r).Nodup := (rankM_perm r).nodup_iff.mpr List.nodup_range
theorem rankM_strict (r : List Lay) : (rankM r).Pairwise fun i j => ahead r i j = true := by
  have h := List.Pairwise.and (rankM_sorted r) (rankM_nodup r)
  refine h.imp fun {i j} ⟨h1, h2⟩ => ?_
  rw [ahead_no] at h1
  rw [ahead_iff]
  omega
theorem rankM_nil : rankM [] = [] := List.length_eq_zero_iff.mp (rankM_length [])
/-- how many rank ahead -/
def cntM (r : List Lay) (i : Nat) : Nat := ((List.range r.length).filter fun o => ahead r o i).length
theorem strict_pos (r : List Lay) : ∀ {l : List Nat} {k i : Nat}, (l.Pairwise fun i j => ahead r i j = true) → l[k]? = some i → (l.filter fun o => ahead r o i).length = k
  | [], _, _, _, h => by simp at h
  | x :: l, 0, i, hp, h => by
    obtain rfl : x = i := by simpa using h
    have h1 := (List.pairwise_cons.mp hp).1
    have e : (x :: l).filter (fun o => ahead r o x) = [] := List.filter_eq_nil_iff.mpr fun o ho => by
      rcases List.mem_cons.mp ho with e | ho
      · rw [e, ahead_iff]
        omega
      · have q := ahead_iff.mp (h1 o ho)
        rw [ahead_iff]
        omega
    rw [e]
    rfl
  | x :: l, k + 1, i, hp, h => by
    have h' : l[k]? = some i := by simpa using h
    have hx := (List.pairwise_cons.mp hp).1 i (List.mem_of_getElem? h')
    rw [List.filter_cons_of_pos (p := fun o => ahead r o i) hx, List.length_cons, strict_pos r (List.pairwise_cons.mp hp).2 h']
theorem cntM_pos {r : List Lay} {k i : Nat} (h : (rankM r)[k]? = some i) : cntM r i = k := by
  unfold cntM
  rw [← ((rankM_perm r).filter _).length_eq]
  exact strict_pos r (rankM_strict r) h
theorem rankM_at {r : List Lay} {i : Nat} (h : i < r.length) : (rankM r)[cntM r i]? = some i := by
  obtain ⟨k, hk⟩ := List.mem_iff_getElem?.mp (rankM_mem.mpr h)
  rw [cntM_pos hk]
  exact hk
theorem cntM_lt {r : List Lay} {i : Nat} (h : i < r.length) : cntM r i < r.length := by
  have q := (List.getElem?_eq_some_iff.mp (rankM_at h)).1
  rw [rankM_length] at q
  exact q
/-- the keys by which ranked sorts -/
def rkey (r : List Lay) : V → Int × Int
  | .int i => (0 - stg r i.toNat, 0 - i)
  | _ => (0, 0)
theorem rkey_lex {r : List Lay} {i j : Nat} : SrtO.lexB (rkey r (.int (i : Nat))) (rkey r (.int (j : Nat))) = ahead r i j := by
  have h : SrtO.lexB (0 - stg r i, 0 - (i : Int)) (0 - stg r j, 0 - (j : Int)) = true ↔ ahead r i j = true := by
    rw [SrtO.lexB_iff, ahead_iff]
    simp only
    omega
  show SrtO.lexB (0 - stg r i, 0 - (i : Int)) (0 - stg r j, 0 - (j : Int)) = ahead r i j
  cases e : ahead r i j with
  | true => exact h.mpr e
  | false =>
    cases e2 : SrtO.lexB (0 - stg r i, 0 - (i : Int)) (0 - stg r j, 0 - (j : Int)) with
    | false => rfl
    | true => rw [h.mp e2] at e; cases e
abbrev natV (l : List Nat) : List V := l.map fun i : Nat => V.int (i : Int)
/-- what sorted told is the ranks -/
theorem ranked_is {r : List Lay} {ys : List V} (p : ys.Perm (natV (List.range r.length))) (s : SrtO.Srtd (fun x y => SrtO.lexB (rkey r x) (rkey r y)) ys) : ys = natV (rankM r) := by
  obtain ⟨zs, rfl⟩ : ∃ zs : List Nat, ys = natV zs := by
    have hm : ∀ y ∈ ys, ∃ i : Nat, y = .int i := fun y hy => by
      obtain ⟨i, _, e⟩ := List.mem_map.mp (p.mem_iff.mp hy)
      exact ⟨i, e.symm⟩
    clear p s
    induction ys with
    | nil => exact ⟨[], rfl⟩
    | cons y ys ih =>
      obtain ⟨i, rfl⟩ := hm y List.mem_cons_self
      obtain ⟨zs, rfl⟩ := ih fun z hz => hm z (List.mem_cons_of_mem _ hz)
      exact ⟨i :: zs, rfl⟩
  have inj : ∀ a b : Nat, V.int (a : Int) = V.int (b : Int) → a = b := fun a b h => by
    injection h with h
    omega
  have p2 : zs.Perm (List.range r.length) := by
    have q := p.filterMap (fun v : V => match v with | .int i => some i.toNat | _ => none)
    have e : ∀ l : List Nat, (natV l).filterMap (fun v : V => match v with | .int i => some i.toNat | _ => none) = l := by
      intro l
      induction l with
      | nil => rfl
      | cons a l ih =>
        show (some ((a : Int).toNat)).toList ++ _ = _
        rw [show (natV l).filterMap _ = l from ih]
        rfl
    rw [e, e] at q
    exact q
  have s2 : zs.Pairwise fun i j => ahead r j i = false := (List.pairwise_map.mp s).imp fun {i j} h => by
    have h' : SrtO.lexB (rkey r (.int (j : Nat))) (rkey r (.int (i : Nat))) = false := h
    rw [rkey_lex] at h'
    exact h'
  rw [rankM_uniq p2 s2]

/-! ### lists of small whole numbers, as data -/
def natsD (l : List Nat) : PyData := .list (l.map fun i : Nat => PyData.int (i : Int))
theorem natsD_dp {K : PySem.W.Frag} {H : Hp} {a : Addr} {l : List Nat} (h : H a = some (.lst (natV l))) : Dp K H (.ref a) (natsD l) := by
  refine .lst (.inl (.inl h)) ?_
  clear h
  induction l with
  | nil => exact .nil
  | cons i l ih => exact .cons (.int _) ih
theorem natsD_sh {l : List Nat} (h : ∀ i ∈ l, i < 100000) (hl : l.length ≤ 1000) : Sh (natsD l) := by
  refine ⟨fineAll_of fun d hd => ?_, ?_, ?_⟩
  · obtain ⟨i, hi, rfl⟩ := List.mem_map.mp hd
    have := h i hi
    have e : (100000 : Nat) < 10 ^ 500 := by decide +kernel
    exact decide_eq_true (show (i : Int).natAbs < 10 ^ 500 by omega)
  · rw [natsD, PyData.depth]
    have := depthAll_le (n := 0) (ds := l.map fun i : Nat => PyData.int (i : Int)) fun d hd => by
      obtain ⟨i, _, rfl⟩ := List.mem_map.mp hd
      simp [PyData.depth]
    omega
  · rw [natsD, PyData.bulk]
    have := bulkAll_le (n := 1) (ds := l.map fun i : Nat => PyData.int (i : Int)) fun d hd => by
      obtain ⟨i, _, rfl⟩ := List.mem_map.mp hd
      simp [PyData.bulk]
    rw [List.length_map] at this
    omega
/-- the ranks found so far, by number -/
def foundM (r : List Lay) (k : Nat) : List V := (rankM r).map fun i : Nat => if i < k then V.int (i : Int) else .non
theorem foundM_zero (r : List Lay) : foundM r 0 = List.replicate r.length .non := by
  unfold foundM
  rw [← rankM_length r, List.map_const'.symm]
  exact List.map_congr_left fun i _ => if_neg (Nat.not_lt_zero i)
theorem foundM_length (r : List Lay) (k : Nat) : (foundM r k).length = r.length := by rw [foundM, List.length_map, rankM_length]
theorem foundM_set {r : List Lay} {k : Nat} (h : k < r.length) : (foundM r k).set (cntM r k) (.int (k : Int)) = foundM r (k + 1) := by
  refine List.ext_getElem? fun j => ?_
  rw [List.getElem?_set]
  have e := rankM_at h
  split
  · rename_i hj
    subst hj
    rw [if_pos (by rw [foundM_length]; exact cntM_lt h), foundM, List.getElem?_map, e]
    simp
  · rename_i hj
    unfold foundM
    rw [List.getElem?_map, List.getElem?_map]
    cases q : (rankM r)[j]? with
    | none => rfl
    | some i =>
      have hi : i ≠ k := fun z => by
        subst z
        exact hj (cntM_pos q)
      have e2 : (i < k) = (i < k + 1) := propext ⟨fun _ => by omega, fun _ => by omega⟩
      show some _ = some _
      simp only [e2]
theorem foundM_all (r : List Lay) : foundM r r.length = natV (rankM r) := List.map_congr_left fun i hi => if_pos (rankM_mem.mp hi)
theorem fm_filter {α : Type} (p : α → Bool) (l : List α) : (l.filterMap fun o => if p o = true then some o else none) = l.filter p := by
  induction l with
  | nil => rfl
  | cons a l ih =>
    rw [List.filterMap_cons, List.filter_cons]
    cases p a with
    | true => simp [ih]
    | false => simp [ih]
theorem rgV_nat {n : Nat} : rgV 0 (n : Int) = natV (List.range n) := by
  unfold rgV
  rw [Int.sub_zero, Int.toNat_natCast]
  exact List.map_congr_left fun i _ => by simp
theorem rep_one {α : Type} (n : Nat) (a : α) : (List.replicate n [a]).flatten = List.replicate n a := by
  induction n with
  | zero => rfl
  | succ n ih => rw [List.replicate_succ, List.flatten_cons, ih, List.replicate_succ]; rfl
theorem ImAll.ofNats {K : PySem.W.Frag} {H : Hp} : ∀ l : List Nat, ImAll K H (natV l) (l.map fun i : Nat => PyData.int (i : Int))
  | [] => .nil
  | _ :: l => .cons (.int _) (ImAll.ofNats l)
theorem ixNat {n j : Nat} (hj : j < n) : ixN n (j : Int) = some j := by
  unfold ixN
  rw [if_pos (by omega), if_pos (by omega), Int.toNat_natCast]
/-- the first's number, or None -/
def firstV (r : List Lay) : V := match rankM r with
  | [] => .non
  | i :: _ => .int (i : Nat)
def firstD (r : List Lay) : PyData := match rankM r with
  | [] => .none
  | i :: _ => .int (i : Nat)
theorem firstD_dp {K : PySem.W.Frag} {H : Hp} (r : List Lay) : Dp K H (firstV r) (firstD r) := by
  unfold firstV firstD
  cases rankM r with
  | nil => exact .non
  | cons i l => exact .int _
theorem int_sh {i : Int} (h : i.natAbs < 10 ^ 500) : Sh (.int i) := ⟨decide_eq_true h, by simp [PyData.depth], by simp [PyData.bulk]⟩
theorem none_sh : Sh .none := ⟨rfl, by simp [PyData.depth], by simp [PyData.bulk]⟩
theorem small_fine {i : Nat} (h : i < 100000) : (i : Int).natAbs < 10 ^ 500 := by
  have e : (100000 : Nat) < 10 ^ 500 := by decide +kernel
  omega
theorem firstD_sh {r : List Lay} (h : r.length ≤ 10000) : Sh (firstD r) := by
  unfold firstD
  cases e : rankM r with
  | nil => exact none_sh
  | cons i l =>
    have hi := rankM_mem.mp (show i ∈ rankM r by rw [e]; exact List.mem_cons_self)
    exact int_sh (small_fine (by omega))
theorem firstV_at (r : List Lay) : atI (natV (rankM r) ++ [.non]) 0 = some (firstV r) := by
  unfold firstV
  cases rankM r with
  | nil => rfl
  | cons i l => exact atI_nat (j := 0) rfl
theorem ImAll.bools {K : PySem.W.Frag} {H : Hp} : ∀ {bs : List Bool} {ys : List V}, ImAll K H ys (bs.map PyData.bool) → ys = bs.map V.bl
  | [], [], _ => rfl
  | _ :: _, _ :: _, .cons h1 h2 => by rw [Im.blInv h1, ImAll.bools h2]; rfl
theorem rankD_sh {r : List Lay} (h : r.length ≤ 1000) : Sh (natsD (rankM r)) := natsD_sh (fun i hi => by have := rankM_mem.mp hi; omega) (by rw [rankM_length]; exact h)
theorem yEq_str {K : PySem.W.Frag} {a : Str} {H : Hp} {Q : VK} (h : Q (.bl true) H) : yEq K (.str a) (.str a) H Q := by
  show Q (.bl (decide (a = a))) H
  rw [decide_eq_true rfl]
  exact h
end Y

set_option Elab.async false
set_option linter.all false
set_option maxRecDepth 100000
set_option maxHeartbeats 4000000
/-! T1: thinned rows, as mathematics. -/
namespace Y
open PySem PySem.Spec PyProof.Rows L2

/-- the numbers of the layers of a rank below m -/
def keepI (r : List Lay) (m : Nat) : List Nat := (List.range r.length).filter fun i => decide (cntM r i < m)
def thinM (r : List Lay) (m : Nat) : List Lay := (keepI r m).filterMap fun i => r[i]?
theorem thinM_eq (r : List Lay) (m : Nat) : thinM r m = (List.range r.length).filterMap fun i => if decide (cntM r i < m) = true then r[i]? else none := by
  unfold thinM keepI
  rw [List.filterMap_filter]
theorem thinM_length_le (r : List Lay) (m : Nat) : (thinM r m).length ≤ r.length := by
  rw [thinM_eq]
  exact Nat.le_trans (List.length_filterMap_le _ _) (by rw [List.length_range]; exact Nat.le_refl _)
theorem thinM_mem {r : List Lay} {m : Nat} {l : Lay} (h : l ∈ thinM r m) : l ∈ r := by
  obtain ⟨i, _, e⟩ := List.mem_filterMap.mp h
  exact List.mem_of_getElem? e
/-- sorted beginnings of the ranks -/
theorem take_sorted {r : List Lay} {m : Nat} {zs : List Nat} (p : zs.Perm ((rankM r).take m)) (s : zs.Pairwise (· ≤ ·)) : zs = keepI r m := by
  have nd : ((rankM r).take m).Nodup := (rankM_nodup r).sublist (List.take_sublist _ _)
  refine perm_uniq (R := fun a b : Nat => a ≤ b) (fun a b h1 h2 => Nat.le_antisymm h1 h2) ?_ s ?_
  · refine p.trans ((List.perm_ext_iff_of_nodup nd ?_).mpr fun i => ?_)
    · exact List.nodup_range.filter _
    · unfold keepI
      rw [List.mem_filter, List.mem_range, decide_eq_true_eq]
      constructor
      · intro hi
        obtain ⟨k, hk⟩ := List.mem_iff_getElem?.mp hi
        rw [List.getElem?_take] at hk
        split at hk
        · rename_i hkm
          refine ⟨rankM_mem.mp (List.mem_of_getElem? hk), ?_⟩
          rw [cntM_pos hk]
          exact hkm
        · cases hk
      · rintro ⟨h1, h2⟩
        refine List.mem_iff_getElem?.mpr ⟨cntM r i, ?_⟩
        rw [List.getElem?_take, if_pos h2]
        exact rankM_at h1
  · exact (List.pairwise_lt_range.imp fun h => Nat.le_of_lt h).filter _
/-- who is ahead ranks less -/
theorem ahead_trans {r : List Lay} {i j k : Nat} (h1 : ahead r i j = true) (h2 : ahead r j k = true) : ahead r i k = true := by
  rw [ahead_iff] at *
  omega
theorem ahead_irr (r : List Lay) (i : Nat) : ahead r i i = false := by
  rw [ahead_no]
  omega
theorem cnt_lt_of_ahead {r : List Lay} {i j : Nat} (hj : j < r.length) (hi : i < r.length) (h : ahead r j i = true) : cntM r j < cntM r i := by
  have e1 := rankM_at hi
  have e2 := rankM_at hj
  by_cases hlt : cntM r j < cntM r i
  · exact hlt
  · have hne : cntM r j ≠ cntM r i := fun z => by
      rw [z, e1] at e2
      cases e2
      rw [ahead_irr] at h
      cases h
    have hs := List.pairwise_iff_getElem.mp (rankM_strict r) (cntM r i) (cntM r j) (List.getElem?_eq_some_iff.mp e1).1 (List.getElem?_eq_some_iff.mp e2).1 (by omega)
    rw [(List.getElem?_eq_some_iff.mp e1).2, (List.getElem?_eq_some_iff.mp e2).2] at hs
    rw [ahead_iff] at h hs
    omega
/-! ### parts of a row -/
/-- the layers at the numbers that P takes -/
def partM (r : List Lay) (P : Nat → Bool) : List Lay := ((List.range r.length).filter P).filterMap fun i => r[i]?
theorem thinM_part (r : List Lay) (m : Nat) : thinM r m = partM r fun i => decide (cntM r i < m) := rfl
theorem fm_at {r : List Lay} : ∀ {ix : List Nat}, (∀ i ∈ ix, i < r.length) → ∀ k : Nat, (ix.filterMap fun i : Nat => r[i]?)[k]? = ix[k]?.bind fun i : Nat => r[i]?
  | [], _, k => by simp
  | i :: ix, h, 0 => by
    have hi := h i List.mem_cons_self
    simp [List.getElem?_eq_getElem hi]
  | i :: ix, h, k + 1 => by
    have hi := h i List.mem_cons_self
    rw [List.filterMap_cons]
    simp only [List.getElem?_eq_getElem hi]
    rw [List.getElem?_cons_succ, List.getElem?_cons_succ]
    exact fm_at (fun j hj => h j (List.mem_cons_of_mem _ hj)) k
theorem fm_len {r : List Lay} : ∀ {ix : List Nat}, (∀ i ∈ ix, i < r.length) → (ix.filterMap fun i => r[i]?).length = ix.length
  | [], _ => rfl
  | i :: ix, h => by
    have hi := h i List.mem_cons_self
    rw [List.filterMap_cons]
    simp only [List.getElem?_eq_getElem hi, List.length_cons]
    rw [fm_len fun j hj => h j (List.mem_cons_of_mem _ hj)]
section
variable {r : List Lay} {P : Nat → Bool}
abbrev ixM (r : List Lay) (P : Nat → Bool) : List Nat := (List.range r.length).filter P
theorem ixM_lt : ∀ i ∈ ixM r P, i < r.length := fun i hi => List.mem_range.mp (List.mem_filter.mp hi).1
theorem partM_len : (partM r P).length = (ixM r P).length := fm_len ixM_lt
theorem ixM_inc : (ixM r P).Pairwise (· < ·) := List.pairwise_lt_range.filter _
theorem stg_part {k : Nat} (hk : k < (ixM r P).length) : stg (partM r P) k = stg r (ixM r P)[k] := by
  have h1 : k < (partM r P).length := by rw [partM_len]; exact hk
  have h2 := ixM_lt _ (List.getElem_mem hk)
  rw [stg_at h1, stg_at h2]
  have e := fm_at (r := r) (ix := ixM r P) ixM_lt k
  have e1 : (partM r P)[k]? = some (partM r P)[k] := List.getElem?_eq_getElem h1
  rw [show (partM r P)[k]? = ((ixM r P).filterMap fun i => r[i]?)[k]? from rfl, e, List.getElem?_eq_getElem hk] at e1
  simp only [Option.bind_some, List.getElem?_eq_getElem h2] at e1
  rw [← Option.some.inj e1]
theorem ix_lt_iff {k l : Nat} (hk : k < (ixM r P).length) (hl : l < (ixM r P).length) : (ixM r P)[k] < (ixM r P)[l] ↔ k < l := by
  have hp := List.pairwise_iff_getElem.mp (ixM_inc (r := r) (P := P))
  constructor
  · intro h
    by_cases hlt : k < l
    · exact hlt
    · by_cases e : k = l
      · subst e; omega
      · have := hp l k hl hk (by omega)
        omega
  · intro h
    exact hp k l hk hl h
theorem ahead_part {k l : Nat} (hk : k < (ixM r P).length) (hl : l < (ixM r P).length) : ahead (partM r P) k l = ahead r (ixM r P)[k] (ixM r P)[l] := by
  unfold ahead
  rw [stg_part hk, stg_part hl]
  have e : decide (l < k) = decide ((ixM r P)[l] < (ixM r P)[k]) := by
    have := ix_lt_iff hl hk
    by_cases h : l < k
    · rw [decide_eq_true h, decide_eq_true (this.mpr h)]
    · rw [decide_eq_false h, decide_eq_false (fun z => h (this.mp z))]
  rw [e]
theorem range_map (l : List Nat) (p : Nat → Bool) : ((List.range l.length).filter fun k => match l[k]? with | some i => p i | none => false).length = (l.filter p).length := by
  induction l with
  | nil => rfl
  | cons a l ih =>
    rw [List.length_cons, List.range_succ_eq_map, List.filter_cons, List.filter_cons]
    have e : ((List.map Nat.succ (List.range l.length)).filter fun k => match (a :: l)[k]? with | some i => p i | none => false).length = (l.filter p).length := by
      rw [List.filter_map, List.length_map, ← ih]
      rfl
    simp only [List.getElem?_cons_zero]
    by_cases hp : p a = true
    · rw [if_pos hp, if_pos hp, List.length_cons, List.length_cons, e]
    · rw [if_neg hp, if_neg hp, e]
/-- ranks within a part: those of the part that rank ahead -/
theorem cnt_part {k : Nat} (hk : k < (ixM r P).length) : cntM (partM r P) k = ((ixM r P).filter fun j => ahead r j (ixM r P)[k]).length := by
  unfold cntM
  rw [partM_len, ← range_map (ixM r P) fun j => ahead r j (ixM r P)[k]]
  congr 1
  refine List.filter_congr fun l hl => ?_
  have hl := List.mem_range.mp hl
  rw [ahead_part hl hk, List.getElem?_eq_getElem hl]
/-- .. the same rank, where the part has all that rank ahead -/
theorem cnt_part_same {k : Nat} (hk : k < (ixM r P).length) (h : ∀ j, j < r.length → ahead r j (ixM r P)[k] = true → P j = true) : cntM (partM r P) k = cntM r (ixM r P)[k] := by
  rw [cnt_part hk]
  unfold cntM
  rw [List.filter_filter]
  congr 1
  refine List.filter_congr fun j hj => ?_
  cases e : ahead r j (ixM r P)[k] with
  | false => rfl
  | true => rw [h j (List.mem_range.mp hj) e]; rfl
/-- a part of a part -/
theorem part_part (P' Q' : Nat → Bool) (h : ∀ k (hk : k < (ixM r P).length), P' k = Q' (ixM r P)[k]) : partM (partM r P) P' = partM r fun i => P i && Q' i := by
  unfold partM
  have key : ∀ (ix : List Nat) (_ : ∀ i ∈ ix, i < r.length) (P' : Nat → Bool) (_ : ∀ k (hk : k < ix.length), P' k = Q' ix[k]),
      ((List.range ix.length).filter P').filterMap (fun k => (ix.filterMap fun i => r[i]?)[k]?) = (ix.filter Q').filterMap fun i => r[i]? := by
    intro ix
    induction ix with
    | nil => intro _ _ _; rfl
    | cons i ix ih =>
      intro hix P' hP
      have hi := hix i List.mem_cons_self
      have ih' := ih (fun j hj => hix j (List.mem_cons_of_mem _ hj)) (P' ∘ Nat.succ) fun k hk => hP (k + 1) (by simpa using hk)
      have h0 := hP 0 (by simp)
      simp only [List.getElem_cons_zero] at h0
      rw [List.length_cons, List.range_succ_eq_map, List.filter_cons, List.filter_cons, h0]
      have ei : ((i :: ix).filterMap fun i => r[i]?) = r[i] :: ix.filterMap fun i => r[i]? := by
        rw [List.filterMap_cons]
        simp only [List.getElem?_eq_getElem hi]
      have e : (List.filter P' (List.map Nat.succ (List.range ix.length))).filterMap (fun k => ((i :: ix).filterMap fun i => r[i]?)[k]?) = (ix.filter Q').filterMap fun i => r[i]? := by
        rw [List.filter_map, List.filterMap_map, ← ih']
        congr 1
        funext k
        show ((i :: ix).filterMap fun i => r[i]?)[k + 1]? = _
        rw [ei, List.getElem?_cons_succ]
      cases Q' i with
      | false => simpa using e
      | true =>
        simp only [if_true]
        rw [List.filterMap_cons, e, ei]
        simp only [List.getElem?_cons_zero]
        rw [List.filterMap_cons]
        simp only [List.getElem?_eq_getElem hi]
  have h2 := key (ixM r P) ixM_lt P' h
  have el : (((List.range r.length).filter P).filterMap fun i => r[i]?).length = (ixM r P).length := partM_len
  rw [el]
  rw [h2, List.filter_filter]
  congr 2
  funext i
  exact Bool.and_comm _ _
end
/-- thinned, then thinned again -/
theorem thin_thin (r : List Lay) (m l : Nat) : thinM (thinM r m) l = thinM r (min m l) := by
  rw [thinM_part (thinM r m), thinM_part r, part_part (r := r) (P := fun i => decide (cntM r i < m)) _ (fun i => decide (cntM r i < l))]
  · rw [thinM_part]
    unfold partM
    congr 2
    funext i
    rw [← Bool.decide_and]
    congr 1
    exact propext ⟨fun h => by omega, fun h => by omega⟩
  · intro k hk
    rw [cnt_part_same hk]
    intro j hj hja
    have hm := (List.mem_filter.mp (List.getElem_mem hk)).2
    have hlt := cnt_lt_of_ahead hj (ixM_lt _ (List.getElem_mem hk)) hja
    have hm' := of_decide_eq_true hm
    exact decide_eq_true (by omega)
theorem thin_all {r : List Lay} {m : Nat} (h : r.length ≤ m) : thinM r m = r := by
  rw [thinM_part]
  unfold partM
  have e : (List.range r.length).filter (fun i => decide (cntM r i < m)) = List.range r.length := List.filter_eq_self.mpr fun i hi => by
    have := cntM_lt (r := r) (List.mem_range.mp hi)
    exact decide_eq_true (by omega)
  rw [e]
  refine List.ext_getElem? fun k => ?_
  rw [fm_at fun i hi => List.mem_range.mp hi]
  by_cases hk : k < r.length
  · rw [List.getElem?_range hk]
    rfl
  · rw [List.getElem?_eq_none (by simpa using hk), List.getElem?_eq_none (by omega)]
    rfl
theorem thin_len (r : List Lay) (m : Nat) : (thinM r m).length = min m r.length := by
  have e : (thinM r m).length = (keepI r m).length := fm_len fun i hi => List.mem_range.mp (List.mem_filter.mp hi).1
  rw [e]
  have hp : (keepI r m).Perm ((rankM r).take m) := by
    have nd : ((rankM r).take m).Nodup := (rankM_nodup r).sublist (List.take_sublist _ _)
    have hs : ((rankM r).take m).mergeSort.Perm ((rankM r).take m) := List.mergeSort_perm _ _
    have hq : ((rankM r).take m).mergeSort.Pairwise (· ≤ ·) := by
      have := List.pairwise_mergeSort (le := fun a b : Nat => decide (a ≤ b)) (fun a b c h1 h2 => by simp at *; omega) (fun a b => by simp; omega) ((rankM r).take m)
      exact this.imp fun h => by simpa using h
    rw [← take_sorted hs hq]
    exact hs
  rw [hp.length_eq, List.length_take, rankM_length]

/-! ### small helps -/
theorem cut_take {xs : List V} {m : Int} (h : 0 ≤ m) : cutV xs none (some m) = xs.take m.toNat := by
  obtain ⟨n, rfl⟩ : ∃ n : Nat, m = n := ⟨m.toNat, by omega⟩
  unfold cutV
  rw [show HT.sIx xs.length 0 none = 0 from rfl, HT.sIx_nat, List.drop_zero, Nat.sub_zero, Int.toNat_natCast]
  by_cases hn : n ≤ xs.length
  · rw [Nat.min_eq_left hn]
  · rw [Nat.min_eq_right (by omega), List.take_length, List.take_of_length_le (by omega)]
theorem natV_ints (l : List Nat) : natV l = (l.map fun i : Nat => (i : Int)).map V.int := by rw [List.map_map]; rfl
theorem sort_nats {l : List Nat} {ns : List Int} (p : ns.Perm (l.map fun i : Nat => (i : Int))) (s : ns.Pairwise (· ≤ ·)) : ∃ zs : List Nat, ns.map V.int = natV zs ∧ zs.Perm l ∧ zs.Pairwise (· ≤ ·) := by
  have hn : ∀ n ∈ ns, 0 ≤ n := fun n hn => by
    obtain ⟨i, _, e⟩ := List.mem_map.mp (p.mem_iff.mp hn)
    omega
  refine ⟨ns.map Int.toNat, ?_, ?_, ?_⟩
  · unfold natV
    rw [List.map_map]
    exact List.map_congr_left fun n h => by
      have := hn n h
      show V.int n = V.int (n.toNat : Int)
      rw [Int.toNat_of_nonneg this]
  · have q := p.map Int.toNat
    rw [List.map_map] at q
    have e : l.map (Int.toNat ∘ fun i : Nat => (i : Int)) = l := by
      rw [show (Int.toNat ∘ fun i : Nat => (i : Int)) = id from rfl, List.map_id]
    rw [e] at q
    exact q
  · exact List.pairwise_map.mpr (s.imp fun {a b} h => by omega)
/-- the layer at a number -/
theorem row_at {K : PySem.W.Frag} {H : Hp} {t : Addr} {xs : List V} {r : List Lay} (hxs : ImAll K H xs (r.map layD)) {i : Nat} (hi : i < r.length) : ∃ a, xs[i]? = some (.ref a) ∧ Im K H (.ref a) (layD r[i]) ∧ Tp K H a [.str r[i].1, .int r[i].2] := by
  obtain ⟨v, e1, e2⟩ := hxs.at_ (i := i) (d := layD r[i]) (by rw [List.getElem?_map, List.getElem?_eq_getElem hi]; rfl)
  obtain ⟨a, rfl, ha⟩ := e2.layInv
  exact ⟨a, e1, e2, ha⟩
section
variable [Tb] {K : PySem.W.Frag} {g : TG} {tt : TT} {te : TE} {vs : List Nat} {σ : L2.St} {H1 : Hp} {D : Addr} {Qd : Hp → Prop}
/-- a comprehension over a range from lo on -/
theorem lc_mapRg {β : Type} (dB : β → PyData) (f : Nat → Option β) {lo : Int} {n : Nat} (hD : H1 D = none) (hl : n ≤ 100000)
    (hs : ∀ (i : Nat) Ha (k : VK) (kn : Hp → Prop), i < n → Kp No H1 Ha → (∀ y b H4, f i = some b → Kp No Ha H4 → Im K H4 y (dB b) → k y H4) → (∀ H3, f i = none → Kp No Ha H3 → kn H3) →
      g (.int (lo + i)) (wipe σ vs) Ha fun σ2 H2 => wipe σ2 vs = wipe σ vs ∧ tt σ2 H2 fun b H3 => if b = true then te σ2 H3 k else kn H3)
    (hd : ∀ ys H, H D = some (.lst ys) → Kp No H1 H → ImAll K H ys (((List.range n).filterMap f).map dB) → Qd H) : LcGoal (Itr lo n) g tt te vs σ H1 D Qd := by
  have wr : Walk (Itr lo n) (List.range n).length (fun _ => True) (YFn fun i => .int (lo + (i : Int))) := by
    rw [List.length_range]
    exact walk_range
  refine lc_map (fun c : Nat => PyData.int (lo + (c : Int))) dB f (List.range n) wr hD (fun i Ha x Hb hi k y => ?_) (by simpa using hl) (fun _ _ => trivial) (fun x a Ha k kn ha im kp h1 h2 => ?_) hd
  · obtain ⟨eH, rfl⟩ := y
    refine ⟨eH, ?_⟩
    rw [List.getElem_range]
    exact .int _
  · have e : x = .int (lo + a) := by cases im; rfl
    subst e
    exact hs a Ha k kn (List.mem_range.mp ha) kp h1 h2
end
/-! ### ranks counted by strengths -/
theorem cnt_split {r : List Lay} {i : Nat} (hi : i < r.length) : cntM r i = ((List.range r.length).filter fun j => decide (stg r i < stg r j)).length + ((List.range (r.length - (i + 1))).filter fun k => decide (stg r (i + 1 + k) = stg r i)).length := by
  have e2 : ((List.range (r.length - (i + 1))).filter fun k => decide (stg r (i + 1 + k) = stg r i)).length = ((List.range r.length).filter fun j => decide (stg r j = stg r i) && decide (i < j)).length := by
    have e : r.length = (i + 1) + (r.length - (i + 1)) := by omega
    generalize r.length - (i + 1) = b at e
    rw [e, List.range_add, List.filter_append, List.length_append]
    have z : (List.range (i + 1)).filter (fun j => decide (stg r j = stg r i) && decide (i < j)) = [] := List.filter_eq_nil_iff.mpr fun j hj => by
      have := List.mem_range.mp hj
      simp
      omega
    rw [z, List.length_nil, Nat.zero_add, List.filter_map, List.length_map]
    congr 1
    refine List.filter_congr fun k _ => ?_
    show _ = (decide (stg r (i + 1 + k) = stg r i) && decide (i < i + 1 + k))
    rw [decide_eq_true (show i < i + 1 + k by omega), Bool.and_true]
  rw [e2]
  unfold cntM
  generalize List.range r.length = l
  induction l with
  | nil => rfl
  | cons j l ih =>
    rw [List.filter_cons, List.filter_cons, List.filter_cons]
    by_cases h1 : stg r i < stg r j
    · have a : ahead r j i = true := ahead_iff.mpr (.inl h1)
      have b : (decide (stg r j = stg r i) && decide (i < j)) = false := by simp; omega
      rw [if_pos a, if_pos (decide_eq_true h1), b]
      simp only [List.length_cons, Bool.false_eq_true, if_false, ih]
      omega
    · by_cases h2 : stg r j = stg r i ∧ i < j
      · have a : ahead r j i = true := ahead_iff.mpr (.inr h2)
        have b : (decide (stg r j = stg r i) && decide (i < j)) = true := by simp [h2]
        rw [if_pos a, if_neg (by simpa using h1), b]
        simp only [List.length_cons, if_true, ih]
        omega
      · have a : ahead r j i = false := ahead_no.mpr (by omega)
        have b : (decide (stg r j = stg r i) && decide (i < j)) = false := by
          cases e : (decide (stg r j = stg r i) && decide (i < j)) with
          | false => rfl
          | true => exact absurd (by simpa using e) h2
        rw [a, b, decide_eq_false h1]
        simp only [Bool.false_eq_true, if_false, ih]
end Y

set_option Elab.async false
set_option linter.all false
set_option maxRecDepth 100000
set_option maxHeartbeats 4000000
/-! E1: enumerate over tuples. -/
namespace Y
open PySem PySem.Spec PyProof.Rows L2

theorem enum_newT (l : Addr) (items : Array Value) (n : Nat) (dct : Option Addr) (sl : Array (Option Value)) :
    Meets (Builtin.«enumerate.__new__» ⟨[.type "enumerate", .ref l], []⟩) (fun _ R s => s.heap.get? l = some { cls := .type "tuple", dict := dct, data := .seq items n, slots := sl } ∧
      R (.ok (.ret (.ref (s.heap.push { cls := .type "tuple_iterator", data := .fields #[.ref l, .int 0 0] }).objs.size)))
        { s with heap := (s.heap.push { cls := .type "tuple_iterator", data := .fields #[.ref l, .int 0 0] }).push { cls := .type "enumerate", data := .fields #[.none, .bool false, .ref s.heap.objs.size, rawInt 0, .none, .none] } }) :=
  .of_wp fun prog w A R s h => by
    obtain ⟨hp, g, d, tk, os⟩ := s
    obtain ⟨hl, h⟩ := h
    have hL : hp.IsTuple l items := ⟨_, hl, rfl, _, rfl⟩
    have hsub := sub_enumerate
    wp_walk
    refine wpAny_stack_any fun st => wpAny_pure ?_
    split
    · rename_i c _ _ _ _ _
      cases (c == Value.type "enumerate")
      · wp_walk using wpAny_loadPart' hl, wpAny_pyIter_tuple hL
        exact ⟨_, rfl, h⟩
      · wp_walk using wpAny_loadPart' hl, wpAny_pyIter_tuple hL
        exact ⟨_, rfl, h⟩
    · wp_walk using wpAny_loadPart' hl, wpAny_pyIter_tuple hL
      exact ⟨_, rfl, h⟩
section
variable {prog : Program} {w : World} {A : Around} {E : Value → Shared → Prop} {s : Shared}
theorem call_enumT {l : Addr} {items : Array Value} {Q : Value → Shared → Prop} (hL : s.heap.IsTuple l items)
    (h : ∀ h', IsEnum h' (s.heap.objs.size + 1) s.heap.objs.size 0 .none → h'.IsTupleIter s.heap.objs.size l 0 → (∀ b o, s.heap.get? b = some o → h'.get? b = some o) → Q (.ref (s.heap.objs.size + 1)) { s with heap := h' }) :
    wpAny (model prog w) A (call (.type "enumerate") [.ref l]) Q E s := by
  obtain ⟨⟨c, dct, dt, sl⟩, hl, hc, n, hd⟩ := hL
  replace hc : c = .type "tuple" := hc
  replace hd : dt = .seq items n := hd
  subst hc hd
  refine callType_new F.called_enumerate (by decide) (F.typeCall_enumerate_1 _) (F.newCall_enumerate_1 _) (fun obj => F.args_object_init_2 obj _) F.entry_enumerate_new (enum_newT l items n dct sl) ⟨hl, ?_⟩
  have hz : (s.heap.push { cls := .type "tuple_iterator", data := .fields #[.ref l, .int 0 0] }).objs.size = s.heap.objs.size + 1 := Heap.size_push ..
  show _ ∧ _
  rw [hz]
  have he : IsEnum ((s.heap.push { cls := .type "tuple_iterator", data := .fields #[.ref l, .int 0 0] }).push
      { cls := .type "enumerate", data := .fields #[.none, .bool false, .ref s.heap.objs.size, rawInt 0, .none, .none] }) (s.heap.objs.size + 1) s.heap.objs.size 0 .none := by
    have := Heap.get?_push_size (s.heap.push { cls := .type "tuple_iterator", data := .fields #[.ref l, .int 0 0] })
      (o := { cls := .type "enumerate", data := .fields #[.none, .bool false, .ref s.heap.objs.size, rawInt 0, .none, .none] }) rfl
    rw [hz] at this
    exact this
  exact ⟨⟨_, he, rfl⟩, h _ he ⟨_, Heap.get?_push_of_some _ (Heap.get?_push_size _ rfl), rfl, rfl⟩ fun b o x => Heap.get?_push_of_some _ (Heap.get?_push_of_some _ x)⟩
end
/-- a tuple's items, each in a new pair with its number -/
def IteT (K : PySem.W.Frag) (a : Addr) : It :=
  ⟨fun i H => ∃ (xs : List V) (x : V), SqT K H a xs ∧ xs[i]? = some x, fun i H v H' => ∃ T x, v = .ref T ∧ H T = none ∧ H' = upd H T (.tup [.int (i : Nat), x]) ∧ ∀ xs, SqT K H a xs → xs[i]? = some x, fun i H => ∃ xs : List V, SqT K H a xs ∧ xs.length ≤ i⟩
theorem turn_enumT {P : Program} {w : World} {K : PySem.W.Frag} {elts : List Expr} {kk : Nat} {tpos : Pos} (a e it : Addr) :
    Turn P w K (.Tuple elts kk tpos) (IteT K a) [e, it] e (fun i h => (∃ old, IsEnum h e it ((i : Nat) : Int) old) ∧ h.IsTupleIter it a i ∧ e ≠ it) where
  mem := by simp
  obj := fun i h st b hb => by
    obtain ⟨⟨old, he⟩, ⟨o, ho, hc, hd⟩, _⟩ := st
    have e' : b = e ∨ b = it := by simpa using hb
    rcases e' with z | z
    · rw [z]; exact ⟨_, he, fun v q => nomatch q⟩
    · rw [z]; exact ⟨o, ho, fun v q => by rw [hd] at q; cases q⟩
  keep := fun i h h' st k => let ⟨⟨old, he⟩, hi, hne⟩ := st; ⟨⟨old, k e (by simp) _ he⟩, hi.at fun o q => k it (by simp) o q, hne⟩
  item := by
    intro X hP hw hK hc i pins s σ H E I hf st hg
    subst hP hw hK
    obtain ⟨⟨old, he⟩, hit, hne⟩ := st
    obtain ⟨xs, x, hq, hx⟩ := hg
    obtain ⟨its, rv, p, hz⟩ := I.tuple hq
    obtain ⟨u, hu, ru⟩ := rv.get hx
    have hel : e < s.heap.objs.size := Heap.lt_size he
    have hil : it < s.heap.objs.size := by obtain ⟨_, q, _⟩ := hit; exact Heap.lt_size q
    have pT : s.heap.IsTuple a its.toArray := p
    have nea : a ≠ it := fun z => by
      obtain ⟨o1, h1, c1, _⟩ := pT
      obtain ⟨o2, h2, c2, _⟩ := hit
      rw [z, h2] at h1
      cases h1
      rw [c2] at c1
      injection c1 with c3
      exact absurd c3 (by decide)
    have neae : e ≠ a := fun z => by
      obtain ⟨o1, h1, c1, _⟩ := pT
      have he' : s.heap.get? e = some _ := he
      rw [z, h1] at he'
      cases he'
      injection c1 with c3
      exact absurd c3 (by decide)
    have hlt : i < its.toArray.size := by
      have := (List.getElem?_eq_some_iff.mp hu).1
      simpa using this
    refine wpAny_pyNext_enum_itemD (fp := [it, a]) (Draws.tuple (A := X.A.in1) (I.ok.hd hc) it a nea its.toArray) he ⟨hit, pT⟩ hlt hne (by simp [hne, neae]) fun y h' tk hP ho hs' hT hsz hk => ?_
    obtain rfl : u = y := by
      have hP' : its.toArray[i]? = some y := hP
      rw [List.getElem?_toArray, hu] at hP'
      exact Option.some.inj hP'
    refine ⟨_, rfl, wpAny_letOwnedTupleGo_enum (s := { s with heap := h', toks := tk + 1 }) ho fun h'' he' sb => ?_⟩
    have hT2 : h''.get? s.heap.objs.size = some { cls := .type "tuple", data := .seq #[.int i tk, u] } := (sb.2 _ (Nat.ne_of_gt hel)).trans hT
    have new : ObjOk X.prog X.w (upd H s.heap.objs.size (.tup [.int (i : Nat), x])) h'' s.heap.objs.size (.tup [.int (i : Nat), x]) :=
      ⟨by show 2 ≤ sizeLine; decide, [.int i tk, u], .cons ⟨_, rfl⟩ (.cons ru .nil), ⟨_, hT2, rfl, _, rfl⟩⟩
    have I1 : Inv X pins σ (upd H s.heap.objs.size (.tup [.int (i : Nat), x])) { s with heap := h'', toks := tk + 1 } :=
      I.turnedNew (ch := [e, it]) (fun b ob hb q => (sb.2 b (fun z => hb (by simp [z]))).trans (hk b ob (fun z => hb (by simp [z])) (fun z => hb (by simp [z])) q)) hf (Nat.le_refl _) new
    refine ⟨.ref s.heap.objs.size, _, I1, rfl, ⟨_, x, rfl, I.hok.fresh (Nat.le_refl _), rfl, fun ys hy => by rw [I.tuple_inj hy hq]; exact hx⟩, ⟨⟨u, ?_⟩, hs'.1.at fun o q => (sb.2 it (Ne.symm hne)).trans q, hne⟩, fun b hb => ?_⟩
    · have e1 : ((i + 1 : Nat) : Int) = (i : Int) + 1 := by omega
      rw [e1]; exact he'
    · have hb' : b < s.heap.objs.size := by
        have e' : b = e ∨ b = it := by simpa using hb
        rcases e' with z | z
        · rw [z]; exact hel
        · rw [z]; exact hil
      rw [upd_ne (Nat.ne_of_lt hb')]
      exact (hf b hb).1
  done := by
    intro X hP hw hK hc i pins s σ H E I hf st hg
    subst hP hw hK
    obtain ⟨⟨old, he⟩, hit, hne⟩ := st
    obtain ⟨xs, hq, hx⟩ := hg
    obtain ⟨its, rv, p, hz⟩ := I.tuple hq
    obtain ⟨f0, f1, f2, f3, f4, f5⟩ := hf it (by simp)
    have hl := rv.length
    have pT : s.heap.IsTuple a its.toArray := p
    have D : Draws X.prog X.w X.A.in1 it [it, a] i (fun _ _ => True) (fun j h => j = i ∧ h.IsTupleIter it a i ∧ h.IsTuple a its.toArray) :=
      { live := fun _ _ st => let ⟨o, ho, _⟩ := st.2.1; ⟨o, ho⟩
        frame := fun _ _ _ st hk => ⟨st.1, st.2.1.at fun o e => hk it (by simp) o e, st.2.2.at fun o e => hk a (by simp) o e⟩
        item := fun j s Q E hj st _ => absurd st.1 (Nat.ne_of_lt hj)
        done := fun s Q E st hE => wpAny_nextOf_tuple_end (I.ok.hd hc) st.2.1 st.2.2 (by simp; omega) hE }
    exact wpAny_pyNext_enum_endD D he ⟨rfl, hit, pT⟩ fun h' eb => ⟨rfl, I.turned (t' := s.toks) (fun b o hb q => eb b o hb q) f0 f1 f3 f4 f5⟩
  self := fun A i s Q E st h => let ⟨⟨_, he⟩, _⟩ := st; wpAny_pyIter_enum he h
theorem walk_enumT {K : PySem.W.Frag} {a : Addr} {xs : List V} : Walk (IteT K a) xs.length (fun H => SqT K H a xs) (YPair (fun i => some (.int (i : Nat))) (fun i => xs[i]?)) := by
  refine ⟨fun i _ hi q => ⟨xs, xs[i], q, by simp [hi]⟩, fun _ q => ⟨xs, q, Nat.le_refl _⟩, fun i H v H' _ q y => ?_⟩
  obtain ⟨T, x, h1, h2, h3, h4⟩ := y
  exact ⟨T, .int (i : Nat), x, h1, h2, h3, rfl, h4 xs q⟩
def yEnumT (K : PySem.W.Frag) (ta : TA) : TI := fun σ H R => ta σ H fun vs H1 => match vs with
  | [.ref a] => (∃ xs, SqT K H1 a xs) ∧ R (IteT K a) H1
  | _ => False
theorem yi_enumT {X : Cx} {K : PySem.W.Frag} {e : Expr} {ta : TA} {p pos tpos : Pos} {elts : List Expr} {kk : Nat} (h0 : X.K = K) (hg : Gl X "enumerate") (hm : X.mg "enumerate" = none) (ha : PA X [e] ta) (hs : starEach [e] X.env = [(false, eval e X.env)] := by rfl) :
    PI X (.Tuple elts kk tpos) (.Call (.Name "enumerate" p) [e] [] pos) (yEnumT K ta) := by
  subst h0
  refine ⟨fun pins s σ H R I h => ?_⟩
  refine Call_ (ld_blt I hg hm boot_enumerate (PyProof.Rows.callWith_type1 (thn (ha.run pos pins s σ H _ I h) fun us s1 ⟨vs, H1, I1, r1, q1⟩ => ?_) hs rfl))
  dsimp only at q1
  split at q1
  · rename_i a
    obtain ⟨⟨xs, hq⟩, q⟩ := q1
    obtain rfl := Vals.ref1 r1
    obtain ⟨its, rv, p', hz⟩ := I1.tuple hq
    refine call_enumT (show s1.heap.IsTuple a its.toArray from p') fun h' he hit hk => wpAny_pyIter_enum he ?_
    have I2 : Inv X pins σ H1 { s1 with heap := h' } := I1.kept (t' := s1.toks) hk
    refine ⟨s1.heap.objs.size + 1, [s1.heap.objs.size + 1, s1.heap.objs.size], _, _, H1, rfl, I2, turn_enumT a (s1.heap.objs.size + 1) s1.heap.objs.size, ⟨⟨.none, he⟩, hit, Nat.succ_ne_self _⟩, fun b hb => ?_, q⟩
    have e' : b = s1.heap.objs.size + 1 ∨ b = s1.heap.objs.size := by simpa using hb
    have hle : s1.heap.objs.size ≤ b := by
      rcases e' with z | z
      · rw [z]; exact Nat.le_add_right _ _
      · rw [z]; exact Nat.le_refl _
    exact I1.fpOk hle (I1.hok.fresh hle)
  · exact q1.elim

/-! ### comprehensions over enumerate(tuple) -/
def fmI {α β : Type} (f : Nat → α → Option β) (r : List α) : List β := r.zipIdx.filterMap fun p => f p.2 p.1
theorem fmI_take {α β : Type} (f : Nat → α → Option β) (r : List α) {i : Nat} (hi : i < r.length) : fmI f (r.take (i + 1)) = fmI f (r.take i) ++ (f i r[i]).toList := by
  unfold fmI
  rw [List.take_add_one, List.getElem?_eq_getElem hi, List.zipIdx_append, List.filterMap_append]
  congr 1
  rw [Option.toList_some, List.zipIdx_singleton, List.length_take, Nat.min_eq_left (Nat.le_of_lt hi)]
  rw [Nat.zero_add]
  cases h : f i r[i] <;> simp [h]
section
variable [Tb] {K : PySem.W.Frag} {g : TG} {tt : TT} {te : TE} {vs : List Nat} {σ : L2.St} {H1 : Hp} {D : Addr} {Qd : Hp → Prop}
theorem lc_mapE {α β : Type} (dA : α → PyData) (dB : β → PyData) (f : Nat → α → Option β) (r : List α) {a : Addr} {xs : List V} (hD : H1 D = none) (ht : Tp K H1 a xs) (src : ImAll K H1 xs (r.map dA)) (hl : r.length ≤ 100000)
    (hs : ∀ (i : Nat) (T : Addr) (x : V) (Ha : Hp) (k : VK) (kn : Hp → Prop) (hi : i < r.length), Im K Ha x (dA r[i]) → Ha T = some (.tup [.int (i : Nat), x]) → Kp No H1 Ha → (∀ y b H4, f i r[i] = some b → Kp No Ha H4 → Im K H4 y (dB b) → k y H4) → (∀ H3, f i r[i] = none → Kp No Ha H3 → kn H3) →
      g (.ref T) (wipe σ vs) Ha fun σ2 H2 => wipe σ2 vs = wipe σ vs ∧ tt σ2 H2 fun b H3 => if b = true then te σ2 H3 k else kn H3)
    (hd : ∀ ys H, H D = some (.lst ys) → Kp No H1 H → ImAll K H ys ((fmI f r).map dB) → Qd H) : LcGoal (IteT K a) g tt te vs σ H1 D Qd := by
  have el : xs.length = r.length := by rw [src.length, List.length_map]
  refine lc_it (walk_enumT (xs := xs)) (fun i H => ∃ ys, H D = some (.lst ys) ∧ Kp No H1 H ∧ ImAll K H ys ((fmI f (r.take i)).map dB)) ⟨[], upd_same, Kp.new hD, by simpa [fmI] using ImAll.nil⟩ (fun i H _ ⟨ys, _, h2, _⟩ => (ht.up h2).sq) ?_ ?_
  · rintro i x Ha Hb hix ⟨ys, h1, h2, h3⟩ ⟨T, x1, x2, rfl, hT, rfl, e1, e2⟩
    cases e1
    have hir : i < r.length := by omega
    obtain ⟨d, h4, h5⟩ := src.get e2
    rw [List.getElem?_map, List.getElem?_eq_getElem hir] at h4
    obtain rfl := Option.some.inj h4
    have kT : Kp No Ha (upd Ha T (.tup [.int (i : Nat), x2])) := Kp.new hT
    have k2 := h2.trans kT
    have hD2 := kT.all D _ h1 id
    have ely : ys.length ≤ i := by
      rw [h3.length, List.length_map]
      exact Nat.le_trans (List.length_filterMap_le _ _) (by rw [List.length_zipIdx, List.length_take]; omega)
    refine hs i T x2 _ _ _ hir (Im.up k2 _ _ h5) upd_same k2 (fun y b H4 e k4 im => ?_) (fun H3 e k3 => ?_)
    · have hD4 := k4.all D _ hD2 id
      refine ⟨ys, hD4, Nat.lt_of_le_of_lt ely (Nat.lt_of_lt_of_le (show i < 1000000 by omega) (by decide)), ys ++ [y], upd_same, (k2.trans k4).put hD hD4, ?_⟩
      rw [fmI_take f r hir, e, List.map_append]
      have k5 : Kp (At D) _ (upd _ D (.lst (ys ++ [y]))) := Kp.set rfl hD4
      exact (ImAll.up k5 _ _ (ImAll.up k4 _ _ (ImAll.up kT _ _ h3))).snoc (Im.up k5 _ _ im)
    · refine ⟨ys, k3.all D _ hD2 id, k2.trans k3, ?_⟩
      rw [fmI_take f r hir, e]
      simpa using ImAll.up k3 _ _ (ImAll.up kT _ _ h3)
  · rintro H ⟨ys, h1, h2, h3⟩
    rw [el, List.take_length] at h3
    exact hd ys H h1 h2 h3
end

/-! ### the first layer rubbed, scraped -/
/-- the number of the layer of rank 0 -/
def topN (r : List Lay) : Nat := (rankM r).headD 0
theorem rankM_cons {r : List Lay} (h : r ≠ []) : ∃ m, rankM r = topN r :: m := by
  unfold topN
  cases e : rankM r with
  | nil =>
    have := rankM_length r
    rw [e] at this
    cases r with
    | nil => exact absurd rfl h
    | cons a r => simp at this
  | cons i m => exact ⟨m, rfl⟩
theorem topN_lt {r : List Lay} (h : r ≠ []) : topN r < r.length := by
  obtain ⟨m, e⟩ := rankM_cons h
  exact rankM_mem.mp (by rw [e]; exact List.mem_cons_self)
theorem firstV_top {r : List Lay} (h : r ≠ []) : firstV r = .int (topN r : Nat) := by
  obtain ⟨m, e⟩ := rankM_cons h
  unfold firstV
  rw [e]
theorem firstV_nil : firstV [] = .non := by
  unfold firstV
  rw [rankM_nil]
/-- nothing ranks ahead of it, and it alone is so -/
theorem topN_first {r : List Lay} (h : r ≠ []) {j : Nat} (hj : j < r.length) : ahead r j (topN r) = false := by
  obtain ⟨m, e⟩ := rankM_cons h
  have hs := rankM_sorted r
  rw [e] at hs
  have hm : j ∈ topN r :: m := by rw [← e]; exact rankM_mem.mpr hj
  rcases List.mem_cons.mp hm with z | z
  · rw [z]; exact ahead_irr r _
  · exact (List.pairwise_cons.mp hs).1 j z
theorem topN_uniq {r : List Lay} {t : Nat} (ht : t < r.length) (h : ∀ j, j < r.length → ahead r j t = false) : topN r = t := by
  have hne : r ≠ [] := fun z => by rw [z] at ht; simp at ht
  exact ahead_anti r _ _ (topN_first hne ht) (h _ (topN_lt hne)) |>.symm ▸ rfl
def scrapM (r : List Lay) : List Lay := r.eraseIdx (topN r)
def lowM (r : List Lay) (t : Nat) (n : Int) : List Lay := r.set t ((r.getD t (default, 0)).1, stg r t - n)
def rubM (r : List Lay) (n : Int) : List Lay := if 0 < stg r (topN r) - n then lowM r (topN r) n else scrapM r
theorem erase_idx {α : Type} : ∀ (r : List α) (k t : Nat), (r.zipIdx k).filterMap (fun p => if p.2 ≠ t then some p.1 else none) = if t < k then r else r.eraseIdx (t - k)
  | [], k, t => by simp
  | a :: r, k, t => by
    rw [List.zipIdx_cons, List.filterMap_cons, erase_idx r (k + 1) t]
    by_cases h : t < k
    · rw [if_pos (show k ≠ t by omega), if_pos h, if_pos (show t < k + 1 by omega)]
    · by_cases e : k = t
      · rw [if_neg (by simp [e]), if_neg h, if_pos (show t < k + 1 by omega), e, Nat.sub_self, List.eraseIdx_cons_zero]
      · rw [if_pos e, if_neg h, if_neg (show ¬ t < k + 1 by omega)]
        obtain ⟨d, hd⟩ : ∃ d, t - k = d + 1 := ⟨t - k - 1, by omega⟩
        rw [hd, List.eraseIdx_cons_succ, show t - (k + 1) = d by omega]
theorem fmI_erase {α : Type} (r : List α) (t : Nat) : fmI (fun i l => if i ≠ t then some l else none) r = r.eraseIdx t := by
  have := erase_idx r 0 t
  rw [if_neg (Nat.not_lt_zero t), Nat.sub_zero] at this
  exact this
theorem set_idx {α : Type} (g : α → α) : ∀ (r : List α) (k t : Nat), (r.zipIdx k).map (fun p => if p.2 = t then g p.1 else p.1) = if t < k then r else r.modify (t - k) g
  | [], k, t => by simp
  | a :: r, k, t => by
    rw [List.zipIdx_cons, List.map_cons, set_idx g r (k + 1) t]
    by_cases h : t < k
    · rw [if_neg (show ¬ k = t by omega), if_pos h, if_pos (show t < k + 1 by omega)]
    · by_cases e : k = t
      · rw [if_pos e, if_neg h, if_pos (show t < k + 1 by omega), e, Nat.sub_self, List.modify_zero_cons]
      · rw [if_neg e, if_neg h, if_neg (show ¬ t < k + 1 by omega)]
        obtain ⟨d, hd⟩ : ∃ d, t - k = d + 1 := ⟨t - k - 1, by omega⟩
        rw [hd, List.modify_succ_cons, show t - (k + 1) = d by omega]
theorem fmI_low {r : List Lay} {t : Nat} (n : Int) : fmI (fun i (l : Lay) => some ((l.1, l.2 - n * (if ((i : Nat) : Int) = (t : Int) then 1 else 0)) : Lay)) r = lowM r t n := by
  have e : (fun p : Lay × Nat => some ((p.1.1, p.1.2 - n * (if ((p.2 : Nat) : Int) = (t : Int) then 1 else 0)) : Lay)) = fun p => some (if p.2 = t then ((p.1.1, p.1.2 - n) : Lay) else p.1) := by
    funext p
    by_cases h : p.2 = t
    · rw [if_pos h, if_pos (by omega), Int.mul_one]
    · rw [if_neg h, if_neg (by omega), Int.mul_zero, Int.sub_zero]
  unfold fmI
  rw [e, List.filterMap_eq_map' (f := fun p : Lay × Nat => if p.2 = t then ((p.1.1, p.1.2 - n) : Lay) else p.1)]
  have := set_idx (fun l : Lay => (l.1, l.2 - n)) r 0 t
  rw [if_neg (Nat.not_lt_zero t), Nat.sub_zero] at this
  rw [this]
  unfold lowM stg
  refine List.ext_getElem? fun j => ?_
  rw [List.getElem?_modify, List.getElem?_set]
  by_cases hj : t = j
  · subst hj
    by_cases ht : t < r.length
    · rw [List.getElem?_eq_getElem ht, List.getD_eq_getElem?_getD, List.getElem?_eq_getElem ht]
      simp [ht]
    · rw [List.getElem?_eq_none (by omega)]
      simp
      omega
  · simp [hj]
/-- what comes to nought goes: the first alone can -/
theorem there_low {r : List Lay} {n : Int} (hne : r ≠ []) (hpos : ∀ l ∈ r, 0 < l.2) : (lowM r (topN r) n).filter (fun l => decide (0 < l.2)) = rubM r n := by
  have ht := topN_lt hne
  have es : stg r (topN r) = r[topN r].2 := stg_at ht
  have eg : (r.getD (topN r) (default, 0)) = r[topN r] := by
    rw [List.getD_eq_getElem?_getD, List.getElem?_eq_getElem ht]
    rfl
  unfold rubM lowM scrapM
  rw [eg, es]
  generalize topN r = t at ht
  have hsplit : r = r.take t ++ r[t] :: r.drop (t + 1) := by
    rw [List.getElem_cons_drop ht, List.take_append_drop]
  have hset : r.set t ((r[t].1, r[t].2 - n) : Lay) = r.take t ++ ((r[t].1, r[t].2 - n) : Lay) :: r.drop (t + 1) := List.set_eq_take_append_cons_drop .. |>.trans (by rw [if_pos ht])
  have her : r.eraseIdx t = r.take t ++ r.drop (t + 1) := List.eraseIdx_eq_take_drop_succ ..
  have f1 : (r.take t).filter (fun l => decide (0 < l.2)) = r.take t := List.filter_eq_self.mpr fun l hl => decide_eq_true (hpos l (List.mem_of_mem_take hl))
  have f2 : (r.drop (t + 1)).filter (fun l => decide (0 < l.2)) = r.drop (t + 1) := List.filter_eq_self.mpr fun l hl => decide_eq_true (hpos l (List.mem_of_mem_drop hl))
  rw [hset, her, List.filter_append, List.filter_cons, f1, f2]
  by_cases h : 0 < r[t].2 - n
  · rw [if_pos h, if_pos (decide_eq_true h)]
  · rw [if_neg h, if_neg (by simpa using h)]
/-! ### max, min of a list of whole numbers -/
section
variable {X : Cx} {K : PySem.W.Frag}
def yMaxL (K : PySem.W.Frag) : List V → Hp → VK → Prop := fun vs H Q => match vs with
  | [.ref a] => ∃ ns : List Int, SqL K H a (ns.map V.int) ∧ 0 < ns.length ∧ ∀ m, m ∈ ns → (∀ y, y ∈ ns → y ≤ m) → Q (.int m) H
  | _ => False
theorem kMaxL (h : X.K = K) (hc : X.calm = true) : CallR X (.builtin "max") (yMaxL K) := by
  subst h
  refine CallR.imp (cr_max hc) fun vs H Q q => ?_
  unfold yMaxL at q
  split at q
  · obtain ⟨ns, h1, h2, h3⟩ := q
    exact ⟨_, ns, rfl, h1, h2, h3⟩
  · exact q.elim
def yMinL (K : PySem.W.Frag) : List V → Hp → VK → Prop := fun vs H Q => match vs with
  | [.ref a] => ∃ ns : List Int, SqL K H a (ns.map V.int) ∧ 0 < ns.length ∧ ∀ m, m ∈ ns → (∀ y, y ∈ ns → m ≤ y) → Q (.int m) H
  | _ => False
theorem kMinL (h : X.K = K) (hc : X.calm = true) : CallR X (.builtin "min") (yMinL K) := by
  subst h
  refine CallR.imp (cr_min hc) fun vs H Q q => ?_
  unfold yMinL at q
  split at q
  · obtain ⟨ns, h1, h2, h3⟩ := q
    exact ⟨_, ns, rfl, h1, h2, h3⟩
  · exact q.elim
end

/-! ### tuples cut and put together, as data -/
def cutG {α : Type} (xs : List α) (lo hi : Option Int) : List α := (xs.drop (HT.sIx xs.length 0 lo)).take (HT.sIx xs.length xs.length hi - HT.sIx xs.length 0 lo)
theorem cutG_map {α β : Type} (f : α → β) (xs : List α) (lo hi : Option Int) : cutG (xs.map f) lo hi = (cutG xs lo hi).map f := by
  unfold cutG
  rw [List.length_map, List.map_take, List.map_drop]
theorem cutG_to {α : Type} (xs : List α) (n : Nat) : cutG xs none (some (n : Int)) = xs.take n := by
  unfold cutG
  rw [show HT.sIx xs.length 0 none = 0 from rfl, HT.sIx_nat, List.drop_zero, Nat.sub_zero]
  by_cases hn : n ≤ xs.length
  · rw [Nat.min_eq_left hn]
  · rw [Nat.min_eq_right (by omega), List.take_length, List.take_of_length_le (by omega)]
theorem cutG_from {α : Type} (xs : List α) (n : Nat) : cutG xs (some (n : Int)) none = xs.drop n := by
  unfold cutG
  rw [show HT.sIx xs.length xs.length none = xs.length from rfl, HT.sIx_nat]
  by_cases hn : n ≤ xs.length
  · rw [Nat.min_eq_left hn]
    exact List.take_of_length_le (by rw [List.length_drop]; exact Nat.le_refl _)
  · rw [Nat.min_eq_right (by omega), Nat.sub_self, List.take_zero, List.drop_of_length_le (by omega)]
theorem ImAll.drop {K : PySem.W.Frag} {H : Hp} : ∀ {vs : List V} {ds : List PyData} (n : Nat), ImAll K H vs ds → ImAll K H (vs.drop n) (ds.drop n)
  | _, _, 0, h => h
  | [], [], n + 1, _ => by simpa using ImAll.nil
  | _ :: _, _ :: _, n + 1, .cons _ h => h.drop n
theorem ImAll.take {K : PySem.W.Frag} {H : Hp} : ∀ {vs : List V} {ds : List PyData} (n : Nat), ImAll K H vs ds → ImAll K H (vs.take n) (ds.take n)
  | _, _, 0, h => by simpa using ImAll.nil
  | [], [], n + 1, _ => by simpa using ImAll.nil
  | _ :: _, _ :: _, n + 1, .cons h1 h => .cons h1 (h.take n)
theorem ImAll.cut {K : PySem.W.Frag} {H : Hp} {vs : List V} {ds : List PyData} (h : ImAll K H vs ds) (lo hi : Option Int) : ImAll K H (cutV vs lo hi) (cutG ds lo hi) := by
  unfold cutV cutG
  rw [h.length]
  exact (h.drop _).take _
section
variable [Tb] {K : PySem.W.Frag} {H : Hp}
theorem sl_im {v : V} {ds : List PyData} {lo hi : Option Int} {Q : VK} (him : Im K H v (.tuple ds)) (q : ∀ v' H', Kp No H H' → Im K H' v' (.tuple (cutG ds lo hi)) → Q v' H') : ySl K v lo hi H Q := by
  obtain ⟨a, xs, rfl, ht, hxs⟩ := id him.tupInv
  refine .inr ⟨a, xs, rfl, ht.sq, fun h => q _ _ (Kp.refl _) ?_, fun _ p hp => q _ _ (Kp.new hp) (Im.mk upd_same (ImAll.up (Kp.new (S := No) hp) _ _ (hxs.cut lo hi)))⟩
  have e : cutG ds lo hi = ds := by
    unfold cutG
    rw [← hxs.length, h.1, h.2, List.drop_zero, Nat.sub_zero, hxs.length, List.take_length]
  rw [e]
  exact him
theorem add_im {v w : V} {ds es : List PyData} {Q : VK} (h1 : Im K H v (.tuple ds)) (h2 : Im K H w (.tuple es)) (hl : ds.length + es.length ≤ 1000000) (q : ∀ v' H', Kp No H H' → Im K H' v' (.tuple (ds ++ es)) → Q v' H') : yAdd K v w H Q := by
  obtain ⟨a, xs, rfl, ht, hxs⟩ := id h1.tupInv
  obtain ⟨b, ys, rfl, hu, hys⟩ := id h2.tupInv
  refine .inr ⟨a, b, xs, ys, rfl, rfl, ht.sq, hu.sq, ?_, fun e => q _ _ (Kp.refl _) ?_, fun _ e => q _ _ (Kp.refl _) ?_, fun _ _ p hp => q _ _ (Kp.new hp) (Im.mk upd_same (ImAll.up (Kp.new (S := No) hp) _ _ (hxs.app hys)))⟩
  · rw [hxs.length, hys.length]
    exact Nat.le_trans hl (by decide)
  · subst e
    cases hxs
    exact h2
  · subst e
    cases hys
    rw [List.append_nil]
    exact h1
end
end Y

set_option Elab.async false
set_option linter.all false
set_option maxRecDepth 100000
set_option maxHeartbeats 4000000
/-! N1: normal rows, as mathematics. -/
namespace Y
open PySem PySem.Spec PyProof.Rows L2

/-- a layer put below a row, moved up through its stretch as long as that is weaker -/
def insM (x : Lay) : List Lay → List Lay
  | [] => [x]
  | y :: t => if x.1 = y.1 ∧ y.2 < x.2 then y :: insM x t else x :: y :: t
def normM (r : List Lay) : List Lay := r.foldr insM []
theorem normM_cons (x : Lay) (r : List Lay) : normM (x :: r) = insM x (normM r) := rfl
theorem lay_eq {x y : Lay} (h1 : x.1 = y.1) (h2 : x.2 = y.2) : x = y := Prod.ext h1 h2
/-- two of one tag: either order -/
theorem insM_comm {x y : Lay} (h : x.1 = y.1) : ∀ t : List Lay, insM x (insM y t) = insM y (insM x t)
  | [] => by
    by_cases h1 : y.2 < x.2
    · simp [insM, h, h1, show ¬ x.2 < y.2 by omega]
    · by_cases h2 : x.2 < y.2
      · simp [insM, h, h1, h2]
      · rw [lay_eq h (by omega)]
  | z :: t => by
    by_cases hz : x.1 = z.1
    · have hy : y.1 = z.1 := h ▸ hz
      by_cases a : z.2 < x.2
      · by_cases b : z.2 < y.2
        · simp only [insM, hz, hy, a, b, and_self, if_true]
          rw [insM_comm h t]
        · have c : y.2 < x.2 := by omega
          simp only [insM, hz, hy, a, b, and_false, and_self, if_true, if_false, true_and, c]
      · by_cases b : z.2 < y.2
        · have c : x.2 < y.2 := by omega
          simp only [insM, hz, hy, a, b, and_false, and_self, if_true, if_false, true_and, c]
        · by_cases c : y.2 < x.2
          · simp [insM, hz, hy, a, b, c, show ¬ x.2 < y.2 by omega]
          · by_cases d : x.2 < y.2
            · simp [insM, hz, hy, a, b, c, d]
            · rw [lay_eq h (by omega)]
    · have hy : ¬ y.1 = z.1 := fun e => hz (h.trans e)
      by_cases c : y.2 < x.2
      · simp [insM, hz, hy, c, h, show ¬ x.2 < y.2 by omega]
      · by_cases d : x.2 < y.2
        · simp [insM, hz, hy, c, d, h]
        · rw [lay_eq h (by omega)]
/-- no neighbours of one tag of which the lower is stronger -/
def LocS : List Lay → Prop
  | x :: y :: t => ¬ (x.1 = y.1 ∧ y.2 < x.2) ∧ LocS (y :: t)
  | _ => True
theorem insM_id {x : Lay} {t : List Lay} (h : LocS (x :: t)) : insM x t = x :: t := by
  cases t with
  | nil => rfl
  | cons y t => exact if_neg h.1
theorem LocS.tail {x : Lay} {t : List Lay} (h : LocS (x :: t)) : LocS t := by
  cases t with
  | nil => trivial
  | cons y t => exact h.2
theorem norm_id : ∀ {r : List Lay}, LocS r → normM r = r
  | [], _ => rfl
  | x :: r, h => by rw [normM_cons, norm_id h.tail, insM_id h]
theorem insM_loc {x : Lay} : ∀ {t : List Lay}, LocS t → LocS (insM x t)
  | [], _ => trivial
  | y :: t, h => by
    by_cases c : x.1 = y.1 ∧ y.2 < x.2
    · have e : insM x (y :: t) = y :: insM x t := if_pos c
      rw [e]
      have ih := insM_loc (x := x) h.tail
      cases t with
      | nil =>
        refine ⟨fun z => ?_, trivial⟩
        have := z.2
        have := c.2
        omega
      | cons w t =>
        by_cases d : x.1 = w.1 ∧ w.2 < x.2
        · have e2 : insM x (w :: t) = w :: insM x t := if_pos d
          rw [e2] at ih ⊢
          exact ⟨h.1, ih⟩
        · have e2 : insM x (w :: t) = x :: w :: t := if_neg d
          rw [e2] at ih ⊢
          refine ⟨fun z => ?_, ih⟩
          have := z.2
          have := c.2
          omega
    · have e : insM x (y :: t) = x :: y :: t := if_neg c
      rw [e]
      exact ⟨c, h⟩
theorem norm_loc : ∀ r : List Lay, LocS (normM r)
  | [] => trivial
  | x :: r => insM_loc (norm_loc r)
theorem norm_norm (r : List Lay) : normM (normM r) = normM r := norm_id (norm_loc r)
theorem normM_app (a b : List Lay) : normM (a ++ b) = a.foldr insM (normM b) := by
  unfold normM
  rw [List.foldr_append]
/-- neighbours of one tag exchanged -/
theorem norm_swap {x y : Lay} (h : x.1 = y.1) (a b : List Lay) : normM (a ++ x :: y :: b) = normM (a ++ y :: x :: b) := by
  rw [normM_app, normM_app, normM_cons, normM_cons, normM_cons, normM_cons, insM_comm h]
/-- a block of one tag rearranged -/
theorem fold_perm {g g' : List Lay} (p : g.Perm g') (h : ∀ x ∈ g, ∀ y ∈ g, x.1 = y.1) (t : List Lay) : g.foldr insM t = g'.foldr insM t := by
  induction p generalizing t with
  | nil => rfl
  | cons x _ ih => rw [List.foldr_cons, List.foldr_cons, ih fun a ha b hb => h a (List.mem_cons_of_mem _ ha) b (List.mem_cons_of_mem _ hb)]
  | swap x y l =>
    rw [List.foldr_cons, List.foldr_cons, List.foldr_cons, List.foldr_cons]
    exact insM_comm (h y List.mem_cons_self x (List.mem_cons_of_mem _ List.mem_cons_self)) _
  | trans p1 _ ih1 ih2 =>
    rw [ih1 h, ih2 fun a ha b hb => h a (p1.mem_iff.mpr ha) b (p1.mem_iff.mpr hb)]
theorem insM_perm (x : Lay) : ∀ t : List Lay, (insM x t).Perm (x :: t)
  | [] => .refl _
  | y :: t => by
    unfold insM
    split
    · exact ((insM_perm x t).cons y).trans (.swap x y t)
    · exact .refl _
theorem norm_perm : ∀ r : List Lay, (normM r).Perm r
  | [] => .refl _
  | x :: r => (insM_perm x _).trans ((norm_perm r).cons x)
theorem insM_tags (x : Lay) : ∀ t : List Lay, (insM x t).map (·.1) = x.1 :: t.map (·.1)
  | [] => rfl
  | y :: t => by
    unfold insM
    split
    · rename_i h
      rw [List.map_cons, insM_tags x t, List.map_cons, h.1]
    · rfl
theorem norm_tags : ∀ r : List Lay, (normM r).map (·.1) = r.map (·.1)
  | [] => rfl
  | x :: r => by rw [normM_cons, insM_tags, norm_tags r]; rfl
theorem norm_len (r : List Lay) : (normM r).length = r.length := (norm_perm r).length_eq
theorem norm_mem {r : List Lay} {l : Lay} : l ∈ normM r ↔ l ∈ r := (norm_perm r).mem_iff

/-! ### exchanges one by one -/
/-- the first neighbours of one tag of which the lower is stronger, exchanged -/
def nextM : List Lay → Option (List Lay)
  | x :: y :: t => if x.1 = y.1 ∧ y.2 < x.2 then some (y :: x :: t) else (nextM (y :: t)).map (x :: ·)
  | _ => none
theorem next_none : ∀ {r : List Lay}, nextM r = none → LocS r
  | [], _ => trivial
  | [_], _ => trivial
  | x :: y :: t, h => by
    unfold nextM at h
    split at h
    · cases h
    · rename_i c
      exact ⟨c, next_none (by simpa using h)⟩
theorem next_norm : ∀ {r r' : List Lay}, nextM r = some r' → normM r' = normM r
  | [], _, h => by cases h
  | [_], _, h => by cases h
  | x :: y :: t, r', h => by
    unfold nextM at h
    split at h
    · rename_i c
      obtain rfl := Option.some.inj h
      exact norm_swap c.1.symm [] t
    · cases e : nextM (y :: t) with
      | none => rw [e] at h; cases h
      | some u =>
        rw [e] at h
        obtain rfl := Option.some.inj h
        rw [normM_cons, normM_cons, next_norm e]
/-- how many pairs stand the wrong way about -/
def invs : List Lay → Nat
  | [] => 0
  | x :: t => (t.filter fun y => decide (y.2 < x.2)).length + invs t
theorem next_perm : ∀ {r r' : List Lay}, nextM r = some r' → r'.Perm r
  | [], _, h => by cases h
  | [_], _, h => by cases h
  | x :: y :: t, r', h => by
    unfold nextM at h
    split at h
    · obtain rfl := Option.some.inj h
      exact .swap x y t
    · cases e : nextM (y :: t) with
      | none => rw [e] at h; cases h
      | some u =>
        rw [e] at h
        obtain rfl := Option.some.inj h
        exact (next_perm e).cons x
theorem next_invs : ∀ {r r' : List Lay}, nextM r = some r' → invs r' < invs r
  | [], _, h => by cases h
  | [_], _, h => by cases h
  | x :: y :: t, r', h => by
    unfold nextM at h
    split at h
    · rename_i c
      obtain rfl := Option.some.inj h
      have c2 := c.2
      simp only [invs, List.filter_cons, decide_eq_true c2, decide_eq_false (show ¬ x.2 < y.2 by omega), if_true, List.length_cons]
      simp only [Bool.false_eq_true, if_false]
      omega
    · cases e : nextM (y :: t) with
      | none => rw [e] at h; cases h
      | some u =>
        rw [e] at h
        obtain rfl := Option.some.inj h
        have ih := next_invs e
        have p := next_perm e
        show (u.filter _).length + invs u < ((y :: t).filter _).length + invs (y :: t)
        rw [(p.filter _).length_eq]
        omega
theorem invs_le : ∀ r : List Lay, invs r ≤ r.length * r.length
  | [] => Nat.le_refl _
  | x :: t => by
    have ih := invs_le t
    have h1 := List.length_filter_le (fun y : Lay => decide (y.2 < x.2)) t
    show (t.filter fun y => decide (y.2 < x.2)).length + invs t ≤ (t.length + 1) * (t.length + 1)
    rw [Nat.add_mul, Nat.mul_add]
    omega
/-- exchanged k times, or till there are none -/
def stepM (r : List Lay) : List Lay := (nextM r).getD r
theorem step_norm (r : List Lay) : normM (stepM r) = normM r := by
  unfold stepM
  cases e : nextM r with
  | none => rfl
  | some u => exact next_norm e
theorem step_perm (r : List Lay) : (stepM r).Perm r := by
  unfold stepM
  cases e : nextM r with
  | none => exact .refl _
  | some u => exact next_perm e
def stepsM (r : List Lay) : Nat → List Lay
  | 0 => r
  | k + 1 => stepM (stepsM r k)
theorem steps_norm (r : List Lay) : ∀ k, normM (stepsM r k) = normM r
  | 0 => rfl
  | k + 1 => (step_norm _).trans (steps_norm r k)
theorem steps_perm (r : List Lay) : ∀ k, (stepsM r k).Perm r
  | 0 => .refl _
  | k + 1 => (step_perm _).trans (steps_perm r k)
theorem steps_done (r : List Lay) : ∀ k, nextM (stepsM r k) = none ∨ invs (stepsM r k) + k ≤ invs r
  | 0 => .inr (Nat.le_refl _)
  | k + 1 => by
    rcases steps_done r k with h | h
    · have e : stepsM r (k + 1) = stepsM r k := by
        show stepM (stepsM r k) = _
        unfold stepM
        rw [h]
        rfl
      rw [e]
      exact .inl h
    · cases e : nextM (stepsM r k) with
      | none =>
        have e2 : stepsM r (k + 1) = stepsM r k := by
          show stepM (stepsM r k) = _
          unfold stepM
          rw [e]
          rfl
        rw [e2]
        exact .inl e
      | some u =>
        have e2 : stepsM r (k + 1) = u := by
          show stepM (stepsM r k) = _
          unfold stepM
          rw [e]
          rfl
        rw [e2]
        have := next_invs e
        exact .inr (by omega)
theorem steps_all (r : List Lay) : stepsM r (r.length * r.length) = normM r := by
  have h : nextM (stepsM r (r.length * r.length)) = none := by
    rcases steps_done r (r.length * r.length) with h | h
    · exact h
    · have h1 := invs_le r
      have h0 : invs (stepsM r (r.length * r.length)) = 0 := by omega
      cases e : nextM (stepsM r (r.length * r.length)) with
      | none => rfl
      | some u =>
        have := next_invs e
        omega
  have hl := next_none h
  rw [← steps_norm r (r.length * r.length), norm_id hl]

/-! ### stretches -/
/-- neighbouring blocks have unlike tags -/
def Apart : List (List Lay) → Prop
  | g :: g' :: t => (∀ x ∈ g, ∀ y ∈ g', x.1 ≠ y.1) ∧ Apart (g' :: t)
  | _ => True
theorem Apart.snoc {g : List Lay} : ∀ {gs : List (List Lay)}, Apart gs → (∀ g0, gs.getLast? = some g0 → ∀ x ∈ g0, ∀ y ∈ g, x.1 ≠ y.1) → Apart (gs ++ [g])
  | [], _, _ => trivial
  | [g0], _, h => ⟨h g0 rfl, trivial⟩
  | g0 :: g1 :: t, ha, h => ⟨ha.1, Apart.snoc (gs := g1 :: t) ha.2 fun g2 e => h g2 (by rw [List.getLast?_cons_cons]; exact e)⟩
theorem Apart.more {g g' : List Lay} (h : ∀ y ∈ g', ∃ x ∈ g, x.1 = y.1) : ∀ {gs : List (List Lay)}, Apart (gs ++ [g]) → Apart (gs ++ [g'])
  | [], _ => trivial
  | [g0], ha => ⟨fun x hx y hy => by
      obtain ⟨z, hz, e⟩ := h y hy
      rw [← e]
      exact ha.1 x hx z hz, trivial⟩
  | g0 :: g1 :: t, ha => ⟨ha.1, Apart.more h (gs := g1 :: t) ha.2⟩
/-- a row parted into stretches -/
structure StrOk (gs : List (List Lay)) (r : List Lay) : Prop where
  flat : gs.flatten = r
  full : ∀ g ∈ gs, g ≠ []
  one : ∀ g ∈ gs, ∀ x ∈ g, ∀ y ∈ g, x.1 = y.1
  apart : Apart gs
theorem StrOk.nil : StrOk [] [] := ⟨rfl, fun _ h => (nomatch h), fun _ h => (nomatch h), trivial⟩
/-- the next layer, of the last stretch's tag -/
theorem StrOk.same {gs : List (List Lay)} {g r : List Lay} {l : Lay} (h : StrOk (gs ++ [g]) r) (x : Lay) (hx : x ∈ g) (e : x.1 = l.1) : StrOk (gs ++ [g ++ [l]]) (r ++ [l]) := by
  have o1 := h.one g (List.mem_append_right _ (List.mem_singleton.mpr rfl))
  refine ⟨by rw [← h.flat]; simp, fun g' hg' => ?_, fun g' hg' => ?_, h.apart.more fun y hy => ?_⟩
  · rcases List.mem_append.mp hg' with z | z
    · exact h.full g' (List.mem_append_left _ z)
    · rw [List.mem_singleton.mp z]; simp
  · rcases List.mem_append.mp hg' with z | z
    · exact h.one g' (List.mem_append_left _ z)
    · rw [List.mem_singleton.mp z]
      intro a ha b hb
      have t1 : ∀ a ∈ g ++ [l], a.1 = l.1 := fun a ha => by
        rcases List.mem_append.mp ha with q | q
        · rw [o1 a q x hx, e]
        · rw [List.mem_singleton.mp q]
      rw [t1 a ha, t1 b hb]
  · rcases List.mem_append.mp hy with q | q
    · exact ⟨y, q, rfl⟩
    · rw [List.mem_singleton.mp q]
      exact ⟨x, hx, e⟩
/-- .. of another tag, or the first -/
theorem StrOk.new {gs : List (List Lay)} {r : List Lay} {l : Lay} (h : StrOk gs r) (hn : ∀ g, gs.getLast? = some g → ∃ x ∈ g, x.1 ≠ l.1) : StrOk (gs ++ [[l]]) (r ++ [l]) := by
  refine ⟨by rw [← h.flat]; simp, fun g' hg' => ?_, fun g' hg' => ?_, h.apart.snoc fun g0 e x hx y hy => ?_⟩
  · rcases List.mem_append.mp hg' with z | z
    · exact h.full g' z
    · rw [List.mem_singleton.mp z]; simp
  · rcases List.mem_append.mp hg' with z | z
    · exact h.one g' z
    · rw [List.mem_singleton.mp z]
      intro a ha b hb
      rw [List.mem_singleton.mp ha, List.mem_singleton.mp hb]
  · obtain ⟨z, hz, ne⟩ := hn g0 e
    rw [List.mem_singleton.mp hy, h.one g0 (List.mem_of_getLast? e) x hx z hz]
    exact ne
/-- a block by strength -/
structure ByS (s g : List Lay) : Prop where
  perm : s.Perm g
  up : s.Pairwise fun x y => x.2 ≤ y.2
theorem locs_app : ∀ {s t : List Lay}, (s.Pairwise fun x y => x.2 ≤ y.2) → LocS t → (∀ x ∈ s, ∀ y, t.head? = some y → x.1 ≠ y.1) → LocS (s ++ t)
  | [], _, _, ht, _ => ht
  | [x], [], _, _, _ => trivial
  | [x], y :: t, _, ht, hn => ⟨fun z => hn x List.mem_cons_self y rfl z.1, ht⟩
  | x :: x' :: s, t, hs, ht, hn => by
    refine ⟨fun z => ?_, locs_app (s := x' :: s) (List.pairwise_cons.mp hs).2 ht fun a ha => hn a (List.mem_cons_of_mem _ ha)⟩
    have := (List.pairwise_cons.mp hs).1 x' List.mem_cons_self
    omega
theorem flat_norm : ∀ {ss gs : List (List Lay)}, Paired ByS ss gs → (∀ g ∈ gs, g ≠ []) → (∀ g ∈ gs, ∀ x ∈ g, ∀ y ∈ g, x.1 = y.1) → Apart gs → normM ss.flatten = normM gs.flatten ∧ LocS ss.flatten
  | _, _, .nil, _, _, _ => ⟨rfl, trivial⟩
  | s :: ss, g :: gs, .cons h hr, hf, h1, ha => by
    have ha' : Apart gs := by
      cases gs with
      | nil => trivial
      | cons g' t => exact ha.2
    have ih := flat_norm hr (fun a b => hf a (List.mem_cons_of_mem _ b)) (fun a b => h1 a (List.mem_cons_of_mem _ b)) ha'
    refine ⟨?_, ?_⟩
    · rw [List.flatten_cons, List.flatten_cons, normM_app, normM_app, ih.1]
      exact fold_perm h.perm (fun x hx y hy => h1 g List.mem_cons_self x (h.perm.mem_iff.mp hx) y (h.perm.mem_iff.mp hy)) _
    · rw [List.flatten_cons]
      refine locs_app h.up ih.2 fun x hx y hy => ?_
      cases hr with
      | nil => simp at hy
      | @cons s' g' ss' gs' h' hr' =>
        have hne : g' ≠ [] := hf g' (List.mem_cons_of_mem _ List.mem_cons_self)
        have hne' : s' ≠ [] := fun z => hne (by
          have := h'.perm.length_eq
          rw [z] at this
          exact List.length_eq_zero_iff.mp this.symm)
        cases hs : s' with
        | nil => exact absurd hs hne'
        | cons z s0 =>
          rw [hs, List.flatten_cons, List.cons_append, List.head?_cons] at hy
          obtain rfl := Option.some.inj hy
          exact ha.1 x (h.perm.mem_iff.mp hx) z (h'.perm.mem_iff.mp (by rw [hs]; exact List.mem_cons_self))
theorem flat_is {ss gs : List (List Lay)} {r : List Lay} (h : Paired ByS ss gs) (ok : StrOk gs r) : ss.flatten = normM r := by
  obtain ⟨h1, h2⟩ := flat_norm h ok.full ok.one ok.apart
  rw [← norm_id h2, h1, ok.flat]
theorem paired_last {α β : Type} {R : α → β → Prop} {b : β} : ∀ {l : List α} {m : List β}, Paired R l (m ++ [b]) → ∃ l0 a, l = l0 ++ [a] ∧ Paired R l0 m ∧ R a b
  | _, [], h => by
    cases h with
    | cons h1 h2 =>
      cases h2
      exact ⟨[], _, rfl, .nil, h1⟩
  | _, c :: m, h => by
    cases h with
    | cons h1 h2 =>
      obtain ⟨l0, a, rfl, h3, h4⟩ := paired_last h2
      exact ⟨_ :: l0, a, rfl, .cons h1 h3, h4⟩
theorem paired_memL {α β : Type} {R : α → β → Prop} {a : α} : ∀ {l : List α} {m : List β}, Paired R l m → a ∈ l → ∃ b ∈ m, R a b
  | _, _, .nil, h => nomatch h
  | _, _, .cons h t, ha => by
    rcases List.mem_cons.mp ha with e | ha
    · exact ⟨_, List.mem_cons_self, by rw [e]; exact h⟩
    · obtain ⟨b, hb, r⟩ := paired_memL t ha
      exact ⟨b, List.mem_cons_of_mem _ hb, r⟩
theorem paired_impM {α β : Type} {R R' : α → β → Prop} : ∀ {l : List α} {m : List β}, Paired R l m → (∀ a ∈ l, ∀ b, R a b → R' a b) → Paired R' l m
  | _, _, .nil, _ => .nil
  | _, _, .cons h t, f => .cons (f _ List.mem_cons_self _ h) (paired_impM t fun a ha => f a (List.mem_cons_of_mem _ ha))
/-- what a sort by strength of a list of layers gives -/
theorem sorted_block {K : PySem.W.Frag} {H : Hp} {vs : List V} {g : List Lay} {pq : List ((Int × Int) × V)} (im : ImAll K H vs (g.map layD)) (p : pq.Perm ((g.map fun l : Lay => ((l.2, 0) : Int × Int)).zip vs)) (s : SrtO.Srtd (fun x y => SrtO.lexB x.1 y.1) pq) :
    ∃ z : List Lay, ByS z g ∧ ImAll K H (pq.map (·.2)) (z.map layD) := by
  have el : vs.length = g.length := by rw [im.length, List.length_map]
  have pr : Paired (fun (t : Lay × V) (q : (Int × Int) × V) => q = ((t.1.2, 0), t.2)) (g.zip vs) ((g.map fun l : Lay => ((l.2, 0) : Int × Int)).zip vs) := by
    clear p s im
    induction g generalizing vs with
    | nil => rw [List.zip_nil_left, List.map_nil, List.zip_nil_left]; exact .nil
    | cons a g ih =>
      cases vs with
      | nil => simp at el
      | cons v vs => exact .cons rfl (ih (by simpa using el))
  obtain ⟨T, pT, rT⟩ := paired_perm p.symm pr
  have hm : ∀ t ∈ g.zip vs, Im K H t.2 (layD t.1) := by
    clear pT rT pr p s
    induction g generalizing vs with
    | nil => intro t ht; simp at ht
    | cons a g ih =>
      cases vs with
      | nil => simp at el
      | cons v vs =>
        cases im with
        | cons h1 h2 =>
          intro t ht
          rw [List.zip_cons_cons] at ht
          rcases List.mem_cons.mp ht with e | ht
          · rw [e]; exact h1
          · exact ih h2 (by simpa using el) t ht
  refine ⟨T.map (·.1), ⟨?_, ?_⟩, ?_⟩
  · have q := pT.map (·.1)
    rw [List.map_fst_zip (by rw [el]; exact Nat.le_refl _)] at q
    exact q
  · refine List.pairwise_map.mpr (paired_pairwise (T' := fun a b => SrtO.lexB b.1 a.1 = false) (fun t q t' q' h1 h2 z => ?_) rT s)
    rw [h1, h2, SrtO.lexB_no] at z
    simp only at z
    omega
  · have hT : ∀ t ∈ T, Im K H t.2 (layD t.1) := fun t ht => hm t (pT.mem_iff.mp ht)
    have key : ∀ {l : List (Lay × V)} {m : List ((Int × Int) × V)}, Paired (fun (t : Lay × V) (q : (Int × Int) × V) => q = ((t.1.2, 0), t.2)) l m → (∀ t ∈ l, Im K H t.2 (layD t.1)) → ImAll K H (m.map (·.2)) ((l.map (·.1)).map layD) := by
      intro l m z
      induction z with
      | nil => intro _; exact .nil
      | cons h _ ih =>
        intro hh
        rw [h]
        exact .cons (hh _ List.mem_cons_self) (ih fun t ht => hh t (List.mem_cons_of_mem _ ht))
    exact key rT hT
theorem bys_len : ∀ {ss gs : List (List Lay)}, Paired ByS ss gs → ss.flatten.length = gs.flatten.length
  | _, _, .nil => rfl
  | _, _, .cons h t => by rw [List.flatten_cons, List.flatten_cons, List.length_append, List.length_append, bys_len t, h.perm.length_eq]
theorem take_flat {α : Type} : ∀ (gs : List (List α)) (i : Nat), (gs.take i).flatten.length ≤ gs.flatten.length
  | [], i => by simp
  | g :: gs, 0 => Nat.zero_le _
  | g :: gs, i + 1 => by
    rw [List.take_succ_cons, List.flatten_cons, List.flatten_cons, List.length_append, List.length_append]
    have := take_flat gs i
    omega
/-- the pair at j stands the wrong way about -/
def BadAt (r : List Lay) (j : Nat) : Prop := ∃ x y, r[j]? = some x ∧ r[j + 1]? = some y ∧ x.1 = y.1 ∧ y.2 < x.2
theorem next_at : ∀ {i : Nat} {r : List Lay} {x y : Lay}, r[i]? = some x → r[i + 1]? = some y → (∀ j, j < i → ¬ BadAt r j) → x.1 = y.1 → y.2 < x.2 → nextM r = some (r.take i ++ [y, x] ++ r.drop (i + 2))
  | 0, x0 :: y0 :: t, x, y, h1, h2, _, h3, h4 => by
    obtain rfl : x0 = x := by simpa using h1
    obtain rfl : y0 = y := by simpa using h2
    exact if_pos ⟨h3, h4⟩
  | i + 1, x0 :: y0 :: t, x, y, h1, h2, hb, h3, h4 => by
    have hb0 : ¬ (x0.1 = y0.1 ∧ y0.2 < x0.2) := fun z => hb 0 (Nat.succ_pos i) ⟨x0, y0, rfl, rfl, z⟩
    have ih := next_at (i := i) (r := y0 :: t) (x := x) (y := y) (by simpa using h1) (by simpa using h2) (fun j hj z => hb (j + 1) (by omega) (by
      obtain ⟨a, b, e1, e2, e3⟩ := z
      exact ⟨a, b, by simpa using e1, by simpa using e2, e3⟩)) h3 h4
    show (if x0.1 = y0.1 ∧ y0.2 < x0.2 then some (y0 :: x0 :: t) else (nextM (y0 :: t)).map (x0 :: ·)) = _
    rw [if_neg hb0, ih]
    rfl
  | 0, [x0], _, _, _, h2, _, _, _ => by simp at h2
  | 0, [], _, _, h1, _, _, _, _ => by simp at h1
  | i + 1, [x0], _, _, h1, _, _, _, _ => by simp at h1
  | i + 1, [], _, _, h1, _, _, _, _ => by simp at h1
theorem next_no : ∀ {r : List Lay}, (∀ j, ¬ BadAt r j) → nextM r = none
  | [], _ => rfl
  | [_], _ => rfl
  | x :: y :: t, h => by
    have h0 : ¬ (x.1 = y.1 ∧ y.2 < x.2) := fun z => h 0 ⟨x, y, rfl, rfl, z⟩
    show (if x.1 = y.1 ∧ y.2 < x.2 then some (y :: x :: t) else (nextM (y :: t)).map (x :: ·)) = none
    rw [if_neg h0, next_no (r := y :: t) fun j z => h (j + 1) (by
      obtain ⟨a, b, e1, e2, e3⟩ := z
      exact ⟨a, b, by simpa using e1, by simpa using e2, e3⟩)]
    rfl
/-- a walk from 0 on -/
theorem walk_range0 {n : Nat} : Walk (Itr 0 n) n (fun _ => True) (YFn fun i => .int (i : Int)) :=
  walk_range.mono (fun _ h => h) fun i H x H' _ _ y => ⟨y.1, by rw [y.2]; show V.int (0 + (i : Int)) = V.int (i : Int); rw [Int.zero_add]⟩
end Y

set_option Elab.async false
set_option linter.all false
set_option maxRecDepth 100000
set_option maxHeartbeats 4000000
/-! S1: sorted(..) of a tuple or a list of layers. -/
namespace Y
open PySem PySem.Spec PyProof.Rows L2 PySem.W
def layLe : Lay → Lay → Bool := dataLe false layD
def ySortLay (K : PySem.W.Frag) : List V → Hp → VK → Prop := fun vs H Q => match vs with
  | [.ref a] => ∃ (xs : List V) (r : List Lay), (SqL K H a xs ∨ SqT K H a xs) ∧ ImAll K H xs (r.map layD) ∧ ∀ ys p, ImAll K H ys ((r.mergeSort layLe).map layD) → H p = none → Q (.ref p) (upd H p (.lst ys))
  | _ => False
theorem zip_each {xs : List V} {r : List Lay} {its : List Value} (rv : Vals xs its) (el : xs.length = r.length) : EachIs (fun (v : Value) (b : V × Lay) => L2.RelV b.1 v) its (xs.zip r) := by
  induction rv generalizing r with
  | nil => rw [List.zip_nil_left]; exact .nil
  | cons h _ ih =>
    cases r with
    | nil => simp at el
    | cons a r => exact .cons h (ih (by simpa using el))
theorem each_vals {out : List Value} {bs : List (V × Lay)} (h : EachIs (fun (v : Value) (b : V × Lay) => L2.RelV b.1 v) out bs) : Vals (bs.map (·.1)) out := by
  induction h with
  | nil => exact .nil
  | cons h _ ih => exact .cons h ih
theorem zip_im {K : PySem.W.Frag} {H : Hp} : ∀ {xs : List V} {r : List Lay}, ImAll K H xs (r.map layD) → ∀ t ∈ xs.zip r, Im K H t.1 (layD t.2)
  | [], [], _, t, h => by simp at h
  | _ :: _, _ :: _, .cons h1 h2, t, ht => by
    rw [List.zip_cons_cons] at ht
    rcases List.mem_cons.mp ht with e | ht
    · rw [e]; exact h1
    · exact zip_im h2 t ht
theorem im_map {K : PySem.W.Frag} {H : Hp} : ∀ {bs : List (V × Lay)}, (∀ t ∈ bs, Im K H t.1 (layD t.2)) → ImAll K H (bs.map (·.1)) ((bs.map (·.2)).map layD)
  | [], _ => .nil
  | b :: bs, h => .cons (h b List.mem_cons_self) (im_map fun t ht => h t (List.mem_cons_of_mem _ ht))
theorem lay_alike (a b : Lay) : alike (layD a) (layD b) = true := by
  simp [layD, alike, alikeAll]
theorem each_reads {X : Cx} {pins : List (Addr × Obj)} {σ : L2.St} {H : Hp} {s : Shared} {h' : Heap} {D : Addr} (I : L2.Inv X pins σ H s) (k : ∀ b o, s.heap.get? b = some o → h'.get? b = some o) {xs : List V} {r : List Lay} {its : List Value} (rv : Vals xs its) (im : ImAll X.K H xs (r.map layD)) :
    EachIs (fun (v : Value) (b : V × Lay) => ∃ as, Reads h' v (layD b.2) as ∧ D ∉ as) its (xs.zip r) := by
  induction rv generalizing r with
  | nil => rw [List.zip_nil_left]; exact .nil
  | cons h _ ih =>
    cases r with
    | nil => cases im
    | cons a r =>
      cases im with
      | cons h1 h2 =>
        obtain ⟨as, rd⟩ := Dp.reads I _ _ _ (Im.dp _ _ h1) h
        have rd' := PyProof.Rows.Reads.keeps k rd
        have e : as = [] := by
          cases rd with
          | tuple _ _ _ ra =>
            rename_i vs n _ _ _
            generalize vs.toList = L at ra
            cases ra with
            | cons r1 r2 =>
              cases r1
              cases r2 with
              | cons r3 r4 =>
                cases r3
                cases r4
                rfl
        exact .cons ⟨as, rd', by rw [e]; simp⟩ (ih h2)
theorem cSortLay {X : Cx} {K : PySem.W.Frag} (h0 : X.K = K) (hu : X.A.units + 64 < cLine) : CallR X (.builtin "sorted") (ySortLay K) := by
  subst h0
  intro pins s σ H vs us Q I r h
  unfold ySortLay at h
  split at h
  · rename_i a
    obtain ⟨xs, lr, hs, im, q⟩ := h
    obtain rfl := Vals.ref1 r
    have el : xs.length = lr.length := by rw [im.length, List.length_map]
    obtain ⟨its, rv, hz, T, o, n, hT, ho, hc, hd⟩ : ∃ its, Vals xs its ∧ xs.length ≤ sizeLine ∧ ∃ (T : String) (o : Obj) (n : Nat), (T = "list" ∨ T = "tuple") ∧ s.heap.get? a = some o ∧ o.cls = .type T ∧ o.data = .seq its.toArray n := by
      rcases hs with hs | hs
      · obtain ⟨its, rv, hl, hz⟩ := I.list hs
        obtain ⟨o, ho, hc, n, hd⟩ := hl.isList
        exact ⟨its, rv, hz, "list", o, n, .inl rfl, ho, hc, hd⟩
      · obtain ⟨its, rv, ⟨o, ho, hc, n, hd⟩, hz⟩ := I.tuple hs
        exact ⟨its, rv, hz, "tuple", o, n, .inr rfl, ho, hc, hd⟩
    have hzi : its.length ≤ sizeLine := by rw [← rv.length]; exact hz
    refine call_function_entry_kw kind_sorted plain_sorted entry_sorted (args_sorted1 _) ?_
    unfold Builtin.«sorted»
    refine wpAny_bind (m := checkCount "sorted" 1 1 _) (wpAny_pure ?_)
    refine wpAny_bind (wpAny_collect_seq a hT ho hc hd (fun h' hk => ?_) (by rw [List.size_toArray]; exact hzi))
    refine wpAny_bind (wpAny_newList ?_ (by simpa using hzi))
    have e0 : its.toArray.toList = its := by simp
    rw [e0]
    have hoL : (h'.push (seqObj "list" its.toArray 0)).get? h'.objs.size = some (seqObj "list" its.toArray 0) := Heap.get?_push_size _ rfl
    have hk2 : ∀ b o, s.heap.get? b = some o → (h'.push (seqObj "list" its.toArray 0)).get? b = some o := fun b o e => Heap.get?_push_of_some _ (hk b o e)
    have hlen : (xs.zip lr).length = its.length := by rw [List.length_zip, ← el, Nat.min_self, rv.length]
    refine wpAny_bind (wpAny_holding (list_sort_data (s := { s with heap := h'.push (seqObj "list" its.toArray 0) }) (enc := fun b : V × Lay => layD b.2) (R := fun (v : Value) (b : V × Lay) => L2.RelV b.1 v) (bs := xs.zip lr) hoL (zip_each rv el) (each_reads I hk2 rv im)
      (AllAlike.of fun b b' => lay_alike b.2 b'.2) (Sortable.tuples fun b => ⟨_, _, rfl⟩) (by rw [hlen]; exact hzi) (fun b _ => ?_) fun out ol eo => ?_))
    · have hd2 := layD_deep b.2
      show X.A.units + 1 + 1 + (layD b.2).depth < cLine
      omega
    · refine wpAny_pure ⟨_, rfl, ?_⟩
      have vo := each_vals eo
      have pm : ((xs.zip lr).mergeSort (dataLe false fun b : V × Lay => layD b.2)).Perm (xs.zip lr) := List.mergeSort_perm _ _
      have imo := im_map (K := X.K) (H := H) fun t ht => zip_im im t (pm.mem_iff.mp ht)
      have e2 : ((xs.zip lr).mergeSort (dataLe false fun b : V × Lay => layD b.2)).map (·.2) = lr.mergeSort layLe := by
        have z := List.map_mergeSort (r := dataLe false fun b : V × Lay => layD b.2) (s := layLe) (f := fun b : V × Lay => b.2) (l := xs.zip lr) (fun a _ b _ => rfl)
        rw [List.map_snd_zip (by rw [el]; exact Nat.le_refl _)] at z
        exact z
      rw [e2] at imo
      obtain ⟨ep, he'⟩ := PyProof.Rows.sortedHeap_at (vs := its) (out := out.toArray) hoL
      have I3 : L2.Inv X pins σ H { s with heap := h' } := I.kept (t' := s.toks) hk
      refine ⟨.ref h'.objs.size, upd H h'.objs.size (.lst _), I3.laid (t' := s.toks) (fun b u e => ?_) (Nat.le_refl _) ⟨?_, out, ep, vo, he'⟩, rfl, q _ _ imo (I3.hok.fresh (Nat.le_refl _))⟩
      · have e' : h'.get? b = some u := e
        have e2 : (h'.push (seqObj "list" its.toArray 0)).get? b = some u := Heap.get?_push_of_some _ e'
        exact (PyProof.Rows.sortedHeap_old (Nat.ne_of_lt (Heap.lt_size e')) (Heap.lt_size e2)).trans e2
      · rw [List.length_map, pm.length_eq, hlen]
        exact hzi
  · exact h.elim

/-! ### the order of layers -/
def tg (a : Lay) : List Nat := a.1.cps.toList
theorem tg_eq {a b : Lay} (h : tg a = tg b) : a.1 = b.1 := str_eq h
theorem layLt_iff (a b : Lay) : dataLt (layD a) (layD b) = true ↔ tg a < tg b ∨ (a.1 = b.1 ∧ a.2 < b.2) := by
  show dataLt (.tuple [.str a.1, .int a.2]) (.tuple [.str b.1, .int b.2]) = true ↔ _
  rw [dataLt_pair (by simp [alike]) (by simp [alike]), dataLt_str, dataLt_int]
  simp only [PyData.eqv, beq_iff_eq]
  by_cases h1 : a.1 = b.1
  · have hn : ¬ tg a < tg b := by
      unfold tg
      rw [h1]
      exact List.lt_irrefl _
    by_cases h2 : a.2 = b.2
    · simp [h1, h2, hn]
    · simp [h1, h2, hn]
  · simp [h1, tg]
theorem layLe_iff (a b : Lay) : layLe a b = true ↔ ¬ (tg b < tg a ∨ (b.1 = a.1 ∧ b.2 < a.2)) := by
  have e : layLe a b = !dataLt (layD b) (layD a) := rfl
  rw [e, ← layLt_iff]
  cases dataLt (layD b) (layD a) <;> simp
theorem layLe_trans (a b c : Lay) (h1 : layLe a b = true) (h2 : layLe b c = true) : layLe a c = true := by
  rw [layLe_iff] at *
  intro h
  have n1 : ¬ tg b < tg a := fun z => h1 (.inl z)
  have n2 : ¬ tg c < tg b := fun z => h2 (.inl z)
  have l1 : tg a ≤ tg b := List.not_lt.mp n1
  have l2 : tg b ≤ tg c := List.not_lt.mp n2
  have l3 := List.le_trans l1 l2
  rcases h with h | ⟨e, h⟩
  · exact List.not_lt.mpr l3 h
  · have e3 : tg c = tg a := by unfold tg; rw [e]
    rw [e3] at l2
    have e4 := tg_eq (List.le_antisymm l1 l2)
    have x1 : ¬ b.2 < a.2 := fun z => h1 (.inr ⟨e4.symm, z⟩)
    have x2 : ¬ c.2 < b.2 := fun z => h2 (.inr ⟨e.trans e4, z⟩)
    omega
theorem layLe_total (a b : Lay) : (layLe a b || layLe b a) = true := by
  cases h1 : layLe a b with
  | true => rfl
  | false =>
    have h1' : ¬ layLe a b = true := by rw [h1]; simp
    rw [layLe_iff] at h1'
    have h := Classical.not_not.mp h1'
    have h2 : layLe b a = true := by
      rw [layLe_iff]
      intro z
      rcases h with h | ⟨e, h⟩
      · rcases z with z | ⟨e, z⟩
        · exact List.lt_asymm h z
        · have e3 : tg a = tg b := by unfold tg; rw [e]
          rw [e3] at h
          exact List.lt_irrefl _ h
      · rcases z with z | ⟨_, z⟩
        · have e3 : tg a = tg b := by unfold tg; rw [e]
          rw [e3] at z
          exact List.lt_irrefl _ z
        · omega
    rw [h2]
    rfl
theorem layLe_anti (a b : Lay) (h1 : layLe a b = true) (h2 : layLe b a = true) : a = b := by
  rw [layLe_iff] at *
  have n1 : ¬ tg b < tg a := fun z => h1 (.inl z)
  have n2 : ¬ tg a < tg b := fun z => h2 (.inl z)
  have e := tg_eq (List.le_antisymm (List.not_lt.mp n1) (List.not_lt.mp n2))
  have x1 : ¬ b.2 < a.2 := fun z => h1 (.inr ⟨e.symm, z⟩)
  have x2 : ¬ a.2 < b.2 := fun z => h2 (.inr ⟨e, z⟩)
  exact lay_eq e (by omega)
theorem sort_perm {a b : List Lay} (p : a.Perm b) : a.mergeSort layLe = b.mergeSort layLe :=
  perm_uniq (R := fun x y => layLe x y = true) (fun x y => layLe_anti x y) ((List.mergeSort_perm _ _).trans (p.trans (List.mergeSort_perm _ _).symm)) (List.pairwise_mergeSort (fun a b c => layLe_trans a b c) (fun a b => layLe_total a b) _) (List.pairwise_mergeSort (fun a b c => layLe_trans a b c) (fun a b => layLe_total a b) _)
theorem tp_ty {K : PySem.W.Frag} {H : Hp} {a : Addr} {xs : List V} (h : Tp K H a xs) : TyX K H (.ref a) (.type "tuple") := by
  rcases h with h | h
  · exact .base (.tup h)
  · rcases h (fun _ => none) with (h | ⟨o, h⟩) | ⟨o, its, n, h1, h2, _⟩
    · cases h
    · cases h
    · exact .kTuple h1 h2
/-- lists of texts, of layers: compared with themselves -/
def strsL (l : List Str) : PyData := .list (l.map PyData.str)
theorem strsL_fine {l : List Str} (h : ∀ z ∈ l, Nm z) : fine (strsL l) = true := fineAll_of fun d hd => by
  obtain ⟨z, hz, rfl⟩ := List.mem_map.mp hd
  exact nm_fine (h z hz)
theorem strsL_deep (l : List Str) : (strsL l).depth ≤ 1 := by
  rw [strsL, PyData.depth]
  have := depthAll_le (n := 0) (ds := l.map PyData.str) fun d hd => by
    obtain ⟨z, _, rfl⟩ := List.mem_map.mp hd
    simp [PyData.depth]
  omega
def laysL (r : List Lay) : PyData := .list (r.map layD)
theorem laysL_fine {r : List Lay} (h : ∀ l ∈ r, LayOk l) : fine (laysL r) = true := fineAll_of fun d hd => by
  obtain ⟨l, hl, rfl⟩ := List.mem_map.mp hd
  exact layD_fine (h l hl)
theorem laysL_deep (r : List Lay) : (laysL r).depth ≤ 2 := by
  rw [laysL, PyData.depth]
  have := depthAll_le (n := 1) (ds := r.map layD) fun d hd => by
    obtain ⟨l, _, rfl⟩ := List.mem_map.mp hd
    exact layD_deep l
  omega
theorem eqv_self {d : PyData} (h : fine d = true) : PyData.eqv d d = true := SeqAt.eqv_refl _ (fine_lay _ h)
end Y

set_option Elab.async false
set_option linter.all false
set_option maxRecDepth 100000
set_option maxHeartbeats 4000000
/-! T2: rows that are alike stay so: exchanges and all that is done to rows. -/
namespace Y
open PySem PySem.Spec PyProof.Rows L2

/-- neighbours of one tag exchanged -/
inductive Sw : List Lay → List Lay → Prop
  | mk (a : List Lay) (x y : Lay) (b : List Lay) (h : x.1 = y.1) : Sw (a ++ x :: y :: b) (a ++ y :: x :: b)
theorem Sw.symm {r r' : List Lay} (h : Sw r r') : Sw r' r := by
  cases h with
  | mk a x y b h => exact .mk a y x b h.symm
theorem Sw.norm {r r' : List Lay} (h : Sw r r') : normM r = normM r' := by
  cases h with
  | mk a x y b h => exact norm_swap h a b
theorem Sw.cons {r r' : List Lay} (z : Lay) (h : Sw r r') : Sw (z :: r) (z :: r') := by
  cases h with
  | mk a x y b h => exact .mk (z :: a) x y b h
/-- led to by exchanges -/
inductive Sws : List Lay → List Lay → Prop
  | refl (r : List Lay) : Sws r r
  | step {r r' r'' : List Lay} : Sw r r' → Sws r' r'' → Sws r r''
theorem Sws.trans {r r' r'' : List Lay} (h : Sws r r') (k : Sws r' r'') : Sws r r'' := by
  induction h with
  | refl => exact k
  | step s _ ih => exact .step s (ih k)
theorem Sws.one {r r' : List Lay} (h : Sw r r') : Sws r r' := .step h (.refl _)
theorem Sws.symm {r r' : List Lay} (h : Sws r r') : Sws r' r := by
  induction h with
  | refl => exact .refl _
  | step s _ ih => exact ih.trans (.one s.symm)
theorem Sws.norm {r r' : List Lay} (h : Sws r r') : normM r = normM r' := by
  induction h with
  | refl => rfl
  | step s _ ih => exact s.norm.trans ih
theorem Sws.cons {r r' : List Lay} (z : Lay) (h : Sws r r') : Sws (z :: r) (z :: r') := by
  induction h with
  | refl => exact .refl _
  | step s _ ih => exact .step (s.cons z) ih
theorem ins_sws (x : Lay) : ∀ t : List Lay, Sws (x :: t) (insM x t)
  | [] => .refl _
  | y :: t => by
    unfold insM
    split
    · rename_i h
      exact .step (.mk [] x y t h.1) ((ins_sws x t).cons y)
    · exact .refl _
theorem norm_sws : ∀ r : List Lay, Sws r (normM r)
  | [] => .refl _
  | x :: r => ((norm_sws r).cons x).trans (ins_sws x _)
/-- alike just where exchanges lead from the one to the other -/
theorem alike_sws {r r' : List Lay} (h : normM r = normM r') : Sws r r' := (norm_sws r).trans (h ▸ (norm_sws r').symm)
/-- what keeps exchanges keeps what is alike -/
theorem keeps_alike {f : List Lay → List Lay} (hf : ∀ r r', Sw r r' → f r = f r' ∨ Sw (f r) (f r')) {r r' : List Lay} (h : normM r = normM r') : normM (f r) = normM (f r') := by
  have s := alike_sws h
  clear h
  induction s with
  | refl => rfl
  | step s _ ih =>
    rw [← ih]
    rcases hf _ _ s with e | e
    · rw [e]
    · exact e.norm
theorem keeps_eq {α : Type} {f : List Lay → α} (hf : ∀ r r', Sw r r' → f r = f r') {r r' : List Lay} (h : normM r = normM r') : f r = f r' := by
  have s := alike_sws h
  clear h
  induction s with
  | refl => rfl
  | step s _ ih => rw [← ih, hf _ _ s]

/-! ### maps, filters, tops -/
theorem sw_map {f : Lay → Lay} (ht : ∀ x y : Lay, x.1 = y.1 → (f x).1 = (f y).1) {r r' : List Lay} (h : Sw r r') : Sw (r.map f) (r'.map f) := by
  cases h with
  | mk a x y b h =>
    rw [List.map_append, List.map_append, List.map_cons, List.map_cons, List.map_cons, List.map_cons]
    exact .mk _ _ _ _ (ht x y h)
theorem sw_filter (p : Lay → Bool) {r r' : List Lay} (h : Sw r r') : r.filter p = r'.filter p ∨ Sw (r.filter p) (r'.filter p) := by
  cases h with
  | mk a x y b h =>
    rw [List.filter_append, List.filter_append, List.filter_cons, List.filter_cons, List.filter_cons, List.filter_cons]
    cases p x <;> cases p y
    · exact .inl rfl
    · exact .inl rfl
    · exact .inl rfl
    · exact .inr (.mk _ _ _ _ h)
theorem sw_app (t : List Lay) {r r' : List Lay} (h : Sw r r') : Sw (r ++ t) (r' ++ t) := by
  cases h with
  | mk a x y b h =>
    rw [List.append_assoc, List.append_assoc]
    exact .mk a x y (b ++ t) h
theorem alike_app (t : List Lay) {r r' : List Lay} (h : normM r = normM r') : normM (r ++ t) = normM (r' ++ t) := keeps_alike (f := fun r => r ++ t) (fun _ _ s => .inr (sw_app t s)) h

/-! ### numbers exchanged -/
def tr (k i : Nat) : Nat := if i = k then k + 1 else if i = k + 1 then k else i
theorem tr_tr (k i : Nat) : tr k (tr k i) = i := by
  unfold tr
  split <;> split <;> first | omega | (split <;> omega)
theorem tr_lt {k i n : Nat} (hk : k + 1 < n) (hi : i < n) : tr k i < n := by
  unfold tr
  split <;> first | omega | (split <;> omega)
section
variable {a b : List Lay} {x y : Lay}
theorem sw_get (i : Nat) : (a ++ y :: x :: b)[tr a.length i]? = (a ++ x :: y :: b)[i]? := by
  unfold tr
  by_cases h1 : i = a.length
  · rw [if_pos h1, h1, List.getElem?_append_right (by omega), List.getElem?_append_right (by omega)]
    simp
  · by_cases h2 : i = a.length + 1
    · rw [if_neg h1, if_pos h2, h2, List.getElem?_append_right (by omega), List.getElem?_append_right (by omega)]
      simp
    · rw [if_neg h1, if_neg h2]
      by_cases h3 : i < a.length
      · rw [List.getElem?_append_left h3, List.getElem?_append_left h3]
      · rw [List.getElem?_append_right (by omega), List.getElem?_append_right (by omega)]
        obtain ⟨d, hd⟩ : ∃ d, i - a.length = d + 2 := ⟨i - a.length - 2, by omega⟩
        rw [hd]
        rfl
theorem sw_stg (i : Nat) : stg (a ++ y :: x :: b) (tr a.length i) = stg (a ++ x :: y :: b) i := by
  unfold stg
  rw [List.getD_eq_getElem?_getD, List.getD_eq_getElem?_getD, sw_get]
theorem sw_ahead (hne : x.2 ≠ y.2) (i j : Nat) : ahead (a ++ y :: x :: b) (tr a.length i) (tr a.length j) = ahead (a ++ x :: y :: b) i j := by
  unfold ahead
  rw [sw_stg, sw_stg]
  have sx : stg (a ++ x :: y :: b) a.length = x.2 := by
    unfold stg
    rw [List.getD_eq_getElem?_getD, List.getElem?_append_right (Nat.le_refl _)]
    simp
  have sy : stg (a ++ x :: y :: b) (a.length + 1) = y.2 := by
    unfold stg
    rw [List.getD_eq_getElem?_getD, List.getElem?_append_right (by omega)]
    simp
  by_cases hs : stg (a ++ x :: y :: b) i = stg (a ++ x :: y :: b) j
  · have key : decide (tr a.length j < tr a.length i) = decide (j < i) := by
      have no : ¬ ((i = a.length ∧ j = a.length + 1) ∨ (i = a.length + 1 ∧ j = a.length)) := by
        rintro (⟨e1, e2⟩ | ⟨e1, e2⟩)
        · rw [e1, e2, sx, sy] at hs
          exact hne hs
        · rw [e1, e2, sx, sy] at hs
          exact hne hs.symm
      have iff : tr a.length j < tr a.length i ↔ j < i := by
        unfold tr
        by_cases e1 : j = a.length
        · rw [if_pos e1]
          by_cases e2 : i = a.length
          · rw [if_pos e2]; omega
          · rw [if_neg e2]
            by_cases e3 : i = a.length + 1
            · exact absurd (.inr ⟨e3, e1⟩) no
            · rw [if_neg e3]; omega
        · rw [if_neg e1]
          by_cases e4 : j = a.length + 1
          · rw [if_pos e4]
            by_cases e2 : i = a.length
            · exact absurd (.inl ⟨e2, e4⟩) no
            · rw [if_neg e2]
              by_cases e3 : i = a.length + 1
              · rw [if_pos e3]; omega
              · rw [if_neg e3]; omega
          · rw [if_neg e4]
            by_cases e2 : i = a.length
            · rw [if_pos e2]; omega
            · rw [if_neg e2]
              by_cases e3 : i = a.length + 1
              · rw [if_pos e3]; omega
              · rw [if_neg e3]
      by_cases c : j < i
      · rw [decide_eq_true c, decide_eq_true (iff.mpr c)]
      · rw [decide_eq_false c, decide_eq_false fun z => c (iff.mp z)]
    rw [key]
  · rw [decide_eq_false hs, Bool.false_and, Bool.false_and]
end
/-- the layers by rank -/
def byRank (r : List Lay) : List Lay := (rankM r).filterMap fun i => r[i]?
theorem sw_rank {a b : List Lay} {x y : Lay} (hne : x.2 ≠ y.2) : rankM (a ++ y :: x :: b) = (rankM (a ++ x :: y :: b)).map (tr a.length) := by
  symm
  have el : (a ++ y :: x :: b).length = (a ++ x :: y :: b).length := by simp
  have hk : a.length + 1 < (a ++ x :: y :: b).length := by simp
  refine rankM_uniq ?_ ?_
  · refine (List.perm_ext_iff_of_nodup ?_ List.nodup_range).mpr fun i => ?_
    · refine List.Pairwise.map _ (fun i j h => ?_) (rankM_nodup _)
      intro e
      have e2 := congrArg (tr a.length) e
      rw [tr_tr, tr_tr] at e2
      exact h e2
    · rw [List.mem_map, List.mem_range, el]
      constructor
      · rintro ⟨j, hj, rfl⟩
        exact tr_lt hk (rankM_mem.mp hj)
      · intro hi
        exact ⟨tr a.length i, rankM_mem.mpr (tr_lt hk hi), tr_tr _ _⟩
  · refine List.pairwise_map.mpr ((rankM_sorted _).imp fun {i j} h => ?_)
    rw [sw_ahead hne]
    exact h
theorem sw_same {a b : List Lay} {x y : Lay} (h : x.1 = y.1) (e : x.2 = y.2) : a ++ x :: y :: b = a ++ y :: x :: b := by rw [lay_eq h e]
theorem sw_byRank {r r' : List Lay} (h : Sw r r') : byRank r = byRank r' := by
  cases h with
  | mk a x y b h =>
    by_cases e : x.2 = y.2
    · rw [sw_same h e]
    · unfold byRank
      rw [sw_rank e, List.filterMap_map]
      congr 1
      funext i
      exact (sw_get i).symm
theorem alike_byRank {r r' : List Lay} (h : normM r = normM r') : byRank r = byRank r' := keeps_eq (fun _ _ s => sw_byRank s) h
theorem sw_cnt {a b : List Lay} {x y : Lay} (hne : x.2 ≠ y.2) {i : Nat} (hi : i < (a ++ x :: y :: b).length) : cntM (a ++ y :: x :: b) (tr a.length i) = cntM (a ++ x :: y :: b) i := by
  refine cntM_pos ?_
  rw [sw_rank hne, List.getElem?_map, rankM_at hi]
  rfl
theorem sw_top {a b : List Lay} {x y : Lay} (hne : x.2 ≠ y.2) : topN (a ++ y :: x :: b) = tr a.length (topN (a ++ x :: y :: b)) := by
  obtain ⟨m, e⟩ := rankM_cons (r := a ++ x :: y :: b) (by simp)
  have e2 : rankM (a ++ y :: x :: b) = _ := sw_rank hne
  rw [e, List.map_cons] at e2
  unfold topN
  rw [e2]
  rw [List.headD_cons]
  rw [show topN (a ++ x :: y :: b) = (rankM (a ++ x :: y :: b)).headD 0 from rfl, e, List.headD_cons]

/-! ### what is done number by number -/
theorem fmI_range {α β : Type} (f : Nat → α → Option β) : ∀ (r : List α) (k : Nat), (r.zipIdx k).filterMap (fun p => f p.2 p.1) = (List.range r.length).filterMap fun i => (r[i]?).bind (f (k + i))
  | [], k => by simp
  | a :: r, k => by
    rw [List.zipIdx_cons, List.filterMap_cons, List.length_cons, List.range_succ_eq_map, List.filterMap_cons, fmI_range f r (k + 1), List.filterMap_map]
    simp only [List.getElem?_cons_zero, Option.bind_some, Nat.add_zero]
    have e : (fun i => (r[i]?).bind (f (k + 1 + i))) = (fun i => ((a :: r)[i]?).bind (f (k + i))) ∘ Nat.succ := by
      funext i
      show _ = ((a :: r)[i + 1]?).bind (f (k + (i + 1)))
      rw [List.getElem?_cons_succ, Nat.add_assoc, Nat.add_comm 1 i]
    rw [e]
theorem partM_fmI (r : List Lay) (P : Nat → Bool) : partM r P = fmI (fun i l => if P i = true then some l else none) r := by
  unfold partM fmI
  rw [fmI_range (fun i l => if P i = true then some l else none) r 0, List.filterMap_filter]
  congr 1
  funext i
  rw [Nat.zero_add]
  cases P i with
  | true => simp
  | false => simp
theorem fmI_app {α β : Type} (f : Nat → α → Option β) (a b : List α) : fmI f (a ++ b) = fmI f a ++ fmI (fun i => f (a.length + i)) b := by
  have key : ∀ (b : List α) (k j : Nat), (b.zipIdx (k + j)).filterMap (fun p => f p.2 p.1) = (b.zipIdx j).filterMap fun p => f (k + p.2) p.1 := by
    intro b
    induction b with
    | nil => intro k j; rfl
    | cons c b ih =>
      intro k j
      rw [List.zipIdx_cons, List.zipIdx_cons, List.filterMap_cons, List.filterMap_cons, Nat.add_assoc, ih k (j + 1)]
  unfold fmI
  rw [List.zipIdx_append, List.filterMap_append, Nat.zero_add]
  congr 1
  have := key b a.length 0
  rw [Nat.add_zero] at this
  exact this
theorem fmI_cons {α β : Type} (f : Nat → α → Option β) (x : α) (b : List α) : fmI f (x :: b) = (f 0 x).toList ++ fmI (fun i => f (i + 1)) b := by
  have h := fmI_app f [x] b
  have e : fmI f [x] = (f 0 x).toList := by
    unfold fmI
    rw [List.zipIdx_singleton]
    cases h : f 0 x <;> simp [h]
  rw [e] at h
  rw [show x :: b = [x] ++ b from rfl, h]
  congr 2
  funext i
  rw [List.length_singleton, Nat.add_comm]
theorem fm_congr {α β : Type} {f g : α → Option β} : ∀ {l : List α}, (∀ a ∈ l, f a = g a) → l.filterMap f = l.filterMap g
  | [], _ => rfl
  | a :: l, h => by rw [List.filterMap_cons, List.filterMap_cons, h a List.mem_cons_self, fm_congr fun b hb => h b (List.mem_cons_of_mem _ hb)]
theorem fmI_congr {α β : Type} {f g : Nat → α → Option β} {r : List α} (h : ∀ i l, r[i]? = some l → f i l = g i l) : fmI f r = fmI g r := by
  unfold fmI
  rw [fmI_range f r 0, fmI_range g r 0]
  apply fm_congr
  intro i hi
  have hi := List.mem_range.mp hi
  rw [Nat.zero_add, List.getElem?_eq_getElem hi]
  exact h i _ (List.getElem?_eq_getElem hi)
/-- exchanged rows, done the same to the same layers -/
theorem sw_fmI {a b : List Lay} {x y : Lay} (h : x.1 = y.1) {f f' : Nat → Lay → Option Lay} (ht : ∀ i l l', f i l = some l' → l'.1 = l.1) (hf : ∀ i l, (a ++ x :: y :: b)[i]? = some l → f' (tr a.length i) l = f i l) :
    fmI f (a ++ x :: y :: b) = fmI f' (a ++ y :: x :: b) ∨ Sw (fmI f (a ++ x :: y :: b)) (fmI f' (a ++ y :: x :: b)) := by
  have eA : fmI f a = fmI f' a := fmI_congr fun i l hl => by
    have hi := (List.getElem?_eq_some_iff.mp hl).1
    have e := hf i l (by rw [List.getElem?_append_left hi]; exact hl)
    rw [show tr a.length i = i from by unfold tr; rw [if_neg (by omega), if_neg (by omega)]] at e
    exact e.symm
  have ex : f' (a.length + 1) x = f a.length x := by
    have e := hf a.length x (by rw [List.getElem?_append_right (Nat.le_refl _)]; simp)
    rw [show tr a.length a.length = a.length + 1 from by unfold tr; rw [if_pos rfl]] at e
    exact e
  have ey : f' a.length y = f (a.length + 1) y := by
    have e := hf (a.length + 1) y (by rw [List.getElem?_append_right (by omega)]; simp)
    rw [show tr a.length (a.length + 1) = a.length from by unfold tr; rw [if_neg (by omega), if_pos rfl]] at e
    exact e
  have eB : fmI (fun i => f (a.length + (i + 1 + 1))) b = fmI (fun i => f' (a.length + (i + 1 + 1))) b := fmI_congr fun i l hl => by
    have e := hf (a.length + (i + 1 + 1)) l (by
      rw [List.getElem?_append_right (by omega), show a.length + (i + 1 + 1) - a.length = i + 2 by omega]
      exact hl)
    rw [show tr a.length (a.length + (i + 1 + 1)) = a.length + (i + 1 + 1) from by unfold tr; rw [if_neg (by omega), if_neg (by omega)]] at e
    exact e.symm
  rw [fmI_app, fmI_app, fmI_cons, fmI_cons, fmI_cons, fmI_cons, eA]
  simp only [Nat.add_zero, Nat.zero_add]
  rw [eB, ex, ey]
  cases e1 : f a.length x with
  | none => exact .inl (by simp)
  | some u =>
    cases e2 : f (a.length + 1) y with
    | none => exact .inl (by simp)
    | some w =>
      refine .inr ?_
      have e3 : u.1 = w.1 := by rw [ht _ _ _ e1, ht _ _ _ e2, h]
      have := Sw.mk (fmI f' a) u w (fmI (fun i => f' (a.length + (i + 1 + 1))) b) e3
      simpa using this
/-- thinned -/
theorem thin_fmI (r : List Lay) (m : Nat) : thinM r m = fmI (fun i l => if decide (cntM r i < m) = true then some l else none) r := partM_fmI r _
theorem sw_thin (m : Nat) {r r' : List Lay} (h : Sw r r') : thinM r m = thinM r' m ∨ Sw (thinM r m) (thinM r' m) := by
  cases h with
  | mk a x y b h =>
    by_cases e : x.2 = y.2
    · exact .inl (by rw [sw_same h e])
    · rw [thin_fmI, thin_fmI]
      refine sw_fmI h (fun i l l' z => ?_) fun i l hl => ?_
      · split at z
        · rw [Option.some.inj z]
        · cases z
      · rw [sw_cnt e (List.getElem?_eq_some_iff.mp hl).1]
theorem alike_thin (m : Nat) {r r' : List Lay} (h : normM r = normM r') : normM (thinM r m) = normM (thinM r' m) := keeps_alike (fun _ _ s => sw_thin m s) h
theorem scrap_fmI (r : List Lay) : scrapM r = fmI (fun i l => if i ≠ topN r then some l else none) r := (fmI_erase r _).symm
theorem tr_inj {k i j : Nat} (h : tr k i = tr k j) : i = j := by
  have := congrArg (tr k) h
  rw [tr_tr, tr_tr] at this
  exact this
theorem sw_scrap {r r' : List Lay} (h : Sw r r') : scrapM r = scrapM r' ∨ Sw (scrapM r) (scrapM r') := by
  cases h with
  | mk a x y b h =>
    by_cases e : x.2 = y.2
    · exact .inl (by rw [sw_same h e])
    · rw [scrap_fmI, scrap_fmI]
      refine sw_fmI h (fun i l l' z => ?_) fun i l hl => ?_
      · split at z
        · rw [Option.some.inj z]
        · cases z
      · rw [sw_top e]
        by_cases c : i = topN (a ++ x :: y :: b)
        · rw [if_neg (by simp [c]), if_neg (by simp [c])]
        · rw [if_pos (fun z => c (tr_inj z)), if_pos c]
theorem alike_scrap {r r' : List Lay} (h : normM r = normM r') : normM (scrapM r) = normM (scrapM r') := keeps_alike (fun _ _ s => sw_scrap s) h
/-! ### rubbed -/
theorem rub_fmI {r : List Lay} {n : Int} (hpos : ∀ l ∈ r, 0 < l.2) : rubM r n = fmI (fun i (l : Lay) => if 0 < l.2 - n * (if ((i : Nat) : Int) = ((topN r : Nat) : Int) then 1 else 0) then some ((l.1, l.2 - n * (if ((i : Nat) : Int) = ((topN r : Nat) : Int) then 1 else 0)) : Lay) else none) r := by
  by_cases hne : r = []
  · subst hne
    unfold rubM lowM scrapM
    split <;> simp [fmI]
  · rw [← there_low hne hpos, ← fmI_low]
    unfold fmI
    rw [List.filter_filterMap]
    apply fm_congr
    intro p _
    simp only [Option.filter_some]
    by_cases c : 0 < p.1.2 - n * (if ((p.2 : Nat) : Int) = ((topN r : Nat) : Int) then 1 else 0)
    · rw [if_pos c, if_pos (decide_eq_true c)]
    · rw [if_neg c, if_neg (by simpa using c)]
theorem Sw.mem {r r' : List Lay} (h : Sw r r') {l : Lay} : l ∈ r' ↔ l ∈ r := by
  cases h with
  | mk a x y b h =>
    simp only [List.mem_append, List.mem_cons]
    constructor
    · rintro (z | z | z | z)
      · exact .inl z
      · exact .inr (.inr (.inl z))
      · exact .inr (.inl z)
      · exact .inr (.inr (.inr z))
    · rintro (z | z | z | z)
      · exact .inl z
      · exact .inr (.inr (.inl z))
      · exact .inr (.inl z)
      · exact .inr (.inr (.inr z))
theorem sw_rub (n : Int) {r r' : List Lay} (hpos : ∀ l ∈ r, 0 < l.2) (h : Sw r r') : rubM r n = rubM r' n ∨ Sw (rubM r n) (rubM r' n) := by
  have hpos' : ∀ l ∈ r', 0 < l.2 := fun l hl => hpos l (h.mem.mp hl)
  cases h with
  | mk a x y b h =>
    by_cases e : x.2 = y.2
    · exact .inl (by rw [sw_same h e])
    · rw [rub_fmI hpos, rub_fmI hpos']
      refine sw_fmI h (fun i l l' z => ?_) fun i l hl => ?_
      · by_cases c : 0 < l.2 - n * (if ((i : Nat) : Int) = ((topN (a ++ x :: y :: b) : Nat) : Int) then 1 else 0)
        · rw [if_pos c] at z
          rw [← Option.some.inj z]
        · rw [if_neg c] at z
          cases z
      · rw [sw_top e]
        have c : (((tr a.length i : Nat) : Int) = ((tr a.length (topN (a ++ x :: y :: b)) : Nat) : Int)) = ((i : Int) = ((topN (a ++ x :: y :: b) : Nat) : Int)) := propext ⟨fun z => by
          have := tr_inj (k := a.length) (i := i) (j := topN (a ++ x :: y :: b)) (by omega)
          omega, fun z => by
          have : i = topN (a ++ x :: y :: b) := by omega
          rw [← this]⟩
        simp only [c]
theorem alike_pos {r r' : List Lay} (h : normM r = normM r') (hp : ∀ l ∈ r, 0 < l.2) : ∀ l ∈ r', 0 < l.2 := fun l hl => hp l (norm_mem.mp (h ▸ norm_mem.mpr hl))
theorem alike_rub (n : Int) {r r' : List Lay} (hp : ∀ l ∈ r, 0 < l.2) (h : normM r = normM r') : normM (rubM r n) = normM (rubM r' n) := by
  have s := alike_sws h
  clear h
  induction s with
  | refl => rfl
  | step s _ ih =>
    rw [← ih fun l hl => hp l (s.mem.mp hl)]
    rcases sw_rub n hp s with e | e
    · rw [e]
    · exact e.norm
/-! ### weaker, stronger -/
def shiftM (r : List Lay) (n : Int) : List Lay := r.map fun l => (l.1, l.2 + n)
theorem alike_shift (n : Int) {r r' : List Lay} (h : normM r = normM r') : normM (shiftM r n) = normM (shiftM r' n) := keeps_alike (f := fun r => shiftM r n) (fun _ _ s => .inr (sw_map (f := fun l : Lay => (l.1, l.2 + n)) (fun x y e => e) s)) h
theorem alike_filter (p : Lay → Bool) {r r' : List Lay} (h : normM r = normM r') : normM (r.filter p) = normM (r'.filter p) := keeps_alike (f := fun r => r.filter p) (fun _ _ s => sw_filter p s) h
theorem shift_stg {r : List Lay} {n : Int} {i : Nat} (h : i < r.length) : stg (shiftM r n) i = stg r i + n := by
  have h' : i < (shiftM r n).length := by unfold shiftM; rw [List.length_map]; exact h
  unfold stg shiftM
  rw [List.getD_eq_getElem?_getD, List.getD_eq_getElem?_getD, List.getElem?_map, List.getElem?_eq_getElem h]
  rfl
theorem shift_ahead {r : List Lay} {n : Int} {i j : Nat} (hi : i < r.length) (hj : j < r.length) : ahead (shiftM r n) i j = ahead r i j := by
  unfold ahead
  rw [shift_stg hi, shift_stg hj]
  have e1 : decide (stg r j + n < stg r i + n) = decide (stg r j < stg r i) := by
    by_cases h : stg r j < stg r i
    · rw [decide_eq_true h, decide_eq_true (by omega)]
    · rw [decide_eq_false h, decide_eq_false (by omega)]
  have e2 : decide (stg r i + n = stg r j + n) = decide (stg r i = stg r j) := by
    by_cases h : stg r i = stg r j
    · rw [decide_eq_true h, decide_eq_true (by omega)]
    · rw [decide_eq_false h, decide_eq_false (by omega)]
  rw [e1, e2]
theorem shift_cnt {r : List Lay} {n : Int} {i : Nat} (hi : i < r.length) : cntM (shiftM r n) i = cntM r i := by
  unfold cntM
  have el : (shiftM r n).length = r.length := by unfold shiftM; rw [List.length_map]
  rw [el]
  congr 1
  exact List.filter_congr fun j hj => shift_ahead (List.mem_range.mp hj) hi
theorem thin_shift (r : List Lay) (n : Int) (m : Nat) : thinM (shiftM r n) m = shiftM (thinM r m) n := by
  have el : (shiftM r n).length = r.length := by unfold shiftM; rw [List.length_map]
  rw [thinM_eq, thinM_eq]
  unfold shiftM
  rw [List.map_filterMap, List.length_map]
  apply fm_congr
  intro i hi
  have hi := List.mem_range.mp hi
  have e := shift_cnt (n := n) hi
  unfold shiftM at e
  rw [e, List.getElem?_map]
  cases decide (cntM r i < m) <;> rfl
/-- thinned of a part that has all of a rank below -/
theorem thin_part {s : List Lay} {P : Nat → Bool} {m : Nat} (h : ∀ i, i < s.length → cntM s i < m → P i = true) : thinM (partM s P) m = thinM s m := by
  rw [thinM_part (partM s P), part_part (r := s) (P := P) _ (fun i => decide (cntM s i < m))]
  · rw [thinM_part s, partM_fmI, partM_fmI]
    refine fmI_congr fun i l hl => ?_
    have hi := (List.getElem?_eq_some_iff.mp hl).1
    by_cases c : cntM s i < m
    · rw [h i hi c, decide_eq_true c]
      rfl
    · rw [decide_eq_false c, Bool.and_false]
  · intro k hk
    have hi := ixM_lt (r := s) (P := P) _ (List.getElem_mem hk)
    have e := cnt_part hk
    by_cases c : cntM s (ixM s P)[k] < m
    · have c2 : cntM (partM s P) k < m := by
        rw [e]
        refine Nat.lt_of_le_of_lt ?_ c
        unfold cntM
        rw [List.filter_filter]
        refine List.Sublist.length_le ?_
        have : (List.range s.length).filter (fun a => ahead s a (ixM s P)[k] && P a) = ((List.range s.length).filter fun a => ahead s a (ixM s P)[k]).filter P := by
          rw [List.filter_filter]
          congr 1
          funext a
          exact Bool.and_comm _ _
        rw [this]
        exact List.filter_sublist
      rw [decide_eq_true c, decide_eq_true c2]
    · have c2 : ¬ cntM (partM s P) k < m := by
        rw [e]
        have sub : ((rankM s).take m).length ≤ ((ixM s P).filter fun j => ahead s j (ixM s P)[k]).length := by
          refine nodup_le ((rankM_nodup s).sublist (List.take_sublist _ _)) fun j hj => ?_
          obtain ⟨q, hq⟩ := List.mem_iff_getElem?.mp hj
          rw [List.getElem?_take] at hq
          split at hq
          · rename_i hqm
            have hjr := rankM_mem.mp (List.mem_of_getElem? hq)
            have cj := cntM_pos hq
            refine List.mem_filter.mpr ⟨List.mem_filter.mpr ⟨List.mem_range.mpr hjr, h j hjr (by omega)⟩, ?_⟩
            have e1 := rankM_at hi
            have hs := List.pairwise_iff_getElem.mp (rankM_strict s) q (cntM s (ixM s P)[k]) (List.getElem?_eq_some_iff.mp hq).1 (List.getElem?_eq_some_iff.mp e1).1 (by omega)
            rw [(List.getElem?_eq_some_iff.mp hq).2, (List.getElem?_eq_some_iff.mp e1).2] at hs
            exact hs
          · cases hq
        rw [List.length_take, rankM_length] at sub
        have := cntM_lt hi
        omega
      rw [decide_eq_false c, decide_eq_false c2]
theorem fmI_plain {α β : Type} (f : α → Option β) (r : List α) : fmI (fun _ l => f l) r = r.filterMap f := by
  unfold fmI
  have : (fun p : α × Nat => f p.1) = f ∘ Prod.fst := rfl
  rw [this, ← List.filterMap_map, List.zipIdx_map_fst]
theorem stg_get {r : List Lay} {i : Nat} {l : Lay} (h : r[i]? = some l) : stg r i = l.2 := by
  unfold stg
  rw [List.getD_eq_getElem?_getD, h]
  rfl
abbrev posB (l : Lay) : Bool := decide (0 < l.2)
theorem filter_part (r : List Lay) : r.filter posB = partM r fun i => decide (0 < stg r i) := by
  rw [partM_fmI, ← fm_filter, ← fmI_plain]
  exact fmI_congr fun i l hl => by rw [stg_get hl]
theorem part_congr {r : List Lay} {P Q : Nat → Bool} (h : ∀ i, i < r.length → P i = Q i) : partM r P = partM r Q := by
  rw [partM_fmI, partM_fmI]
  exact fmI_congr fun i l hl => by rw [h i (List.getElem?_eq_some_iff.mp hl).1]
theorem thin_pos (r : List Lay) (m : Nat) : thinM (r.filter posB) m = (thinM r m).filter posB := by
  rw [filter_part r, filter_part (thinM r m), thinM_part, thinM_part, part_part (r := r) (P := fun i => decide (0 < stg r i)) _ (fun i => decide (cntM r i < m)), part_part (r := r) (P := fun i => decide (cntM r i < m)) _ (fun i => decide (0 < stg r i))]
  · exact part_congr fun i _ => Bool.and_comm _ _
  · intro k hk
    rw [stg_part hk]
  · intro k hk
    rw [cnt_part_same hk]
    intro j hj hja
    have hm := of_decide_eq_true (List.mem_filter.mp (List.getElem_mem hk)).2
    have := ahead_iff.mp hja
    exact decide_eq_true (by omega)
/-- layers put on top -/
theorem app_stg {r t : List Lay} {i : Nat} (h : i < r.length) : stg (r ++ t) i = stg r i := by
  unfold stg
  rw [List.getD_eq_getElem?_getD, List.getD_eq_getElem?_getD, List.getElem?_append_left h]
theorem app_ahead {r t : List Lay} {i j : Nat} (hi : i < r.length) (hj : j < r.length) : ahead (r ++ t) i j = ahead r i j := by
  unfold ahead
  rw [app_stg hi, app_stg hj]
theorem app_cnt {r t : List Lay} {i : Nat} (hi : i < r.length) : cntM r i ≤ cntM (r ++ t) i := by
  unfold cntM
  rw [List.length_append, List.range_add, List.filter_append, List.length_append]
  have e : (List.range r.length).filter (fun o => ahead (r ++ t) o i) = (List.range r.length).filter fun o => ahead r o i := List.filter_congr fun j hj => app_ahead (List.mem_range.mp hj) hi
  rw [e]
  omega
theorem part_all (r : List Lay) : partM r (fun _ => true) = r := by
  rw [partM_fmI]
  show fmI (fun _ (l : Lay) => if true = true then some l else none) r = r
  have := fmI_plain (fun l : Lay => if true = true then some l else none) r
  rw [this]
  have e : (fun l : Lay => if true = true then some l else none) = some := by funext l; exact if_pos rfl
  rw [e, List.filterMap_some]
theorem thin_app (r t : List Lay) (m : Nat) : thinM (thinM r m ++ t) m = thinM (r ++ t) m := by
  have e : thinM r m ++ t = partM (r ++ t) fun i => decide (i < r.length → cntM r i < m) := by
    rw [partM_fmI, fmI_app, thin_fmI]
    congr 1
    · exact fmI_congr fun i l hl => by
        have hi := (List.getElem?_eq_some_iff.mp hl).1
        have : (i < r.length → cntM r i < m) ↔ cntM r i < m := ⟨fun z => z hi, fun z _ => z⟩
        simp only [this]
    · have e2 : fmI (fun i (l : Lay) => if decide (r.length + i < r.length → cntM r (r.length + i) < m) = true then some l else none) t = partM t fun _ => true := by
        rw [partM_fmI]
        exact fmI_congr fun i l _ => by
          rw [decide_eq_true (fun z => absurd z (by omega))]
      rw [e2, part_all]
  rw [e]
  refine thin_part fun i _ hc => decide_eq_true fun hi => ?_
  exact Nat.lt_of_le_of_lt (app_cnt hi) hc
/-- scraped -/
theorem cnt_zero {r : List Lay} {i : Nat} (hi : i < r.length) : cntM r i = 0 ↔ i = topN r := by
  have hne : r ≠ [] := fun z => by rw [z] at hi; simp at hi
  obtain ⟨m, e⟩ := rankM_cons hne
  constructor
  · intro h
    have := rankM_at hi
    rw [h, e] at this
    simpa using this.symm
  · intro h
    refine cntM_pos ?_
    rw [e, h]
    rfl
theorem scrap_part (r : List Lay) : scrapM r = partM r fun i => decide (cntM r i ≠ 0) := by
  rw [scrap_fmI, partM_fmI]
  refine fmI_congr fun i l hl => ?_
  have hi := (List.getElem?_eq_some_iff.mp hl).1
  have := cnt_zero hi
  by_cases c : i = topN r
  · rw [if_neg (by simp [c]), if_neg (by simp [this.mpr c])]
  · have c0 : cntM r i ≠ 0 := fun z => c (this.mp z)
    rw [if_pos c, if_pos (decide_eq_true c0)]
theorem filter_ne_len {p : Nat → Bool} {t : Nat} : ∀ {l : List Nat}, l.Nodup → t ∈ l → p t = true → (l.filter fun j => p j && decide (j ≠ t)).length + 1 = (l.filter p).length
  | a :: l, hn, ht, hp => by
    obtain ⟨h1, h2⟩ := List.nodup_cons.mp hn
    rw [List.filter_cons, List.filter_cons]
    by_cases e : a = t
    · subst e
      rw [hp, Bool.true_and, if_neg (by simp), if_pos rfl, List.length_cons]
      congr 1
      congr 1
      exact List.filter_congr fun j hj => by
        have c0 : j ≠ a := fun z => h1 (z ▸ hj)
        rw [decide_eq_true c0, Bool.and_true]
    · have ht' : t ∈ l := (List.mem_cons.mp ht).resolve_left fun z => e z.symm
      have ih := filter_ne_len h2 ht' hp
      rw [decide_eq_true e, Bool.and_true]
      cases p a with
      | true => simp only [if_true, List.length_cons]; omega
      | false => simpa using ih
theorem thin_scrap (r : List Lay) (m : Nat) : thinM (scrapM r) m = scrapM (thinM r (m + 1)) := by
  rw [scrap_part r, scrap_part (thinM r (m + 1)), thinM_part, thinM_part, part_part (r := r) (P := fun i => decide (cntM r i ≠ 0)) _ (fun i => decide (cntM r i < m + 1)), part_part (r := r) (P := fun i => decide (cntM r i < m + 1)) _ (fun i => decide (cntM r i ≠ 0))]
  · exact part_congr fun i _ => Bool.and_comm _ _
  · intro k hk
    rw [cnt_part_same hk]
    intro j hj hja
    have hm := of_decide_eq_true (List.mem_filter.mp (List.getElem_mem hk)).2
    have := cnt_lt_of_ahead hj (ixM_lt _ (List.getElem_mem hk)) hja
    exact decide_eq_true (by omega)
  · intro k hk
    have hi := ixM_lt (r := r) (P := fun i => decide (cntM r i ≠ 0)) _ (List.getElem_mem hk)
    have hm : cntM r (ixM r fun i => decide (cntM r i ≠ 0))[k] ≠ 0 := of_decide_eq_true (List.mem_filter.mp (List.getElem_mem hk)).2
    have hne : r ≠ [] := fun z => by
      have hp : 0 < r.length := Nat.lt_of_le_of_lt (Nat.zero_le _) hi
      rw [z] at hp
      simp at hp
    have e := cnt_part hk
    rw [List.filter_filter] at e
    have e2 : (List.range r.length).filter (fun a => ahead r a (ixM r fun i => decide (cntM r i ≠ 0))[k] && decide (cntM r a ≠ 0)) = (List.range r.length).filter fun a => ahead r a (ixM r fun i => decide (cntM r i ≠ 0))[k] && decide (a ≠ topN r) := List.filter_congr fun a ha => by
      have := cnt_zero (List.mem_range.mp ha)
      by_cases c : a = topN r
      · rw [decide_eq_false (by simp [this.mpr c]), decide_eq_false (by simp [c])]
      · have c0 : cntM r a ≠ 0 := fun z => c (this.mp z)
        rw [decide_eq_true c0, decide_eq_true c]
    rw [e2] at e
    have hta : ahead r (topN r) (ixM r fun i => decide (cntM r i ≠ 0))[k] = true := by
      have h0 := topN_first hne hi
      have hn : (ixM r fun i => decide (cntM r i ≠ 0))[k] ≠ topN r := fun z => hm ((cnt_zero hi).mpr z)
      rw [ahead_no] at h0
      rw [ahead_iff]
      omega
    have e3 := filter_ne_len (p := fun a => ahead r a (ixM r fun i => decide (cntM r i ≠ 0))[k]) List.nodup_range (List.mem_range.mpr (topN_lt hne)) hta
    have e4 : cntM (partM r fun i => decide (cntM r i ≠ 0)) k + 1 = cntM r (ixM r fun i => decide (cntM r i ≠ 0))[k] := by
      rw [e]
      exact e3
    by_cases c : cntM r (ixM r fun i => decide (cntM r i ≠ 0))[k] < m + 1
    · rw [decide_eq_true c, decide_eq_true (by omega)]
    · rw [decide_eq_false c, decide_eq_false (by omega)]
/-- the first layer -/
def topL (r : List Lay) : Option Lay := r[topN r]?
theorem thin_topL (r : List Lay) (m : Nat) : topL (thinM r (m + 1)) = topL r := by
  by_cases hne : r = []
  · subst hne
    rfl
  · have ht := topN_lt hne
    have h0 : cntM r (topN r) = 0 := (cnt_zero ht).mpr rfl
    have hmem : topN r ∈ ixM r fun i => decide (cntM r i < m + 1) := List.mem_filter.mpr ⟨List.mem_range.mpr ht, decide_eq_true (by omega)⟩
    obtain ⟨k, hk, ek⟩ := List.mem_iff_getElem.mp hmem
    have hkl : k < (thinM r (m + 1)).length := by
      rw [thinM_part, partM_len]
      exact hk
    have ck : cntM (thinM r (m + 1)) k = 0 := by
      rw [thinM_part, cnt_part_same hk, ek, h0]
      intro j hj hja
      have := cnt_lt_of_ahead hj (ixM_lt _ (List.getElem_mem hk)) hja
      rw [ek, h0] at this
      exact absurd this (Nat.not_lt_zero _)
    have e := (cnt_zero hkl).mp ck
    unfold topL
    rw [← e, thinM_part]
    show ((ixM r fun i => decide (cntM r i < m + 1)).filterMap fun i => r[i]?)[k]? = _
    rw [fm_at ixM_lt, List.getElem?_eq_getElem hk, ek]
    rfl
theorem topL_rank (r : List Lay) : topL r = (byRank r).head? := by
  by_cases hne : r = []
  · subst hne
    unfold topL byRank
    rw [rankM_nil]
    rfl
  · obtain ⟨m, e⟩ := rankM_cons hne
    have ht := topN_lt hne
    unfold topL byRank
    rw [e, List.filterMap_cons, List.getElem?_eq_getElem ht]
    rfl
theorem alike_topL {r r' : List Lay} (h : normM r = normM r') : topL r = topL r' := by rw [topL_rank, topL_rank, alike_byRank h]
theorem filter_ne_le {p : Nat → Bool} {t : Nat} : ∀ {l : List Nat}, l.Nodup → (l.filter p).length ≤ (l.filter fun j => p j && decide (j ≠ t)).length + 1
  | [], _ => Nat.zero_le _
  | a :: l, hn => by
    obtain ⟨h1, h2⟩ := List.nodup_cons.mp hn
    have ih := filter_ne_le (p := p) (t := t) h2
    rw [List.filter_cons, List.filter_cons]
    by_cases e : a = t
    · subst e
      have e2 : l.filter (fun j => p j && decide (j ≠ a)) = l.filter p := List.filter_congr fun j hj => by
        have c0 : j ≠ a := fun z => h1 (z ▸ hj)
        rw [decide_eq_true c0, Bool.and_true]
      rw [e2]
      cases p a with
      | true => simp
      | false => simp
    · rw [decide_eq_true e, Bool.and_true]
      cases p a with
      | true => simp only [if_true, List.length_cons]; omega
      | false => simpa using ih
theorem low_len (r : List Lay) (t : Nat) (n : Int) : (lowM r t n).length = r.length := by unfold lowM; rw [List.length_set]
theorem low_get {r : List Lay} {t i : Nat} {n : Int} (h : i ≠ t) : (lowM r t n)[i]? = r[i]? := by
  unfold lowM
  rw [List.getElem?_set_ne (Ne.symm h)]
theorem low_stg {r : List Lay} {t i : Nat} {n : Int} (h : i ≠ t) : stg (lowM r t n) i = stg r i := by
  unfold stg
  rw [List.getD_eq_getElem?_getD, List.getD_eq_getElem?_getD, low_get h]
theorem low_cnt {r : List Lay} {t i : Nat} {n : Int} (h : i ≠ t) : cntM r i ≤ cntM (lowM r t n) i + 1 := by
  unfold cntM
  rw [low_len]
  refine Nat.le_trans (filter_ne_le (t := t) List.nodup_range) ?_
  refine Nat.add_le_add_right ?_ 1
  have e : (List.range r.length).filter (fun j => ahead r j i && decide (j ≠ t)) = ((List.range r.length).filter fun j => ahead (lowM r t n) j i).filter fun j => decide (j ≠ t) := by
    rw [List.filter_filter]
    refine List.filter_congr fun j _ => ?_
    by_cases c : j = t
    · rw [decide_eq_false (by simp [c]), Bool.and_false, Bool.false_and]
    · rw [decide_eq_true c, Bool.and_true, Bool.true_and]
      unfold ahead
      rw [low_stg c, low_stg h]
  rw [e]
  exact List.length_filter_le _ _
/-- a part of a row whose layer at t is lowered -/
theorem part_low {r : List Lay} {P : Nat → Bool} {k0 : Nat} (hk0 : k0 < (ixM r P).length) (n : Int) : lowM (partM r P) k0 n = partM (lowM r (ixM r P)[k0] n) P := by
  have eix : ixM (lowM r (ixM r P)[k0] n) P = ixM r P := by
    unfold ixM
    rw [low_len]
  refine List.ext_getElem? fun k => ?_
  have hR : (partM (lowM r (ixM r P)[k0] n) P)[k]? = (ixM r P)[k]?.bind fun i => (lowM r (ixM r P)[k0] n)[i]? := by
    show ((ixM (lowM r (ixM r P)[k0] n) P).filterMap fun i => (lowM r (ixM r P)[k0] n)[i]?)[k]? = _
    rw [fm_at ixM_lt, eix]
  have hP : ∀ k, (partM r P)[k]? = (ixM r P)[k]?.bind fun i => r[i]? := fun k => fm_at ixM_lt k
  rw [hR]
  by_cases hk : k < (ixM r P).length
  · rw [List.getElem?_eq_getElem hk]
    simp only [Option.bind_some]
    by_cases e : k = k0
    · subst e
      have hi := ixM_lt (r := r) (P := P) _ (List.getElem_mem hk)
      unfold lowM
      rw [List.getElem?_set_self (by rw [partM_len]; exact hk), List.getElem?_set_self hi, stg_part hk]
      have eg : (partM r P).getD k (default, 0) = r.getD (ixM r P)[k] (default, 0) := by
        rw [List.getD_eq_getElem?_getD, List.getD_eq_getElem?_getD, hP, List.getElem?_eq_getElem hk]
        rfl
      rw [eg]
    · have e2 : (ixM r P)[k] ≠ (ixM r P)[k0] := fun z => by
        have nd : (ixM r P).Nodup := ixM_inc.imp fun h => Nat.ne_of_lt h
        exact e ((List.getElem_inj nd).mp z)
      rw [low_get e, low_get e2, hP, List.getElem?_eq_getElem hk]
      rfl
  · rw [List.getElem?_eq_none (by rw [low_len, partM_len]; omega), List.getElem?_eq_none (by omega)]
    rfl
theorem thin_rub (r : List Lay) (n : Int) (m : Nat) : thinM (rubM (thinM r (m + 1)) n) m = thinM (rubM r n) m := by
  by_cases hne : r = []
  · subst hne
    have e : thinM [] (m + 1) = [] := rfl
    rw [e]
  · have ht := topN_lt hne
    have h0 : cntM r (topN r) = 0 := (cnt_zero ht).mpr rfl
    have hmem : topN r ∈ ixM r fun i => decide (cntM r i < m + 1) := List.mem_filter.mpr ⟨List.mem_range.mpr ht, decide_eq_true (by omega)⟩
    obtain ⟨k, hk, ek⟩ := List.mem_iff_getElem.mp hmem
    have hkl : k < (thinM r (m + 1)).length := by
      rw [thinM_part, partM_len]
      exact hk
    have ck : cntM (thinM r (m + 1)) k = 0 := by
      rw [thinM_part, cnt_part_same hk, ek, h0]
      intro j hj hja
      have := cnt_lt_of_ahead hj (ixM_lt _ (List.getElem_mem hk)) hja
      rw [ek, h0] at this
      exact absurd this (Nat.not_lt_zero _)
    have e := (cnt_zero hkl).mp ck
    have es : stg (thinM r (m + 1)) k = stg r (topN r) := by rw [thinM_part, stg_part hk, ek]
    unfold rubM
    rw [← e, es]
    by_cases c : 0 < stg r (topN r) - n
    · rw [if_pos c, if_pos c]
      have e2 : lowM (thinM r (m + 1)) k n = partM (lowM r (topN r) n) fun i => decide (cntM r i < m + 1) := by
        rw [thinM_part, part_low hk, ek]
      rw [e2]
      refine thin_part fun i hi hc => decide_eq_true ?_
      by_cases ci : i = topN r
      · rw [ci, h0]
        omega
      · have := low_cnt (r := r) (n := n) ci
        omega
    · rw [if_neg c, if_neg c]
      rw [show scrapM (thinM r (m + 1)) = thinM (scrapM r) m from (thin_scrap r m).symm, thin_thin, Nat.min_self]
end Y

set_option Elab.async false
set_option linter.all false
set_option maxRecDepth 100000
set_option maxHeartbeats 4000000
/-! S2: rows compared as data; x is True; lists unpacked. -/
namespace Y
open PySem PySem.Spec PyProof.Rows L2
theorem eqv_lay (a b : Lay) : PyData.eqv (layD a) (layD b) = decide (a = b) := by
  obtain ⟨a1, a2⟩ := a
  obtain ⟨b1, b2⟩ := b
  simp [layD, PyData.eqv, PyData.eqvAll]
  by_cases h1 : a1 = b1 <;> by_cases h2 : a2 = b2 <;> simp [h1, h2]
theorem eqv_lays : ∀ a b : List Lay, PyData.eqvAll (a.map layD) (b.map layD) = decide (a = b)
  | [], [] => by simp [PyData.eqvAll]
  | [], b :: bs => by simp [PyData.eqvAll]
  | a :: as, [] => by simp [PyData.eqvAll]
  | a :: as, b :: bs => by
    rw [List.map_cons, List.map_cons, PyData.eqvAll, eqv_lay, eqv_lays as bs]
    by_cases h1 : a = b <;> by_cases h2 : as = bs <;> simp [h1, h2]
theorem eqv_row (a b : List Lay) : PyData.eqv (rowD a) (rowD b) = decide (a = b) := by
  rw [rowD, rowD, PyData.eqv, eqv_lays]
theorem eqv_laysL (a b : List Lay) : PyData.eqv (laysL a) (laysL b) = decide (a = b) := by
  rw [laysL, laysL, PyData.eqv, eqv_lays]
section
variable {X : Cx} {K : PySem.W.Frag}
def yIsB : R2 := fun x y H Q => match x, y with
  | .bl a, .bl b => Q (.bl (decide (a = b))) H
  | _, _ => False
def yNotB : R2 := fun x y H Q => match x, y with
  | .bl a, .bl b => Q (.bl (!decide (a = b))) H
  | _, _ => False
theorem oIsB : OpR X (compareOp .Is) yIsB := by
  intro pins s σ H x y v u Q I rx ry h
  unfold yIsB at h
  split at h
  · rename_i a b
    cases rx
    cases ry
    have e : compareOp .Is (.bool a) (.bool b) = pure (.bool (decide (a = b))) := by
      cases a <;> cases b <;> rfl
    rw [e]
    exact wpAny_pure ⟨.bl _, H, I, rfl, h⟩
  · exact h.elim
theorem oNotB : OpR X (compareOp .IsNot) yNotB := by
  intro pins s σ H x y v u Q I rx ry h
  unfold yNotB at h
  split at h
  · rename_i a b
    cases rx
    cases ry
    have e : compareOp .IsNot (.bool a) (.bool b) = pure (.bool (!decide (a = b))) := by
      cases a <;> cases b <;> rfl
    rw [e]
    exact wpAny_pure ⟨.bl _, H, I, rfl, h⟩
  · exact h.elim
def yLstG (K : PySem.W.Frag) (n : Nat) (t : TGs) : TG := fun v σ H Q => match v with
  | .ref a => ∃ xs, SqL K H a xs ∧ xs.length = n ∧ t xs σ H Q
  | _ => False
theorem kgLst {tgs : List Expr} {k : Nat} {t : TGs} {n : Nat} {pos : Pos} (h0 : X.K = K) (hc : X.calm = true) (h : PGs X tgs t)
    (hn : (assignEach tgs X.env).length = n := by rfl) (hst : (assignEach tgs X.env).findIdx? (·.1) = none := by rfl) : PG X (.Tuple tgs k pos) (yLstG K n t) := by
  subst h0
  exact PG.imp (pg_lst hc h hn hst) fun v σ H Q h => by
    unfold yLstG at h
    split at h
    · obtain ⟨xs, h1, h2, h3⟩ := h
      exact ⟨_, xs, rfl, h1, h2, h3⟩
    · exact h.elim
end
/-- neighbours exchanged, as the texts write it: row[:k] + (row[k + 1], row[k]) + row[k + 2:] -/
theorem swap_im [Tb] {K : PySem.W.Frag} {H : Hp} {t : Addr} {xs : List V} {r : List Lay} (ht : Tp K H t xs) (hxs : ImAll K H xs (r.map layD)) {k : Nat} (hk : k + 1 < r.length) (hl : r.length ≤ 100000) {Q : VK} (MID : Hp → VK → Prop)
    (mid : ∀ (a1 a2 : Addr) H3 (R : VK), xs[k]? = some (.ref a1) → xs[k + 1]? = some (.ref a2) → Kp No H H3 → (∀ p1, H3 p1 = none → R (.ref p1) (upd H3 p1 (.tup [.ref a2, .ref a1]))) → MID H3 R)
    (q : ∀ v' H', Kp No H H' → Im K H' v' (rowD (r.take k ++ [r[k + 1], r[k]] ++ r.drop (k + 2))) → Q v' H') :
    ySl K (.ref t) none (some ((k : Nat) : Int)) H fun x H3 => MID H3 fun y H4 => yAdd K x y H4 fun z H5 => ySl K (.ref t) (some (((k : Nat) : Int) + 2)) none H5 fun w H6 => yAdd K z w H6 Q := by
  have him : Im K H (.ref t) (rowD r) := .tup ht hxs
  have hi1 : k < r.length := by omega
  obtain ⟨a1, e1, e2, e3⟩ := row_at (t := t) hxs hi1
  obtain ⟨a2, f1, f2, f3⟩ := row_at (t := t) hxs hk
  have ez2 : ((k : Nat) : Int) + 2 = ((k + 2 : Nat) : Int) := by omega
  refine sl_im him fun v1 H3 k3 im3 => ?_
  rw [cutG_map, cutG_to] at im3
  refine mid a1 a2 H3 _ e1 f1 k3 fun p1 hp1 => ?_
  have kp1 : Kp No H3 (upd H3 p1 (.tup [.ref a2, .ref a1])) := Kp.new hp1
  have k31 := k3.trans kp1
  have im2 : Im K _ (.ref p1) (.tuple [layD r[k + 1], layD r[k]]) := Im.mk upd_same (.cons (Im.up k31 _ _ f2) (.cons (Im.up k31 _ _ e2) .nil))
  refine add_im (Im.up kp1 _ _ im3) im2 (by rw [List.length_map, List.length_take]; simp only [List.length_cons, List.length_nil]; omega) fun v4 H4 k4 im4 => ?_
  have k04 := k31.trans k4
  refine sl_im (Im.up k04 _ _ him) fun v5 H5 k5 im5 => ?_
  rw [cutG_map, ez2, cutG_from] at im5
  refine add_im (Im.up k5 _ _ im4) im5 (by simp only [List.length_append, List.length_map, List.length_take, List.length_drop, List.length_cons, List.length_nil]; omega) fun v6 H6 k6 im6 => q _ _ ((k04.trans k5).trans k6) ?_
  rw [rowD, List.map_append, List.map_append]
  exact im6
theorem split2 {r : List Lay} {k : Nat} (hk : k + 1 < r.length) : r = r.take k ++ r[k] :: r[k + 1] :: r.drop (k + 2) := by
  have h1 : k < r.length := by omega
  conv => lhs; rw [← List.take_append_drop k r]
  rw [← List.getElem_cons_drop h1, ← List.getElem_cons_drop hk]
theorem sw_at {r : List Lay} {k : Nat} (hk : k + 1 < r.length) (h : r[k].1 = r[k + 1].1) : Sw r (r.take k ++ [r[k + 1], r[k]] ++ r.drop (k + 2)) := by
  have e := Sw.mk (r.take k) r[k] r[k + 1] (r.drop (k + 2)) h
  rw [← split2 hk] at e
  rw [List.append_assoc]
  exact e
theorem Sws.perm {r r' : List Lay} (h : Sws r r') : r.Perm r' := by
  induction h with
  | refl => exact .refl _
  | step s _ ih =>
    refine List.Perm.trans ?_ ih
    cases s with
    | mk a x y b h => exact List.Perm.append_left a (.swap y x b)
/-! ### lists of whole numbers, as data -/
def intsL (l : List Int) : PyData := .list (l.map PyData.int)
theorem intsL_fine {l : List Int} (h : ∀ i ∈ l, i.natAbs < 10 ^ 500) : fine (intsL l) = true := fineAll_of fun d hd => by
  obtain ⟨i, hi, rfl⟩ := List.mem_map.mp hd
  exact decide_eq_true (h i hi)
theorem intsL_deep (l : List Int) : (intsL l).depth ≤ 1 := by
  rw [intsL, PyData.depth]
  have := depthAll_le (n := 0) (ds := l.map PyData.int) fun d hd => by
    obtain ⟨z, _, rfl⟩ := List.mem_map.mp hd
    simp [PyData.depth]
  omega
theorem intsL_dp {K : PySem.W.Frag} {H : Hp} {a : Addr} {l : List Int} (h : H a = some (.lst (l.map V.int))) : Dp K H (.ref a) (intsL l) := by
  refine .lst (.inl (.inl h)) ?_
  clear h
  induction l with
  | nil => exact .nil
  | cons i l ih => exact .cons (.int _) ih
theorem intsL_nil (l : List Int) : PyData.eqv (intsL l) (.list []) = l.isEmpty := by
  cases l <;> simp [intsL, PyData.eqv, PyData.eqvAll]
theorem intsL_shaped {l : List Int} (h : ∀ i ∈ l, i.natAbs < 10 ^ 500) : SeqAt.shaped (intsL l) = true := fine_shaped (intsL_fine h) (Nat.le_trans (intsL_deep l) (by decide))
end Y

set_option Elab.async false
set_option linter.all false
set_option maxRecDepth 100000
set_option maxHeartbeats 2000000
set_option exponentiation.threshold 600
/-! D1: constants of the module; things of any kind shown, flat dicts too. -/
namespace Y
open PySem PySem.Spec PyProof.Rows L2
section
variable {X : Cx} {x : Str} {pos : Pos}
theorem ye_gint {i : Int} (hm : ∃ t, X.mg x = some (.int i t)) (hg : Gl X x) (hd : (x == ("__debug__" : Str)) = false := by decide) : PE X (.Name x pos) (tC (.int i)) := by
  obtain ⟨t, hm⟩ := hm
  exact pe_glob hg hm ⟨t, rfl⟩ hd
theorem ye_gstr {z : Str} (hm : ∃ t, X.mg x = some (.str z t)) (hg : Gl X x) (hd : (x == ("__debug__" : Str)) = false := by decide) : PE X (.Name x pos) (tC (.str z)) := by
  obtain ⟨t, hm⟩ := hm
  exact pe_glob hg hm ⟨t, rfl⟩ hd
end
def keyD : Key → PyData
  | .inl i => .int i
  | .inr z => .str z
def flatD : V → PyData
  | .int i => .int i
  | .str z => .str z
  | .bl b => .bool b
  | _ => .none
def FlatV : V → Prop
  | .int _ => True
  | .str _ => True
  | .bl _ => True
  | .non => True
  | _ => False
def dictD (kvs : List (Key × V)) : PyData := .dict (kvs.map fun p => (keyD p.1, flatD p.2))
theorem key_reads {h : Heap} {k : Key} {u : Value} (e : keyIs k u = true) : Reads h u (keyD k) [] := by
  rcases keyIs_shape e with ⟨i, t, rfl, rfl⟩ | ⟨x, t, rfl, rfl⟩
  · exact .int _ _
  · exact .str _ _
theorem flat_reads {h : Heap} {v : V} {u : Value} (f : FlatV v) (r : RelV v u) : Reads h u (flatD v) [] := by
  cases v with
  | int i => obtain ⟨t, rfl⟩ := r; exact .int _ _
  | str z => obtain ⟨t, rfl⟩ := r; exact .str _ _
  | bl b => cases r; exact .bool _
  | non => cases r; exact .none
  | _ => exact f.elim
theorem dict_reads {P : Program} {w : World} {H : Hp} {h : Heap} {a : Addr} {kvs : List (Key × V)} (ok : HOk P w H h) (e : H a = some (.dK kvs)) (f : ∀ p ∈ kvs, FlatV p.2) : Reads h (.ref a) (dictD kvs) [a] ∧ a ≠ sysModules := by
  obtain ⟨_, hs, vs, kv, o, es, ep, h1, h2, h3, _, h4, _⟩ := dk_of ok e
  refine ⟨?_, fun z => by rw [z] at hs; simp at hs⟩
  have key : ∀ {l : List DictEntry} {vs : List (Key × Value)} {kvs : List (Key × V)}, Pairs (mixKind P w) l vs → KV kvs vs → (∀ p ∈ kvs, FlatV p.2) → ReadsAll h (l.map (·.key)) ((kvs.map fun p => (keyD p.1, flatD p.2)).map (·.1)) [] ∧ ReadsAll h (l.map (·.val)) ((kvs.map fun p => (keyD p.1, flatD p.2)).map (·.2)) [] := by
    intro l
    induction l with
    | nil =>
      intro vs kvs p r f
      cases p
      cases r
      exact ⟨.nil, .nil⟩
    | cons x l ih =>
      intro vs kvs p r f
      cases p with
      | cons p1 pv p2 =>
      cases r with
      | cons r1 r2 =>
      obtain ⟨g1, g2⟩ := ih p2 r2 fun q hq => f q (List.mem_cons_of_mem _ hq)
      have f1 := f _ List.mem_cons_self
      refine ⟨?_, ?_⟩
      · refine .cons (as := []) (bs := []) ?_ g1
        have z := key_reads (h := h) (show keyIs _ _ = true from p1)
        rw [← r1.1] at z
        exact z
      · refine .cons (as := []) (bs := []) ?_ g2
        have z := flat_reads (h := h) f1 r1.2
        rw [← pv] at z
        exact z
  obtain ⟨g1, g2⟩ := key h4 kv f
  exact .dict (as := []) (bs := []) h1 h2.1 h3 g1 g2
/-- a thing that repr can show -/
def Tg (K : PySem.W.Frag) (H : Hp) (v : V) (d : PyData) : Prop :=
  (Dp K H v d ∧ Sh d) ∨ ∃ a kvs, v = .ref a ∧ H a = some (.dK kvs) ∧ (∀ p ∈ kvs, FlatV p.2) ∧ d = dictD kvs ∧ (dictD kvs).showable = true ∧ (dictD kvs).depth ≤ 50 ∧ (dictD kvs).shown.length ≤ sizeLine
def yReprX (K : PySem.W.Frag) : List V → Hp → VK → Prop := fun xs H Q => match xs with
  | [v] => ∃ d, Tg K H v d ∧ Q (.str d.shown) H
  | _ => False
theorem kReprX {X : Cx} {K : PySem.W.Frag} (h0 : X.K = K) (hu : X.A.units + 64 < cLine) (gd : X.A.guards = some []) : CallR X (.builtin "repr") (yReprX K) := by
  intro pins s σ H xs us Q I r h
  unfold yReprX at h
  split at h
  · rename_i v
    obtain ⟨d, hd, q⟩ := h
    rcases hd with ⟨hd, hS⟩ | ⟨a, kvs, rfl, ha, hf, rfl, h1, h2, h3⟩
    · exact kRepr h0 hu gd pins s σ H [v] us Q I r ⟨d, hd, hS, q⟩
    · obtain ⟨u, rfl, ru⟩ := vals1 r
      obtain rfl : u = Value.ref a := ru
      obtain ⟨rd, ns⟩ := dict_reads I.hok ha hf
      exact repr_of_reads' rd h1 (fun _ z => ns (List.mem_singleton.mp z).symm) gd (by omega) (fun _ _ e => e) (fun h' u tk hk => ⟨.str _, H, I.kept hk, ⟨_, rfl⟩, q⟩) h3
  · exact h.elim
theorem Tg.up [Tb] {K : PySem.W.Frag} {H H' : Hp} {a : Addr} {kvs : List (Key × V)} (k : Kp No H H') (h : H a = some (.dK kvs)) : H' a = some (.dK kvs) := k.all a _ h id
end Y
namespace Y
open PySem PySem.Spec PyProof.Rows L2
/-! ### names, amounts, of things of any kind -/
def tyO : HO → Option String
  | .lst _ => some "list"
  | .tup _ => some "tuple"
  | .dK _ => some "dict"
  | _ => none
inductive Kd (H : Hp) : V → Prop
  | str (z : Str) (h : z.length ≤ 1000) (hf : fine (.str z) = true) : Kd H (.str z)
  | int (i : Int) : Kd H (.int i)
  | bl (b : Bool) : Kd H (.bl b)
  | non : Kd H .non
  | ref {a : Addr} {o : HO} {m : String} (h : H a = some o) (e : tyO o = some m) : Kd H (.ref a)
theorem Kd.up [Tb] {S : Addr → Prop} {H H' : Hp} {v : V} (h : Kd H v) (k : Kp S H H') (n : ∀ a, v = .ref a → ¬ S a) : Kd H' v := by
  cases h with
  | str z h hf => exact .str z h hf
  | int i => exact .int i
  | bl b => exact .bl b
  | non => exact .non
  | @ref a o m h e =>
    refine .ref (k.all a o h (n a rfl) ?_) e
    cases o <;> first | exact True.intro | cases e
def whV : V → Bool
  | .int _ => true
  | _ => false
def amV : V → Bool
  | .int i => decide (0 < i)
  | _ => false
def nmB (z : Str) : Bool := decide (1 ≤ z.length) && (decide (z.length ≤ 8) && (z.cps.toList.map fun c => decide (c ∈ abc.cps.toList)).all id)
def nmV : V → Bool
  | .str z => nmB z
  | _ => false
theorem nmB_no {z : Str} (h : z.length < 1 ∨ 8 < z.length) : nmB z = false := by
  unfold nmB
  rcases h with h | h
  · rw [decide_eq_false (by omega)]; rfl
  · rw [decide_eq_false (show ¬ z.length ≤ 8 by omega), Bool.false_and, Bool.and_false]
theorem nmB_yes {z : Str} (h1 : 1 ≤ z.length) (h2 : z.length ≤ 8) : nmB z = (z.cps.toList.map fun c => decide (c ∈ abc.cps.toList)).all id := by
  unfold nmB
  rw [decide_eq_true h1, decide_eq_true h2, Bool.true_and, Bool.true_and]
theorem nm_nmB {z : Str} (h : Nm z) : nmB z = true := by
  obtain ⟨h1, h2, h3⟩ := h
  rw [nmB_yes h1 h2, List.all_map, List.all_eq_true]
  intro c hc
  have := h3 c hc
  show decide (c ∈ abc.cps.toList) = true
  rw [abc_list]
  refine decide_eq_true (List.mem_map.mpr ⟨c - 97, List.mem_range.mpr (by omega), by omega⟩)
theorem iteN0 {A B : Prop} {b : Bool} (h : b = false) (hA : A) : if (!b) = true then A else B := by
  rw [h]; exact hA
end Y

set_option Elab.async false
set_option linter.all false
set_option maxRecDepth 100000
set_option maxHeartbeats 2000000
set_option exponentiation.threshold 600
/-! C1: classes: methods and instances by promises that know the guards; fields; dicts with text keys. -/
namespace Y
open PySem PySem.Spec PyProof.Rows L2
section
variable {P : Program} {w : World} {K : PySem.W.Frag} {mg : Str → Option Value} {base : Heap} {k : Nat} {C : Addr} {m q x : Str} {sp : Sp}
/-- the def st is the method m of the class at C -/
def MetAt (K : PySem.W.Frag) (C : Addr) (m q : Str) (st : Stmt) : Prop := ∃ f fd, FunD K m q (defArgs st) (defBody st) (defScope st) [] [] f fd ∧ Meth K C m f
def CalM (P : Program) (w : World) (K : PySem.W.Frag) (mg : Str → Option Value) (base : Heap) (k : Nat) (C : Addr) (m : Str) (sp : Sp) : Prop :=
  ∃ f fd ps, FnG P w K mg base CX0 k f fd ps sp ∧ Cls K C ∧ Meth K C m f ∧ Binds K fd ps []
/-- the def st is the __init__ of the class x at C; kws: its keyword-only defaults -/
def IniAt (K : PySem.W.Frag) (mg : Str → Option Value) (x : Str) (C : Addr) (q : Str) (st : Stmt) (kws : List (Str × V)) : Prop :=
  ∃ f fd, FunD K "__init__" q (defArgs st) (defBody st) (defScope st) [] kws f fd ∧ Mk K C f ∧ mg x = some (.ref C)
def CalI (P : Program) (w : World) (K : PySem.W.Frag) (mg : Str → Option Value) (base : Heap) (k : Nat) (x : Str) (C : Addr) (sp : Sp) : Prop :=
  ∃ f fd ps, FnG P w K mg base CX0 k f fd ps sp ∧ Mk K C f ∧ mg x = some (.ref C) ∧ Binds K fd ps []
/-- .. made with keywords ks behind n positional ones -/
def CalK (P : Program) (w : World) (K : PySem.W.Frag) (mg : Str → Option Value) (base : Heap) (k : Nat) (x : Str) (C : Addr) (n : Nat) (ks : List Str) (gV : List V → List V → List V) (sp : Sp) : Prop :=
  ∃ f fd ps g, FnG P w K mg base CX0 k f fd ps sp ∧ Mk K C f ∧ mg x = some (.ref C) ∧ KBn K fd ps (n + 1) ks g gV
theorem body_of {st : Stmt} {N ps : List Str} {f : Addr} {fd : FuncData} {kws : List (Str × V)} (F : FunD K m q (defArgs st) (defBody st) (defScope st) [] kws f fd) (S : FnScope N ps (defScope st))
    (ar : ∀ vs H Q E, sp vs H Q E → vs.length = ps.length)
    (hb : ∀ (f : Addr) (cd : Value) (A : Around) (out : List Env) (s : Shared) (H : Hp) (vs : List V) (Q : VK) (E : XK), Room k (A.deeper (envOfC q (defScope st) s.heap.objs.size f cd)) → (A.deeper (envOfC q (defScope st) s.heap.objs.size f cd)).guards = some [] → sp vs H Q E →
      ∃ t, PSs (cxOf CX0 P w K mg base N q (defScope st) f cd A out s H E).nox (defBody st) t ∧ t { nx := fun _ H' => Q .non H', rt := Q } (start N vs) H) : FnG P w K mg base CX0 (k + 1) f fd ps sp := by
  refine funD_goes F S ar fun cd A out s H vs Q E r g z => ?_
  obtain ⟨t, h1, h2⟩ := hb f cd A out s H vs Q E r g z
  exact ⟨t, h1.nox, h2⟩
theorem calM_of {st : Stmt} {N ps : List Str} (D : MetAt K C m q st) (c : Cls K C) (S : FnScope N ps (defScope st))
    (bnd : ∀ (kV doc pm : Value) (an : Option Addr) (cdv ct : Value) (us : List Value), us.length = ps.length → bindArgs (PySem.W.fnOf m q (defArgs st) (defBody st) (defScope st) .none kV doc pm an cdv ct) ⟨us, []⟩ = pure (ps.zip us))
    (ar : ∀ vs H Q E, sp vs H Q E → vs.length = ps.length)
    (hb : ∀ (f : Addr) (cd : Value) (A : Around) (out : List Env) (s : Shared) (H : Hp) (vs : List V) (Q : VK) (E : XK), Room k (A.deeper (envOfC q (defScope st) s.heap.objs.size f cd)) → (A.deeper (envOfC q (defScope st) s.heap.objs.size f cd)).guards = some [] → sp vs H Q E →
      ∃ t, PSs (cxOf CX0 P w K mg base N q (defScope st) f cd A out s H E).nox (defBody st) t ∧ t { nx := fun _ H' => Q .non H', rt := Q } (start N vs) H) : CalM P w K mg base (k + 1) C m sp := by
  obtain ⟨f, fd, F, hm⟩ := D
  exact ⟨f, fd, ps, body_of F S ar hb, c, hm, F.bindsN bnd⟩
theorem calI_of {st : Stmt} {N ps : List Str} (D : IniAt K mg x C q st []) (S : FnScope N ps (defScope st))
    (bnd : ∀ (kV doc pm : Value) (an : Option Addr) (cdv ct : Value) (us : List Value), us.length = ps.length → bindArgs (PySem.W.fnOf "__init__" q (defArgs st) (defBody st) (defScope st) .none kV doc pm an cdv ct) ⟨us, []⟩ = pure (ps.zip us))
    (ar : ∀ vs H Q E, sp vs H Q E → vs.length = ps.length)
    (hb : ∀ (f : Addr) (cd : Value) (A : Around) (out : List Env) (s : Shared) (H : Hp) (vs : List V) (Q : VK) (E : XK), Room k (A.deeper (envOfC q (defScope st) s.heap.objs.size f cd)) → (A.deeper (envOfC q (defScope st) s.heap.objs.size f cd)).guards = some [] → sp vs H Q E →
      ∃ t, PSs (cxOf CX0 P w K mg base N q (defScope st) f cd A out s H E).nox (defBody st) t ∧ t { nx := fun _ H' => Q .non H', rt := Q } (start N vs) H) : CalI P w K mg base (k + 1) x C sp := by
  obtain ⟨f, fd, F, hk, hm⟩ := D
  exact ⟨f, fd, ps, body_of F S ar hb, hk, hm, F.bindsN bnd⟩
end

/-! ### calls -/
section
variable {X : Cx} {k j n : Nat} {C : Addr} {m x f : Str} {sp : Sp} {p pos apos : Pos} {e o value : Expr} {es : List Expr} {ta tv : TE} {t tk : TA}
def yMeth (C : Addr) (m : Str) (sp : Sp) (ta : TE) (t : TA) : TE := fun σ H Q => ta σ H fun x H1 => match x with
  | .ref a => ∃ dx fs, H1 a = some (.ins C dx fs) ∧ fs.lookup m = none ∧ t σ H1 fun vs H2 => sp (.ref a :: vs) H2 Q E0
  | _ => False
theorem ye_meth {pl : Sem Bool} (c : CalM X.prog X.w X.K X.mg X.base k C m sp) (room : Room j X.A) (gd : X.A.guards = some []) (he : PE X o ta) (ha : PA X (e :: es) t) (hk : k ≤ j := by decide)
    (h1 : starEach (e :: es) X.env = (false, eval e X.env) :: starEach es X.env := by rfl) (h2 : (backTo pos (starEach es X.env)).any (·.1) = false := by rfl)
    (ht : eval (.Call (.Attribute o m apos) (e :: es) [] pos) X.env = (do
      let ov ← eval o X.env
      standAt apos.atName
      let (g, one) ← holding [ov] (getMethod ov m pl)
      callWith pos g one (backTo pos (starEach (e :: es) X.env)) (backToKw pos (keywordEach [] X.env))) := by rfl) :
    PE X (.Call (.Attribute o m apos) (e :: es) [] pos) (yMeth C m sp ta t) := by
  obtain ⟨g, fd, ps, F, cl, hm, hb⟩ := c
  constructor
  intro pins s σ H Q I h
  refine PySem.W.methodCall_KW (pl := pl) (thn (he.run pins s σ H _ I h) ?_) ht
  rintro u s1 ⟨x, H1, I1, rx, q⟩
  cases x with
  | ref a =>
    obtain ⟨dx, fs, ea, l, q⟩ := q
    obtain rfl : u = Value.ref a := rx
    refine getmeth_ok I1 ea cl hm l (PySem.W.callWith_K (first := [.ref a]) (h₀ := X.base) I.ok.mod.kin hm.kp (thn (ha.run pos pins s1 σ H1 _ I1 q) ?_) h1 h2)
    rintro us s2 ⟨vs, H2, I2, r, q2⟩
    exact ⟨I2.kIn, goes_fn (us := .ref a :: us) (vs := .ref a :: vs) (F.up hk) room gd hb .nil pass0 I2 (.cons rfl r) (by rw [List.append_nil]; exact q2)⟩
  | _ => exact q.elim
theorem ye_meth0 {pl : Sem Bool} (c : CalM X.prog X.w X.K X.mg X.base k C m sp) (room : Room j X.A) (gd : X.A.guards = some []) (he : PE X o ta) (hk : k ≤ j := by decide)
    (ht : eval (.Call (.Attribute o m apos) [] [] pos) X.env = (do
      let ov ← eval o X.env
      standAt apos.atName
      let (g, one) ← holding [ov] (getMethod ov m pl)
      callWith pos g one (backTo pos (starEach [] X.env)) (backToKw pos (keywordEach [] X.env))) := by rfl) :
    PE X (.Call (.Attribute o m apos) [] [] pos) (yMeth C m sp ta tNil) := by
  obtain ⟨g, fd, ps, F, cl, hm, hb⟩ := c
  constructor
  intro pins s σ H Q I h
  refine PySem.W.methodCall_KW (pl := pl) (thn (he.run pins s σ H _ I h) ?_) ht
  rintro u s1 ⟨x, H1, I1, rx, q⟩
  cases x with
  | ref a =>
    obtain ⟨dx, fs, ea, l, q⟩ := q
    obtain rfl : u = Value.ref a := rx
    exact getmeth_ok I1 ea cl hm l (PySem.W.callWith_K0 (first := [.ref a]) I1.kIn hm.kp (goes_fn (us := [.ref a]) (vs := [.ref a]) (F.up hk) room gd hb .nil pass0 I1 (.cons rfl .nil) q))
  | _ => exact q.elim
/-- the new instance and its dict -/
abbrev fresh2 (H : Hp) (C x dx : Addr) : Hp := upd (upd H dx (.own x)) x (.ins C dx [])
def yMake (C : Addr) (sp : Sp) (t : TA) : TE := fun σ H Q => t σ H fun vs H1 => ∀ x dx, H1 x = none → H1 dx = none → dx ≠ x →
  sp (.ref x :: vs) (fresh2 H1 C x dx) (fun v H2 => v = .non ∧ Q (.ref x) H2) E0
theorem goes_make {f : Addr} {fd : FuncData} {ps ks : List Str} {g : List Value → List Value → List Value} {gV : List V → List V → List V} {pins : List (Addr × Obj)} {σ : L2.St} {H : Hp} {s : Shared} {Q : VK} {us ws : List Value} {vs zs : List V} (M : Mk X.K C f)
    (F : FnG X.prog X.w X.K X.mg X.base CX0 k f fd ps sp) (room : Room (k + 1) X.A) (gd : X.A.guards = some []) (hb : KBn X.K fd ps (n + 1) ks g gV)
    (I : Inv X pins σ H s) (r : Vals vs us) (rz : Vals zs ws) (l1 : vs.length = n) (l2 : zs.length = ks.length)
    (h : ∀ x dx, H x = none → H dx = none → dx ≠ x → sp (gV (.ref x :: vs) zs) (fresh2 H C x dx) (fun v H2 => v = .non ∧ Q (.ref x) H2) E0) :
    wpAny (model X.prog X.w) X.A (call (.ref C) us (ks.zip ws)) (EP X pins σ Q) X.xe s := by
  have hq := h (s.heap.objs.size + 1) s.heap.objs.size (I.hok.fresh (Nat.le_succ _)) (I.hok.fresh (Nat.le_refl _)) (Nat.ne_of_lt (Nat.lt_succ_self _))
  have I2 := Inv.made (C := C) I
  have rel := hb.rel (show Vals (V.ref (s.heap.objs.size + 1) :: vs) (Value.ref (s.heap.objs.size + 1) :: us) from .cons rfl r) rz
  have n1 : (Value.ref (s.heap.objs.size + 1) :: us).length = n + 1 := by rw [List.length_cons, ← r.length, l1]
  have run := F.goes _ X.stack _ _ ⟨Value.ref (s.heap.objs.size + 1) :: us, ks.zip ws⟩ (g (Value.ref (s.heap.objs.size + 1) :: us) ws) _ _ E0 (room.make C us (ks.zip ws)) gd
    (I2.env0.make C us (ks.zip ws)) (hb.to _ (Value.ref (s.heap.objs.size + 1) :: us) ws I2.kIn n1 (rz.length.symm.trans l2)) rel hq
  refine wpAny_call (make_map (f := f) I.kIn M.makes M.init (beq_iff_eq.mp M.fn) (codeAny_mono run ?_))
  intro r s' hq'
  match r, hq' with
  | .error e, hq' => exact pass0 pins σ _ _ e s' I2 hq'
  | .ok .next, hq' => exact hq'.elim
  | .ok .brk, hq' => exact hq'.elim
  | .ok .cont, hq' => exact hq'.elim
  | .ok (.ret u), hq' =>
    obtain ⟨v, H', I3, rv, rfl, q3⟩ := I2.after hq'
    exact ⟨rv, ⟨V.ref (s.heap.objs.size + 1), H', I3, rfl, q3⟩⟩
/-- positional arguments alone -/
theorem Binds.kbn {K : PySem.W.Frag} {fd : FuncData} {ps : List Str} (hb : Binds K fd ps []) : KBn K fd ps ps.length [] (fun us _ => us) (fun vs _ => vs) :=
  ⟨fun s us ws hK l1 l2 => by
    have := hb s us hK (by rw [List.append_nil]; exact l1)
    rw [List.append_nil] at this
    exact this, fun r _ => r⟩
theorem ye_make (c : CalI X.prog X.w X.K X.mg X.base k x C sp) (room : Room j X.A) (gd : X.A.guards = some []) (hg : Gl X x) (ha : PA X (e :: es) t) (hk : k + 1 ≤ j := by decide) (hdb : (x == ("__debug__" : Str)) = false := by decide)
    (h1 : starEach (e :: es) X.env = (false, eval e X.env) :: starEach es X.env := by rfl) (h2 : (backTo pos (starEach es X.env)).any (·.1) = false := by rfl) :
    PE X (.Call (.Name x p) (e :: es) [] pos) (yMake C sp t) := by
  obtain ⟨f, fd, ps, F, M, hm, hb⟩ := c
  constructor
  intro pins s σ H Q I h
  refine wpAny_Call_Name_kw (ld_glob I hg hm ?_ hdb)
  refine PySem.W.callWith_K (h₀ := X.base) I.ok.mod.kin M.kp (thn (ha.run pos pins s σ H _ I h) ?_) h1 h2
  rintro us s1 ⟨vs, H1, I1, r, q⟩
  refine ⟨I1.kIn, ?_⟩
  have hq := q (s1.heap.objs.size + 1) s1.heap.objs.size (I1.hok.fresh (Nat.le_succ _)) (I1.hok.fresh (Nat.le_refl _)) (Nat.ne_of_lt (Nat.lt_succ_self _))
  have el : ps.length = vs.length + 1 := (F.arity _ _ _ _ hq).symm
  have kb := Binds.kbn hb
  rw [el] at kb
  exact goes_make (ks := []) (us := us) (ws := []) (zs := []) M F (room.mono hk) gd kb I1 r .nil rfl rfl q
def yMakeK (C : Addr) (n m : Nat) (gV : List V → List V → List V) (sp : Sp) (t tk : TA) : TE := fun σ H Q => t σ H fun vs H1 => tk σ H1 fun zs H2 => vs.length = n ∧ zs.length = m ∧ ∀ x dx, H2 x = none → H2 dx = none → dx ≠ x →
  sp (gV (.ref x :: vs) zs) (fresh2 H2 C x dx) (fun v H3 => v = .non ∧ Q (.ref x) H3) E0
theorem ye_makeK {ks : List Str} {gV : List V → List V → List V} {kws : List Keyword} (c : CalK X.prog X.w X.K X.mg X.base k x C n ks gV sp) (room : Room j X.A) (gd : X.A.guards = some []) (hg : Gl X x) (ha : PA X (e :: es) t) (hkw : PK X kws tk) (hk : k + 1 ≤ j := by decide)
    (hall : (backToKw pos (keywordEach kws X.env)).all (·.1.isSome) = true := by rfl) (hks : (backToKw pos (keywordEach kws X.env)).filterMap (·.1) = ks := by rfl) (hdb : (x == ("__debug__" : Str)) = false := by decide)
    (h1 : starEach (e :: es) X.env = (false, eval e X.env) :: starEach es X.env := by rfl) (h2 : ((backTo pos (starEach (e :: es) X.env)).any (·.1) || (backToKw pos (keywordEach kws X.env)).any (·.1.isNone)) = false := by rfl) :
    PE X (.Call (.Name x p) (e :: es) kws pos) (yMakeK C n ks.length gV sp t tk) := by
  obtain ⟨f, fd, ps, g, F, M, hm, hb⟩ := c
  constructor
  intro pins s σ H Q I h
  refine wpAny_Call_Name_kw (ld_glob I hg hm ?_ hdb)
  refine PySem.W.callWith_KW (h₀ := X.base) I.ok.mod.kin M.kp hall (thn (ha.run pos pins s σ H _ I h) ?_) h2 h1
  rintro us s1 ⟨vs, H1, I1, r, q⟩
  refine thn (hkw.run pos pins s1 σ H1 _ I1 q) ?_
  rintro ws s2 ⟨zs, H2, I2, rz, l1, l2, q2⟩
  refine ⟨I2.kIn, ?_⟩
  rw [hks]
  exact goes_make M F (room.mono hk) gd hb I2 r rz l1 l2 q2

/-! ### fields -/
def yFld (C : Addr) (f : Str) (ta : TE) : TE := fun σ H Q => ta σ H fun x H1 => match x with
  | .ref a => ∃ dx fs v, H1 a = some (.ins C dx fs) ∧ fs.lookup f = some v ∧ Q v H1
  | _ => False
theorem ye_fld (c : Cls X.K C) (na : NoAttr X.K C f) (he : PE X e ta) (hb : attributeBase e f X.env (eval e X.env) = eval e X.env := by rfl) : PE X (.Attribute e f pos) (yFld C f ta) :=
  PE.imp (pe_fld (PE.cl he) hb) fun σ H Q h => ⟨_, h, fun x H1 q => by
    cases x with
    | ref a =>
      obtain ⟨dx, fs, v, h1, h2, h3⟩ := q
      exact ⟨a, C, dx, fs, v, rfl, h1, c, na, h2, h3⟩
    | _ => exact q.elim⟩
def ySFld (C : Addr) (f : Str) (ta tv : TE) : TS := fun D σ H => tv σ H fun y H1 => ta σ H1 fun x H2 => match x with
  | .ref a => ∃ dx fs, H2 a = some (.ins C dx fs) ∧ fs.length < 1000 ∧ D.nx σ (upd H2 a (.ins C dx (putF f y fs)))
  | _ => False
theorem ys_fld {pos' : Pos} (c : Cls X.K C) (na : NoAttr X.K C f) (ha : PE X o ta) (hv : PE X value tv) (hs : swapsWith value (some (.Attribute o f pos')) pos.line X.env = pure false := by rfl) : PS X (.Assign [.Attribute o f pos'] value pos) (ySFld C f ta tv) :=
  PS.imp (ps_fld (PE.cl ha) (PE.cl hv) hs) fun D σ H h => ⟨_, h, fun y H1 q => ⟨_, q, fun x H2 q2 => by
    cases x with
    | ref a =>
      obtain ⟨dx, fs, h1, h2, h3⟩ := q2
      exact ⟨a, C, dx, fs, rfl, h1, c, na, h2, h3⟩
    | _ => exact q2.elim⟩⟩
end
end Y
namespace Y
open PySem PySem.Spec PyProof.Rows L2
/-! ### dicts with text keys -/
section
variable {X : Cx} {K : PySem.W.Frag} {e o i value : Expr} {te to ti tv : TE} {pos : Pos}
theorem room1 {j : Nat} {A : Around} (r : Room j A) : A.units + 1 < cLine := by have := r.units; omega
def yDg : R2 := fun x y H Q => match x, y with
  | .ref d, .str z => ∃ kvs v, H d = some (.dK kvs) ∧ valV kvs (.inr z) = some v ∧ Q v H
  | _, _ => False
theorem ye_dg {j : Nat} (room : Room j X.A) (ho : PE X o to) (hi : PE X i ti) (hs : NoSl i := by exact fun _ _ => rfl) : PE X (.Subscript o i pos) (tOp yDg to ti) :=
  PE.imp (pe_dget (room1 room) (PE.cl ho) (PE.cl hi) hs) fun σ H Q h => ⟨_, h, fun x H1 q => ⟨_, q, fun y H2 q2 => by
    unfold yDg at q2
    split at q2
    · obtain ⟨kvs, v, h1, h2, h3⟩ := q2
      exact ⟨_, v, rfl, .inl ⟨kvs, .inr _, .inl h1, rfl, h2.symm⟩, h3⟩
    · exact q2.elim⟩⟩
def yDin (neg : Bool) : R2 := fun y x H Q => match y, x with
  | .str z, .ref d => ∃ kvs, H d = some (.dK kvs) ∧ Q (.bl (if neg then !(valV kvs (.inr z)).isSome else (valV kvs (.inr z)).isSome)) H
  | _, _ => False
theorem ye_din {j : Nat} (room : Room j X.A) (hi : PE X i ti) (ho : PE X o to) (hm : behindInMarks .In o = false := by rfl) : PE X (.Compare i [.In] [o] pos) (tOp (yDin false) ti to) :=
  PE.imp (pe_cmp (pc_din (room1 room) (PE.cl hi) (PE.cl ho)) hm) fun σ H Q h => ⟨_, h, fun y H1 q => ⟨_, q, fun x H2 q2 => by
    unfold yDin at q2
    split at q2
    · obtain ⟨kvs, h1, h2⟩ := q2
      exact ⟨_, _, rfl, .inl ⟨kvs, .inr _, .inl h1, rfl, rfl⟩, h2⟩
    · exact q2.elim⟩⟩
def yDput (to ti tv : TE) : TS := fun D σ H => tv σ H fun v H1 => to σ H1 fun x H2 => ti σ H2 fun y H3 => match x, y with
  | .ref d, .str z => ∃ kvs, H3 d = some (.dK kvs) ∧ kvs.length < 1000 ∧ D.nx σ (upd H3 d (.dK (putK kvs (.inr z) v)))
  | _, _ => False
theorem ys_dput {j : Nat} {pos' : Pos} (room : Room j X.A) (ho : PE X o to) (hi : PE X i ti) (hv : PE X value tv) (hs : swapsWith value (some (.Subscript o i pos')) pos.line X.env = pure false := by rfl) :
    PS X (.Assign [.Subscript o i pos'] value pos) (yDput to ti tv) :=
  PS.imp (ps_dput (room1 room) (PE.cl ho) (PE.cl hi) (PE.cl hv) hs) fun D σ H h => ⟨_, h, fun v H1 q => ⟨_, q, fun x H2 q2 => ⟨_, q2, fun y H3 q3 => by
    split at q3
    · obtain ⟨kvs, h1, h2, h3⟩ := q3
      exact ⟨_, _, rfl, .inl ⟨kvs, .inr _, h1, rfl, Nat.lt_of_lt_of_le h2 (by decide), rfl⟩, h3⟩
    · exact q3.elim⟩⟩⟩
def yListD : List V → Hp → VK → Prop := fun xs H Q => match xs with
  | [.ref p] => ∃ kvs, H p = some (.dK kvs) ∧ ∀ q, H q = none → Q (.ref q) (upd H q (.lst (kvs.map fun kv => kV kv.1)))
  | _ => False
theorem kListD (hc : X.calm = true) : CallR X (.type "list") yListD := CallR.imp (call_list_dK hc) fun xs H Q h => by
  unfold yListD at h
  split at h
  · obtain ⟨kvs, h1, h2⟩ := h
    exact ⟨_, kvs, rfl, h1, h2⟩
  · exact h.elim
def yDict (K : PySem.W.Frag) : List V → Hp → VK → Prop := fun xs H Q => match xs with
  | [.ref a] => ∃ (ps : List Addr) (kvs : List (Key × V)), SqL K H a (ps.map V.ref) ∧ Paired (fun p kv => SqT K H p [kV kv.1, kv.2]) ps kvs ∧ ∀ p, H p = none → Q (.ref p) (upd H p (.dK (mergeK [] kvs)))
  | _ => False
theorem kDict (h0 : X.K = K) (hc : X.calm = true) : CallR X (.type "dict") (yDict K) := by
  subst h0
  exact CallR.imp (call_dictP hc) fun xs H Q h => by
    unfold yDict at h
    split at h
    · obtain ⟨ps, kvs, h1, h2, h3⟩ := h
      exact ⟨_, ps, kvs, rfl, h1, h2, h3⟩
    · exact h.elim
def yFAug (C : Addr) (f : Str) (op : Int → Int → Int) (to tv : TE) : TS := fun D σ H => to σ H fun x H1 => match x with
  | .ref a => ∃ dx fs n, H1 a = some (.ins C dx fs) ∧ fs.lookup f = some (.int n) ∧ tv σ H1 fun y H2 => match y with
    | .int m => ∃ dx fs, H2 a = some (.ins C dx fs) ∧ fs.length < 1000 ∧ D.nx σ (upd H2 a (.ins C dx (putF f (.int (op n m)) fs)))
    | _ => False
  | _ => False
theorem ys_faug {C : Addr} {f : Str} {tpos : Pos} {op : Operator} {g : Int → Int → Int} (c : Cls X.K C) (na : NoAttr X.K C f) (ha : PE X o to) (hv : PE X value tv) (hop : InOp X op fun x y H Q => ∃ i j, x = .int i ∧ y = .int j ∧ Q (.int (g i j)) H) : PS X (.AugAssign (.Attribute o f tpos) op value pos) (yFAug C f g to tv) :=
  PS.imp (ps_fldaug (PE.cl ha) (PE.cl hv) hop) fun D σ H h => ⟨_, h, fun x H1 q => by
    cases x with
    | ref a =>
      obtain ⟨dx, fs, n, h1, h2, h3⟩ := q
      refine ⟨a, C, dx, fs, _, rfl, h1, c, na, h2, _, h3, fun y H2 q2 => ?_⟩
      cases y with
      | int m =>
        obtain ⟨dx', fs', h4, h5, h6⟩ := q2
        exact ⟨n, m, rfl, rfl, dx', fs', h4, h5, h6⟩
      | _ => exact q2.elim
    | _ => exact q.elim⟩
end
/-- keys that are all unlike: merged, they stay as they are -/
theorem merge_nodup : ∀ {kvs acc : List (Key × V)}, ((acc ++ kvs).map (·.1)).Nodup → mergeK acc kvs = acc ++ kvs
  | [], acc, _ => by simp [mergeK]
  | p :: kvs, acc, h => by
    have h1 : mergeK acc (p :: kvs) = mergeK (putK acc p.1 p.2) kvs := rfl
    have h2 : putK acc p.1 p.2 = acc ++ [p] := by
      unfold putK
      rw [if_neg]
      simp only [List.any_eq_true, decide_eq_true_eq, not_exists, not_and]
      intro q hq e
      rw [List.map_append, List.nodup_append] at h
      exact h.2.2 q.1 (List.mem_map_of_mem hq) p.1 (by simp) e
    rw [h1, h2, merge_nodup (by simpa using h)]
    simp
theorem val_of_mem : ∀ {kvs : List (Key × V)} {k : Key} {v : V}, (kvs.map (·.1)).Nodup → (k, v) ∈ kvs → valV kvs k = some v
  | p :: kvs, k, v, h, hm => by
    rcases List.mem_cons.mp hm with z | z
    · exact valV_pos (by rw [← z]) |>.trans (by rw [← z])
    · have hne : p.1 ≠ k := fun e => by
        have := (List.nodup_cons.mp h).1
        exact this (List.mem_map.mpr ⟨_, z, e.symm⟩)
      have e1 : valV (p :: kvs) k = valV kvs k := by
        unfold valV
        rw [List.find?_cons_of_neg (by simpa using hne)]
      rw [e1]
      exact val_of_mem (List.nodup_cons.mp h).2 z
theorem val_none {kvs : List (Key × V)} {k : Key} (h : k ∉ kvs.map (·.1)) : valV kvs k = none := by
  unfold valV
  rw [List.find?_eq_none.mpr]
  · rfl
  · intro p hp
    simp only [decide_eq_true_eq]
    intro e
    exact h (by rw [← e]; exact List.mem_map_of_mem hp)
/-- the value at a key that is there, exchanged -/
theorem put_at {kvs : List (Key × V)} {k : Key} {v : V} (h : k ∈ kvs.map (·.1)) : putK kvs k v = kvs.map fun kv => if kv.1 = k then (kv.1, v) else kv := by
  unfold putK
  rw [if_pos]
  obtain ⟨p, hp, e⟩ := List.mem_map.mp h
  rw [List.any_eq_true]
  exact ⟨p, hp, decide_eq_true e⟩
end Y
namespace Y
open PySem PySem.Spec PyProof.Rows L2
theorem calK_of {P : Program} {w : World} {K : PySem.W.Frag} {mg : Str → Option Value} {base : Heap} {k n : Nat} {C : Addr} {q x : Str} {sp : Sp} {kws : List (Str × V)} {st : Stmt} {N ps ks : List Str} (D : IniAt K mg x C q st kws) (hk : kws ≠ []) (S : FnScope N ps (defScope st))
    (bnd : ∀ (D : Addr) (doc pm : Value) (an : Option Addr) (cdv ct : Value) (us ws : List Value), us.length = n + 1 → ws.length = ks.length → KwChain D [] (bindArgs (PySem.W.fnOf "__init__" q (defArgs st) (defBody st) (defScope st) .none (.ref D) doc pm an cdv ct) ⟨us, ks.zip ws⟩) (ps.zip (us ++ ws)))
    (ar : ∀ vs H Q E, sp vs H Q E → vs.length = ps.length)
    (hb : ∀ (f : Addr) (cd : Value) (A : Around) (out : List Env) (s : Shared) (H : Hp) (vs : List V) (Q : VK) (E : XK), Room k (A.deeper (envOfC q (defScope st) s.heap.objs.size f cd)) → (A.deeper (envOfC q (defScope st) s.heap.objs.size f cd)).guards = some [] → sp vs H Q E →
      ∃ t, PSs (cxOf CX0 P w K mg base N q (defScope st) f cd A out s H E).nox (defBody st) t ∧ t { nx := fun _ H' => Q .non H', rt := Q } (start N vs) H) : CalK P w K mg base (k + 1) x C n ks (fun vs zs => vs ++ zs) sp := by
  obtain ⟨f, fd, F, hm, hx⟩ := D
  obtain ⟨mv, kb⟩ := FunD.kbinds0 F (n + 1) ks [] (fun us _ ws => us ++ ws) hk (fun q hq => (nomatch hq)) (fun r1 _ r3 => r1.append r3) fun D doc pm an cdv ct us mv ws l1 l2 l3 => by
    cases mv with
    | nil => exact bnd D doc pm an cdv ct us ws l1 l3
    | cons a b => cases l2
  exact ⟨f, fd, ps, _, body_of F S ar hb, hm, hx, kb⟩
end Y

set_option Elab.async false
set_option linter.all false
set_option maxRecDepth 100000
set_option maxHeartbeats 2000000
set_option exponentiation.threshold 600
/-! P1: inks and palettes as data. -/
namespace Y
open PySem PySem.Spec PyProof.Rows L2
theorem flat_strs (l : List Str) : (l.map V.str).all flatV = true := by simp [flatV]
theorem iteB {A B : Prop} {b : Bool} (h : b = true) (hA : A) : if b = true then A else B := by
  rw [h]; exact hA
abbrev Ink := Str × Int
def inkD (p : Ink) : PyData := .tuple [.str p.1, .int p.2]
structure InkOk (ks : List Ink) : Prop where
  len1 : 1 ≤ ks.length
  len8 : ks.length ≤ 8
  nm : ∀ p ∈ ks, Nm p.1 ∧ 0 ≤ p.2 ∧ p.2 < 10 ^ 400
  nd : (ks.map (·.1)).Nodup
def fadK (ks : List Ink) : List (Key × V) := ks.map fun p => (Sum.inr p.1, V.int p.2)
theorem fadK_keys (ks : List Ink) : ((fadK ks).map fun kv => kV kv.1) = (ks.map (·.1)).map V.str := by
  unfold fadK
  rw [List.map_map, List.map_map]
  rfl
theorem InkOk.keys {ks : List Ink} (h : InkOk ks) : ((fadK ks).map (·.1)).Nodup := by
  have e : (fadK ks).map (·.1) = (ks.map (·.1)).map Sum.inr := by
    unfold fadK
    rw [List.map_map, List.map_map]
    rfl
  rw [e]
  exact List.Pairwise.map _ (fun a b h z => h (Sum.inr.inj z)) h.nd
theorem InkOk.ne {ks : List Ink} (h : InkOk ks) {i j : Nat} (hij : j < i) (hi : i < ks.length) : ks[j].1 ≠ ks[i].1 := by
  have := List.pairwise_iff_getElem.mp h.nd j i (by rw [List.length_map]; omega) (by rw [List.length_map]; exact hi) hij
  rw [List.getElem_map, List.getElem_map] at this
  exact this
structure PalAt (CP : Addr) (H : Hp) (x dx d : Addr) (ks : List Ink) : Prop where
  ins : H x = some (.ins CP dx [("fades", .ref d)])
  dct : H d = some (.dK (fadK ks))
  ok : InkOk ks
theorem PalAt.up [Tb] {CP : Addr} {H H' : Hp} {x dx d : Addr} {ks : List Ink} {S : Addr → Prop} (h : PalAt CP H x dx d ks) (k : Kp S H H') (n1 : ¬ S x) (n2 : ¬ S d) : PalAt CP H' x dx d ks :=
  ⟨k.all x _ h.ins n1, k.all d _ h.dct n2, h.ok⟩
theorem Im.inkInv {K : PySem.W.Frag} {H : Hp} {v : V} {p : Ink} (h : Im K H v (inkD p)) : ∃ a, v = .ref a ∧ Tp K H a [.str p.1, .int p.2] := by
  obtain ⟨a, xs, rfl, h1, h2⟩ := id h.tupInv
  cases h2 with
  | cons z1 z2 =>
  cases z2 with
  | cons z2 z3 =>
  cases z3
  obtain rfl := z1.strInv
  obtain rfl := z2.intInv
  exact ⟨a, rfl, h1⟩
theorem inks_paired {K : PySem.W.Frag} {H : Hp} : ∀ {ks : List Ink} {xs : List V}, ImAll K H xs (ks.map inkD) → ∃ ps : List Addr, xs = ps.map V.ref ∧ Paired (fun p (kv : Key × V) => SqT K H p [kV kv.1, kv.2]) ps (fadK ks)
  | [], _, .nil => ⟨[], rfl, .nil⟩
  | p :: ks, _, .cons h1 h2 => by
    obtain ⟨a, rfl, ta⟩ := h1.inkInv
    obtain ⟨ps, rfl, hp⟩ := inks_paired h2
    exact ⟨a :: ps, rfl, .cons ta.sq hp⟩
def hasV (ks : List Ink) : V → Bool
  | .str z => decide (z ∈ ks.map (·.1))
  | _ => false
theorem has_is (ks : List Ink) (z : Str) : hasV ks (.str z) = (valV (fadK ks) (.inr z)).isSome := by
  show decide (z ∈ ks.map (·.1)) = _
  rw [Bool.eq_iff_iff, decide_eq_true_eq]
  constructor
  · intro h
    cases e : valV (fadK ks) (.inr z) with
    | some v => rfl
    | none =>
      exfalso
      unfold valV fadK at e
      rw [Option.map_eq_none_iff, List.find?_eq_none] at e
      obtain ⟨p, hp, rfl⟩ := List.mem_map.mp h
      have := e (Sum.inr p.1, V.int p.2) (List.mem_map.mpr ⟨p, hp, rfl⟩)
      simp at this
  · intro h
    refine Decidable.byContradiction fun hn => ?_
    rw [val_none] at h
    · cases h
    · intro hm
      obtain ⟨q, hq, e⟩ := List.mem_map.mp hm
      unfold fadK at hq
      obtain ⟨p, hp, rfl⟩ := List.mem_map.mp hq
      exact hn (List.mem_map.mpr ⟨p, hp, Sum.inr.inj e⟩)
theorem has_there {ks : List Ink} {i : Nat} (h : i < ks.length) : hasV ks (.str ks[i].1) = true := decide_eq_true (List.mem_map.mpr ⟨_, List.getElem_mem h, rfl⟩)
end Y

set_option Elab.async false
set_option linter.all false
set_option maxRecDepth 100000
set_option maxHeartbeats 2000000
set_option exponentiation.threshold 600
/-! P2: places as data: layers with marks, rows, what is seen. -/
namespace Y
open PySem PySem.Spec PyProof.Rows L2
abbrev Lyr := Int × Lay
def lyrD (l : Lyr) : PyData := .tuple [.int l.1, .str l.2.1, .int l.2.2]
theorem Im.lyrInv {K : PySem.W.Frag} {H : Hp} {v : V} {l : Lyr} (h : Im K H v (lyrD l)) : ∃ a, v = .ref a ∧ Tp K H a [.int l.1, .str l.2.1, .int l.2.2] := by
  obtain ⟨a, xs, rfl, h1, h2⟩ := id h.tupInv
  cases h2 with
  | cons z1 z2 =>
  cases z2 with
  | cons z2 z3 =>
  cases z3 with
  | cons z3 z4 =>
  cases z4
  obtain rfl := z1.intInv
  obtain rfl := z2.strInv
  obtain rfl := z3.intInv
  exact ⟨a, rfl, h1⟩
structure Pst where
  wear : Int
  rows : List (List Lyr)
  next : Int
structure PlAddr where
  x : Addr
  dx : Addr
  d : Addr
  pl : Addr
  pdx : Addr
  pd : Addr
  ls : List Addr
/-- what may change of a place -/
def Ft (a : PlAddr) : Addr → Prop := fun b => b = a.x ∨ b = a.d ∨ b ∈ a.ls
def layK (ks : List Ink) (ls : List Addr) : List (Key × V) := (ks.zip ls).map fun p => (Sum.inr p.1.1, V.ref p.2)
structure LyOk (l : Lyr) : Prop where
  lay : LayOk l.2
  lo : 0 ≤ l.1
  hi : l.1 < 10 ^ 400
structure PlAt (K : PySem.W.Frag) (CP CL : Addr) (H : Hp) (a : PlAddr) (ks : List Ink) (s : Pst) : Prop where
  pal : PalAt CP H a.pl a.pdx a.pd ks
  ins : H a.x = some (.ins CL a.dx [("own_palette", .ref a.pl), ("wear_left", .int s.wear), ("layers", .ref a.d), ("next_mark", .int s.next)])
  dct : H a.d = some (.dK (layK ks a.ls))
  len : a.ls.length = ks.length
  rws : s.rows.length = ks.length
  row : ∀ (i : Nat) (l : Addr) (r : List Lyr), a.ls[i]? = some l → s.rows[i]? = some r → ∃ vs, H l = some (.lst vs) ∧ ImAll K H vs (r.map lyrD)
  nd : a.ls.Nodup
  ok : ∀ r ∈ s.rows, r.length ≤ 1000 ∧ ∀ l ∈ r, LyOk l
  out : ∀ b, Ft a b → b ≠ a.pl ∧ b ≠ a.pd
theorem PlAt.up [Tb] {K : PySem.W.Frag} {CP CL : Addr} {H H' : Hp} {a : PlAddr} {ks : List Ink} {s : Pst} {S : Addr → Prop} (h : PlAt K CP CL H a ks s) (k : Kp S H H') (n1 : ¬ S a.pl) (n2 : ¬ S a.pd) (n3 : ∀ b, Ft a b → ¬ S b) : PlAt K CP CL H' a ks s :=
  ⟨h.pal.up k n1 n2, k.all _ _ h.ins (n3 _ (.inl rfl)), k.all _ _ h.dct (n3 _ (.inr (.inl rfl))), h.len, h.rws, fun i l r h1 h2 => by
    obtain ⟨vs, g1, g2⟩ := h.row i l r h1 h2
    exact ⟨vs, k.all _ _ g1 (n3 _ (.inr (.inr (List.mem_of_getElem? h1)))), ImAll.up k _ _ g2⟩, h.nd, h.ok, h.out⟩
theorem PlAt.up0 [Tb] {K : PySem.W.Frag} {CP CL : Addr} {H H' : Hp} {a : PlAddr} {ks : List Ink} {s : Pst} (h : PlAt K CP CL H a ks s) (k : Kp No H H') : PlAt K CP CL H' a ks s := h.up k id id fun _ _ => id
theorem layK_keys {ks : List Ink} {ls : List Addr} (h : ls.length = ks.length) : (layK ks ls).map (·.1) = (ks.map (·.1)).map Sum.inr := by
  unfold layK
  rw [List.map_map, List.map_map]
  have e : (ks.zip ls).map (fun p => p.1) = ks := by
    rw [List.map_fst_zip]
    omega
  have e2 : (ks.map ((Sum.inr : Str → Key) ∘ fun x => x.1)) = (((ks.zip ls).map (fun p => p.1)).map ((Sum.inr : Str → Key) ∘ fun x => x.1)) := by rw [e]
  rw [e2, List.map_map]
  rfl
section
variable {K : PySem.W.Frag} {CP CL : Addr} {H : Hp} {a : PlAddr} {ks : List Ink} {s : Pst}
theorem PlAt.keys (h : PlAt K CP CL H a ks s) : ((layK ks a.ls).map (·.1)).Nodup := by
  rw [layK_keys h.len]
  exact List.Pairwise.map _ (fun a b h z => h (Sum.inr.inj z)) h.pal.ok.nd
theorem PlAt.at_ (h : PlAt K CP CL H a ks s) {i : Nat} (hi : i < ks.length) : ∃ l r vs, a.ls[i]? = some l ∧ s.rows[i]? = some r ∧ valV (layK ks a.ls) (.inr ks[i].1) = some (.ref l) ∧ H l = some (.lst vs) ∧ ImAll K H vs (r.map lyrD) ∧ r.length ≤ 1000 ∧ (∀ l ∈ r, LyOk l) ∧ vs.length = r.length := by
  have h1 : i < a.ls.length := by rw [h.len]; exact hi
  have h2 : i < s.rows.length := by rw [h.rws]; exact hi
  have e1 := List.getElem?_eq_getElem h1
  have e2 := List.getElem?_eq_getElem h2
  obtain ⟨vs, g1, g2⟩ := h.row i _ _ e1 e2
  have g3 := h.ok _ (List.getElem_mem h2)
  refine ⟨_, _, vs, e1, e2, ?_, g1, g2, g3.1, g3.2, by rw [g2.length, List.length_map]⟩
  refine val_of_mem h.keys ?_
  unfold layK
  refine List.mem_map.mpr ⟨(ks[i], a.ls[i]), ?_, rfl⟩
  have hz : i < (ks.zip a.ls).length := by rw [List.length_zip]; omega
  have : (ks.zip a.ls)[i] = (ks[i], a.ls[i]) := List.getElem_zip
  rw [← this]
  exact List.getElem_mem hz
end
/-- the layers of a row with marks, without them -/
def layR (r : List Lyr) : List Lay := r.map (·.2)
theorem layR_get {r : List Lyr} {n : Nat} (h : n < r.length) : (layR r)[n]? = some r[n].2 := by
  unfold layR
  rw [List.getElem?_map, List.getElem?_eq_getElem h]
  rfl
theorem layR_len (r : List Lyr) : (layR r).length = r.length := List.length_map ..
theorem layR_nil {r : List Lyr} : layR r = [] ↔ r = [] := List.map_eq_nil_iff
/-! ### what is on top -/
abbrev TopS := Option (Nat × Nat) × Int
def topStep (st : TopS) (i : Nat) (r : List Lyr) : TopS :=
  if r ≠ [] ∧ st.2 < stg (layR r) (topN (layR r)) then (some (i, topN (layR r)), stg (layR r) (topN (layR r))) else st
def topTo (rows : List (List Lyr)) : Nat → TopS
  | 0 => (none, 0)
  | i + 1 => match rows[i]? with
    | some r => topStep (topTo rows i) i r
    | none => topTo rows i
def topOf (rows : List (List Lyr)) : Option (Nat × Nat) := (topTo rows rows.length).1
theorem topTo_in (rows : List (List Lyr)) : ∀ i n k, (topTo rows i).1 = some (n, k) → ∃ r, rows[n]? = some r ∧ k < r.length ∧ n < i
  | 0, n, k, h => by cases h
  | i + 1, n, k, h => by
    unfold topTo at h
    cases e : rows[i]? with
    | none =>
      rw [e] at h
      obtain ⟨r, h1, h2, h3⟩ := topTo_in rows i n k h
      exact ⟨r, h1, h2, by omega⟩
    | some r =>
      rw [e] at h
      have h : (topStep (topTo rows i) i r).1 = some (n, k) := h
      unfold topStep at h
      split at h
      · rename_i c
        cases h
        refine ⟨r, e, ?_, by omega⟩
        have := topN_lt (r := layR r) (fun z => c.1 (layR_nil.mp z))
        rw [layR_len] at this
        exact this
      · obtain ⟨r, h1, h2, h3⟩ := topTo_in rows i n k h
        exact ⟨r, h1, h2, by omega⟩
def topDat (ks : List Ink) : Option (Nat × Nat) → PyData
  | none => .none
  | some (i, n) => .tuple [.str (ks.getD i (default, 0)).1, .int (n : Int)]
def seenD (ks : List Ink) (rows : List (List Lyr)) : PyData := match topOf rows with
  | none => .none
  | some (i, n) => .tuple [.str (ks.getD i (default, 0)).1, .str ((rows.getD i []).getD n (0, default, 0)).2.1, .int ((rows.getD i []).getD n (0, default, 0)).2.2]
def seenM (rows : List (List Lyr)) : V := match topOf rows with
  | none => .non
  | some (i, n) => .int ((rows.getD i []).getD n (0, default, 0)).1
/-- the state behind a layer that is laid -/
def laidS (s : Pst) (i : Nat) (l : Lay) : Pst := ⟨s.wear, s.rows.set i ((s.rows.getD i []) ++ [(s.next, l)]), s.next + 1⟩
end Y
namespace Y
open PySem PySem.Spec PyProof.Rows L2
/-- a dict comprehension over a walk -/
theorem dc_it {J : It} {n : Nat} {G : Hp → Prop} {Yy : Nat → Hp → V → Hp → Prop} {g : TG} {tt : TT} {tk tv : TE} {vs : List Nat} {σ : L2.St} {H1 : Hp} {D : Addr} {Qd : Hp → Prop} (w : Walk J n G Yy) (Pv : Nat → Hp → Prop) (h0 : Pv 0 (upd H1 D (.dK []))) (hG : ∀ i H, i ≤ n → Pv i H → G H)
    (hs : ∀ i x Ha Hb, i < n → Pv i Ha → Yy i Ha x Hb → g x (wipe σ vs) Hb fun σ2 H2 => wipe σ2 vs = wipe σ vs ∧ tt σ2 H2 fun b H3 =>
      if b = true then tk σ2 H3 fun y H4 => tv σ2 H4 fun z H5 => ∃ kvs k, y = kV k ∧ H5 D = some (.dK kvs) ∧ kvs.length < sizeLine ∧ Pv (i + 1) (upd H5 D (.dK (putK kvs k z))) else Pv (i + 1) H3)
    (hd : ∀ H, Pv n H → Qd H) : ∃ W : Nat → Nat → Hp → Prop, (∃ m, W 0 m (upd H1 D (.dK []))) ∧ ∀ i m H, W i m H →
      (J.stop i H ∧ Qd H) ∨ (J.go i H ∧ ∃ Nx : Hp → Prop, (∀ H', Nx H' → ∃ m', m' < m ∧ W (i + 1) m' H') ∧ ∀ x H', J.yld i H x H' → g x (wipe σ vs) H' fun σ2 H2 => wipe σ2 vs = wipe σ vs ∧ tt σ2 H2 fun b H3 =>
        if b = true then tk σ2 H3 fun y H4 => tv σ2 H4 fun z H5 => ∃ kvs k, y = kV k ∧ H5 D = some (.dK kvs) ∧ kvs.length < sizeLine ∧ Nx (upd H5 D (.dK (putK kvs k z))) else Nx H3) := by
  refine ⟨fun i m H => m = n - i ∧ i ≤ n ∧ Pv i H, ⟨n, by simp, Nat.zero_le _, h0⟩, ?_⟩
  rintro i m H ⟨rfl, hi, p⟩
  have q := hG i H hi p
  by_cases hlt : i < n
  · exact .inr ⟨w.goes i H hlt q, Pv (i + 1), fun H' p' => ⟨n - (i + 1), by omega, rfl, hlt, p'⟩, fun x H' y => hs i x H H' hlt p (w.yields i H x H' hlt q y)⟩
  · have e : i = n := by omega
    subst e
    exact .inl ⟨w.stops H q, hd H p⟩
theorem layK_snoc {ks : List Ink} {ls : List Addr} {p : Ink} {u : Addr} (h : ls.length = ks.length) : layK (ks ++ [p]) (ls ++ [u]) = layK ks ls ++ [(Sum.inr p.1, .ref u)] := by
  unfold layK
  rw [List.zip_append h.symm, List.map_append]
  rfl
theorem put_new {kvs : List (Key × V)} {k : Key} {v : V} (h : k ∉ kvs.map (·.1)) : putK kvs k v = kvs ++ [(k, v)] := by
  unfold putK
  rw [if_neg]
  simp only [List.any_eq_true, decide_eq_true_eq, not_exists, not_and]
  intro q hq e
  exact h (by rw [← e]; exact List.mem_map_of_mem hq)
def wearV : V → Bool
  | .int i => decide (0 ≤ i) && decide (i ≤ 6)
  | _ => false
def newS (wear : Int) (n : Nat) : Pst := ⟨wear, List.replicate n [], 0⟩
end Y
namespace Y
open PySem PySem.Spec PyProof.Rows L2
theorem nd_get {ls : List Addr} (h : ls.Nodup) {i j : Nat} {l : Addr} (h1 : ls[i]? = some l) (h2 : ls[j]? = some l) : i = j := nd_ix h h1 h2
section
variable [Tb] {K : PySem.W.Frag} {CP CL : Addr} {H : Hp} {a : PlAddr} {ks : List Ink} {s : Pst}
theorem PlAt.ne_l (h : PlAt K CP CL H a ks s) {l : Addr} (hl : l ∈ a.ls) : l ≠ a.x ∧ l ≠ a.d := by
  obtain ⟨i, hi, rfl⟩ := List.mem_iff_getElem.mp hl
  have e1 := List.getElem?_eq_getElem hi
  have e2 := List.getElem?_eq_getElem (show i < s.rows.length by rw [h.rws, ← h.len]; exact hi)
  obtain ⟨vs, g1, _⟩ := h.row i _ _ e1 e2
  exact ⟨ne_of g1 h.ins (by intro z; cases z), ne_of g1 h.dct (by intro z; cases z)⟩
theorem PlAt.ne_xd (h : PlAt K CP CL H a ks s) : a.x ≠ a.d := ne_of h.ins h.dct (by intro z; cases z)
theorem PlAt.laid (h : PlAt K CP CL H a ks s) {i : Nat} {l u : Addr} {r : List Lyr} {ws : List V} {y : Lay} (hi : a.ls[i]? = some l) (hr : s.rows[i]? = some r) (hl : H l = some (.lst ws)) (im : ImAll K H ws (r.map lyrD)) (hu : H u = none) (lok : LyOk (s.next, y)) (hlen : r.length < 1000) :
    PlAt K CP CL (upd (upd (upd H u (.tup [.int s.next, .str y.1, .int y.2])) l (.lst (ws ++ [.ref u]))) a.x (.ins CL a.dx [("own_palette", .ref a.pl), ("wear_left", .int s.wear), ("layers", .ref a.d), ("next_mark", .int (s.next + 1))])) a ks (laidS s i y) ∧
    Kp (Ft a) H (upd (upd (upd H u (.tup [.int s.next, .str y.1, .int y.2])) l (.lst (ws ++ [.ref u]))) a.x (.ins CL a.dx [("own_palette", .ref a.pl), ("wear_left", .int s.wear), ("layers", .ref a.d), ("next_mark", .int (s.next + 1))])) := by
  have ml : l ∈ a.ls := List.mem_of_getElem? hi
  obtain ⟨nlx, nld⟩ := h.ne_l ml
  have k1 : Kp No H (upd H u (.tup [.int s.next, .str y.1, .int y.2])) := Kp.new hu
  have hl1 := k1.all l _ hl id
  have k2 : Kp (At l) _ (upd (upd H u (.tup [.int s.next, .str y.1, .int y.2])) l (.lst (ws ++ [.ref u]))) := Kp.set rfl hl1
  have hx2 := k2.all a.x _ (k1.all a.x _ h.ins id) fun e => nlx e.symm
  have k3 : Kp (At a.x) _ (upd (upd (upd H u (.tup [.int s.next, .str y.1, .int y.2])) l (.lst (ws ++ [.ref u]))) a.x (.ins CL a.dx [("own_palette", .ref a.pl), ("wear_left", .int s.wear), ("layers", .ref a.d), ("next_mark", .int (s.next + 1))])) := Kp.set rfl hx2
  have kf : Kp (Ft a) H _ := (k1.no.trans (k2.mono fun b z => by rw [z]; exact .inr (.inr ml))).trans (k3.mono fun b z => .inl z)
  have kk : Kp (fun b => b = l ∨ b = a.x) H _ := (k1.no.trans (k2.mono fun b z => .inl z)).trans (k3.mono fun b z => .inr z)
  refine ⟨⟨h.pal.up kf (fun z => (h.out _ z).1 rfl) (fun z => (h.out _ z).2 rfl), upd_same, kk.all a.d _ h.dct ?_, h.len, by show (s.rows.set _ _).length = _; rw [List.length_set, h.rws], fun j l' r' h1 h2 => ?_, h.nd, fun r' hr' => ?_, h.out⟩, kf⟩
  · rintro (z | z)
    · exact nld z.symm
    · exact h.ne_xd z.symm
  · have hil : i < s.rows.length := (List.getElem?_eq_some_iff.mp hr).1
    by_cases e : i = j
    · subst e
      obtain rfl : l = l' := Option.some.inj (hi.symm.trans h1)
      have er : r' = r ++ [(s.next, y)] := by
        have h2 : (s.rows.set i ((s.rows.getD i []) ++ [(s.next, y)]))[i]? = some r' := h2
        rw [List.getElem?_set_self hil, List.getD_eq_getElem?_getD, hr] at h2
        exact (Option.some.inj h2).symm
      refine ⟨ws ++ [.ref u], by rw [upd_ne nlx, upd_same], ?_⟩
      rw [er, List.map_append]
      exact (ImAll.up kf _ _ im).snoc (Im.mk (k3.tup _ _ (k2.tup _ _ upd_same)) (.cons (.int _) (.cons (.str _) (.cons (.int _) .nil))))
    · have h2 : (s.rows.set i ((s.rows.getD i []) ++ [(s.next, y)]))[j]? = some r' := h2
      rw [List.getElem?_set_ne e] at h2
      obtain ⟨vs, g1, g2⟩ := h.row j l' r' h1 h2
      refine ⟨vs, kk.all l' _ g1 ?_, ImAll.up kf _ _ g2⟩
      rintro (z | z)
      · rw [z] at h1
        exact e (nd_get h.nd hi h1)
      · exact (h.ne_l (List.mem_of_getElem? h1)).1 z
  · have hr' : r' ∈ s.rows.set i ((s.rows.getD i []) ++ [(s.next, y)]) := hr'
    have e0 := h.ok r (List.mem_of_getElem? hr)
    rcases List.mem_or_eq_of_mem_set hr' with z | z
    · exact h.ok r' z
    · rw [List.getD_eq_getElem?_getD, hr] at z
      have z : r' = r ++ [(s.next, y)] := z
      rw [z]
      refine ⟨by rw [List.length_append]; show r.length + 1 ≤ 1000; omega, fun q hq => ?_⟩
      rcases List.mem_append.mp hq with hq | hq
      · exact e0.2 q hq
      · rw [List.mem_singleton.mp hq]; exact lok
end
end Y

set_option Elab.async false
set_option linter.all false
set_option maxRecDepth 100000
set_option maxHeartbeats 2000000
set_option exponentiation.threshold 600
/-! J1: runs joined, as mathematics: pairs (many, number of a thing). -/
namespace Y
open PySem PySem.Spec PyProof.Rows L2
abbrev Pr := Int × Nat
/-- one more pair; what was found is kept the last one first -/
def stepR (acc : List Pr) (p : Pr) : List Pr :=
  if 0 < p.1 then (match acc with
    | q :: t => if q.2 = p.2 then (q.1 + p.1, p.2) :: t else p :: q :: t
    | [] => [p]) else acc
def joinR (l : List Pr) : List Pr := l.foldl stepR []
def joinM (l : List Pr) : List Pr := (joinR l).reverse
theorem joinR_snoc (l : List Pr) (x : Pr) : joinR (l ++ [x]) = stepR (joinR l) x := by simp [joinR, List.foldl_append]
theorem step_zero {acc : List Pr} {p : Pr} (h : ¬ 0 < p.1) : stepR acc p = acc := by unfold stepR; rw [if_neg h]
theorem join_filter : ∀ (l : List Pr) (acc : List Pr), (∀ p ∈ l, 0 ≤ p.1) → (l.filter fun p => decide (p.1 ≠ 0)).foldl stepR acc = l.foldl stepR acc
  | [], _, _ => rfl
  | x :: l, acc, h => by
    have h' : ∀ p ∈ l, 0 ≤ p.1 := fun p hp => h p (List.mem_cons_of_mem _ hp)
    have hx := h x List.mem_cons_self
    by_cases c : x.1 = 0
    · rw [List.filter_cons_of_neg (by simpa using c), List.foldl_cons, step_zero (by omega)]
      exact join_filter l acc h'
    · rw [List.filter_cons_of_pos (by simpa using c), List.foldl_cons, List.foldl_cons]
      exact join_filter l _ h'
/-- positive, neighbours unlike -/
def Gd : List Pr → Prop
  | [] => True
  | [a] => 0 < a.1
  | a :: b :: l => 0 < a.1 ∧ a.2 ≠ b.2 ∧ Gd (b :: l)
theorem Gd.tail {x : Pr} {l : List Pr} (h : Gd (x :: l)) : Gd l := by
  cases l with
  | nil => trivial
  | cons y l => exact h.2.2
theorem Gd.pos {x : Pr} {l : List Pr} (h : Gd (x :: l)) : 0 < x.1 := by
  cases l with
  | nil => exact h
  | cons y l => exact h.1
theorem step_good {acc : List Pr} (h : Gd acc) (p : Pr) : Gd (stepR acc p) := by
  unfold stepR
  by_cases c : 0 < p.1
  · rw [if_pos c]
    cases acc with
    | nil => exact c
    | cons q t =>
      show Gd (if q.2 = p.2 then (q.1 + p.1, p.2) :: t else p :: q :: t)
      by_cases e : q.2 = p.2
      · rw [if_pos e]
        have hp := h.pos
        cases t with
        | nil => show 0 < q.1 + p.1; omega
        | cons y t => exact ⟨by show 0 < q.1 + p.1; omega, by show p.2 ≠ y.2; rw [← e]; exact h.2.1, h.2.2⟩
      · rw [if_neg e]
        exact ⟨c, fun z => e z.symm, h⟩
  · rw [if_neg c]; exact h
theorem fold_good : ∀ (l acc : List Pr), Gd acc → Gd (l.foldl stepR acc)
  | [], _, h => h
  | x :: l, acc, h => fold_good l _ (step_good h x)
theorem join_good (l : List Pr) : Gd (joinR l) := fold_good l [] trivial
theorem good_join : ∀ {r : List Pr}, Gd r → joinR r.reverse = r
  | [], _ => rfl
  | x :: r, h => by
    rw [List.reverse_cons, joinR_snoc, good_join h.tail]
    unfold stepR
    rw [if_pos h.pos]
    cases r with
    | nil => rfl
    | cons y r =>
      show (if y.2 = x.2 then _ else x :: y :: r) = _
      rw [if_neg fun z => h.2.1 z.symm]
theorem join_join (l : List Pr) : joinM (joinM l) = joinM l := by
  unfold joinM
  rw [good_join (join_good l)]
theorem step_mem {acc : List Pr} {p q : Pr} {n : Nat} (ha : ∀ x ∈ acc, x.2 < n) (hp : p.2 < n) (h : q ∈ stepR acc p) : q.2 < n := by
  unfold stepR at h
  by_cases c : 0 < p.1
  · rw [if_pos c] at h
    cases acc with
    | nil =>
      rw [List.mem_singleton.mp h]; exact hp
    | cons y t =>
      have h : q ∈ (if y.2 = p.2 then (y.1 + p.1, p.2) :: t else p :: y :: t) := h
      by_cases e : y.2 = p.2
      · rw [if_pos e] at h
        rcases List.mem_cons.mp h with h | h
        · rw [h]; exact hp
        · exact ha q (List.mem_cons_of_mem _ h)
      · rw [if_neg e] at h
        rcases List.mem_cons.mp h with h | h
        · rw [h]; exact hp
        · exact ha q h
  · rw [if_neg c] at h
    exact ha q h
/-- the sum of all is kept -/
def tot (l : List Pr) : Int := (l.map (·.1)).sum
theorem step_tot (acc : List Pr) {p : Pr} (h : 0 ≤ p.1) : tot (stepR acc p) = tot acc + p.1 := by
  unfold stepR
  by_cases c : 0 < p.1
  · rw [if_pos c]
    cases acc with
    | nil => simp [tot]
    | cons q t =>
      show tot (if q.2 = p.2 then (q.1 + p.1, p.2) :: t else p :: q :: t) = _
      by_cases e : q.2 = p.2
      · rw [if_pos e]
        simp only [tot, List.map_cons, List.sum_cons]
        omega
      · rw [if_neg e]
        simp only [tot, List.map_cons, List.sum_cons]
        omega
  · rw [if_neg c]
    omega
theorem step_len (acc : List Pr) (p : Pr) : (stepR acc p).length ≤ acc.length + 1 := by
  unfold stepR
  split
  · cases acc with
    | nil => simp
    | cons q t =>
      show (if q.2 = p.2 then (q.1 + p.1, p.2) :: t else p :: q :: t).length ≤ _
      split <;> simp
  · omega
theorem fold_ok {n : Nat} : ∀ (l acc : List Pr), (∀ p ∈ l, 0 ≤ p.1 ∧ p.2 < n) → (∀ p ∈ acc, p.2 < n) → (∀ p ∈ l.foldl stepR acc, p.2 < n) ∧ tot (l.foldl stepR acc) = tot acc + tot l ∧ (l.foldl stepR acc).length ≤ acc.length + l.length
  | [], acc, _, h => ⟨h, by simp [tot], by simp⟩
  | x :: l, acc, hl, h => by
    have hx := hl x List.mem_cons_self
    obtain ⟨a, b, c⟩ := fold_ok l (stepR acc x) (fun p hp => hl p (List.mem_cons_of_mem _ hp)) (fun p hp => step_mem h hx.2 hp)
    refine ⟨a, ?_, ?_⟩
    · rw [List.foldl_cons, b, step_tot acc hx.1]
      simp only [tot, List.map_cons, List.sum_cons]
      omega
    · have := step_len acc x
      rw [List.foldl_cons, List.length_cons]
      omega
theorem mem_le_tot : ∀ {l : List Pr}, (∀ p ∈ l, 0 ≤ p.1) → ∀ p ∈ l, p.1 ≤ tot l
  | x :: l, h, p, hp => by
    have h0 : 0 ≤ tot l := by
      clear hp
      have h2 : ∀ p ∈ l, 0 ≤ p.1 := fun p hp => h p (List.mem_cons_of_mem _ hp)
      clear h
      induction l with
      | nil => simp [tot]
      | cons y l ih =>
        have := ih fun p hp => h2 p (List.mem_cons_of_mem _ hp)
        have := h2 y List.mem_cons_self
        simp only [tot, List.map_cons, List.sum_cons] at *
        omega
    have hx := h x List.mem_cons_self
    rcases List.mem_cons.mp hp with z | z
    · subst z
      simp only [tot, List.map_cons, List.sum_cons] at *
      omega
    · have := mem_le_tot (fun p hp => h p (List.mem_cons_of_mem _ hp)) p z
      simp only [tot, List.map_cons, List.sum_cons] at *
      omega
theorem tot_le {B : Int} : ∀ {l : List Pr}, (∀ p ∈ l, p.1 ≤ B) → tot l ≤ B * l.length
  | [], _ => by simp [tot]
  | x :: l, h => by
    have h1 := tot_le fun p hp => h p (List.mem_cons_of_mem _ hp)
    have h2 := h x List.mem_cons_self
    have e : B * ((x :: l).length : Nat) = B * (l.length : Nat) + B := by
      rw [List.length_cons]
      push_cast
      rw [Int.mul_add, Int.mul_one]
    rw [e]
    simp only [tot, List.map_cons, List.sum_cons] at *
    omega

/-! ### the due one: by where stretches begin -/
def tgA (l : List Pr) (k : Nat) : Nat := (l.getD k (0, 0)).2
def bgA (l : List Pr) (k : Nat) : Bool := decide (k = 0) || !decide (tgA l k = tgA l (k - 1))
def begM (l : List Pr) : List Nat := (List.range l.length).filter (bgA l)
def smA (l : List Pr) (b e : Nat) : Int := (((l.drop b).take (e - b)).map (·.1)).sum
def zipA (B : List Nat) (n : Nat) : List (Nat × Nat) := B.zip (B.tail ++ [n])
def dueJ (l : List Pr) : List Pr := (zipA (begM l) l.length).map fun q => (smA l q.1 q.2, tgA l q.1)
theorem tgA_app {l : List Pr} {x : Pr} {k : Nat} (h : k < l.length) : tgA (l ++ [x]) k = tgA l k := by
  unfold tgA
  rw [List.getD_eq_getElem?_getD, List.getD_eq_getElem?_getD, List.getElem?_append_left h]
theorem tgA_last (l : List Pr) (x : Pr) : tgA (l ++ [x]) l.length = x.2 := by
  unfold tgA
  rw [List.getD_eq_getElem?_getD, List.getElem?_append_right (Nat.le_refl _)]
  simp
theorem zipA_snoc (B : List Nat) (b n : Nat) : zipA (B ++ [b]) n = zipA B b ++ [(b, n)] := by
  unfold zipA
  cases B with
  | nil => rfl
  | cons c B =>
    show ((c :: B) ++ [b]).zip ((B ++ [b]) ++ [n]) = (c :: B).zip (B ++ [b]) ++ [(b, n)]
    rw [List.zip_append (by simp)]
    rfl
theorem zipA_mem {B : List Nat} {n : Nat} (h1 : B.Pairwise (· < ·)) (h2 : ∀ b ∈ B, b < n) : ∀ q ∈ zipA B n, q.1 < n ∧ q.1 ≤ q.2 ∧ q.2 ≤ n := by
  intro q hq
  obtain ⟨a, b⟩ := q
  unfold zipA at hq
  have h3 : a ∈ B := (List.of_mem_zip hq).1
  have h4 : b ∈ B.tail ++ [n] := (List.of_mem_zip hq).2
  have hb : b ≤ n := by
    rcases List.mem_append.mp h4 with z | z
    · exact Nat.le_of_lt (h2 b (List.mem_of_mem_tail z))
    · rw [List.mem_singleton.mp z]; exact Nat.le_refl _
  refine ⟨h2 a h3, ?_, hb⟩
  show a ≤ b
  clear h3 h4 hb
  induction B with
  | nil => simp at hq
  | cons c B ih =>
    cases B with
    | nil =>
      simp at hq
      obtain ⟨rfl, rfl⟩ := hq
      exact Nat.le_of_lt (h2 a (by simp))
    | cons d B =>
      have e : (c :: d :: B).zip ((c :: d :: B).tail ++ [n]) = (c, d) :: (d :: B).zip ((d :: B).tail ++ [n]) := rfl
      rw [e] at hq
      rcases List.mem_cons.mp hq with z | z
      · cases z
        exact Nat.le_of_lt (List.rel_of_pairwise_cons h1 (by simp))
      · exact ih (List.Pairwise.of_cons h1) (fun b hb => h2 b (List.mem_cons_of_mem _ hb)) z
theorem begM_lt {l : List Pr} : ∀ b ∈ begM l, b < l.length := fun b hb => List.mem_range.mp (List.mem_filter.mp hb).1
theorem begM_inc (l : List Pr) : (begM l).Pairwise (· < ·) := List.pairwise_lt_range.filter _
theorem begM_snoc (l : List Pr) (x : Pr) : begM (l ++ [x]) = begM l ++ (if bgA (l ++ [x]) l.length = true then [l.length] else []) := by
  unfold begM
  rw [List.length_append, List.length_singleton, List.range_succ, List.filter_append]
  congr 1
  · refine List.filter_congr fun k hk => ?_
    have hk := List.mem_range.mp hk
    unfold bgA
    rw [tgA_app hk, tgA_app (show k - 1 < l.length by omega)]
  · cases c : bgA (l ++ [x]) l.length <;> simp [c]
theorem smA_app {l : List Pr} {x : Pr} {b e : Nat} (h : e ≤ l.length) : smA (l ++ [x]) b e = smA l b e := by
  unfold smA
  by_cases hb : b ≤ l.length
  · rw [List.drop_append_of_le_length hb, List.take_append_of_le_length (by rw [List.length_drop]; omega)]
  · have e0 : e - b = 0 := by omega
    rw [e0, List.take_zero, List.take_zero]
theorem smA_all {l : List Pr} {x : Pr} {b : Nat} (h : b ≤ l.length) : smA (l ++ [x]) b (l.length + 1) = smA l b l.length + x.1 := by
  unfold smA
  rw [List.drop_append_of_le_length h]
  have e1 : ((l.drop b) ++ [x]).take (l.length + 1 - b) = l.drop b ++ [x] := List.take_of_length_le (by rw [List.length_append, List.length_drop, List.length_singleton]; omega)
  have e2 : (l.drop b).take (l.length - b) = l.drop b := List.take_of_length_le (by rw [List.length_drop]; omega)
  rw [e1, e2, List.map_append, List.sum_append]
  simp
theorem dueJ_old {l : List Pr} {x : Pr} {B : List Nat} {n : Nat} (h1 : B.Pairwise (· < ·)) (h2 : ∀ b ∈ B, b < n) (hn : n ≤ l.length) :
    ((zipA B n).map fun q => (smA (l ++ [x]) q.1 q.2, tgA (l ++ [x]) q.1)) = (zipA B n).map fun q => (smA l q.1 q.2, tgA l q.1) := by
  refine List.map_congr_left fun q hq => ?_
  obtain ⟨a, b, c⟩ := zipA_mem h1 h2 q hq
  rw [smA_app (by omega), tgA_app (by omega)]
theorem due_join : ∀ (r : List Pr), (∀ p ∈ r, 0 < p.1) → dueJ r.reverse = joinM r.reverse ∧ (r ≠ [] → ∃ B b, begM r.reverse = B ++ [b] ∧ tgA r.reverse b = tgA r.reverse (r.length - 1))
  | [], _ => ⟨rfl, fun h => absurd rfl h⟩
  | x :: r, h => by
    have hx := h x List.mem_cons_self
    obtain ⟨ih, ihb⟩ := due_join r fun p hp => h p (List.mem_cons_of_mem _ hp)
    rw [List.reverse_cons]
    have el : r.reverse.length = r.length := List.length_reverse
    generalize hl : r.reverse = l at *
    have ejM : joinM (l ++ [x]) = (stepR (joinR l) x).reverse := by unfold joinM; rw [joinR_snoc]
    cases hb : bgA (l ++ [x]) l.length with
    | true =>
      have eB := begM_snoc l x
      rw [hb, if_pos rfl] at eB
      have hne : ∀ q t, joinR l = q :: t → q.2 ≠ x.2 := by
        intro q t e z
        unfold bgA at hb
        have hr : r ≠ [] := by
          intro e0
          rw [e0] at hl
          rw [← hl] at e
          cases e
        obtain ⟨B, b, e1, e2⟩ := ihb hr
        have hlen : 0 < l.length := by rw [el]; exact List.length_pos_iff.mpr hr
        have e3 : dueJ l = ((zipA B b).map fun q => (smA l q.1 q.2, tgA l q.1)) ++ [(smA l b l.length, tgA l b)] := by
          unfold dueJ
          rw [e1, zipA_snoc, List.map_append]
          rfl
        have e4 : (joinM l) = t.reverse ++ [q] := by unfold joinM; rw [e, List.reverse_cons]
        rw [← ih, e3] at e4
        have e5 := (List.append_inj' e4 rfl).2
        have e6 : tgA l b = q.2 := congrArg (fun z : List Pr => tgA z 0) e5
        rw [Bool.or_eq_true, decide_eq_true_eq, Bool.not_eq_true', decide_eq_false_iff_not] at hb
        rcases hb with hb | hb
        · omega
        · rw [tgA_last, tgA_app (show l.length - 1 < l.length by omega), el, ← e2, e6] at hb
          exact hb z.symm
      refine ⟨?_, fun _ => ⟨begM l, l.length, eB, ?_⟩⟩
      · unfold dueJ
        rw [eB, List.length_append, List.length_singleton, zipA_snoc, List.map_append, dueJ_old (begM_inc l) begM_lt (Nat.le_refl _)]
        have e7 : smA (l ++ [x]) l.length (l.length + 1) = x.1 := by
          rw [smA_all (Nat.le_refl _)]
          unfold smA
          simp
        rw [ejM]
        have e8 : (zipA (begM l) l.length).map (fun q => (smA l q.1 q.2, tgA l q.1)) = joinM l := ih
        rw [e8, List.map_cons, List.map_nil, e7, tgA_last]
        unfold stepR
        rw [if_pos hx]
        unfold joinM
        cases e9 : joinR l with
        | nil => rfl
        | cons q t =>
          show _ = (if q.2 = x.2 then _ else x :: q :: t).reverse
          rw [if_neg (hne q t e9), List.reverse_cons (a := x)]
      · rw [List.length_cons, ← el, Nat.add_sub_cancel]
    | false =>
      have eB := begM_snoc l x
      rw [hb, if_neg (by decide), List.append_nil] at eB
      unfold bgA at hb
      rw [Bool.or_eq_false_iff, decide_eq_false_iff_not, Bool.not_eq_false', decide_eq_true_eq] at hb
      have hlen : 0 < l.length := by omega
      have hr : r ≠ [] := by
        intro e0
        rw [e0] at el
        simp at el
        rw [el] at hlen
        simp at hlen
      obtain ⟨B, b, e1, e2⟩ := ihb hr
      have hbl : b < l.length := begM_lt b (by rw [e1]; simp)
      have hinc := begM_inc l
      rw [e1, List.pairwise_append] at hinc
      have hBlt : ∀ c ∈ B, c < b := fun c hc => hinc.2.2 c hc b (List.mem_singleton.mpr rfl)
      have ht : tgA l b = x.2 := by
        rw [e2, ← el, ← tgA_app (x := x) (show l.length - 1 < l.length by omega), ← hb.2, tgA_last]
      refine ⟨?_, fun _ => ⟨B, b, eB.trans e1, ?_⟩⟩
      · unfold dueJ
        rw [eB, e1, List.length_append, List.length_singleton, zipA_snoc, List.map_append, dueJ_old hinc.1 hBlt (Nat.le_of_lt hbl), List.map_cons, List.map_nil, smA_all (Nat.le_of_lt hbl), tgA_app hbl]
        have e3 : joinM l = (zipA B b).map (fun q => (smA l q.1 q.2, tgA l q.1)) ++ [(smA l b l.length, tgA l b)] := by
          rw [← ih]
          unfold dueJ
          rw [e1, zipA_snoc, List.map_append]
          rfl
        have e4 : joinR l = (smA l b l.length, tgA l b) :: ((zipA B b).map (fun q => (smA l q.1 q.2, tgA l q.1))).reverse := by
          have := congrArg List.reverse e3
          unfold joinM at this
          rw [List.reverse_reverse, List.reverse_append] at this
          exact this
        rw [ejM, e4]
        unfold stepR
        rw [if_pos hx]
        show _ = (if tgA l b = x.2 then _ else _ : List Pr).reverse
        rw [if_pos ht, List.reverse_cons, List.reverse_reverse, ht]
      · rw [tgA_app hbl, List.length_cons, Nat.add_sub_cancel, ← el, tgA_last, ht]
theorem dueJ_is {l : List Pr} (h : ∀ p ∈ l, 0 < p.1) : dueJ l = joinM l := by
  have := (due_join l.reverse fun p hp => h p (List.mem_reverse.mp hp)).1
  rw [List.reverse_reverse] at this
  exact this
end Y

set_option Elab.async false
set_option linter.all false
set_option maxRecDepth 100000
set_option maxHeartbeats 2000000
set_option exponentiation.threshold 600
/-! J2: == and != of data that never change; the things of the law of runs. -/
namespace Y
open PySem PySem.Spec PyProof.Rows L2
section
variable {K : PySem.W.Frag} {H : Hp} {x y : V} {d e : PyData} {Q : VK}
theorem beq_dec {α : Type} [DecidableEq α] [BEq α] [LawfulBEq α] (a b : α) : (a == b) = decide (a = b) := by
  rw [Bool.eq_iff_iff]
  simp
theorem yEq_im (hx : Im K H x d) (hy : Im K H y e) (sd : fine d = true) (dd : d.depth ≤ 50) (se : fine e = true) (de : e.depth ≤ 50) (q : Q (.bl (PyData.eqv d e)) H) : yEq K x y H Q := by
  have base : rEqD K x y H Q := ⟨d, e, Im.dp _ _ hx, Im.dp _ _ hy, fine_shaped sd dd, fine_shaped se de, q⟩
  cases hx <;> cases hy <;> first | exact base | (show Q _ _; simpa [PyData.eqv, beq_dec] using q)
theorem yNe_im (hx : Im K H x d) (hy : Im K H y e) (sd : fine d = true) (dd : d.depth ≤ 50) (se : fine e = true) (de : e.depth ≤ 50) (q : Q (.bl (!PyData.eqv d e)) H) : yNe K x y H Q := by
  have base : rNeD K x y H Q := ⟨d, e, Im.dp _ _ hx, Im.dp _ _ hy, fine_shaped sd dd, fine_shaped se de, q⟩
  cases hx <;> cases hy <;> first | exact base | (show Q _ _; simpa [PyData.eqv, beq_dec] using q)
end
def thD : Nat → PyData
  | 0 => .int 3
  | 1 => .int 40
  | 2 => .str "a"
  | 3 => .str ""
  | 4 => .none
  | 5 => .tuple [.int 1, .int 2]
  | 6 => .tuple [.str "a", .tuple []]
  | _ => .tuple [.tuple [], .tuple []]
def runPrD (p : Pr) : PyData := .tuple [.int p.1, thD p.2]
theorem th_eqv {i j : Nat} (hi : i < 8) (hj : j < 8) : PyData.eqv (thD i) (thD j) = decide (i = j) := by
  have h : ∀ a : Fin 8, ∀ b : Fin 8, PyData.eqv (thD a.1) (thD b.1) = decide (a.1 = b.1) := by decide +kernel
  exact h ⟨i, hi⟩ ⟨j, hj⟩
theorem th_sh {i : Nat} (hi : i < 8) : fine (thD i) = true ∧ (thD i).depth ≤ 3 ∧ (thD i).bulk ≤ 20 := by
  have h : ∀ a : Fin 8, fine (thD a.1) = true ∧ (thD a.1).depth ≤ 3 ∧ (thD a.1).bulk ≤ 20 := by decide +kernel
  exact h ⟨i, hi⟩
structure PrOk (p : Pr) : Prop where
  lo : 0 ≤ p.1
  hi : p.1 < 10 ^ 400
  th : p.2 < 8
theorem runPrD_fine {p : Pr} (h : PrOk p) : fine (runPrD p) = true := fine_tuple fun d hd => by
  rcases List.mem_cons.mp hd with rfl | hd
  · exact pos_fine h.lo h.hi
  · rw [List.mem_singleton.mp hd]; exact (th_sh h.th).1
theorem runPrD_deep {p : Pr} (h : PrOk p) : (runPrD p).depth ≤ 4 := by
  have := (th_sh h.th).2.1
  unfold runPrD
  have e : PyData.depthAll [.int p.1, thD p.2] ≤ 3 := depthAll_le fun d hd => by
    rcases List.mem_cons.mp hd with rfl | hd
    · simp [PyData.depth]
    · rw [List.mem_singleton.mp hd]; exact this
  simp only [PyData.depth]
  omega
theorem runPrD_bulk {p : Pr} (h : PrOk p) : (runPrD p).bulk ≤ 60 := by
  have := (th_sh h.th).2.2
  unfold runPrD
  have e := bulkAll_le (n := 20) (ds := [.int p.1, thD p.2]) fun d hd => by
    rcases List.mem_cons.mp hd with rfl | hd
    · simp [PyData.bulk]
    · rw [List.mem_singleton.mp hd]; exact this
  simp only [PyData.bulk] at e ⊢
  simp only [List.length_cons, List.length_nil] at e
  omega
def pairsL (l : List Pr) : PyData := .list (l.map runPrD)
theorem pairsL_fine {l : List Pr} (h : ∀ p ∈ l, PrOk p) : fine (pairsL l) = true := fine_list fun d hd => by
  obtain ⟨p, hp, rfl⟩ := List.mem_map.mp hd
  exact runPrD_fine (h p hp)
theorem pairsL_deep {l : List Pr} (h : ∀ p ∈ l, PrOk p) : (pairsL l).depth ≤ 5 := by
  have e : PyData.depthAll (l.map runPrD) ≤ 4 := depthAll_le fun d hd => by
    obtain ⟨p, hp, rfl⟩ := List.mem_map.mp hd
    exact runPrD_deep (h p hp)
  unfold pairsL
  simp only [PyData.depth]
  omega
theorem pairsL_sh {l : List Pr} (h : ∀ p ∈ l, PrOk p) (hl : l.length ≤ 400) : Sh (pairsL l) := by
  refine ⟨pairsL_fine h, Nat.le_trans (pairsL_deep h) (by decide), ?_⟩
  have e := bulkAll_le (n := 60) (ds := l.map runPrD) fun d hd => by
    obtain ⟨p, hp, rfl⟩ := List.mem_map.mp hd
    exact runPrD_bulk (h p hp)
  unfold pairsL
  simp only [PyData.bulk]
  rw [List.length_map] at e
  omega
theorem pairsL_shaped {l : List Pr} (h : ∀ p ∈ l, PrOk p) : SeqAt.shaped (pairsL l) = true := fine_shaped (pairsL_fine h) (Nat.le_trans (pairsL_deep h) (by decide))
theorem eqv_nilL (ds : List PyData) : PyData.eqv (.list ds) (.list []) = ds.isEmpty := by
  cases ds <;> simp [PyData.eqv, PyData.eqvAll]
theorem Im.pairInv {K : PySem.W.Frag} {H : Hp} {v : V} {p : Pr} (h : Im K H v (runPrD p)) : ∃ a w, v = .ref a ∧ Tp K H a [.int p.1, w] ∧ Im K H w (thD p.2) := by
  obtain ⟨a, xs, rfl, h1, h2⟩ := id h.tupInv
  cases h2 with
  | cons z1 z2 =>
  cases z2 with
  | cons z2 z3 =>
  cases z3
  obtain rfl := z1.intInv
  exact ⟨a, _, rfl, h1, z2⟩
theorem joinM_ok {l : List Pr} (h : ∀ p ∈ l, PrOk p) (hB : ∀ p ∈ l, p.1 ≤ 10 ^ 60) (hl : l.length ≤ 400) : (∀ p ∈ joinM l, PrOk p) ∧ (joinM l).length ≤ l.length ∧ tot (joinM l) = tot l := by
  obtain ⟨a, b, c⟩ := fold_ok (n := 8) l [] (fun p hp => ⟨(h p hp).lo, (h p hp).th⟩) (fun p hp => (nomatch hp))
  have hg := join_good l
  have pos : ∀ {m : List Pr}, Gd m → ∀ p ∈ m, 0 ≤ p.1 := by
    intro m
    induction m with
    | nil => intro _ p hp; exact (nomatch hp)
    | cons x m ih =>
      intro g p hp
      rcases List.mem_cons.mp hp with rfl | hp
      · exact Int.le_of_lt g.pos
      · exact ih g.tail p hp
  have t1 : tot (joinR l) = tot l := by
    have : tot ([] : List Pr) = 0 := rfl
    show tot (l.foldl stepR []) = tot l
    omega
  have t2 := tot_le (B := 10 ^ 60) hB
  have t3 : (10 : Int) ^ 60 * (l.length : Nat) ≤ 10 ^ 60 * 400 := Int.mul_le_mul_of_nonneg_left (by omega) (by decide)
  refine ⟨fun p hp => ?_, by unfold joinM; rw [List.length_reverse]; show (l.foldl stepR []).length ≤ _; simpa using c, by
    unfold joinM
    have e : tot (joinR l).reverse = tot (joinR l) := by
      unfold tot
      rw [List.map_reverse, List.sum_reverse]
    rw [e, t1]⟩
  have hp' : p ∈ joinR l := List.mem_reverse.mp hp
  have h1 := mem_le_tot (pos hg) p hp'
  exact ⟨pos hg p hp', by omega, a p hp'⟩
end Y

set_option Elab.async false
set_option linter.all false
set_option maxRecDepth 100000
set_option maxHeartbeats 2000000
set_option exponentiation.threshold 600
/-! P3: a law's own model of a place: a dict of inks, wear, next mark, rows. -/
namespace Y
open PySem PySem.Spec PyProof.Rows L2
structure MdAddr where
  m : Addr
  il : Addr
  rd : Addr
  ls : List Addr
def MF (b : MdAddr) : Addr → Prop := fun y => y = b.m ∨ y = b.il ∨ y = b.rd ∨ y ∈ b.ls
def Mt (b : MdAddr) : Addr → Prop := fun y => y = b.m ∨ y = b.rd
abbrev mdK (b : MdAddr) (s : Pst) : List (Key × V) := [(.inr "inks", .ref b.il), (.inr "wear", .int s.wear), (.inr "next", .int s.next), (.inr "rows", .ref b.rd)]
structure MdAt (K : PySem.W.Frag) (H : Hp) (b : MdAddr) (ks : List Ink) (s : Pst) : Prop where
  dct : H b.m = some (.dK (mdK b s))
  inks : ∃ ys, H b.il = some (.lst ys) ∧ ImAll K H ys (ks.map inkD)
  rd : H b.rd = some (.dK (layK ks b.ls))
  len : b.ls.length = ks.length
  rws : s.rows.length = ks.length
  row : ∀ (i : Nat) (l : Addr) (r : List Lyr), b.ls[i]? = some l → s.rows[i]? = some r → ∃ vs, H l = some (.lst vs) ∧ ImAll K H vs (r.map lyrD)
  iok : InkOk ks
  ok : ∀ r ∈ s.rows, r.length ≤ 1000 ∧ ∀ l ∈ r, LyOk l
section
variable {K : PySem.W.Frag} {H H' : Hp} {b : MdAddr} {ks : List Ink} {s : Pst}
theorem MdAt.up [Tb] {S : Addr → Prop} (h : MdAt K H b ks s) (k : Kp S H H') (n : ∀ y, MF b y → ¬ S y) : MdAt K H' b ks s :=
  ⟨k.all _ _ h.dct (n _ (.inl rfl)), let ⟨ys, h1, h2⟩ := h.inks; ⟨ys, k.all _ _ h1 (n _ (.inr (.inl rfl))), ImAll.up k _ _ h2⟩, k.all _ _ h.rd (n _ (.inr (.inr (.inl rfl)))), h.len, h.rws, fun i l r h1 h2 => by
    obtain ⟨vs, g1, g2⟩ := h.row i l r h1 h2
    exact ⟨vs, k.all _ _ g1 (n _ (.inr (.inr (.inr (List.mem_of_getElem? h1))))), ImAll.up k _ _ g2⟩, h.iok, h.ok⟩
theorem MdAt.up0 [Tb] (h : MdAt K H b ks s) (k : Kp No H H') : MdAt K H' b ks s := h.up k fun _ _ => id
theorem layK_nodup (h : b.ls.length = ks.length) (ok : InkOk ks) : ((layK ks b.ls).map (·.1)).Nodup := by
  rw [layK_keys h]
  exact List.Pairwise.map _ (fun a b h z => h (Sum.inr.inj z)) ok.nd
theorem MdAt.at_ (h : MdAt K H b ks s) {i : Nat} (hi : i < ks.length) : ∃ l r vs, b.ls[i]? = some l ∧ s.rows[i]? = some r ∧ valV (layK ks b.ls) (.inr ks[i].1) = some (.ref l) ∧ H l = some (.lst vs) ∧ ImAll K H vs (r.map lyrD) ∧ r.length ≤ 1000 ∧ (∀ l ∈ r, LyOk l) ∧ vs.length = r.length := by
  have h1 : i < b.ls.length := by rw [h.len]; exact hi
  have h2 : i < s.rows.length := by rw [h.rws]; exact hi
  have e1 := List.getElem?_eq_getElem h1
  have e2 := List.getElem?_eq_getElem h2
  obtain ⟨vs, g1, g2⟩ := h.row i _ _ e1 e2
  have g3 := h.ok _ (List.getElem_mem h2)
  refine ⟨_, _, vs, e1, e2, ?_, g1, g2, g3.1, g3.2, by rw [g2.length, List.length_map]⟩
  refine val_of_mem (layK_nodup h.len h.iok) ?_
  unfold layK
  refine List.mem_map.mpr ⟨(ks[i], b.ls[i]), ?_, rfl⟩
  have hz : i < (ks.zip b.ls).length := by rw [List.length_zip]; omega
  have : (ks.zip b.ls)[i] = (ks[i], b.ls[i]) := List.getElem_zip
  rw [← this]
  exact List.getElem_mem hz
end
theorem val_inks (b : MdAddr) (s : Pst) : valV (mdK b s) (.inr "inks") = some (.ref b.il) := rfl
theorem val_wear (b : MdAddr) (s : Pst) : valV (mdK b s) (.inr "wear") = some (.int s.wear) := rfl
theorem val_next (b : MdAddr) (s : Pst) : valV (mdK b s) (.inr "next") = some (.int s.next) := rfl
theorem val_rows (b : MdAddr) (s : Pst) : valV (mdK b s) (.inr "rows") = some (.ref b.rd) := rfl
theorem put_next (b : MdAddr) (s : Pst) (n : Int) : putK (mdK b s) (.inr "next") (.int n) = mdK b ⟨s.wear, s.rows, n⟩ := rfl
/-- a row's list exchanged -/
theorem put_row {ks : List Ink} {ls : List Addr} (hl : ls.length = ks.length) (ok : InkOk ks) {i : Nat} (hi : i < ks.length) (u : Addr) : putK (layK ks ls) (.inr ks[i].1) (.ref u) = layK ks (ls.set i u) := by
  rw [put_at]
  · unfold layK
    rw [List.map_map]
    refine List.ext_getElem (by simp) fun j h1 h2 => ?_
    have hj : j < ks.length := by
      rw [List.length_map, List.length_zip] at h1
      omega
    rw [List.getElem_map, List.getElem_map, List.getElem_zip, List.getElem_zip, List.getElem_set]
    by_cases e : i = j
    · subst e
      simp
    · have hne : ks[j].1 ≠ ks[i].1 := by
        rcases Nat.lt_or_gt_of_ne e with z | z
        · exact fun q => ok.ne z hj q.symm
        · exact ok.ne z hi
      simp [hne, e]
  · rw [layK_keys hl]
    exact List.mem_map.mpr ⟨_, List.mem_map.mpr ⟨_, List.getElem_mem hi, rfl⟩, rfl⟩
def lyrsL (r : List Lyr) : PyData := .list (r.map lyrD)
theorem lyrD_fine {l : Lyr} (h : LyOk l) : fine (lyrD l) = true := fine_tuple fun d hd => by
  rcases List.mem_cons.mp hd with rfl | hd
  · exact pos_fine h.lo h.hi
  rcases List.mem_cons.mp hd with rfl | hd
  · exact nm_fine h.lay.nm
  · rw [List.mem_singleton.mp hd]; exact pos_fine (Int.le_of_lt h.lay.pos) h.lay.big
theorem lyrs_shaped {r : List Lyr} (h : ∀ l ∈ r, LyOk l) : SeqAt.shaped (lyrsL r) = true := by
  refine fine_shaped (fine_list fun d hd => ?_) ?_
  · obtain ⟨l, hl, rfl⟩ := List.mem_map.mp hd
    exact lyrD_fine (h l hl)
  · have e : PyData.depthAll (r.map lyrD) ≤ 1 := depthAll_le fun d hd => by
      obtain ⟨l, hl, rfl⟩ := List.mem_map.mp hd
      simp [lyrD, PyData.depth, PyData.depthAll]
    show (PyData.list (r.map lyrD)).depth ≤ 50
    simp only [PyData.depth]
    omega
/-- the last of the strongest so far -/
structure TopAt (r : List Lay) (k t : Nat) : Prop where
  lt : t < r.length
  before : k = 0 → t = 0
  under : 0 < k → t < k
  most : ∀ j, j < k → ahead r j t = false
theorem TopAt.take {r : List Lay} {i b : Nat} (tb : TopAt r i b) (hi : i < r.length) (h0 : stg r b ≤ stg r i) : TopAt r (i + 1) i := by
  refine ⟨hi, fun z => by omega, fun _ => by omega, fun j hj => ?_⟩
  by_cases e : j = i
  · rw [e]; exact ahead_irr r i
  · have hb := tb.most j (by omega)
    have hlt : b < i ∨ i = 0 := by
      by_cases z : i = 0
      · exact .inr z
      · exact .inl (tb.under (by omega))
    rw [ahead_no] at hb ⊢
    omega
theorem TopAt.keep {r : List Lay} {i b : Nat} (tb : TopAt r i b) (hi : i < r.length) (h0 : ¬ stg r b ≤ stg r i) : TopAt r (i + 1) b := by
  refine ⟨tb.lt, fun z => by omega, fun _ => ?_, fun j hj => ?_⟩
  · by_cases z : i = 0
    · have := tb.before z
      omega
    · have := tb.under (by omega)
      omega
  · by_cases e : j = i
    · rw [e, ahead_no]
      have hb : b < i ∨ (i = 0 ∧ b = 0) := by
        by_cases z : i = 0
        · exact .inr ⟨z, tb.before z⟩
        · exact .inl (tb.under (by omega))
      rcases hb with hb | ⟨z1, z2⟩
      · omega
      · exfalso
        subst z1 z2
        exact h0 (Int.le_refl _)
    · exact tb.most j (by omega)
theorem TopAt.is {r : List Lay} {b : Nat} (tb : TopAt r r.length b) : topN r = b := topN_uniq tb.lt fun j hj => tb.most j hj
theorem stg_lyr {r : List Lyr} {n : Nat} (h : n < r.length) : stg (layR r) n = r[n].2.2 := by
  rw [stg_at (by rw [layR_len]; exact h)]
  unfold layR
  rw [List.getElem_map]
theorem lyr_at {K : PySem.W.Frag} {H : Hp} {ws : List V} {r : List Lyr} (im : ImAll K H ws (r.map lyrD)) {n : Nat} (h : n < r.length) : ∃ b, ws[n]? = some (.ref b) ∧ Tp K H b [.int r[n].1, .str r[n].2.1, .int r[n].2.2] := by
  obtain ⟨wv, g1, g2⟩ := im.at_ (i := n) (d := lyrD r[n]) (by rw [List.getElem?_map, List.getElem?_eq_getElem h]; rfl)
  obtain ⟨b, rfl, tb⟩ := g2.lyrInv
  exact ⟨b, g1, tb⟩
theorem ink_at {K : PySem.W.Frag} {H : Hp} {ys : List V} {ks : List Ink} (im : ImAll K H ys (ks.map inkD)) {n : Nat} (h : n < ks.length) : ∃ b, ys[n]? = some (.ref b) ∧ Tp K H b [.str ks[n].1, .int ks[n].2] := by
  obtain ⟨wv, g1, g2⟩ := im.at_ (i := n) (d := inkD ks[n]) (by rw [List.getElem?_map, List.getElem?_eq_getElem h]; rfl)
  obtain ⟨b, rfl, tb⟩ := g2.inkInv
  exact ⟨b, g1, tb⟩
theorem topTo_succ {rows : List (List Lyr)} {i : Nat} {r : List Lyr} (h : rows[i]? = some r) : topTo rows (i + 1) = topStep (topTo rows i) i r := by
  show (match rows[i]? with | some r => topStep (topTo rows i) i r | none => topTo rows i) = _
  rw [h]
end Y
namespace Y
open PySem PySem.Spec PyProof.Rows L2
theorem ints_sh {l : List Int} (h : ∀ i ∈ l, 0 ≤ i ∧ i < 10 ^ 400) (hl : l.length ≤ 1000) : Sh (intsL l) := by
  refine ⟨intsL_fine fun i hi => by have := h i hi; omega, Nat.le_trans (intsL_deep l) (by decide), ?_⟩
  have e := bulkAll_le (n := 1) (ds := l.map PyData.int) fun d hd => by
    obtain ⟨i, _, rfl⟩ := List.mem_map.mp hd
    simp [PyData.bulk]
  rw [List.length_map] at e
  unfold intsL
  simp only [PyData.bulk]
  omega
def seenMD (rows : List (List Lyr)) : PyData := match topOf rows with
  | none => .none
  | some (i, n) => .int ((rows.getD i []).getD n (0, default, 0)).1
theorem seenM_im {K : PySem.W.Frag} {H : Hp} (rows : List (List Lyr)) : Im K H (seenM rows) (seenMD rows) := by
  unfold seenM seenMD
  cases topOf rows with
  | none => exact .non
  | some p => exact .int _
def finD (w : Int) (ks : List Ink) (rows : List (List Lyr)) : PyData := .list [.int w, seenD ks rows, seenMD rows]
theorem fin_sh {w : Int} {ks : List Ink} {rows : List (List Lyr)} (h0 : 0 ≤ w) (h6 : w ≤ 6) (ok : InkOk ks) (hr : rows.length = ks.length) (hok : ∀ r ∈ rows, r.length ≤ 1000 ∧ ∀ l ∈ r, LyOk l) : Sh (finD w ks rows) := by
  have w1 : fine (.int w) = true := pos_fine h0 (by omega)
  unfold finD seenD seenMD
  cases ht : topOf rows with
  | none => exact ⟨fine_list fun d hd => by
      rcases List.mem_cons.mp hd with rfl | hd
      · exact w1
      rcases List.mem_cons.mp hd with rfl | hd
      · rfl
      · rw [List.mem_singleton.mp hd]; rfl, by simp [PyData.depth, PyData.depthAll], by simp [PyData.bulk, PyData.bulkAll]⟩
  | some p =>
    obtain ⟨i, n⟩ := p
    obtain ⟨r, h1, h2, h3⟩ := topTo_in _ _ _ _ ht
    have hi : i < ks.length := by rw [← hr]; exact h3
    have e1 : (ks.getD i (default, 0)).1 = ks[i].1 := by rw [List.getD_eq_getElem?_getD, List.getElem?_eq_getElem hi]; rfl
    have e2 : (rows.getD i []).getD n (0, default, 0) = r[n] := by
      rw [List.getD_eq_getElem?_getD (l := rows), h1]
      show r.getD n (0, default, 0) = r[n]
      rw [List.getD_eq_getElem?_getD, List.getElem?_eq_getElem h2]
      rfl
    have lo := (hok r (List.mem_of_getElem? h1)).2 r[n] (List.getElem_mem h2)
    have nm := (ok.nm _ (List.getElem_mem hi)).1
    show Sh (.list [.int w, .tuple [.str (ks.getD i (default, 0)).1, .str ((rows.getD i []).getD n (0, default, 0)).2.1, .int ((rows.getD i []).getD n (0, default, 0)).2.2], .int ((rows.getD i []).getD n (0, default, 0)).1])
    rw [e1, e2]
    refine ⟨fine_list fun d hd => ?_, by simp [PyData.depth, PyData.depthAll], ?_⟩
    · rcases List.mem_cons.mp hd with rfl | hd
      · exact w1
      rcases List.mem_cons.mp hd with rfl | hd
      · refine fine_tuple fun d hd => ?_
        rcases List.mem_cons.mp hd with rfl | hd
        · exact nm_fine nm
        rcases List.mem_cons.mp hd with rfl | hd
        · exact nm_fine lo.lay.nm
        · rw [List.mem_singleton.mp hd]; exact pos_fine (Int.le_of_lt lo.lay.pos) lo.lay.big
      · rw [List.mem_singleton.mp hd]; exact pos_fine lo.lo lo.hi
    · have a1 := nm.eight
      have a2 := lo.lay.nm.eight
      have b1 : ks[i].1.cps.size = ks[i].1.length := rfl
      have b2 : r[n].2.1.cps.size = r[n].2.1.length := rfl
      simp [PyData.bulk, PyData.bulkAll]
      omega
end Y

set_option Elab.async false
set_option linter.all false
set_option maxRecDepth 100000
set_option maxHeartbeats 2000000
set_option exponentiation.threshold 600
/-! C2: own ==, isinstance of an own class. -/
namespace Y
open PySem PySem.Spec PyProof.Rows L2
/-- what isinstance asks of an own class -/
structure IsC (K : PySem.W.Frag) (C : Addr) : Prop where
  ha : PySem.W.findIn K (.ref C) "__class__" = some (some (.builtin "object.__class__"))
  hn : PySem.W.specialIn K (.builtin "object.__class__") "__get__" = some (some (.builtin "getset_descriptor.__get__"))
  htk : PySem.W.takesIn K (.builtin "object.__class__") = some true
  hm : PySem.W.mroIn K C (.type "object") = some true
  kit : PySem.W.kitOne K (.ref C) (.ref C) = some true
def isCB (K : PySem.W.Frag) (C : Addr) : Bool := He.eqO (PySem.W.findIn K (.ref C) "__class__") (some (some (.builtin "object.__class__"))) && (He.eqO (PySem.W.specialIn K (.builtin "object.__class__") "__get__") (some (some (.builtin "getset_descriptor.__get__"))) && (decide (PySem.W.takesIn K (.builtin "object.__class__") = some true) && (decide (PySem.W.mroIn K C (.type "object") = some true) && decide (PySem.W.kitOne K (.ref C) (.ref C) = some true))))
theorem isC_ok {K : PySem.W.Frag} {C : Addr} (h : isCB K C = true) : IsC K C := by
  obtain ⟨h1, h⟩ := He.ba h
  obtain ⟨h2, h⟩ := He.ba h
  obtain ⟨h3, h⟩ := He.ba h
  obtain ⟨h4, h5⟩ := He.ba h
  exact ⟨He.eqO_ok h1, He.eqO_ok h2, of_decide_eq_true h3, of_decide_eq_true h4, of_decide_eq_true h5⟩
section
variable {X : Cx} {K : PySem.W.Frag} {C : Addr} {x : Str} {pos : Pos}
theorem ye_cls (hm : X.mg x = some (.ref C)) (hg : Gl X x) (hd : (x == ("__debug__" : Str)) = false := by decide) : PE X (.Name x pos) (tC (.ref C)) := pe_glob hg hm rfl hd
/-- isinstance(x, C), x an instance of C -/
def yIsC (C : Addr) : List V → Hp → VK → Prop := fun xs H Q => match xs with
  | [.ref a, .ref C'] => C' = C ∧ ∃ dx fs, H a = some (.ins C dx fs) ∧ Q (.bl true) H
  | _ => False
/-- a == b by C's own __eq__ -/
def yEqI (C : Addr) (sp : Sp) : R2 := fun x y H Q => match x, y with
  | .ref a, .ref b => ∃ dx fs dy gs, H a = some (.ins C dx fs) ∧ H b = some (.ins C dy gs) ∧ sp [.ref a, .ref b] H (fun v H' => ∃ r, v = .bl r ∧ Q (.bl r) H') E0
  | _, _ => False
theorem kEqI {k j : Nat} {sp : Sp} (c : CalM X.prog X.w X.K X.mg X.base k C "__eq__" sp) (room : Room j X.A) (gd : X.A.guards = some []) (hk : k ≤ j := by decide) : OpR X (compareOp .Eq) (yEqI C sp) := by
  intro pins s σ H x y v u Q I rx ry h
  unfold yEqI at h
  split at h
  · rename_i a b
    obtain ⟨dx, fs, dy, gs, ha, hb, hsp⟩ := h
    obtain ⟨f, fd, ps, F, cl, hm, bn⟩ := c
    cases rx
    cases ry
    obtain ⟨mA, J, _⟩ := ins_get I.hok ha
    obtain ⟨mB, J', _⟩ := ins_get I.hok hb
    obtain ⟨od, J, _⟩ := J.look
    obtain ⟨od', J', _⟩ := J'.look
    obtain ⟨m, hF⟩ := I.fr
    show wpAny (model X.prog X.w) X.A (richCompare .Eq (.ref a) (.ref b)) (EP X pins σ Q) X.xe s
    refine PySem.W.cmp_K (op := .Eq) (tb := .ref C) room.units0 hF I.ok.mod.kin J J'.type (by simp [PySem.W.notFirst]) hm.at_ hm.fn ?_
    have run := goes_fn (us := [.ref a, .ref b]) (vs := [.ref a, .ref b]) (F.up hk) room gd bn .nil pass0 I (.cons rfl (.cons rfl .nil)) hsp
    refine wpAny_mono run ?_ fun _ _ z => z
    rintro w s' ⟨z, H', I', rz, r, rfl, q⟩
    cases rz
    exact ⟨.bl r, H', I', rfl, q⟩
  · exact h.elim
theorem kIsC (i : IsC K C) (cl : Cls K C) (h0 : X.K = K) : CallR X (.builtin "isinstance") (yIsC C) := by
  subst h0
  exact CallR.imp call_isi fun xs H Q h => by
    unfold yIsC at h
    split at h
    · obtain ⟨rfl, dx, fs, h1, h2⟩ := h
      exact ⟨_, _, .ref _, .ref _, true, rfl, .own _, .base (.ins h1 cl i.ha i.hn i.htk i.hm), i.kit, h2⟩
    · exact h.elim
end
theorem eqv_ink (a b : Ink) : PyData.eqv (inkD a) (inkD b) = decide (a = b) := eqv_lay a b
theorem eqv_inks (a b : List Ink) : PyData.eqv (.list (a.map inkD)) (.list (b.map inkD)) = decide (a = b) := eqv_laysL a b
theorem inks_fine {ks : List Ink} (ok : InkOk ks) : fine (.list (ks.map inkD)) = true := fine_list fun d hd => by
  obtain ⟨p, hp, rfl⟩ := List.mem_map.mp hd
  have := ok.nm p hp
  refine fine_tuple fun d hd => ?_
  rcases List.mem_cons.mp hd with rfl | hd
  · exact nm_fine this.1
  · rw [List.mem_singleton.mp hd]; exact pos_fine this.2.1 this.2.2
theorem inks_shaped {ks : List Ink} (ok : InkOk ks) : SeqAt.shaped (.list (ks.map inkD)) = true := fine_shaped (inks_fine ok) (Nat.le_trans (laysL_deep ks) (by decide))
end Y

set_option Elab.async false
set_option linter.all false
set_option maxRecDepth 100000
set_option maxHeartbeats 2000000
set_option exponentiation.threshold 600
/-! P4: a place and a law's model of it side by side. -/
namespace Y
open PySem PySem.Spec PyProof.Rows L2
section
variable [Tb] {K : PySem.W.Frag} {CPalette CPlace : Addr}
theorem Kp.dropS {S : Addr → Prop} {H H1 H2 : Hp} (a : Kp No H H1) (hS : ∀ b, S b → H b = none) (b : Kp S H1 H2) : Kp No H H2 :=
  ⟨fun c o e n nt => b.all c o (a.all c o e n nt) (fun z => by rw [hS c z] at e; cases e) nt, fun c xs e => b.tup c xs (a.tup c xs e), fun c e => a.dom c (b.dom c e), fun t => b.tab (a.tab t)⟩
theorem PlAt.has {H : Hp} {a : PlAddr} {ks : List Ink} {s : Pst} (h : PlAt K CPalette CPlace H a ks s) {y : Addr} (hy : Ft a y) : H y ≠ none := by
  rcases hy with z | z | z
  · rw [z, h.ins]; intro e; cases e
  · rw [z, h.dct]; intro e; cases e
  · obtain ⟨i, hi, rfl⟩ := List.mem_iff_getElem.mp z
    obtain ⟨vs, g1, _⟩ := h.row i _ _ (List.getElem?_eq_getElem hi) (List.getElem?_eq_getElem (show i < s.rows.length by rw [h.rws, ← h.len]; exact hi))
    rw [g1]; intro e; cases e
theorem new_pl {H : Hp} {C x dx : Addr} (hx : H x = none) (hd : H dx = none) (n : dx ≠ x) : Kp No H (fresh2 H C x dx) := (Kp.new hd).trans (Kp.new (by rw [upd_ne n.symm]; exact hx))
/-- a place and its model stand side by side, apart from one another -/
structure Both (K : PySem.W.Frag) (CPalette CPlace : Addr) (H : Hp) (a : PlAddr) (b : MdAddr) (ks : List Ink) (s : Pst) : Prop where
  pl : PlAt K CPalette CPlace H a ks s
  md : MdAt K H b ks s
  dj : ∀ y, MF b y → ¬ Ft a y
  np : ¬ Mt b a.pl ∧ ¬ Mt b a.pd
theorem Both.up0 {H H' : Hp} {a : PlAddr} {b : MdAddr} {ks : List Ink} {s : Pst} (h : Both K CPalette CPlace H a b ks s) (k : Kp No H H') : Both K CPalette CPlace H' a b ks s := ⟨h.pl.up0 k, h.md.up0 k, h.dj, h.np⟩
theorem Both.up {H H' : Hp} {a : PlAddr} {b : MdAddr} {ks : List Ink} {s : Pst} {S : Addr → Prop} (h : Both K CPalette CPlace H a b ks s) (k : Kp S H H') (n : ∀ y, S y → H y = none ∨ (¬ Ft a y ∧ ¬ MF b y ∧ y ≠ a.pl ∧ y ≠ a.pd)) : Both K CPalette CPlace H' a b ks s := by
  have ml : ∀ y, MF b y → H y ≠ none := by
    rintro y (z | z | z | z)
    · rw [z, h.md.dct]; intro e; cases e
    · obtain ⟨ys, g, _⟩ := h.md.inks
      rw [z, g]; intro e; cases e
    · rw [z, h.md.rd]; intro e; cases e
    · obtain ⟨i, hi, rfl⟩ := List.mem_iff_getElem.mp z
      obtain ⟨vs, g1, _⟩ := h.md.row i _ _ (List.getElem?_eq_getElem hi) (List.getElem?_eq_getElem (show i < s.rows.length by rw [h.md.rws, ← h.md.len]; exact hi))
      rw [g1]; intro e; cases e
  refine ⟨h.pl.up k (fun z => ?_) (fun z => ?_) (fun y hy z => ?_), h.md.up k fun y hy z => ?_, h.dj, h.np⟩
  · rcases n _ z with e | ⟨_, _, e, _⟩
    · rw [h.pl.pal.ins] at e; cases e
    · exact e rfl
  · rcases n _ z with e | ⟨_, _, _, e⟩
    · rw [h.pl.pal.dct] at e; cases e
    · exact e rfl
  · rcases n _ z with e | ⟨e, _⟩
    · exact h.pl.has hy e
    · exact e hy
  · rcases n _ z with e | ⟨_, e, _⟩
    · exact ml y hy e
    · exact e hy
end
end Y

set_option Elab.async false
set_option linter.all false
set_option maxRecDepth 100000
set_option maxHeartbeats 2000000
set_option exponentiation.threshold 600
/-! U1: a, *b = a tuple. -/
namespace Y
open PySem PySem.Spec PyProof.Rows L2
theorem star_items {prog : Program} {w : World} {A : Around} {E : Value → Shared → Prop} {s : Shared} {t : Addr} {items : Array Value} {Q : List Value → Shared → Prop} (hh : A.handled = none) (ht : IsTup s.heap t items) (h1 : 1 ≤ items.size) (hz : items.size ≤ 16384)
    (hQ : ∀ h' tk, Heap.ExtBut s.heap.objs.size s.heap h' → wpAny (model prog w) A (newList (items.toList.drop 1) >>= fun d => pure (items.toList.take 1 ++ [d] ++ ([] : List Value))) Q E { s with heap := h', toks := tk }) :
    wpAny (model prog w) A (unpackItems (.ref t) 2 (some 1)) Q E s := by
  have hlt : t ≠ s.heap.objs.size := by
    obtain ⟨o, ho, _⟩ := ht
    exact Nat.ne_of_lt (Heap.lt_size ho)
  unfold unpackItems
  refine wpAny_bind ?_
  unfold notIterableAtAll
  refine wpAny_bind (wpAny_specialOf ht.typeIs slot_tuple_iter.lookup (wpAny_pure ?_))
  simp only [Bool.false_eq_true, if_false]
  refine wpAny_bind (wpAny_holding (iter_tuple ht ?_))
  refine wpAny_bind (wpAny_holding (draw_tuple hlt 1 0 _ _ ⟨_, Heap.get?_push_size _ rfl, rfl, rfl⟩ (ht.push _) (by omega) ?_))
  intro ha ia sa
  have ta : IsTup ha t items := (ht.push _).extBut sa.extBut hlt
  rw [Nat.zero_add] at ia
  obtain ⟨oi, hoi, _⟩ := id ia
  obtain ⟨ol, hol, _⟩ := id ta
  rw [List.drop_zero]
  have fl : (items.toList.take 1).length = 1 := by rw [List.length_take, Array.length_toList]; omega
  rw [if_neg (show ¬ (items.toList.take 1).length < 1 by omega)]
  refine wpAny_bind (wpAny_holding (PySem.W.kun_collect (s := { s with heap := ha }) (T := "tuple_iterator") (.inr (.inr (.inr rfl))) (Walks.tuple (A := A.in1) hh s.heap.objs.size t hlt items) (fun j u st => st.1.typeIs) (k := 1) h1 ⟨ia, ta⟩ (Heap.lt_size hoi) (Heap.lt_size hol) ?_ (by rw [sizeLine_eq]; omega)))
  intro hb tk kb
  have rl : (items.toList.drop 1).length = items.size - 1 := by rw [List.length_drop, Array.length_toList]
  show wpAny _ _ (if (items.toList.drop 1).length < 0 then _ else _) _ _ _
  rw [if_neg (by omega)]
  have e1 : (items.toList.drop 1).take ((items.toList.drop 1).length - 0) = items.toList.drop 1 := List.take_of_length_le (by omega)
  have e2 : (items.toList.drop 1).drop ((items.toList.drop 1).length - 0) = [] := List.drop_of_length_le (by omega)
  show wpAny _ _ (newList ((items.toList.drop 1).take ((items.toList.drop 1).length - 0)) >>= fun d => pure (items.toList.take 1 ++ [d] ++ (items.toList.drop 1).drop ((items.toList.drop 1).length - 0))) _ _ _
  rw [e1, e2]
  exact hQ hb tk fun b o nb e => kb b o nb (sa.extBut b o nb (Heap.get?_push_of_some _ e))
section
variable {X : Cx} {K : PySem.W.Frag}
def yStarG (K : PySem.W.Frag) (t : TGs) : TG := fun v σ H Q => match v with
  | .ref a => ∃ x xs, SqT K H a (x :: xs) ∧ xs.length ≤ 1000 ∧ ∀ D, H D = none → t [x, .ref D] σ (upd H D (.lst xs)) Q
  | _ => False
theorem kgStar {e1 e2 : Expr} {p3 pos : Pos} {k : Nat} {t : TGs} (h0 : X.K = K) (hc : X.calm = true) (h : PGs X [e1, e2] t)
    (hn : (assignEach [e1, .Starred e2 p3] X.env).length = 2 := by rfl) (hst : (assignEach [e1, .Starred e2 p3] X.env).findIdx? (·.1) = some 1 := by rfl)
    (hm : (assignEach [e1, .Starred e2 p3] X.env).map (·.2) = (assignEach [e1, e2] X.env).map (·.2) := by rfl) : PG X (.Tuple [e1, .Starred e2 p3] k pos) (yStarG K t) := by
  subst h0
  constructor
  intro pins s σ H v u Q I r hw
  cases v with
  | ref a =>
    obtain ⟨x, xs, hq, hl, hw⟩ := hw
    cases r
    obtain ⟨its, rv, ht, hz⟩ := I.tuple hq
    have el := rv.length
    rw [List.length_cons] at el
    rw [assign_Tuple]
    refine wpAny_bind (wpAny_standAt ?_)
    unfold unpack
    rw [hn, hst, hm]
    refine wpAny_bind (wpAny_holding (star_items (I.ok.hd hc) ht (by simp; omega) (by simp; omega) fun h' tk he => ?_))
    have I1 : Inv X pins σ H { s with heap := h', toks := tk } := I.kept (t' := tk) fun b o e => he b o (Nat.ne_of_lt (Heap.lt_size e)) e
    have rv2 := rv
    cases rv2 with
    | cons r1 r2 =>
    rename_i v0 vs
    show wpAny _ _ (newList (vs) >>= fun d => pure ([v0] ++ [d] ++ [])) _ _ _
    have z1 : xs.length ≤ sizeLine := Nat.le_trans hl (by decide)
    refine wpAny_bind (wpAny_newObj_type (wpAny_pure ?_) (by show vs.toArray.size ≤ sizeLine; rw [List.size_toArray, ← r2.length]; exact z1))
    have I2 : Inv X pins σ (upd H h'.objs.size (.lst xs)) { s with heap := h'.push { cls := .type "list", data := .seq vs.toArray }, toks := tk } := I1.laid (a := h'.objs.size) (t' := tk) (fun b u e => Heap.get?_push_of_some _ e) (Nat.le_refl _) ⟨z1, vs, 0, r2, Heap.get?_push_size _ rfl⟩
    exact h.run pins _ σ _ [x, .ref h'.objs.size] [v0, .ref h'.objs.size] Q I2 (.cons r1 (.cons rfl .nil)) (hw _ (I1.hok.fresh (Nat.le_refl _)))
  | _ => exact hw.elim
end
end Y

set_option Elab.async false
set_option linter.all false
set_option maxRecDepth 100000
set_option maxHeartbeats 2000000
set_option exponentiation.threshold 600
/-! P5: places that become weaker. -/
namespace Y
open PySem PySem.Spec PyProof.Rows L2
def weakR (r : List Lyr) (n : Int) : List Lyr := r.filterMap fun l => if decide (n < l.2.2) = true then some (l.1, (l.2.1, l.2.2 - n)) else none
theorem weakR_mem {r : List Lyr} {n : Int} {q : Lyr} (h : q ∈ weakR r n) : ∃ l ∈ r, n < l.2.2 ∧ q = (l.1, (l.2.1, l.2.2 - n)) := by
  obtain ⟨l, hl, e⟩ := List.mem_filterMap.mp h
  by_cases c : n < l.2.2
  · rw [if_pos (decide_eq_true c)] at e
    exact ⟨l, hl, c, (Option.some.inj e).symm⟩
  · rw [if_neg (by simpa using c)] at e
    cases e
theorem weakR_len (r : List Lyr) (n : Int) : (weakR r n).length ≤ r.length := List.length_filterMap_le _ _
def weakS (s : Pst) (i : Nat) (n : Int) : Pst := ⟨s.wear, s.rows.set i (weakR (s.rows.getD i []) n), s.next⟩
theorem weakR_ok {r : List Lyr} {n : Int} (h : ∀ l ∈ r, LyOk l) (hb : ∀ l ∈ r, l.2.2 - n < 10 ^ 400) : ∀ l ∈ weakR r n, LyOk l := fun q hq => by
  obtain ⟨l, hl, c, rfl⟩ := weakR_mem hq
  have := h l hl
  exact ⟨⟨this.lay.nm, by show 0 < l.2.2 - n; omega, hb l hl⟩, this.lo, this.hi⟩
section
variable [Tb] {K : PySem.W.Frag} {CP CL : Addr} {H : Hp} {a : PlAddr} {ks : List Ink} {s : Pst}
/-- an ink's row exchanged for a new list -/
theorem PlAt.swapped (h : PlAt K CP CL H a ks s) {i : Nat} (hi : i < ks.length) {D : Addr} {H1 : Hp} {vs : List V} {r' : List Lyr} (hD : H D = none) (k1 : Kp No H H1) (h1 : H1 D = some (.lst vs)) (im : ImAll K H1 vs (r'.map lyrD)) (hl : r'.length ≤ 1000) (ok : ∀ l ∈ r', LyOk l) :
    PlAt K CP CL (upd H1 a.d (.dK (layK ks (a.ls.set i D)))) ⟨a.x, a.dx, a.d, a.pl, a.pdx, a.pd, a.ls.set i D⟩ ks ⟨s.wear, s.rows.set i r', s.next⟩ ∧ Kp (At a.d) H (upd H1 a.d (.dK (layK ks (a.ls.set i D)))) := by
  have hb := h.up0 k1
  have k2 : Kp (At a.d) H1 (upd H1 a.d (.dK (layK ks (a.ls.set i D)))) := Kp.set rfl hb.dct
  have kk : Kp (At a.d) H _ := k1.no.trans k2
  have nDd : D ≠ a.d := fun e => by rw [e, h.dct] at hD; cases hD
  have nDx : D ≠ a.x := fun e => by rw [e, h.ins] at hD; cases hD
  have nls : D ∉ a.ls := fun hm => by
    obtain ⟨j, hj, e⟩ := List.mem_iff_getElem.mp hm
    obtain ⟨ws, g1, _⟩ := h.row j _ _ (List.getElem?_eq_getElem hj) (List.getElem?_eq_getElem (show j < s.rows.length by rw [h.rws, ← h.len]; exact hj))
    rw [e, hD] at g1; cases g1
  refine ⟨⟨hb.pal.up k2 (fun z => (h.out a.d (.inr (.inl rfl))).1 z.symm) (fun z => (h.out a.d (.inr (.inl rfl))).2 z.symm), k2.all a.x _ hb.ins h.ne_xd, upd_same, by show (a.ls.set i D).length = _; rw [List.length_set]; exact h.len, by show (s.rows.set i r').length = _; rw [List.length_set]; exact h.rws, fun j l r h2 h3 => ?_, ?_, fun r hr => ?_, fun b hb2 => ?_⟩, kk⟩
  · have h2 : (a.ls.set i D)[j]? = some l := h2
    have h3 : (s.rows.set i r')[j]? = some r := h3
    by_cases e : i = j
    · subst e
      rw [List.getElem?_set_self (by rw [h.len]; exact hi)] at h2
      rw [List.getElem?_set_self (by rw [h.rws]; exact hi)] at h3
      obtain rfl := Option.some.inj h2
      obtain rfl := Option.some.inj h3
      exact ⟨vs, k2.all D _ h1 nDd, ImAll.up k2 _ _ im⟩
    · rw [List.getElem?_set_ne e] at h2 h3
      obtain ⟨ws, g1, g2⟩ := hb.row j l r h2 h3
      exact ⟨ws, k2.all l _ g1 (h.ne_l (List.mem_of_getElem? h2)).2, ImAll.up k2 _ _ g2⟩
  · show (a.ls.set i D).Nodup
    rw [List.nodup_iff_pairwise_ne, List.pairwise_iff_getElem]
    intro p q hp hq hpq
    have hp' : p < a.ls.length := by rw [List.length_set] at hp; exact hp
    have hq' : q < a.ls.length := by rw [List.length_set] at hq; exact hq
    rw [List.getElem_set, List.getElem_set]
    by_cases e1 : i = p
    · rw [if_pos e1, if_neg (by omega)]
      exact fun e => nls (e ▸ List.getElem_mem hq')
    · rw [if_neg e1]
      by_cases e2 : i = q
      · rw [if_pos e2]
        exact fun e => nls (e ▸ List.getElem_mem hp')
      · rw [if_neg e2]
        exact List.pairwise_iff_getElem.mp (List.nodup_iff_pairwise_ne.mp h.nd) p q hp' hq' hpq
  · have hr : r ∈ s.rows.set i r' := hr
    rcases List.mem_or_eq_of_mem_set hr with z | z
    · exact h.ok r z
    · rw [z]; exact ⟨hl, ok⟩
  · rcases hb2 with z | z | z
    · exact h.out b (.inl z)
    · exact h.out b (.inr (.inl z))
    · have z : b ∈ a.ls.set i D := z
      rcases List.mem_or_eq_of_mem_set z with z | z
      · exact h.out b (.inr (.inr z))
      · rw [z]
        exact ⟨fun e => (by rw [e, h.pal.ins] at hD; cases hD), fun e => (by rw [e, h.pal.dct] at hD; cases hD)⟩
end
/-- a place with other lists for its rows -/
abbrev PlAddr.at_ (a : PlAddr) (ls : List Addr) : PlAddr := ⟨a.x, a.dx, a.d, a.pl, a.pdx, a.pd, ls⟩
/-- all inks weaker, each by t times its fade, the first i of them -/
def waitTo (ks : List Ink) (t : Int) (s : Pst) : Nat → Pst
  | 0 => s
  | i + 1 => weakS (waitTo ks t s i) i (t * (ks.getD i (default, 0)).2)
end Y
namespace Y
open PySem PySem.Spec PyProof.Rows L2
section
variable [Tb] {K : PySem.W.Frag} {H : Hp} {b : MdAddr} {ks : List Ink} {s : Pst}
/-- a model with other lists for its rows -/
abbrev MdAddr.at_ (b : MdAddr) (ls : List Addr) : MdAddr := ⟨b.m, b.il, b.rd, ls⟩
theorem MdAt.apart (h : MdAt K H b ks s) : b.m ≠ b.rd := by
  refine ne_of h.dct h.rd fun z => ?_
  have z2 := HO.dK.inj z
  unfold layK at z2
  cases hk : ks.zip b.ls with
  | nil => rw [hk] at z2; cases z2
  | cons p ps =>
    rw [hk] at z2
    have z4 := congrArg (fun l : List (Key × V) => (l[1]?).map (·.2)) z2
    cases ps with
    | nil => cases z4
    | cons p2 ps => cases z4
/-- an ink's row exchanged for a new list -/
theorem MdAt.swapped (h : MdAt K H b ks s) {i : Nat} (hi : i < ks.length) {D : Addr} {H1 : Hp} {vs : List V} {r' : List Lyr} (k1 : Kp No H H1) (h1 : H1 D = some (.lst vs)) (im : ImAll K H1 vs (r'.map lyrD)) (hl : r'.length ≤ 1000) (ok : ∀ l ∈ r', LyOk l) :
    MdAt K (upd H1 b.rd (.dK (layK ks (b.ls.set i D)))) (b.at_ (b.ls.set i D)) ks ⟨s.wear, s.rows.set i r', s.next⟩ ∧ Kp (At b.rd) H (upd H1 b.rd (.dK (layK ks (b.ls.set i D)))) := by
  have hb := h.up0 k1
  have k2 : Kp (At b.rd) H1 (upd H1 b.rd (.dK (layK ks (b.ls.set i D)))) := Kp.set rfl hb.rd
  have nl : ∀ l, (∃ ws, H1 l = some (.lst ws)) → l ≠ b.rd := by
    rintro l ⟨ws, e⟩ z
    rw [z, hb.rd] at e
    cases e
  obtain ⟨ys, g1, g2⟩ := hb.inks
  refine ⟨⟨k2.all b.m _ hb.dct h.apart, ⟨ys, k2.all b.il _ g1 (nl _ ⟨_, g1⟩), ImAll.up k2 _ _ g2⟩, upd_same, by show (b.ls.set i D).length = _; rw [List.length_set]; exact h.len, by show (s.rows.set i r').length = _; rw [List.length_set]; exact h.rws, fun j l r h2 h3 => ?_, h.iok, fun r hr => ?_⟩, k1.no.trans k2⟩
  · have h2 : (b.ls.set i D)[j]? = some l := h2
    have h3 : (s.rows.set i r')[j]? = some r := h3
    by_cases e : i = j
    · subst e
      rw [List.getElem?_set_self (by rw [h.len]; exact hi)] at h2
      rw [List.getElem?_set_self (by rw [h.rws]; exact hi)] at h3
      obtain rfl := Option.some.inj h2
      obtain rfl := Option.some.inj h3
      exact ⟨vs, k2.all D _ h1 (nl _ ⟨_, h1⟩), ImAll.up k2 _ _ im⟩
    · rw [List.getElem?_set_ne e] at h2 h3
      obtain ⟨ws, g1, g2⟩ := hb.row j l r h2 h3
      exact ⟨ws, k2.all l _ g1 (nl _ ⟨_, g1⟩), ImAll.up k2 _ _ g2⟩
  · have hr : r ∈ s.rows.set i r' := hr
    rcases List.mem_or_eq_of_mem_set hr with z | z
    · exact h.ok r z
    · rw [z]; exact ⟨hl, ok⟩
end
theorem weakR_snoc (r : List Lyr) (l : Lyr) (n : Int) : weakR (r ++ [l]) n = weakR r n ++ (if decide (n < l.2.2) = true then [(l.1, (l.2.1, l.2.2 - n))] else []) := by
  unfold weakR
  rw [List.filterMap_append]
  congr 1
  by_cases c : n < l.2.2
  · simp [c]
  · simp [c]
end Y

set_option Elab.async false
set_option linter.all false
set_option maxRecDepth 100000
set_option maxHeartbeats 2000000
set_option exponentiation.threshold 600
/-! U2: the tables of deeds: sizes by words, words with inks; deeds as data. -/
namespace Y
open PySem PySem.Spec PyProof.Rows L2
def sizesL : List (Str × Int) := [("lay", 4), ("wait", 2), ("wash", 3), ("warm", 3), ("scrape", 1), ("rub", 2)]
structure Wt (K : PySem.W.Frag) (w : World) (mg : Str → Option Value) (aS aI : Addr) : Prop where
  mgS : mg "SIZES" = some (.ref aS)
  mgI : mg "WITH_INK" = some (.ref aI)
  dct : ∃ es n, KDict K w aS es n
  vals : ∀ q ∈ sizesL, ∃ u, PySem.W.nsIn K aS q.1 = some (some u) ∧ RelV (.int q.2) u
  ink : ∀ H, SqT K H aI [.str "lay", .str "wash", .str "warm"]
def strOf : Value → Option Str
  | .str z _ => some z
  | _ => none
def tupB (K : PySem.W.Frag) (a : Addr) (xs : List Str) : Bool := match K.lookup a with
  | some o => (match o.data with
    | .seq its _ => decide (o.cls = .type "tuple") && (decide (its.size ≤ sizeLine) && decide (its.toList.map strOf = xs.map some))
    | _ => false)
  | none => false
theorem tup_vals : ∀ {its : List Value} {xs : List Str}, its.map strOf = xs.map some → Vals (xs.map V.str) its
  | [], [], _ => .nil
  | [], _ :: _, h => by cases h
  | _ :: _, [], h => by cases h
  | v :: its, x :: xs, h => by
    injection h with h1 h2
    refine .cons ?_ (tup_vals h2)
    unfold strOf at h1
    split at h1
    · rename_i z t
      obtain rfl := Option.some.inj h1
      exact ⟨t, rfl⟩
    · cases h1
theorem tupB_ok {K : PySem.W.Frag} {a : Addr} {xs : List Str} (h : tupB K a xs = true) (H : Hp) : SqT K H a (xs.map V.str) := by
  unfold tupB at h
  cases e : K.lookup a with
  | none => rw [e] at h; cases h
  | some o =>
    rw [e] at h
    cases d : o.data with
    | seq its n =>
      have h : (match o.data with
        | .seq its _ => decide (o.cls = .type "tuple") && (decide (its.size ≤ sizeLine) && decide (its.toList.map strOf = xs.map some))
        | _ => false) = true := h
      rw [d] at h
      obtain ⟨h1, h⟩ := He.ba h
      obtain ⟨h2, h3⟩ := He.ba h
      exact .inr ⟨o, its, n, e, of_decide_eq_true h1, d, of_decide_eq_true h2, tup_vals (of_decide_eq_true h3)⟩
    | _ =>
      have h : (match o.data with
        | .seq its _ => decide (o.cls = .type "tuple") && (decide (its.size ≤ sizeLine) && decide (its.toList.map strOf = xs.map some))
        | _ => false) = true := h
      rw [d] at h
      cases h
def sizB (K : PySem.W.Frag) (a : Addr) : Bool := He.valsB K a (sizesL.map fun q => (q.1, He.Dv.int q.2))
theorem sizB_ok {K : PySem.W.Frag} {a : Addr} (h : sizB K a = true) : ∀ q ∈ sizesL, ∃ u, PySem.W.nsIn K a q.1 = some (some u) ∧ RelV (.int q.2) u := fun q hq => by
  exact He.valsB_ok h (q := (q.1, He.Dv.int q.2)) (List.mem_map.mpr ⟨q, hq, rfl⟩)
section
variable {X : Cx} {K : PySem.W.Frag} {aS aI : Addr} {mg : Str → Option Value}
/-- a word that is in the table -/
def yNotInS (aS : Addr) : R2 := fun x y H Q => match x, y with
  | .str z, .ref d => d = aS ∧ z ∈ sizesL.map (·.1) ∧ Q (.bl false) H
  | _, _ => False
theorem kNotInS (h0 : X.K = K) (W : Wt K X.w mg aS aI) : OpR X (compareOp .NotIn) (yNotInS aS) := by
  subst h0
  intro pins s σ H x y v u Q I rx ry h
  unfold yNotInS at h
  split at h
  · obtain ⟨rfl, hz, q⟩ := h
    obtain ⟨es, n, D⟩ := W.dct
    obtain ⟨p, hp, rfl⟩ := List.mem_map.mp hz
    obtain ⟨u0, h1, _⟩ := W.vals p hp
    exact op_notIn_kd D pins s σ H _ _ v u Q I rx ry ⟨_, _, rfl, rfl, h1, q⟩
  · exact h.elim
def yIxS (aS : Addr) : R2 := fun x y H Q => match x, y with
  | .ref d, .str z => d = aS ∧ ∃ n, (z, n) ∈ sizesL ∧ Q (.int n) H
  | _, _ => False
theorem kIxS {a b : Expr} {ta tb : TE} {pos : Pos} (h0 : X.K = K) (W : Wt K X.w mg aS aI) (ha : PE X a ta) (hb : PE X b tb) (hs : PlainIx b := by exact fun _ _ => rfl) : PE X (.Subscript a b pos) (tOp (yIxS aS) ta tb) := by
  subst h0
  refine pe_ix (IxR.imp ix_kdict fun x y H Q h => ?_) ha hb hs
  unfold yIxS at h
  split at h
  · obtain ⟨rfl, n, hz, q⟩ := h
    obtain ⟨es, m, D⟩ := W.dct
    obtain ⟨u0, h1, h2⟩ := W.vals _ hz
    exact ⟨_, _, _, rfl, rfl, ⟨es, m, u0, D.at_, D.lit, h1, h2⟩, q⟩
  · exact h.elim
end
/-- deeds: an ink by its number -/
inductive Deed where
  | lay (i : Nat) (y : Lay)
  | wait (t : Int)
  | wash (i : Nat) (n : Int)
  | warm (i : Nat) (n : Int)
  | scrape
  | rub (n : Int)
def inkN (ks : List Ink) (i : Nat) : Str := (ks.getD i (default, 0)).1
def deedL (ks : List Ink) : Deed → List PyData
  | .lay i y => [.str "lay", .str (inkN ks i), .str y.1, .int y.2]
  | .wait t => [.str "wait", .int t]
  | .wash i n => [.str "wash", .str (inkN ks i), .int n]
  | .warm i n => [.str "warm", .str (inkN ks i), .int n]
  | .scrape => [.str "scrape"]
  | .rub n => [.str "rub", .int n]
def deedD (ks : List Ink) (d : Deed) : PyData := .tuple (deedL ks d)
def DeedOk (ks : List Ink) : Deed → Prop
  | .lay i y => i < ks.length ∧ LayOk y
  | .wait t => 0 < t ∧ t < 10 ^ 400
  | .wash i n => i < ks.length ∧ 0 < n ∧ n < 10 ^ 400
  | .warm i n => i < ks.length ∧ 0 < n ∧ n < 10 ^ 400
  | .scrape => True
  | .rub n => 0 < n ∧ n < 10 ^ 400
end Y

set_option Elab.async false
set_option linter.all false
set_option maxRecDepth 100000
set_option maxHeartbeats 2000000
/-! X1: own exceptions of any base whose __init__ stores one field; defs that raise, with guards known. -/
namespace Y
open PySem PySem.Spec PyProof.Rows L2
/-- own classes, then the tail -/
def ownTo (tail : List Value) : List Value → Bool
  | .ref _ :: r => ownTo tail r
  | l => l == tail
theorem ownTo_or {tail : List Value} : ∀ {l : List Value}, ownTo tail l = true → (∃ c r, l = .ref c :: r ∧ ownTo tail r = true) ∨ l = tail
  | .ref c :: r, e => .inl ⟨c, r, rfl, e⟩
  | [], e => .inr (eq_of_beq e)
  | .none :: _, e => .inr (eq_of_beq e)
  | .ellipsis :: _, e => .inr (eq_of_beq e)
  | .notImplemented :: _, e => .inr (eq_of_beq e)
  | .bool _ :: _, e => .inr (eq_of_beq e)
  | .int _ _ :: _, e => .inr (eq_of_beq e)
  | .float _ _ :: _, e => .inr (eq_of_beq e)
  | .str _ _ :: _, e => .inr (eq_of_beq e)
  | .bytes _ _ :: _, e => .inr (eq_of_beq e)
  | .type _ :: _, e => .inr (eq_of_beq e)
  | .builtin _ :: _, e => .inr (eq_of_beq e)
/-- what is known of a built-in base -/
structure BaseX (tail : List Value) (newId : String) : Prop where
  base : ∃ B initId, ExcBaseFacts B newId initId tail
  pass : ∀ self, refuseLoop self "__setattr__" tail = pure ()
  obj : tail.contains (.type "object") = true
theorem ownTo_pass {tail : List Value} (hp : ∀ self, refuseLoop self "__setattr__" tail = pure ()) (self : Value) : ∀ (l : List Value), ownTo tail l = true → refuseLoop self "__setattr__" l = pure () := by
  intro l
  induction l with
  | nil =>
    intro e
    have e2 : [] = tail := eq_of_beq e
    rw [e2]; exact hp self
  | cons a r ih =>
    intro e
    rcases ownTo_or e with ⟨c, r2, q, h⟩ | q
    · cases q
      rw [refuseLoop_ref]; exact ih h
    · rw [q]; exact hp self
theorem ownTo_has {tail : List Value} (X : String) : ∀ (l : List Value), ownTo tail l = true → l.contains (.type X) = tail.contains (.type X) := by
  intro l
  induction l with
  | nil =>
    intro e
    have e2 : [] = tail := eq_of_beq e
    rw [e2]
  | cons a r ih =>
    intro e
    rcases ownTo_or e with ⟨c, r2, q, h⟩ | q
    · cases q
      rw [List.contains_cons, ih h]; rfl
    · rw [q]
abbrev tailV : List Value := [.type "ValueError", .type "Exception", .type "BaseException", .type "object"]
abbrev tailR : List Value := [.type "RuntimeError", .type "Exception", .type "BaseException", .type "object"]
abbrev tailL : List Value := [.type "LookupError", .type "Exception", .type "BaseException", .type "object"]
abbrev tailA : List Value := [.type "ArithmeticError", .type "Exception", .type "BaseException", .type "object"]
theorem baseV : BaseX tailV "ValueError.__new__" := ⟨⟨_, _, F.excBase_ValueError⟩, F.store_ValueError.passes, by decide +kernel⟩
theorem baseR : BaseX tailR "RuntimeError.__new__" := ⟨⟨_, _, F.excBase_RuntimeError⟩, F.store_RuntimeError.passes, by decide +kernel⟩
theorem baseL : BaseX tailL "LookupError.__new__" := ⟨⟨_, _, F.excBase_LookupError⟩, F.store_LookupError.passes, by decide +kernel⟩
theorem baseA : BaseX tailA "ArithmeticError.__new__" := ⟨⟨_, _, F.excBase_ArithmeticError⟩, F.store_ArithmeticError.passes, by decide +kernel⟩
/-- what the written part says of an own exception class -/
structure OxC (K : PySem.W.Frag) (tail : List Value) (newId : String) (C : Addr) : Prop where
  cls : ∃ nm q N bs bm sn sub ab col dd k0 k1 k2 k3 k5, K.lookup C = some (excClassObj nm q C N bs bm true sn sub ab col dd k0 k1 k2 k3 k5 newId) ∧ ownTo tail bm = true
  sets : PySem.W.findIn K (.ref C) "__setattr__" = some (some (.builtin "object.__setattr__"))
  exc : PySem.W.subIn K (.ref C) (.type "BaseException") = some true
  typ : PySem.W.typeIn K (.ref C) = some (.type "type")
  kp : PySem.W.keepIn K (.ref C) = true

section
variable {prog : Program} {w : World} {A : Around} {R : Result → Shared → Prop} {hp : Heap} {gs : Array GenState} {dr : Drawn} {tk0 : Nat} {os : OsState} {K : PySem.W.Frag}
open Builtin Builtin.ObjectAttr in
/-- object.__setattr__ on an exception that has no dict as yet -/
theorem exset {name : Str} {tk : Tok} {v : Value} {x C : Addr} {fv : Array Value} {cd : ClassData} (inK : K.In hp) (at_ : hp.get? x = some { cls := .ref C, data := .fields fv }) (isC : PySem.W.clsIn K C = some cd)
    (full : cd.mro.isEmpty = false) (obj : cd.mro.contains (.type "object") = true) (pass : ∀ self, refuseLoop self "__setattr__" cd.mro = pure ()) (dct : cd.hasDict = true) (noA : PySem.W.findIn K (.ref C) name = some none)
    (more : ∀ h2 tk2 dx, (∀ b o, b ≠ x → hp.get? b = some o → h2.get? b = some o) → hp.objs.size ≤ dx → dx ≠ x → h2.get? x = some { cls := .ref C, dict := some dx, data := .fields fv } →
      h2.Ns1 dx (fun y => if y = name then some v else none) → R (.ok (.ret .none)) ⟨h2, gs, dr, tk2, os⟩) :
    codeAny (model prog w) A (.call (.builtin "object.__setattr__") ⟨[.ref x, .str name tk, v], []⟩) R ⟨hp, gs, dr, tk0, os⟩ := by
  have inst : PySem.W.InstAt hp x { cls := .ref C, data := .fields fv } C none := ⟨at_, rfl, rfl, trivial⟩
  have st := F.store_object
  have nx : x ≠ hp.objs.size := Nat.ne_of_lt (Heap.lt_size at_)
  have isO : PySem.W.Looks (model prog w) hp (isInstance (.ref x) (.type "object")) true := by
    refine inst.type.andThen (PySem.W.looks_mroIn inK ?_)
    unfold PySem.W.mroIn
    rw [isC, Option.bind_some, if_neg (by rw [full]; decide), obj]
  have mr : PySem.W.Looks (model prog w) hp (mroOf (.ref C)) cd.mro := (PySem.W.looks_clsIn inK isC).andThen .now
  have nt : PySem.W.Looks (model prog w) hp (storeTaker? none) none := .now
  have cl : PySem.W.Looks (model prog w) hp (classData C) cd := PySem.W.looks_clsIn inK isC
  refine codeAny_call_builtin st.slot.plain st.entry ?_
  refine @PySem.W.check_slot (model prog w) _ _ ⟨hp, gs, dr, tk0, os⟩ "object.__setattr__" "object" "__setattr__" (.ref x) [.str name tk, v] [] _ st.kind st.split isO (st.args (.ref x) (.str name tk) v) ?_
  rw [PySem.W.osa_eq, refuse_eq]
  refine wpAny_bind (wpAny_bind (inst.type.at (wpAny_bind (mr.at ?_))))
  rw [pass]
  refine wpAny_pure (wpAny_bind (inst.type.at ?_))
  refine wpAny_bind ((PySem.W.looks_findIn inK noA).at (wpAny_bind (nt.at ?_)))
  show wpAny _ _ (storeInOwnDict (.ref x) (.ref C) (.str name tk) name v false) _ _ _
  obtain ⟨c1, c2, c3, c4, c5, c6, c7, c8, c9, c10, c11⟩ := cd
  have e6 : c6 = true := dct
  subst e6
  unfold storeInOwnDict; unfold ownDictForStores
  repeat (first | with_reducible refine PySem.HandSPX.store_in_new ?_ ?_ | with_reducible refine cl.at ?_ | with_reducible refine wpAny_loadPart_at at_ ?_ | wp_step)
  · refine ⟨_, #[], _, (Heap.get?_update_ne _ _ _ _ nx.symm).trans (Heap.get?_push_at rfl rfl), rfl, fun e he => ?_, fun _ => rfl⟩
    exact absurd he (by simp)
  · intro h2 tk2 n2 same
    refine more h2 tk2 hp.objs.size (fun b o hb ho => ?_) (Nat.le_refl _) nx.symm ?_ n2
    · refine (same.2 b (Nat.ne_of_lt (Heap.lt_size ho))).trans ?_
      exact (Heap.get?_update_ne _ _ _ _ hb).trans (Heap.get?_push_of_some _ ho)
    · have q := Heap.get?_update_self (fun o => { o with dict := some hp.objs.size }) (Heap.get?_push_of_some { cls := .type "dict", data := .dict #[] } at_) rfl
      exact (same.2 x nx).trans q
end

section
variable {X : Cx} {pins : List (Addr × Obj)} {σ : L2.St} {H : Hp} {s : Shared} {a C : Addr} {f : Str} {y : V} {u : Value} {tail : List Value} {newId : String}
/-- self.f = y on an exception being made -/
theorem ex_store {Q : Unit → Shared → Prop} {E : Value → Shared → Prop} {A : Around} (B : BaseX tail newId) (T : OxC X.K tail newId C) (I : Inv X pins σ H s) (ea : H a = some (exo a C none)) (noA : PySem.W.findIn X.K (.ref C) f = some none) (ry : RelV y u)
    (h : ∀ dx s', H dx = none → dx ≠ a → Inv X pins σ (upd (upd H dx (exd dx [(f, y)])) a (exo a C (some dx))) s' → Q () s') : wpAny (model X.prog X.w) A (setAttr (.ref a) f u) Q E s := by
  obtain ⟨n1, n2, N, b1, bm, s1, s2, b2, c1, d1, k0, k1, k2, k3, k5, look, own⟩ := T.cls
  obtain ⟨t1, ho⟩ := exo_at I.hok ea
  obtain ⟨hp, g, d, t, os⟩ := s
  have isC : PySem.W.clsIn X.K C = some { name := n1, bases := b1, mro := .ref C :: bm, ns := N, qualname := n2, hasDict := true, slotNames := s1, subclasses := s2, abstract := b2, collection := c1, hasDel := false } := by
    unfold PySem.W.clsIn
    rw [look] <;> rfl
  have own2 : ownTo tail (.ref C :: bm) = true := own
  refine PySem.W.set_plain I.kIn (ox := { cls := .ref C, dict := none, data := .fields #[.ref t1, .none, .none, .none, .bool false, .none] }) (od := none) ⟨ho, rfl, rfl, trivial⟩ T.sets ?_
  refine exset I.kIn ho isC rfl ((ownTo_has "object" _ own2).trans B.obj) (fun self => ownTo_pass B.pass self _ own2) rfl noA ?_
  intro h2 tk2 dx kp dn dne hx hn
  have hnd : H dx = none := I.hok.fresh dn
  have old : ∀ {b : Addr} {o : Obj}, hp.get? b = some o → b ≠ dx := fun z => Nat.ne_of_lt (Nat.lt_of_lt_of_le (Heap.lt_size z) dn)
  have apart : ∀ {b : Addr}, H b = none → b ≠ a := fun n z => by rw [z, ea] at n; cases n
  have two : ∀ {b : Addr} {o : HO}, H b = some o → o ≠ exo a C none → (upd (upd H dx (exd dx [(f, y)])) a (exo a C (some dx))) b = some o := fun {b o} z no => by
    have n1 : b ≠ a := fun e => by
      rw [e, ea] at z
      exact no (Option.some.inj z).symm
    rw [upd_ne n1, upd_ne (ne_of_none z hnd)]
    exact z
  have un : Un X.fs [] H (upd (upd H dx (exd dx [(f, y)])) a (exo a C (some dx))) hp h2 := by
    refine ⟨fun b o q n _ _ => kp b o (apart n) q, fun b o q n _ _ => ⟨o.slots, kp b o (apart n) q⟩, fun b o q n _ => ?_, fun b o q _ => ?_, fun b xs q => two q fun z => exo_tup z.symm, fun b o v q => two q fun z => exo_frz z.symm, fun b ps q => ⟨#[], ?_⟩⟩
    · rw [upd_ne (apart n), upd_ne (old q)]; exact n
    · by_cases e : b = a
      · exact ⟨_, e ▸ hx⟩
      · exact ⟨o, kp b o e q⟩
    · rw [two q fun z => exo_tbl z.symm]; simp
  refine h dx _ hnd dne (I.un (t' := tk2) un fun b o q => ?_)
  by_cases e1 : b = a
  · subst e1
    rw [upd_same] at q
    cases q
    exact exo_ok hx
  rw [upd_ne e1] at q
  by_cases e2 : b = dx
  · subst e2
    rw [upd_same] at q
    cases q
    exact exd_ok hn (relO_put (fs := []) ry fun _ => True.intro)
  rw [upd_ne e2] at q
  refine (I.hok b o q).stay (fun c v hc z => kp c v ?_ z) (fun c hc => two hc fun z => exo_own z.symm) (fun c xs hc => two hc fun z => exo_tup z.symm)
  rcases hc with hc | hc
  · rw [hc]; exact e1
  · exact fun e => by
      rw [e, ea] at hc
      exact exo_own (Option.some.inj hc)
/-- self.f = e in such an __init__ -/
def yOst (C : Addr) (f : Str) (to te : TE) : TS := fun D σ H => te σ H fun y H1 => to σ H1 fun x H2 => match x with
  | .ref a => H2 a = some (exo a C none) ∧ ∀ dx, H2 dx = none → dx ≠ a → D.nx σ (upd (upd H2 dx (exd dx [(f, y)])) a (exo a C (some dx)))
  | _ => False
theorem ys_ost {o e : Expr} {to te : TE} {p' pos : Pos} (B : BaseX tail newId) (T : OxC X.K tail newId C) (noA : PySem.W.findIn X.K (.ref C) f = some none) (ho : PE X o to) (he : PE X e te)
    (hs : swapsWith e (some (.Attribute o f p')) pos.line X.env = pure false := by rfl) : PS X (.Assign [.Attribute o f p'] e pos) (yOst C f to te) := by
  constructor
  intro pins s σ H D I h
  refine plainObj_wpAny_Assign_Attribute (thn (he.run pins s σ H _ I h) ?_) hs
  rintro v s1 ⟨y, H1, I1, r1, q1⟩
  refine thn (ho.run pins s1 σ H1 _ I1 q1) ?_
  rintro u s2 ⟨x, H2, I2, r2, q⟩
  cases x with
  | ref a =>
    obtain rfl : u = Value.ref a := r2
    exact ex_store B T I2 q.1 noA r1 fun dx s' n ne J => ⟨σ, _, J, q.2 dx n ne⟩
  | _ => exact q.elim
/-- what such an __init__ promises -/
def spExc (C : Addr) (f : Str) : Sp := fun vs H Q _ => ∃ a v, vs = [.ref a, v] ∧ H a = some (exo a C none) ∧ ∀ dx, H dx = none → dx ≠ a → Q .non (upd (upd H dx (exd dx [(f, v)])) a (exo a C (some dx)))
/-- the class x at C: an exception that keeps its one argument as f -/
def CalE (P : Program) (w : World) (K : PySem.W.Frag) (mg : Str → Option Value) (base : Heap) (k : Nat) (x : Str) (C : Addr) (f : Str) : Prop :=
  ∃ (fI : Addr) (fd : FuncData) (ps : List Str) (tail : List Value) (newId : String), FnG P w K mg base CX0 k fI fd ps (spExc C f) ∧ BaseX tail newId ∧ OxC K tail newId C ∧ PySem.W.findIn K (.ref C) "__init__" = some (some (.ref fI)) ∧
    PySem.W.typeIn K (.ref fI) = some (.type "function") ∧ mg x = some (.ref C) ∧ Binds K fd ps []
def tMkE (C : Addr) (f : Str) (ta : TA) : L2.St → Hp → XK → Prop := fun σ H Q => ta σ H fun vs H1 => match vs with
  | [v] => ∀ dd, H1 dd = none → Q (.ref C) (some dd) (upd H1 dd (.xd [(f, v)]))
  | _ => False
theorem made_eq {H1 : Hp} {dx : Addr} {v : V} (ha : H1 a = none) (hd : H1 dx = none) (ne : dx ≠ a) : upd (del (upd (upd (upd H1 a (exo a C none)) dx (exd dx [(f, v)])) a (exo a C (some dx))) a) dx (.xd [(f, v)]) = upd H1 dx (.xd [(f, v)]) := by
  funext b
  by_cases e : b = dx
  · rw [e, upd_same, upd_same]
  · rw [upd_ne e, upd_ne e]
    by_cases e2 : b = a
    · rw [e2, del_same, ha]
    · rw [del_ne e2, upd_ne e2, upd_ne e, upd_ne e2]
theorem pmkE {k j : Nat} {x : Str} {e : Expr} {es : List Expr} {ta : TA} {p pos : Pos} (c : CalE X.prog X.w X.K X.mg X.base k x C f) (room : Room j X.A) (gd : X.A.guards = some []) (hg : Gl X x) (ha : PA X (e :: es) ta) (hk : k + 1 ≤ j := by decide)
    (hdb : (x == ("__debug__" : Str)) = false := by decide) (h1 : starEach (e :: es) X.env = (false, eval e X.env) :: starEach es X.env := by rfl) (h2 : (backTo pos (starEach es X.env)).any (·.1) = false := by rfl) :
    PMk X (.Call (.Name x p) (e :: es) [] pos) (tMkE C f ta) := by
  obtain ⟨fI, fd, ps, tail, newId, F1, B, T, iC, tI, hm, hb⟩ := c
  intro pins s σ H Q I h
  obtain ⟨n1, n2, N, b1, bm, s1, s2, b2, c1, d1, k0, k1, k2, k3, k5, look, own⟩ := T.cls
  obtain ⟨B0, initId, FB⟩ := B.base
  refine wpAny_Call_Name_kw (ld_glob I hg hm ?_ hdb)
  refine PySem.W.callWith_K (h₀ := X.base) I.ok.mod.kin T.kp (thn (ha.run pos pins s σ H _ I h) ?_) h1 h2
  rintro us s1 ⟨vs, H1, I1, r1, q1⟩
  refine ⟨I1.kIn, ?_⟩
  show wpAny _ _ (call (.ref C) us) _ _ _
  have one : ∃ v, vs = [v] ∧ ∀ dd, H1 dd = none → Q (.ref C) (some dd) (upd H1 dd (.xd [(f, v)])) := match vs, q1 with | [v], q => ⟨v, rfl, q⟩
  obtain ⟨v, rfl, q1⟩ := one
  obtain ⟨hp, g, dr, tk, os⟩ := s1
  let a : Addr := hp.objs.size + 1
  let h1 : Heap := (hp.push (PySem.W.kdv_tup us)).push (PySem.HandSPX.excO C hp.objs.size)
  have le : hp.objs.size ≤ a := Nat.le_succ _
  have na : H1 a = none := I1.hok.fresh le
  have keep : ∀ b o, hp.get? b = some o → h1.get? b = some o := fun b o z => Heap.get?_push_of_some _ (Heap.get?_push_of_some _ z)
  have got : h1.get? a = some (PySem.HandSPX.excO C hp.objs.size) := by show ((hp.push (PySem.W.kdv_tup us)).push _).get? (hp.objs.size + 1) = _; heap_get
  have I2 : Inv X pins σ (upd H1 a (exo a C none)) ⟨h1, g, dr, tk, os⟩ := I1.laid (t' := tk) (a := a) (o := exo a C none) (h' := h1) keep le (exo_ok got)
  have r2 : Vals [V.ref a, v] (Value.ref a :: us) := .cons rfl r1
  have want : spExc C f [.ref a, v] (upd H1 a (exo a C none)) (fun z H2 => z = .non ∧ ∃ (d : Addr) (fs : List (Str × V)), H2 a = some (exo a C (some d)) ∧ H2 d = some (exd d fs) ∧ H1 d = none ∧ Q (.ref C) (some d) (upd (del H2 a) d (.xd fs))) (fun _ _ _ => False) := by
    refine ⟨a, v, rfl, upd_same, fun dx hdx ne => ⟨rfl, dx, [(f, v)], upd_same, ?_, ?_, ?_⟩⟩
    · rw [upd_ne ne, upd_same]
    · rw [upd_ne ne] at hdx; exact hdx
    · rw [upd_ne ne] at hdx
      rw [made_eq na hdx ne]
      exact q1 dx hdx
  have ln : (Value.ref a :: us).length = ps.length := r2.length ▸ F1.arity _ _ _ _ want
  have small : us.length ≤ sizeLine := by
    rw [← r1.length, sizeLine_eq]
    show 1 ≤ _
    omega
  have bnd := hb _ (Value.ref a :: us) I2.kIn (by rw [List.append_nil]; exact ln)
  rw [List.append_nil] at bnd
  have run := F1.goes _ X.stack _ _ ⟨Value.ref a :: us, []⟩ (Value.ref a :: us) _ _ (fun _ _ _ => False) ((room.mono hk).make C us []) gd (I2.env0.make C us []) bnd r2 want
  refine wpAny_call (PySem.HandSPX.call_own FB (fun Y => ownTo_has Y bm own) (I1.kIn _ _ look) (PySem.W.looks_findIn I1.kIn iC) (fun self => PySem.W.bind_fn I1.kIn self tI) small (codeAny_mono run ?_))
  intro r s' hq
  match r, hq with
  | .error er, hq => exact (pass0 (X := X) pins σ _ _ er s' I2 hq)
  | .ok .next, hq => exact hq.elim
  | .ok .brk, hq => exact hq.elim
  | .ok .cont, hq => exact hq.elim
  | .ok (.ret u), hq =>
    obtain ⟨v2, H2, os2, bare2, un2, hok2, rv, ev, d, fs, ea, ed, hd1, q2⟩ := hq
    subst ev
    obtain ⟨h3, g3, d3, t3, os3⟩ := s'
    exact ⟨rv, mk_end (raises_own T.exc T.typ) I1 le keep un2 hok2 os2 bare2 ea ed hd1 q2⟩
end
end Y

set_option Elab.async false
set_option linter.all false
set_option maxRecDepth 100000
set_option maxHeartbeats 2000000
/-! X2: own exceptions found in the head; defs and methods that may raise; defs called where an exception is handled. -/
namespace Y
open PySem PySem.Spec PyProof.Rows L2
def oxB (K : PySem.W.Frag) (tail : List Value) (newId : String) (C : Addr) : Bool :=
  (match K.lookup C with
    | some ⟨.type t, _, .cls cd, sl⟩ => decide (t = "type") && (match cd.mro, sl.toList with
      | .ref C2 :: bm, [_, _, _, _, some (.builtin n), _] => decide (C2 = C) && (decide (n = newId) && (!cd.hasDel && (cd.hasDict && ownTo tail bm)))
      | _, _ => false)
    | _ => false) && (He.eqO (PySem.W.findIn K (.ref C) "__setattr__") (some (some (.builtin "object.__setattr__"))) && (decide (PySem.W.subIn K (.ref C) (.type "BaseException") = some true) && (decide (PySem.W.typeIn K (.ref C) = some (.type "type")) && PySem.W.keepIn K (.ref C))))
theorem oxB_ok {K : PySem.W.Frag} {tail : List Value} {newId : String} {C : Addr} (h : oxB K tail newId C = true) : OxC K tail newId C := by
  obtain ⟨h0, h⟩ := He.ba h
  obtain ⟨h1, h⟩ := He.ba h
  obtain ⟨h2, h⟩ := He.ba h
  obtain ⟨h3, h4⟩ := He.ba h
  refine ⟨?_, He.eqO_ok h1, of_decide_eq_true h2, of_decide_eq_true h3, h4⟩
  split at h0
  · rename_i t dd cd sl look
    obtain ⟨g1, g2⟩ := He.ba h0
    have e1 := of_decide_eq_true g1
    subst e1
    split at g2
    · rename_i C2 bm k0 k1 k2 k3 n k5 hm hs
      obtain ⟨g3, g2⟩ := He.ba g2
      obtain ⟨g4, g2⟩ := He.ba g2
      obtain ⟨g5, g2⟩ := He.ba g2
      obtain ⟨g6, g7⟩ := He.ba g2
      have e2 := of_decide_eq_true g3
      have e3 := of_decide_eq_true g4
      subst e2 e3
      obtain ⟨a1, a2, a3, a4, a5, a6, a7, a8, a9, a10, a11⟩ := cd
      have e4 : a3 = .ref C2 :: bm := hm
      have e5 : a6 = true := g6
      have e6 : a11 = false := by
        have : (!a11) = true := g5
        cases a11 with
        | false => rfl
        | true => cases this
      have e7 : sl = #[k0, k1, k2, k3, some (.builtin n), k5] := by
        obtain ⟨l⟩ := sl
        exact congrArg Array.mk hs
      subst e4 e5 e6 e7
      exact ⟨_, _, _, _, _, _, _, _, _, _, _, _, _, _, _, look, g7⟩
    · cases g2
  · cases h0
section
variable {P : Program} {w : World} {K : PySem.W.Frag} {mg : Str → Option Value} {base : Heap} {k : Nat} {C : Addr} {m q x f : Str} {sp : Sp} {tail : List Value} {newId : String}
/-- the def st is the __init__ of the exception class x at C -/
def ExAt (K : PySem.W.Frag) (mg : Str → Option Value) (x : Str) (C : Addr) (q : Str) (st : Stmt) (dvs : List V) : Prop :=
  ∃ f fd, FunD K "__init__" q (defArgs st) (defBody st) (defScope st) dvs [] f fd ∧ Meth K C "__init__" f ∧ mg x = some (.ref C)
theorem bodyG {st : Stmt} {N ps : List Str} {f : Addr} {fd : FuncData} {dvs : List V} {kws : List (Str × V)} (F : FunD K m q (defArgs st) (defBody st) (defScope st) dvs kws f fd) (S : FnScope N ps (defScope st))
    (ar : ∀ vs H Q E, sp vs H Q E → vs.length = ps.length)
    (hb : ∀ (f : Addr) (cd : Value) (A : Around) (out : List Env) (s : Shared) (H : Hp) (vs : List V) (Q : VK) (E : XK), Room k (A.deeper (envOfC q (defScope st) s.heap.objs.size f cd)) → (A.deeper (envOfC q (defScope st) s.heap.objs.size f cd)).guards = some [] → sp vs H Q E →
      ∃ t, PSs (cxOf CX0 P w K mg base N q (defScope st) f cd A out s H E).nox (defBody st) t ∧ t { nx := fun _ H' => Q .non H', rt := Q } (start N vs) H) : FnG P w K mg base CX0 (k + 1) f fd ps sp := by
  refine funD_goes F S ar fun cd A out s H vs Q E r g z => ?_
  obtain ⟨t, z1, z2⟩ := hb f cd A out s H vs Q E r g z
  exact ⟨t, z1.nox, z2⟩
theorem calE_of {st : Stmt} {N ps : List Str} {dvs : List V} (D : ExAt K mg x C q st dvs) (B : BaseX tail newId) (T : OxC K tail newId C) (S : FnScope N ps (defScope st)) (two : ps.length = 2)
    (bnd : ∀ g fd, FunD K "__init__" q (defArgs st) (defBody st) (defScope st) dvs [] g fd → Binds K fd ps [])
    (hb : ∀ (f' : Addr) (cd : Value) (A : Around) (out : List Env) (s : Shared) (H : Hp) (vs : List V) (Q : VK) (E : XK), Room k (A.deeper (envOfC q (defScope st) s.heap.objs.size f' cd)) → (A.deeper (envOfC q (defScope st) s.heap.objs.size f' cd)).guards = some [] → spExc C f vs H Q E →
      ∃ t, PSs (cxOf CX0 P w K mg base N q (defScope st) f' cd A out s H E).nox (defBody st) t ∧ t { nx := fun _ H' => Q .non H', rt := Q } (start N vs) H) : CalE P w K mg base (k + 1) x C f := by
  obtain ⟨g, fd, F, hm, hx⟩ := D
  exact ⟨g, fd, ps, tail, newId, bodyG F S (fun vs H Q E h => by obtain ⟨a, v, rfl, _⟩ := h; exact two.symm) hb, B, T, hm.at_, beq_iff_eq.mp hm.fn, hx, bnd g fd F⟩
/-! ### defs and methods that may raise -/
def CalX (P : Program) (w : World) (K : PySem.W.Frag) (mg : Str → Option Value) (base : Heap) (k : Nat) (x : Str) (sp : Sp) : Prop :=
  ∃ f fd ps, FnG P w K mg base (L2.CX P w) k f fd ps sp ∧ mg x = some (.ref f) ∧ PySem.W.keepIn K (.ref f) = true ∧ Binds K fd ps []
def CalMX (P : Program) (w : World) (K : PySem.W.Frag) (mg : Str → Option Value) (base : Heap) (k : Nat) (C : Addr) (m : Str) (sp : Sp) : Prop :=
  ∃ f fd ps, FnG P w K mg base (L2.CX P w) k f fd ps sp ∧ Cls K C ∧ Meth K C m f ∧ Binds K fd ps []
theorem calX_of {st : Stmt} {N ps : List Str} (D : DefAt K mg x st) (S : FnScope N ps (defScope st))
    (bnd : ∀ (kV doc pm : Value) (an : Option Addr) (cdv ct : Value) (us : List Value), us.length = ps.length → bindArgs (PySem.W.fnOf x x (defArgs st) (defBody st) (defScope st) .none kV doc pm an cdv ct) ⟨us, []⟩ = pure (ps.zip us))
    (ar : ∀ vs H Q E, sp vs H Q E → vs.length = ps.length)
    (hb : ∀ (f : Addr) (cd : Value) (A : Around) (out : List Env) (s : Shared) (H : Hp) (vs : List V) (Q : VK) (E : XK), Room k (A.deeper (envOfC x (defScope st) s.heap.objs.size f cd)) → (A.deeper (envOfC x (defScope st) s.heap.objs.size f cd)).guards = some [] → Takes (cxOf (L2.CX P w) P w K mg base N x (defScope st) f cd A out s H E) (fun cls d _ H => E cls d H) → sp vs H Q E →
      ∃ t, PSs (cxOf (L2.CX P w) P w K mg base N x (defScope st) f cd A out s H E) (defBody st) t ∧ t { nx := fun _ H' => Q .non H', rt := Q } (start N vs) H) : CalX P w K mg base (k + 1) x sp := by
  obtain ⟨f, fd, F, hm⟩ := D
  exact ⟨f, fd, ps, funD_goes F S ar fun cd A out s H vs Q E r g z => hb f cd A out s H vs Q E r g (takes_of rfl rfl rfl rfl) z, hm, F.kp, F.bindsN bnd⟩
theorem calMX_of {st : Stmt} {N ps : List Str} (D : MetAt K C m q st) (c : Cls K C) (S : FnScope N ps (defScope st))
    (bnd : ∀ (kV doc pm : Value) (an : Option Addr) (cdv ct : Value) (us : List Value), us.length = ps.length → bindArgs (PySem.W.fnOf m q (defArgs st) (defBody st) (defScope st) .none kV doc pm an cdv ct) ⟨us, []⟩ = pure (ps.zip us))
    (ar : ∀ vs H Q E, sp vs H Q E → vs.length = ps.length)
    (hb : ∀ (f : Addr) (cd : Value) (A : Around) (out : List Env) (s : Shared) (H : Hp) (vs : List V) (Q : VK) (E : XK), Room k (A.deeper (envOfC q (defScope st) s.heap.objs.size f cd)) → (A.deeper (envOfC q (defScope st) s.heap.objs.size f cd)).guards = some [] → Takes (cxOf (L2.CX P w) P w K mg base N q (defScope st) f cd A out s H E) (fun cls d _ H => E cls d H) → sp vs H Q E →
      ∃ t, PSs (cxOf (L2.CX P w) P w K mg base N q (defScope st) f cd A out s H E) (defBody st) t ∧ t { nx := fun _ H' => Q .non H', rt := Q } (start N vs) H) : CalMX P w K mg base (k + 1) C m sp := by
  obtain ⟨f, fd, F, hm⟩ := D
  exact ⟨f, fd, ps, funD_goes F S ar fun cd A out s H vs Q E r g z => hb f cd A out s H vs Q E r g (takes_of rfl rfl rfl rfl) z, c, hm, F.bindsN bnd⟩
end
section
variable {X : Cx} {k j : Nat} {C : Addr} {m x : Str} {sp : Sp} {p pos apos : Pos} {e o : Expr} {es : List Expr} {ta : TE} {t : TA} {W : WX}
theorem goes_fnX {f : Addr} {fd : FuncData} {ps : List Str} {pins : List (Addr × Obj)} {σ : L2.St} {H : Hp} {s : Shared} {Q : VK} {us : List Value} {vs : List V} (F : FnG X.prog X.w X.K X.mg X.base (L2.CX X.prog X.w) k f fd ps sp) (room : Room k X.A) (gd : X.A.guards = some [])
    (hb : Binds X.K fd ps []) (tk : Takes X W) (I : Inv X pins σ H s) (rel : Vals vs us) (want : sp vs H Q (WE W σ)) : wpAny (model X.prog X.w) X.A (call (.ref f) us) (EP X pins σ Q) X.xe s := by
  have ln : us.length = ps.length := rel.length ▸ F.arity _ _ _ _ want
  have b := hb s us I.kIn (by rw [List.append_nil]; exact ln)
  rw [List.append_nil] at b
  refine wpAny_call (codeAny_mono (F.goes X.A X.stack s H ⟨us, []⟩ us vs Q (WE W σ) room gd I.env0 b rel want) ?_)
  intro r s' hq
  match r, hq with
  | .error er, hq => exact passAt tk σ pins H s er s' I hq
  | .ok (.ret u), hq => exact I.after hq
  | .ok .next, hq => exact hq.elim
  | .ok .brk, hq => exact hq.elim
  | .ok .cont, hq => exact hq.elim
def yCallX (sp : Sp) (W : WX) (t : TA) : TE := fun σ H Q => t σ H fun vs H1 => sp vs H1 Q (WE W σ)
theorem ye_callX (tk : Takes X W) (c : CalX X.prog X.w X.K X.mg X.base k x sp) (room : Room j X.A) (gd : X.A.guards = some []) (hg : Gl X x) (ha : PA X (e :: es) t) (hk : k ≤ j := by decide) (hdb : (x == ("__debug__" : Str)) = false := by decide)
    (h1 : starEach (e :: es) X.env = (false, eval e X.env) :: starEach es X.env := by rfl) (h2 : (backTo pos (starEach es X.env)).any (·.1) = false := by rfl) :
    PE X (.Call (.Name x p) (e :: es) [] pos) (yCallX sp W t) := by
  obtain ⟨f, fd, ps, F, hm, kp, hb⟩ := c
  constructor
  intro pins s σ H Q I h
  refine wpAny_Call_Name_kw (ld_glob I hg hm ?_ hdb)
  refine PySem.W.callWith_K (h₀ := X.base) I.ok.mod.kin kp (thn (ha.run pos pins s σ H _ I h) ?_) h1 h2
  rintro us s1 ⟨vs, H1, I1, r, q⟩
  exact ⟨I1.kIn, goes_fnX (F.up hk) room gd hb tk I1 r q⟩
def yMethX (C : Addr) (m : Str) (sp : Sp) (W : WX) (ta : TE) (t : TA) : TE := fun σ H Q => ta σ H fun x H1 => match x with
  | .ref a => ∃ dx fs, H1 a = some (.ins C dx fs) ∧ fs.lookup m = none ∧ t σ H1 fun vs H2 => sp (.ref a :: vs) H2 Q (WE W σ)
  | _ => False
theorem ye_methX {pl : Sem Bool} (tk : Takes X W) (c : CalMX X.prog X.w X.K X.mg X.base k C m sp) (room : Room j X.A) (gd : X.A.guards = some []) (he : PE X o ta) (ha : PA X (e :: es) t) (hk : k ≤ j := by decide)
    (h1 : starEach (e :: es) X.env = (false, eval e X.env) :: starEach es X.env := by rfl) (h2 : (backTo pos (starEach es X.env)).any (·.1) = false := by rfl)
    (ht : eval (.Call (.Attribute o m apos) (e :: es) [] pos) X.env = (do
      let ov ← eval o X.env
      standAt apos.atName
      let (g, one) ← holding [ov] (getMethod ov m pl)
      callWith pos g one (backTo pos (starEach (e :: es) X.env)) (backToKw pos (keywordEach [] X.env))) := by rfl) :
    PE X (.Call (.Attribute o m apos) (e :: es) [] pos) (yMethX C m sp W ta t) := by
  obtain ⟨g, fd, ps, F, cl, hm, hb⟩ := c
  constructor
  intro pins s σ H Q I h
  refine PySem.W.methodCall_KW (pl := pl) (thn (he.run pins s σ H _ I h) ?_) ht
  rintro u s1 ⟨x, H1, I1, rx, q⟩
  cases x with
  | ref a =>
    obtain ⟨dx, fs, ea, l, q⟩ := q
    obtain rfl : u = Value.ref a := rx
    refine getmeth_ok I1 ea cl hm l (PySem.W.callWith_K (first := [.ref a]) (h₀ := X.base) I.ok.mod.kin hm.kp (thn (ha.run pos pins s1 σ H1 _ I1 q) ?_) h1 h2)
    rintro us s2 ⟨vs, H2, I2, r, q2⟩
    exact ⟨I2.kIn, goes_fnX (us := .ref a :: us) (vs := .ref a :: vs) (F.up hk) room gd hb tk I2 (.cons rfl r) q2⟩
  | _ => exact q.elim
theorem ye_methX0 {pl : Sem Bool} (tk : Takes X W) (c : CalMX X.prog X.w X.K X.mg X.base k C m sp) (room : Room j X.A) (gd : X.A.guards = some []) (he : PE X o ta) (hk : k ≤ j := by decide)
    (ht : eval (.Call (.Attribute o m apos) [] [] pos) X.env = (do
      let ov ← eval o X.env
      standAt apos.atName
      let (g, one) ← holding [ov] (getMethod ov m pl)
      callWith pos g one (backTo pos (starEach [] X.env)) (backToKw pos (keywordEach [] X.env))) := by rfl) :
    PE X (.Call (.Attribute o m apos) [] [] pos) (yMethX C m sp W ta tNil) := by
  obtain ⟨g, fd, ps, F, cl, hm, hb⟩ := c
  constructor
  intro pins s σ H Q I h
  refine PySem.W.methodCall_KW (pl := pl) (thn (he.run pins s σ H _ I h) ?_) ht
  rintro u s1 ⟨x, H1, I1, rx, q⟩
  cases x with
  | ref a =>
    obtain ⟨dx, fs, ea, l, q⟩ := q
    obtain rfl : u = Value.ref a := rx
    exact getmeth_ok I1 ea cl hm l (PySem.W.callWith_K0 (first := [.ref a]) I1.kIn hm.kp (goes_fnX (us := [.ref a]) (vs := [.ref a]) (F.up hk) room gd hb tk I1 (.cons rfl .nil) q))
  | _ => exact q.elim
end
end Y

set_option Elab.async false
set_option linter.all false
set_option maxRecDepth 100000
set_option maxHeartbeats 2000000
/-! X3: where an exception is handled: defs called there, isinstance of it, its fields; try. -/
theorem L2H.RoomH.units {k : Nat} {A : PySem.Around} (r : L2H.RoomH k A) : A.units + 64 < PySem.cLine := by have := r.un; omega
namespace Y
open PySem PySem.Spec PyProof.Rows L2
theorem hotRoom {k : Nat} {A : Around} {v : Option Value} (r : Room k A) : L2H.RoomH k (A.mark v) := ⟨r.dp, r.un⟩
theorem hotGd {A : Around} {v : Option Value} (g : A.guards = some []) : (A.mark v).guards = some [] := g
/-- e is the exception at a, of the class c, its dict d -/
structure IsEx (X : Cx) (a : Addr) (c : Value) (d : Option Addr) : Prop where
  ex : ∃ oe, (a, oe) ∈ X.pn ∧ Zc c d oe ∧ ∃ fv, oe.data = .fields fv
/-- a def's promise, kept where an exception is handled: sp is told where it stands, its class, its dict -/
structure FnE (P : Program) (w : World) (K : PySem.W.Frag) (mg : Str → Option Value) (base : Heap) (k : Nat) (f : Addr) (fd : FuncData) (ps : List Str) (sp : Addr → Value → Option Addr → Sp) : Prop where
  arity : ∀ a c d vs H Q E, sp a c d vs H Q E → vs.length = ps.length
  goes : ∀ (A : Around) (outer : List Env) (s : Shared) (H : Hp) (args : Args) (us : List Value) (vs : List V) (Q : VK) (E : XK) (p : Addr × Obj) (c : Value) (d : Option Addr), L2H.RoomH k A → A.guards = some [] → L2H.PinOk outer H s p → Zc c d p.2 → (∃ fv, p.2.data = .fields fv) →
    Env0 P w K mg base A outer s H → BindsTo s fd args (ps.zip us) → Vals vs us → sp p.1 c d vs H Q E → codeAny (model P w) A (.call (.ref f) args) (CR CX0 outer P w H s Q E) s
section
variable {P : Program} {w : World} {K : PySem.W.Frag} {mg : Str → Option Value} {base : Heap} {k : Nat} {f : Addr} {fd : FuncData} {ps : List Str} {sp : Addr → Value → Option Addr → Sp} {x : Str}
theorem goesE_of {nm qu : Str} {pa : Arguments} {bd : List Stmt} {sco : Scope} {v1 v2 v3 v4 v5 v6 v7 : Value} {a1 a2 : Option Addr}
    {sl : Array (Option Value)} {N : List Str} (look : K.lookup f = some ⟨v7, a2, .func (PySem.W.fnOf nm qu pa bd sco v1 v2 v3 v4 a1 v5 v6), sl⟩)
    (code : PySem.W.codeIn K v5 qu = true) (S : FnScope N ps sco) (ar : ∀ a c d vs H Q E, sp a c d vs H Q E → vs.length = ps.length)
    (body : ∀ (A : Around) (out : List Env) (s : Shared) (H : Hp) (vs : List V) (Q : VK) (E : XK) (p : Addr × Obj) (c : Value) (d : Option Addr), L2H.RoomH k (A.deeper (envOfC qu sco s.heap.objs.size f v5)) → A.guards = some [] → IsEx (L2H.cxH CX0 P w K mg base N qu sco f v5 A out s H E p).nox p.1 c d → sp p.1 c d vs H Q E →
      ∃ t, PSs (L2H.cxH CX0 P w K mg base N qu sco f v5 A out s H E p).nox bd t ∧ t { nx := fun _ H' => Q .non H', rt := Q } (start N vs) H) :
    FnE P w K mg base (k + 1) f (PySem.W.fnOf nm qu pa bd sco v1 v2 v3 v4 a1 v5 v6) ps sp := by
  refine ⟨ar, fun A out s H args us vs Q E p c d room gd pin zc fv env bnd rel want => ?_⟩
  have inK : K.In s.heap := env.mod.kin.keeps fun b o e => (env.bs b o e).1
  have noLim : s.heap.NoLimit := env.mod.nolimit.keeps fun b o e => (env.bs b o e).1
  have kinds : ∀ y ∈ ps.zip us, sco.names.lookup y.1 = some .local ∨ (sco.names.lookup y.1 = some .cell ∧ ((cellsFrom (s.heap.objs.size + 1) sco.names []).lookup y.1).isSome = true) := by
    rintro ⟨n, v⟩ hy
    cases S.par n (List.of_mem_zip hy).1 with
    | inl q => exact .inl q
    | inr q => exact .inr ⟨q, PySem.W.cellsFrom_some _ _ _ (.inl q)⟩
  refine codeAny_call_function room.depth (inK _ _ look) rfl S.co S.gen rfl (PySem.W.codeRec_of inK code) (bnd _ _ _ _ ?_)
  refine wpAny_newFunctionEnv_cells S.kind kinds fun env' he s1 x => ?_
  subst he
  refine ⟨noLim.keeps x.toInCall.keep, codeAny_func ?_⟩
  obtain ⟨t, ht, hq⟩ := body A out s H vs Q E p c d (room.deeper _) gd ⟨⟨p.2, List.mem_singleton.mpr rfl, zc, fv⟩⟩ want
  have I0 := L2H.inv_startH (CX := CX0) (E := E) S pin env (ar _ _ _ _ _ _ _ want) rel x
  refine wpAny_mono (ht.nox.run [] s1 (start N vs) H _ I0 hq) (fun fl s' hs => ?_) fun _ _ hs => hs
  cases fl with
  | ret u =>
    obtain ⟨v, σ', H', J, rv, q⟩ := hs
    exact ⟨v, H', J.os, J.bare, J.base, J.hok, rv, q⟩
  | next =>
    obtain ⟨σ', H', J, q⟩ := hs
    exact ⟨V.non, H', J.os, J.bare, J.base, J.hok, rfl, q⟩
  | brk =>
    obtain ⟨_, _, _, q⟩ := hs
    exact q.elim
  | cont =>
    obtain ⟨_, _, _, q⟩ := hs
    exact q.elim
def CalH (P : Program) (w : World) (K : PySem.W.Frag) (mg : Str → Option Value) (base : Heap) (k : Nat) (x : Str) (sp : Addr → Value → Option Addr → Sp) : Prop :=
  ∃ f fd ps, FnE P w K mg base k f fd ps sp ∧ mg x = some (.ref f) ∧ PySem.W.keepIn K (.ref f) = true ∧ Binds K fd ps []
theorem calH_of {st : Stmt} {N ps : List Str} (D : DefAt K mg x st) (S : FnScope N ps (defScope st))
    (bnd : ∀ (kV doc pm : Value) (an : Option Addr) (cdv ct : Value) (us : List Value), us.length = ps.length → bindArgs (PySem.W.fnOf x x (defArgs st) (defBody st) (defScope st) .none kV doc pm an cdv ct) ⟨us, []⟩ = pure (ps.zip us))
    (ar : ∀ a c d vs H Q E, sp a c d vs H Q E → vs.length = ps.length)
    (hb : ∀ (f : Addr) (cd : Value) (A : Around) (out : List Env) (s : Shared) (H : Hp) (vs : List V) (Q : VK) (E : XK) (p : Addr × Obj) (c : Value) (d : Option Addr), L2H.RoomH k (A.deeper (envOfC x (defScope st) s.heap.objs.size f cd)) → (A.deeper (envOfC x (defScope st) s.heap.objs.size f cd)).guards = some [] →
      IsEx (L2H.cxH CX0 P w K mg base N x (defScope st) f cd A out s H E p).nox p.1 c d → sp p.1 c d vs H Q E →
      ∃ t, PSs (L2H.cxH CX0 P w K mg base N x (defScope st) f cd A out s H E p).nox (defBody st) t ∧ t { nx := fun _ H' => Q .non H', rt := Q } (start N vs) H) : CalH P w K mg base (k + 1) x sp := by
  obtain ⟨f, fd, F, hm⟩ := D
  obtain ⟨_, _, _, _, _, _, _, cd, _, _, e, lk, hcd, _, _⟩ := F.ex
  have kp := F.kp
  have bn := F.bindsN bnd
  subst e
  exact ⟨f, _, ps, goesE_of lk hcd S ar fun A out s H vs Q E p c d => hb f cd A out s H vs Q E p c d, hm, kp, bn⟩
end
section
variable {X : Cx} {k j : Nat} {a : Addr} {c : Value} {d : Option Addr} {x : Str} {sp : Addr → Value → Option Addr → Sp} {p pos : Pos} {e : Expr} {es : List Expr} {ta : TE} {t : TA}
def yCallH (sp : Sp) (t : TA) : TE := fun σ H Q => t σ H fun vs H1 => sp vs H1 Q E0
/-- f(e, ..) where the exception is handled -/
theorem ye_callH (ie : IsEx X a c d) (cl : CalH X.prog X.w X.K X.mg X.base k x sp) (room : L2H.RoomH j X.A) (gd : X.A.guards = some []) (hg : Gl X x) (ha : PA X (e :: es) t) (hk : k ≤ j := by decide) (hdb : (x == ("__debug__" : Str)) = false := by decide)
    (h1 : starEach (e :: es) X.env = (false, eval e X.env) :: starEach es X.env := by rfl) (h2 : (backTo pos (starEach es X.env)).any (·.1) = false := by rfl) :
    PE X (.Call (.Name x p) (e :: es) [] pos) (yCallH (sp a c d) t) := by
  obtain ⟨f, fd, ps, F, hm, kp, hb⟩ := cl
  obtain ⟨oe, mem, zc, fv⟩ := ie.ex
  constructor
  intro pins s σ H Q I h
  refine wpAny_Call_Name_kw (ld_glob I hg hm ?_ hdb)
  refine PySem.W.callWith_K (h₀ := X.base) I.ok.mod.kin kp (thn (ha.run pos pins s σ H _ I h) ?_) h1 h2
  rintro us s1 ⟨vs, H1, I1, r, q⟩
  refine ⟨I1.kIn, ?_⟩
  have ln : us.length = ps.length := r.length ▸ F.arity _ _ _ _ _ _ _ q
  have b := hb s1 us I1.kIn (by rw [List.append_nil]; exact ln)
  rw [List.append_nil] at b
  obtain ⟨g1, g2, g3, g4, g5⟩ := I1.pin (a, oe) (List.mem_append_left _ mem)
  have pin : L2H.PinOk X.stack H1 s1 (a, oe) := ⟨g1, g2, fun hm => (List.mem_cons.mp (I1.stkSub a hm)).elim g3 g4, g5⟩
  refine wpAny_call (codeAny_mono (F.goes X.A X.stack s1 H1 ⟨us, []⟩ us vs Q E0 (a, oe) c d (room.mono hk) gd pin zc fv I1.env0 b r q) ?_)
  intro r s' hq
  match r, hq with
  | .error er, hq => exact pass0 (X := X) pins σ H1 s1 er s' I1 hq
  | .ok (.ret u), hq => exact I1.after hq
  | .ok .next, hq => exact hq.elim
  | .ok .brk, hq => exact hq.elim
  | .ok .cont, hq => exact hq.elim
/-! ### isinstance of it -/
def clsV : V → Value
  | .ref C => .ref C
  | .ty n => .type n
  | _ => .none
/-- the exception's dict stands -/
def DctOk (d : Option Addr) (H : Hp) : Prop := d = none ∨ ∃ dd fs, d = some dd ∧ H dd = some (.xd fs)
def yIsE (K : PySem.W.Frag) (D a : Addr) (d : Option Addr) : List V → Hp → VK → Prop := fun xs H Q => match xs with
  | [.ref b, .ref C] => b = a ∧ DctOk d H ∧ ((∃ v, PySem.W.kitOne K (.ref D) (.ref C) = some v ∧ Q (.bl v) H) ∨ ∃ ys v, H C = some (.tup ys) ∧ (∀ y ∈ ys, ∃ A, y = .ref A) ∧ PySem.W.kitAny K (.ref D) (ys.map clsV) = some v ∧ Q (.bl v) H)
  | [.ref b, .ty n] => b = a ∧ DctOk d H ∧ ∃ v, PySem.W.kitOne K (.ref D) (.type n) = some v ∧ Q (.bl v) H
  | _ => False
theorem cls_vals : ∀ {ys : List V} {its : List Value}, Vals ys its → (∀ y ∈ ys, ∃ A, y = .ref A) → ys.map clsV = its
  | _, _, .nil, _ => rfl
  | _, _, .cons (a := y) r rs, own => by
    obtain ⟨A, rfl⟩ := own y (List.mem_cons_self ..)
    cases r
    rw [List.map_cons, cls_vals rs fun z hz => own z (List.mem_cons_of_mem _ hz)]
    rfl
theorem kIsE {D : Addr} {K : PySem.W.Frag} (h0 : X.K = K) (ie : IsEx X a (.ref D) d) (C : ExcC K D) : CallR X (.builtin "isinstance") (yIsE K D a d) := by
  subst h0
  obtain ⟨oe, mem, zc, fv, hfv⟩ := ie.ex
  intro pins s σ H xs us Q I r h
  have hget := (I.pin (a, oe) (List.mem_append_left _ mem)).1
  obtain ⟨cdD, hcD, _⟩ := PySem.W.any_some C.hd
  have kit : ∀ od, PySem.W.KitX X.K (.ref a) (.ref D) (fun h => PySem.W.InstAt h a oe D od) := fun od => PySem.W.kitx_exc (by rw [hcD]; rfl) C.hg C.hk C.hs C.ha C.hn C.ht C.hm
  have inst : DctOk d H → ∃ od, PySem.W.InstAt s.heap a oe D od := fun dk => by
    have nc : PySem.W.notCls oe = true := by unfold PySem.W.notCls; rw [hfv] <;> rfl
    rcases dk with e | ⟨dd, fs, e, ed⟩
    · exact ⟨none, hget, zc.1, nc, by rw [zc.2, e]; trivial⟩
    · obtain ⟨mA, hns, _⟩ : ObjOk X.prog X.w H s.heap dd (.xd fs) := I.hok dd _ ed
      obtain ⟨od, ho, _⟩ := lookIn_ns hns
      exact ⟨some od, hget, zc.1, nc, by rw [zc.2, e]; exact ho⟩
  unfold yIsE at h
  split at h
  · rename_i b C1
    cases r with
    | cons rx rr =>
    cases rr with
    | cons rt rr =>
    cases rr
    cases rx
    cases rt
    obtain ⟨rfl, dk, h⟩ := h
    obtain ⟨od, J⟩ := inst dk
    rcases h with ⟨v, e, q⟩ | ⟨ys, v, hC, own, e, q⟩
    · exact PySem.W.kia_one (kit od) I.kIn J e (fun z => nomatch z) fun tk => ⟨.bl v, H, I.kept (t' := tk) fun _ _ z => z, rfl, q⟩
    · obtain ⟨_, its, hv, o, ho, hc, n, hd⟩ : ObjOk X.prog X.w H s.heap C1 (.tup ys) := I.hok C1 _ hC
      obtain ⟨oc, od2, dt, sl⟩ := o
      have e1 : oc = .type "tuple" := hc
      have e2 : dt = .seq its.toArray n := hd
      subst e1 e2
      rw [cls_vals hv own] at e
      exact PySem.W.kia_tup (kit od) I.kIn J ho e (fun z => nomatch z) fun tk => ⟨.bl v, H, I.kept (t' := tk) fun _ _ z => z, rfl, q⟩
  · rename_i b n
    cases r with
    | cons rx rr =>
    cases rr with
    | cons rt rr =>
    cases rr
    cases rx
    cases rt
    obtain ⟨rfl, dk, v, e, q⟩ := h
    obtain ⟨od, J⟩ := inst dk
    exact PySem.W.kia_one (kit od) I.kIn J e (fun z => nomatch z) fun tk => ⟨.bl v, H, I.kept (t' := tk) fun _ _ z => z, rfl, q⟩
  · exact h.elim
/-! ### l.count(e), l.index(e) of flat things -/
def rCntV (K : PySem.W.Frag) : V → List V → Hp → VK → Prop := fun x xs H Q => ∃ (a : Addr) (ys : List V) (y : V), x = .ref a ∧ xs = [y] ∧ SqL K H a ys ∧ flatV y = true ∧ ys.all flatV = true ∧ Q (.int (ys.countP fun z => eqV z y : Nat)) H
theorem cnt_eqU {x : V} : ∀ {ys : List V} {us : List Value}, Vals ys us → ys.all flatV = true → us.countP (eqU x) = ys.countP fun z => eqV z x
  | _, _, .nil, _ => rfl
  | _, _, .cons r rs, h => by
    obtain ⟨h1, h2⟩ := Bool.and_eq_true_iff.mp (show (_ && _) = true from h)
    rw [List.countP_cons, List.countP_cons, cnt_eqU rs h2, eqU_of r h1]
theorem mt_cntV : MtR X "list.count" (rCntV X.K) := by
  intro pins s σ H x xs v us Q I rx rxs h
  obtain ⟨a, ys, y, rfl, rfl, hs, fy, fys, q⟩ := h
  cases rx
  obtain ⟨u, rfl, ru⟩ := rxs.one
  obtain ⟨its, rv, ⟨⟨c1, dd, dt, sl⟩, n, ho, hc, hdn, hd⟩, hlen⟩ := I.list hs
  have e1 : c1 = .type "list" := hc
  have e2 : dt = .seq its.toArray n := hd
  subst e1 e2
  refine call_meets PySem.F.slot_list_count ⟨_, ho, rfl⟩ PySem.F.entry_list_count (PySem.F.args_list_count_2 _ _) (SeqAt.list_countAt a its.toArray n dd sl u (eqU y)) ⟨ho, fun z hz => mem_eqAt ru fy rv fys z (by simpa using hz), ?_⟩
  refine ⟨.int (ys.countP fun z => eqV z y : Nat), H, I.tok _, ⟨s.toks, ?_⟩, q⟩
  have e : its.toArray.toList.countP (eqU y) = ys.countP fun z => eqV z y := cnt_eqU rv fys
  show Value.int _ s.toks = Value.int _ s.toks
  rw [e]
def yCnt (K : PySem.W.Frag) (to te : TE) : TE := fun σ H Q => to σ H fun x H1 => match x with
  | .ref l => ∃ ys, SqL K H1 l ys ∧ ys.all flatV = true ∧ te σ H1 fun y H2 => SqL K H2 l ys ∧ flatV y = true ∧ Q (.int (ys.countP fun z => eqV z y : Nat)) H2
  | _ => False
theorem ye_cnt {K : PySem.W.Frag} {to te : TE} (h0 : X.K = K) (h : PE X e (tBM X.K "list" (rCntV X.K) (cl to) (tCons (cl te) tNil))) : PE X e (yCnt K to te) := by
  subst h0
  exact PE.imp h fun σ H Q h => ⟨_, h, fun x H1 q => by
    cases x with
    | ref l =>
      obtain ⟨ys, h1, h2, q⟩ := q
      refine ⟨.inl ⟨rfl, ys, h1⟩, _, q, fun y H2 q2 => ?_⟩
      obtain ⟨g1, g2, g3⟩ := q2
      exact ⟨l, ys, y, rfl, rfl, g1, g2, h2, g3⟩
    | _ => exact q.elim⟩
def yIdx (K : PySem.W.Frag) (to te : TE) : TE := fun σ H Q => to σ H fun x H1 => match x with
  | .ref l => ∃ ys, SqL K H1 l ys ∧ ys.all flatV = true ∧ te σ H1 fun y H2 => SqL K H2 l ys ∧ flatV y = true ∧ ∃ (j : Nat) (z : V), ys[j]? = some z ∧ eqV z y = true ∧ (∀ (m : Nat) (z' : V), m < j → ys[m]? = some z' → eqV z' y = false) ∧ Q (.int (j : Nat)) H2
  | _ => False
theorem ye_idx {K : PySem.W.Frag} {to te : TE} (h0 : X.K = K) (h : PE X e (tBM X.K "list" (rIndex X.K) (cl to) (tCons (cl te) tNil))) : PE X e (yIdx K to te) := by
  subst h0
  exact PE.imp h fun σ H Q h => ⟨_, h, fun x H1 q => by
    cases x with
    | ref l =>
      obtain ⟨ys, h1, h2, q⟩ := q
      refine ⟨.inl ⟨rfl, ys, h1⟩, _, q, fun y H2 q2 => ?_⟩
      obtain ⟨g1, g2, j, z, g3, g4, g5, g6⟩ := q2
      exact ⟨l, ys, y, j, z, rfl, rfl, g1, g2, h2, g3, g4, g5, g6⟩
    | _ => exact q.elim⟩
/-- nothing is let out -/
theorem takes0 {W : Value → Shared → Prop} : Takes X.nox (fun _ _ _ _ => False) := fun u s' ⟨_, _, _, _, _, _, _, _, _, _, _, _, _, _, _, _, w⟩ => w.elim
end
end Y

set_option Elab.async false
set_option linter.all false
set_option maxRecDepth 100000
set_option maxHeartbeats 2000000
set_option exponentiation.threshold 600
/-! X4: what is worn off; l.pop(i), l.insert(i, e), d.get(k, e); the classes of errors.py by names. -/
namespace Y
open PySem PySem.Spec PyProof.Rows L2
/-! ### a row, the layer n of it worn -/
def wornR (r : List Lyr) (j : Nat) (n : Int) : List Lyr := r.take j ++ ((match r[j]? with
  | some l => if 0 < n ∧ n < l.2.2 then [(l.1, (l.2.1, l.2.2 - n))] else []
  | none => []) ++ r.drop (j + 1))
def wornS (s : Pst) (n : Int) : Pst := match topOf s.rows with
  | some (i, j) => if s.wear = 0 then s else ⟨s.wear - 1, s.rows.set i (wornR (s.rows.getD i []) j n), s.next⟩
  | none => s
def isWorn (s : Pst) : Bool := (topOf s.rows).isSome && decide (s.wear = 0)
theorem wornR_len (r : List Lyr) (j : Nat) (n : Int) : (wornR r j n).length ≤ r.length := by
  unfold wornR
  rw [List.length_append, List.length_append, List.length_take, List.length_drop]
  cases e : r[j]? with
  | none =>
    have := List.getElem?_eq_none_iff.mp e
    show _ + (0 + _) ≤ _
    omega
  | some l =>
    obtain ⟨h, _⟩ := List.getElem?_eq_some_iff.mp e
    have : (if 0 < n ∧ n < l.2.2 then [(l.1, (l.2.1, l.2.2 - n))] else []).length ≤ 1 := by split <;> simp
    show _ + ((if 0 < n ∧ n < l.2.2 then [(l.1, (l.2.1, l.2.2 - n))] else []).length + _) ≤ _
    omega
theorem wornR_mem {r : List Lyr} {j : Nat} {n : Int} {q : Lyr} (h : q ∈ wornR r j n) : q ∈ r ∨ ∃ l ∈ r, 0 < n ∧ n < l.2.2 ∧ q = (l.1, (l.2.1, l.2.2 - n)) := by
  unfold wornR at h
  rcases List.mem_append.mp h with h | h
  · exact .inl (List.mem_of_mem_take h)
  rcases List.mem_append.mp h with h | h
  · cases e : r[j]? with
    | none => rw [e] at h; cases h
    | some l =>
      rw [e] at h
      have h : q ∈ (if 0 < n ∧ n < l.2.2 then [(l.1, (l.2.1, l.2.2 - n))] else []) := h
      split at h
      · rename_i c
        exact .inr ⟨l, List.mem_of_getElem? e, c.1, c.2, List.mem_singleton.mp h⟩
      · cases h
  · exact .inl (List.mem_of_mem_drop h)
theorem wornR_ok {r : List Lyr} {j : Nat} {n : Int} (h : ∀ l ∈ r, LyOk l) : ∀ l ∈ wornR r j n, LyOk l := fun q hq => by
  rcases wornR_mem hq with z | ⟨l, hl, c1, c2, rfl⟩
  · exact h q z
  · have := h l hl
    have hb := this.lay.big
    exact ⟨⟨this.lay.nm, by show 0 < l.2.2 - n; omega, by show l.2.2 - n < 10 ^ 400; omega⟩, this.lo, this.hi⟩
theorem wornR_in {r : List Lyr} {j : Nat} {n : Int} {l : Lyr} (h : r[j]? = some l) (h0 : 0 < n) (h1 : n < l.2.2) : wornR r j n = r.take j ++ ((l.1, (l.2.1, l.2.2 - n)) :: r.drop (j + 1)) := by
  unfold wornR
  rw [h]
  show _ ++ ((if 0 < n ∧ n < l.2.2 then _ else _) ++ _) = _
  rw [if_pos ⟨h0, h1⟩]
  rfl
theorem wornR_out {r : List Lyr} {j : Nat} {n : Int} {l : Lyr} (h : r[j]? = some l) (h1 : ¬ (0 < n ∧ n < l.2.2)) : wornR r j n = r.take j ++ r.drop (j + 1) := by
  unfold wornR
  rw [h]
  show _ ++ ((if 0 < n ∧ n < l.2.2 then _ else _) ++ _) = _
  rw [if_neg h1]
  rfl
section
variable [Tb] {K : PySem.W.Frag} {CP CL : Addr} {H H' : Hp} {a : PlAddr} {ks : List Ink} {s : Pst}
/-- a row's list and the wear written anew -/
theorem PlAt.rewrote (h : PlAt K CP CL H a ks s) {i : Nat} {l : Addr} {w' : Int} {vs : List V} {r' : List Lyr} (hi : i < ks.length) (hl : a.ls[i]? = some l) (k : Kp (fun b => b = l ∨ b = a.x) H H') (h1 : H' l = some (.lst vs))
    (h2 : H' a.x = some (.ins CL a.dx [("own_palette", .ref a.pl), ("wear_left", .int w'), ("layers", .ref a.d), ("next_mark", .int s.next)])) (im : ImAll K H' vs (r'.map lyrD)) (hlen : r'.length ≤ 1000) (ok : ∀ l ∈ r', LyOk l) :
    PlAt K CP CL H' a ks ⟨w', s.rows.set i r', s.next⟩ ∧ Kp (Ft a) H H' := by
  have ml : l ∈ a.ls := List.mem_of_getElem? hl
  obtain ⟨nlx, nld⟩ := h.ne_l ml
  have kf : Kp (Ft a) H H' := k.mono fun b z => by
    rcases z with z | z
    · rw [z]; exact .inr (.inr ml)
    · exact .inl z
  refine ⟨⟨h.pal.up kf (fun z => (h.out _ z).1 rfl) (fun z => (h.out _ z).2 rfl), h2, k.all a.d _ h.dct ?_, h.len, by show (s.rows.set _ _).length = _; rw [List.length_set, h.rws], fun j l2 r2 g1 g2 => ?_, h.nd, fun r2 hr => ?_, h.out⟩, kf⟩
  · rintro (z | z)
    · exact nld z.symm
    · exact h.ne_xd z.symm
  · have g2 : (s.rows.set i r')[j]? = some r2 := g2
    by_cases e : i = j
    · subst e
      rw [List.getElem?_set_self (by rw [h.rws]; exact hi)] at g2
      obtain rfl := Option.some.inj g2
      obtain rfl : l = l2 := Option.some.inj (hl.symm.trans g1)
      exact ⟨vs, h1, im⟩
    · rw [List.getElem?_set_ne e] at g2
      obtain ⟨ws, f1, f2⟩ := h.row j l2 r2 g1 g2
      refine ⟨ws, k.all l2 _ f1 ?_, ImAll.up kf _ _ f2⟩
      rintro (z | z)
      · rw [z] at g1
        exact e (nd_get h.nd hl g1)
      · exact (h.ne_l (List.mem_of_getElem? g1)).1 z
  · have hr : r2 ∈ s.rows.set i r' := hr
    rcases List.mem_or_eq_of_mem_set hr with z | z
    · exact h.ok r2 z
    · rw [z]; exact ⟨hlen, ok⟩
theorem MdAt.wearSet {b : MdAddr} (h : MdAt K H b ks s) (w' : Int) : MdAt K (upd H b.m (.dK (mdK b ⟨w', s.rows, s.next⟩))) b ks ⟨w', s.rows, s.next⟩ ∧ Kp (At b.m) H (upd H b.m (.dK (mdK b ⟨w', s.rows, s.next⟩))) := by
  have k : Kp (At b.m) H (upd H b.m (.dK (mdK b ⟨w', s.rows, s.next⟩))) := Kp.set rfl h.dct
  have nl : ∀ l, (∃ ws, H l = some (.lst ws)) → l ≠ b.m := by
    rintro l ⟨ws, e⟩ z
    rw [z, h.dct] at e
    cases e
  obtain ⟨ys, g1, g2⟩ := h.inks
  refine ⟨⟨upd_same, ⟨ys, k.all _ _ g1 (nl _ ⟨_, g1⟩), ImAll.up k _ _ g2⟩, k.all _ _ h.rd (fun e => h.apart e.symm), h.len, h.rws, fun i l r h1 h2 => ?_, h.iok, h.ok⟩, k⟩
  obtain ⟨ws, f1, f2⟩ := h.row i l r h1 h2
  exact ⟨ws, k.all _ _ f1 (nl _ ⟨_, f1⟩), ImAll.up k _ _ f2⟩
end
theorem put_wear (b : MdAddr) (s : Pst) (n : Int) : putK (mdK b s) (.inr "wear") (.int n) = mdK b ⟨n, s.rows, s.next⟩ := rfl
/-! ### l.pop(i), l.insert(i, e), d.get(k, e) -/
section
variable {X : Cx} {e : Expr} {to te ti : TE}
def yPopAt (to ti : TE) : TE := fun σ H Q => to σ H fun x H1 => match x with
  | .ref l => (∃ xs, H1 l = some (.lst xs)) ∧ ti σ H1 fun y H2 => match y with
    | .int i => ∃ xs, H2 l = some (.lst xs) ∧ 0 ≤ i ∧ i < 2 ^ 63 ∧ ∃ z, xs[i.toNat]? = some z ∧ Q z (upd H2 l (.lst (xs.eraseIdx i.toNat)))
    | _ => False
  | _ => False
theorem ye_popAt (h : PE X e (tBM X.K "list" rPopAt (cl to) (tCons (cl ti) tNil))) : PE X e (yPopAt to ti) :=
  PE.imp h fun σ H Q h => ⟨_, h, fun x H1 q => by
    cases x with
    | ref l =>
      obtain ⟨⟨xs, hx⟩, q⟩ := q
      refine ⟨.inl ⟨rfl, xs, SqL.of hx⟩, _, q, fun y H2 q2 => ?_⟩
      cases y with
      | int i =>
        obtain ⟨ys, h1, h2, h3, z, h4, h5⟩ := q2
        have hlt := (List.getElem?_eq_some_iff.mp h4).1
        refine ⟨l, ys, i, i.toNat, z, rfl, rfl, h1, by omega, h3, ?_, h4, h5⟩
        unfold seqIndex?
        rw [if_neg (show ¬ i < 0 by omega)]
        exact if_pos (by rw [Bool.and_eq_true, decide_eq_true_eq, decide_eq_true_eq]; exact ⟨h2, by omega⟩)
      | _ => exact q2.elim
    | _ => exact q.elim⟩
abbrev rIns : V → List V → Hp → VK → Prop := fun x vs H Q => ∃ (l : Addr) (xs : List V) (i : Int) (y : V), x = .ref l ∧ vs = [.int i, y] ∧ H l = some (.lst xs) ∧ xs.length < sizeLine ∧ 0 ≤ i ∧ i < 2 ^ 63 ∧ Q .non (upd H l (.lst (xs.take i.toNat ++ [y] ++ xs.drop i.toNat)))
def yIns (to ti te : TE) : TE := fun σ H Q => to σ H fun x H1 => match x with
  | .ref l => (∃ xs, H1 l = some (.lst xs)) ∧ ti σ H1 fun i H2 => te σ H2 fun y H3 => match i with
    | .int i => ∃ xs, H3 l = some (.lst xs) ∧ xs.length < sizeLine ∧ 0 ≤ i ∧ i < 2 ^ 63 ∧ Q .non (upd H3 l (.lst (xs.take i.toNat ++ [y] ++ xs.drop i.toNat)))
    | _ => False
  | _ => False
theorem ye_insert (h : PE X e (tBM X.K "list" rIns (cl to) (tCons (cl ti) (tCons (cl te) tNil)))) : PE X e (yIns to ti te) :=
  PE.imp h fun σ H Q h => ⟨_, h, fun x H1 q => by
    cases x with
    | ref l =>
      obtain ⟨⟨xs, hx⟩, q⟩ := q
      refine ⟨.inl ⟨rfl, xs, SqL.of hx⟩, _, q, fun i H2 q2 => ⟨_, q2, fun y H3 q3 => ?_⟩⟩
      cases i with
      | int i =>
        obtain ⟨ys, h1, h2, h3, h4, h5⟩ := q3
        exact ⟨l, ys, i, y, rfl, rfl, h1, h2, h3, h4, h5⟩
      | _ => exact q3.elim
    | _ => exact q.elim⟩
def yGet (td ty tx : TE) : TE := fun σ H Q => td σ H fun x H1 => match x with
  | .ref a => (∃ kvs, H1 a = some (.dK kvs)) ∧ ty σ H1 fun y H2 => tx σ H2 fun z H3 => match y with
    | .str k => ∃ kvs, H3 a = some (.dK kvs) ∧ Q ((valV kvs (.inr k)).getD z) H3
    | _ => False
  | _ => False
theorem ye_get {o e1 e2 : Expr} {td ty tx : TE} {apos cpos : Pos} (hu : X.A.units + 64 < cLine) (hd : PE X o td) (h1 : PE X e1 ty) (h2 : PE X e2 tx) (m : M2 X o "get" apos e1 e2 cpos := by exact ⟨rfl, rfl, rfl, rfl⟩) :
    PE X (.Call (.Attribute o "get" apos) [e1, e2] [] cpos) (yGet td ty tx) :=
  PE.imp (pe_dget2 (by omega) (PE.cl hd) (PE.cl h1) (PE.cl h2) m) fun σ H Q h => ⟨_, h, fun x H1 q => by
    cases x with
    | ref a =>
      obtain ⟨⟨kvs, hx⟩, q⟩ := q
      refine ⟨a, rfl, .inl ⟨kvs, .inl hx⟩, _, q, fun y H2 q2 => ⟨_, q2, fun z H3 q3 => ?_⟩⟩
      cases y with
      | str k =>
        obtain ⟨kvs, g1, g2⟩ := q3
        exact ⟨_, .inl ⟨kvs, .inr k, .inl g1, rfl, rfl⟩, g2⟩
      | _ => exact q3.elim
    | _ => exact q.elim⟩
end
/-! ### the classes of errors.py -/
/-- the class by the name x, at the top -/
@[irreducible] def gx (K : PySem.W.Frag) (x : Str) : Addr := He.ga K x
theorem gx_eq (K : PySem.W.Frag) (x : Str) : gx K x = He.ga K x := by unfold gx; rfl
/-- whether a D is a c -/
def isT (D c : String) : Bool := decide (D = c) || (match D with
  | "NoInk" => decide (c = "LookupError") | "NoLayer" => decide (c = "LookupError") | "NoName" => decide (c = "LookupError")
  | "NoAmount" => decide (c = "ArithmeticError") | "Worn" => decide (c = "RuntimeError")
  | "FadeError" => decide (c = "ValueError")
  | _ => decide (c = "FadeError") || decide (c = "ValueError"))
abbrev blts : List String := ["ValueError", "LookupError", "ArithmeticError", "RuntimeError"]
/-- the classes ns stand; exceptions of the classes ds are caught and looked at -/
structure Srt (K : PySem.W.Frag) (mg : Str → Option Value) (ns ds : List String) : Prop where
  mg_ : ∀ x ∈ ns, mg (x : Str) = some (.ref (gx K x))
  exc : ∀ D ∈ ds, ExcC K (gx K D)
  xf : ∀ D ∈ ds, XfC K (gx K D)
  own : ∀ D ∈ ds, ∀ c ∈ ns, PySem.W.kitOne K (.ref (gx K D)) (.ref (gx K c)) = some (isT D c)
  blt : ∀ D ∈ ds, ∀ c ∈ blts, PySem.W.kitOne K (.ref (gx K D)) (.type c) = some (isT D c)
  exm : ∀ D ∈ ds, ∀ c ∈ ns, PySem.W.exmOne K (.ref (gx K D)) (.ref (gx K c)) = some (isT D c)
def excB (K : PySem.W.Frag) (D : Addr) : Bool :=
  He.eqO (PySem.W.findIn K (.ref D) "__getattribute__") (some (some (.builtin "BaseException.__getattribute__"))) && (He.eqO (PySem.W.findIn K (.ref D) "__getattr__") (some none) && (decide (PySem.W.subIn K (.ref D) (.type "BaseException") = some true) && (PySem.W.hasDictIn K D &&
    (He.eqO (PySem.W.findIn K (.ref D) "__class__") (some (some (.builtin "object.__class__"))) && (He.eqO (PySem.W.specialIn K (.builtin "object.__class__") "__get__") (some (some (.builtin "getset_descriptor.__get__"))) && (decide (PySem.W.takesIn K (.builtin "object.__class__") = some true) && decide (PySem.W.mroIn K D (.type "object") = some true)))))))
theorem excB_ok {K : PySem.W.Frag} {D : Addr} (h : excB K D = true) : ExcC K D := by
  obtain ⟨h1, h⟩ := He.ba h
  obtain ⟨h2, h⟩ := He.ba h
  obtain ⟨h3, h⟩ := He.ba h
  obtain ⟨h4, h⟩ := He.ba h
  obtain ⟨h5, h⟩ := He.ba h
  obtain ⟨h6, h⟩ := He.ba h
  obtain ⟨h7, h8⟩ := He.ba h
  exact ⟨He.eqO_ok h1, He.eqO_ok h2, of_decide_eq_true h3, h4, He.eqO_ok h5, He.eqO_ok h6, of_decide_eq_true h7, of_decide_eq_true h8⟩
theorem exc_fields {K : PySem.W.Frag} {D : Addr} (c : ExcC K D) : XfC K D := ⟨c.hg, c.hk, c.hs, c.hd⟩
def srtB (K : PySem.W.Frag) (ns ds : List String) : Bool := ds.all fun D => excB K (He.ga K D) && (ns.all (fun c => decide (PySem.W.kitOne K (.ref (He.ga K D)) (.ref (He.ga K c)) = some (isT D c)) && decide (PySem.W.exmOne K (.ref (He.ga K D)) (.ref (He.ga K c)) = some (isT D c))) && blts.all fun c => decide (PySem.W.kitOne K (.ref (He.ga K D)) (.type c) = some (isT D c)))
theorem srtB_ok {K : PySem.W.Frag} {mg : Str → Option Value} {ns ds : List String} (hm : ∀ x ∈ ns, mg (x : Str) = some (.ref (He.ga K x))) (h : srtB K ns ds = true) : Srt K mg ns ds := by
  have key : ∀ D ∈ ds, _ := fun D hD => List.all_eq_true.mp h D hD
  refine ⟨fun x hx => by rw [gx_eq]; exact hm x hx, fun D hD => ?_, fun D hD => ?_, fun D hD c hc => ?_, fun D hD c hc => ?_, fun D hD c hc => ?_⟩ <;> obtain ⟨h1, h2⟩ := He.ba (key D hD) <;> obtain ⟨h3, h4⟩ := He.ba h2
  · rw [gx_eq]; exact excB_ok h1
  · rw [gx_eq]; exact exc_fields (excB_ok h1)
  · rw [gx_eq, gx_eq]; exact of_decide_eq_true (He.ba (List.all_eq_true.mp h3 c hc)).1
  · rw [gx_eq]; exact of_decide_eq_true (List.all_eq_true.mp h4 c hc)
  · rw [gx_eq, gx_eq]; exact of_decide_eq_true (He.ba (List.all_eq_true.mp h3 c hc)).2

theorem ie_suite {X : Cx} {a : Addr} {oe : Obj} {cls : Value} {d : Option Addr} {pn : List (Addr × Obj)} (hz : Zc cls d oe) (hf : ∃ vs, oe.data = .fields vs) : IsEx (X.suite a ((a, oe) :: pn)) a cls d := ⟨⟨oe, List.mem_cons_self, hz, hf⟩⟩
/-- an own exception class without an own __init__ -/
structure NxC (K : PySem.W.Frag) (mg : Str → Option Value) (tail : List Value) (newId : String) (x : String) : Prop where
  mgx : mg (x : Str) = some (.ref (gx K x))
  ex : PySem.W.excIn K (gx K x) tail newId = true
  exc : PySem.W.subIn K (.ref (gx K x)) (.type "BaseException") = some true
  typ : PySem.W.typeIn K (.ref (gx K x)) = some (.type "type")
  kp : PySem.W.keepIn K (.ref (gx K x)) = true
theorem pmkN {X : Cx} {K : PySem.W.Frag} {mg : Str → Option Value} {tail : List Value} {newId B initId : String} {x : String} {m : Str} {j : Nat} {p p2 pos : Pos} (F : ExcBaseFacts B newId initId tail) (hK : X.K = K) (hmg : X.mg = mg) (n : NxC K mg tail newId x) (hg : Gl X (x : Str)) (hdb : ((x : Str) == ("__debug__" : Str)) = false := by decide) :
    PMk X (.Call (.Name (x : Str) p) [.Constant (.str m) j p2] [] pos) (fun _ H Q => Q (.ref (gx K x)) none H) := by
  subst hK hmg
  exact pmk_own F n.ex n.mgx n.kp (raises_own n.exc n.typ) hg (hdb := hdb)
def nxB (K : PySem.W.Frag) (tail : List Value) (newId : String) (C : Addr) : Bool := PySem.W.excIn K C tail newId && (decide (PySem.W.subIn K (.ref C) (.type "BaseException") = some true) && (decide (PySem.W.typeIn K (.ref C) = some (.type "type")) && PySem.W.keepIn K (.ref C)))
theorem nxB_ok {K : PySem.W.Frag} {mg : Str → Option Value} {tail : List Value} {newId x : String} (hm : mg (x : Str) = some (.ref (He.ga K x))) (h : nxB K tail newId (He.ga K x) = true) : NxC K mg tail newId x := by
  obtain ⟨h1, h⟩ := He.ba h
  obtain ⟨h2, h⟩ := He.ba h
  obtain ⟨h3, h4⟩ := He.ba h
  refine ⟨?_, ?_, ?_, ?_, ?_⟩ <;> rw [gx_eq]
  · exact hm
  · exact h1
  · exact of_decide_eq_true h2
  · exact of_decide_eq_true h3
  · exact h4
end Y

set_option Elab.async false
set_option linter.all false
set_option maxRecDepth 100000
set_option maxHeartbeats 2000000
/-! N2: a != b of own instances, by the class's own __eq__ (object.__ne__). -/
namespace Y
open PySem PySem.Spec PyProof.Rows L2
section
variable {prog : Program} {w : World} {A : Around} {E : Value → Shared → Prop} {s : Shared} {K : PySem.W.Frag} {x y C f : Addr} {ox : Obj} {od : Option Obj}
open Builtin in
theorem ne_own {Q : Value → Shared → Prop} (inK : K.In s.heap) (J : PySem.W.InstAt s.heap x ox C od) (J2 : PySem.W.Looks (model prog w) s.heap (typeOf (.ref y)) (.ref C)) (hne : PySem.W.findIn K (.ref C) "__ne__" = some (some (.builtin "object.__ne__")))
    (heq : PySem.W.findIn K (.ref C) "__eq__" = some (some (.ref f))) (hf : PySem.W.isFn K (.ref f) = true) (hm : PySem.W.mroIn K C (.type "object") = some true) (hu : A.units + 1 < cLine)
    (h : wpAny (model prog w) A.in1 (call (.ref f) [.ref x, .ref y]) (fun v s' => ∃ b, v = .bool b ∧ Q (.bool (!b)) s') E s) : wpAny (model prog w) A (richCompare .NotEq (.ref x) (.ref y)) Q E s := by
  have ent : wpAny (model prog w) A.in1 (Builtin.«object.__ne__» ⟨[.ref x, .ref y], []⟩) (fun r s' => ∃ b, r = .done (.ret (.bool (!b))) ∧ Q (.bool (!b)) s') E s := by
    obtain ⟨hp, g, d, t, os⟩ := s
    unfold Builtin.«object.__ne__»
    repeat (first
      | with_reducible refine wpAny_cRoomFor hu ?_
      | (refine wpAny_bind (m := callSpecialIfBound? (.ref x) (Str.ofString "__eq__") [.ref y]) (PySem.W.ifBound_K inK J heq hf (wpAny_mono h (fun r s' hr => ?_) fun _ _ e => e)))
      | wp_step)
    obtain ⟨b, rfl, hq⟩ := hr
    repeat (first | exact ⟨b, rfl, hq⟩ | exact wpAny_pure ⟨b, rfl, hq⟩ | exact wpAny_truthy_bool ⟨b, rfl, hq⟩ | (refine wpAny_bind (m := truthy (.bool _)) (wpAny_truthy_bool ?_)) | wp_step)
  have isO : PySem.W.Looks (model prog w) s.heap (isInstance (.ref x) (.type "object")) true := J.type.andThen (PySem.W.looks_mroIn inK hm)
  have bnd : ∀ {R : Option Value → Shared → Prop}, wpAny (model prog w) A (call (.builtin "object.__ne__") [.ref x, .ref y]) (fun v => R (some v)) E s → wpAny (model prog w) A (callSpecialIfBound? (.ref x) "__ne__" [.ref y]) R E s := by
    intro R hR
    simp only [callSpecialIfBound?, bindSpecialIfBound?]
    refine wpAny_holding (wpAny_bind (wpAny_bind (wpAny_bind (J.type.here ((PySem.W.looks_findIn inK hne).here ?_)))))
    simp only [F.cmp_object.ne.bind]
    refine wpAny_bind (wpAny_askSetting (wpAny_ite ?_))
    have fin : wpAny (model prog w) A (call (.builtin "object.__ne__") ([.ref x] ++ [.ref y]) >>= fun v => pure (some v)) R E s := wpAny_bind (wpAny_mono hR (fun v s' z => wpAny_pure z) fun _ _ z => z)
    split
    · exact wpAny_bind (wpAny_pure (wpAny_pure (by exact fin)))
    · exact wpAny_tryCatch (wpAny_bind (wpAny_pure (wpAny_pure (by exact fin))))
  have one : wpAny (model prog w) A (tryCompare (.ref x) "__ne__" (.ref y)) (fun r s' => ∃ v, r = some v ∧ Q v s') E s := by
    unfold tryCompare
    refine wpAny_bind (bnd (wpAny_call (codeAny_call_builtin F.cmp_object.ne.plain F.cmpEntry_ne ?_)))
    refine PySem.W.check_slot F.cmpKind_ne F.cmpSplit_ne isO (F.cmpArgs_ne _ _) ?_
    refine wpAny_mono ent (fun r s' hr => ?_) fun _ _ e => e
    obtain ⟨b, rfl, hq⟩ := hr
    exact wpAny_pure ⟨_, rfl, hq⟩
  unfold richCompare
  simp only [oneThing_ref]
  refine wpAny_holding (wpAny_bind (wpAny_cRoomFor (by omega) ?_))
  rw [cmpInfo_NotEq]
  dsimp only
  refine wpAny_bind (J.type.here (wpAny_bind (J2.here ?_)))
  rw [show (Value.ref C != Value.ref C) = false from by simp]
  simp only [Bool.false_eq_true, if_false]
  refine wpAny_bind (wpAny_pure ?_)
  simp only [Bool.false_eq_true, if_false]
  refine wpAny_bind (wpAny_mono one (fun r s' z => ?_) fun _ _ e => e)
  obtain ⟨v, rfl, hq⟩ := z
  exact wpAny_pure hq
end
/-- what != asks of an own class -/
structure NeC (K : PySem.W.Frag) (C : Addr) : Prop where
  ne : PySem.W.findIn K (.ref C) "__ne__" = some (some (.builtin "object.__ne__"))
  mro : PySem.W.mroIn K C (.type "object") = some true
def neB (K : PySem.W.Frag) (C : Addr) : Bool := He.eqO (PySem.W.findIn K (.ref C) "__ne__") (some (some (.builtin "object.__ne__"))) && decide (PySem.W.mroIn K C (.type "object") = some true)
theorem neB_ok {K : PySem.W.Frag} {C : Addr} (h : neB K C = true) : NeC K C := ⟨He.eqO_ok (He.ba h).1, of_decide_eq_true (He.ba h).2⟩
/-- a != b by C's own __eq__ -/
def yNeI (C : Addr) (sp : Sp) : R2 := fun x y H Q => match x, y with
  | .ref a, .ref b => ∃ dx fs dy gs, H a = some (.ins C dx fs) ∧ H b = some (.ins C dy gs) ∧ sp [.ref a, .ref b] H (fun v H' => ∃ r, v = .bl r ∧ Q (.bl (!r)) H') E0
  | _, _ => False
theorem kNeI {X : Cx} {K : PySem.W.Frag} {C : Addr} {k j : Nat} {sp : Sp} (h0 : X.K = K) (n : NeC K C) (c : CalM X.prog X.w X.K X.mg X.base k C "__eq__" sp) (room : Room j X.A) (gd : X.A.guards = some []) (hk : k + 1 ≤ j := by decide) : OpR X (compareOp .NotEq) (yNeI C sp) := by
  subst h0
  intro pins s σ H x y v u Q I rx ry h
  unfold yNeI at h
  split at h
  · rename_i a b
    obtain ⟨dx, fs, dy, gs, ha, hb, hsp⟩ := h
    obtain ⟨f, fd, ps, F, cl, hm, bn⟩ := c
    cases rx
    cases ry
    obtain ⟨mA, J, _⟩ := ins_get I.hok ha
    obtain ⟨mB, J', _⟩ := ins_get I.hok hb
    obtain ⟨od, J, _⟩ := J.look
    obtain ⟨od', J', _⟩ := J'.look
    show wpAny (model X.prog X.w) X.A (richCompare .NotEq (.ref a) (.ref b)) (EP X pins σ Q) X.xe s
    have un := room.units
    refine ne_own I.kIn J J'.type n.ne hm.at_ hm.fn n.mro (by omega) ?_
    have rel : Vals [V.ref a, V.ref b] [Value.ref a, Value.ref b] := .cons rfl (.cons rfl .nil)
    have ln : [Value.ref a, Value.ref b].length = ps.length := rel.length ▸ F.arity _ _ _ _ hsp
    have bd := bn s [.ref a, .ref b] I.kIn (by rw [List.append_nil]; exact ln)
    rw [List.append_nil] at bd
    have run := F.goes X.A.in1 X.stack s H ⟨[.ref a, .ref b], []⟩ [.ref a, .ref b] [.ref a, .ref b] _ E0 (room.mono hk).in1 gd I.env0.in1 bd rel hsp
    refine wpAny_call (codeAny_mono run ?_)
    intro r s' hq
    match r, hq with
    | .error er, hq => exact pass0 (X := X) pins σ H s er s' I hq
    | .ok .next, hq => exact hq.elim
    | .ok .brk, hq => exact hq.elim
    | .ok .cont, hq => exact hq.elim
    | .ok (.ret u), hq =>
      obtain ⟨z, H', I', rz, r, rfl, q⟩ := I.after hq
      cases rz
      exact ⟨r, rfl, .bl (!r), H', I', rfl, q⟩
  · exact h.elim
end Y

set_option Elab.async false
set_option linter.all false
set_option maxRecDepth 100000
set_option maxHeartbeats 2000000
set_option exponentiation.threshold 600
/-! X5: grafts and presses as mathematics; several places and models side by side. -/
namespace Y
open PySem PySem.Spec PyProof.Rows L2
def graftRow (s : Pst) (i : Nat) (r : List Lyr) : Pst := r.foldl (fun s l => laidS s i l.2) s
def graftTo (s s2 : Pst) : Nat → Pst
  | 0 => s
  | i + 1 => graftRow (graftTo s s2 i) i (s2.rows.getD i [])
def graftS (s s2 : Pst) (n : Nat) : Pst := ⟨min s.wear s2.wear, (graftTo s s2 n).rows, (graftTo s s2 n).next⟩
def pressS (s s2 : Pst) : Pst := match topOf s2.rows with
  | some (i, n) => if 1 < ((s2.rows.getD i []).getD n (0, default, 0)).2.2 then laidS s i (((s2.rows.getD i []).getD n (0, default, 0)).2.1, ((s2.rows.getD i []).getD n (0, default, 0)).2.2 / 2) else s
  | none => s
theorem graftRow_snoc (s : Pst) (i : Nat) (r : List Lyr) (l : Lyr) : graftRow s i (r ++ [l]) = laidS (graftRow s i r) i l.2 := by
  unfold graftRow
  rw [List.foldl_append]
  rfl
theorem laidS_len (s : Pst) (i : Nat) (y : Lay) : (laidS s i y).rows.length = s.rows.length := List.length_set
theorem laidS_other (s : Pst) {i j : Nat} (h : i ≠ j) (y : Lay) : (laidS s i y).rows[j]? = s.rows[j]? := List.getElem?_set_ne h
theorem laidS_at (s : Pst) {i : Nat} (h : i < s.rows.length) (y : Lay) : (laidS s i y).rows.getD i [] = s.rows.getD i [] ++ [(s.next, y)] := by
  rw [List.getD_eq_getElem?_getD]
  show ((s.rows.set i _)[i]?).getD [] = _
  rw [List.getElem?_set_self h]
  rfl
theorem graftRow_len (i : Nat) : ∀ (r : List Lyr) (s : Pst), (graftRow s i r).rows.length = s.rows.length
  | [], _ => rfl
  | l :: r, s => by
    show (graftRow (laidS s i l.2) i r).rows.length = _
    rw [graftRow_len i r, laidS_len]
theorem graftRow_other {i j : Nat} (h : i ≠ j) : ∀ (r : List Lyr) (s : Pst), (graftRow s i r).rows[j]? = s.rows[j]?
  | [], _ => rfl
  | l :: r, s => by
    show (graftRow (laidS s i l.2) i r).rows[j]? = _
    rw [graftRow_other h r, laidS_other s h]
theorem graftRow_next (i : Nat) : ∀ (r : List Lyr) (s : Pst), (graftRow s i r).next = s.next + r.length
  | [], s => by show s.next = s.next + (0 : Nat); omega
  | l :: r, s => by
    show (graftRow (laidS s i l.2) i r).next = _
    rw [graftRow_next i r]
    show s.next + 1 + _ = _
    rw [List.length_cons]
    omega
theorem graftRow_wear (i : Nat) : ∀ (r : List Lyr) (s : Pst), (graftRow s i r).wear = s.wear
  | [], s => rfl
  | l :: r, s => graftRow_wear i r (laidS s i l.2)
theorem graftRow_at {i : Nat} : ∀ (r : List Lyr) (s : Pst), i < s.rows.length → ((graftRow s i r).rows.getD i []).length = (s.rows.getD i []).length + r.length ∧ ∀ l ∈ (graftRow s i r).rows.getD i [], l ∈ s.rows.getD i [] ∨ ∃ q ∈ r, l.2 = q.2
  | [], s, _ => ⟨rfl, fun l hl => .inl hl⟩
  | q :: r, s, h => by
    obtain ⟨h1, h2⟩ := graftRow_at r (laidS s i q.2) (by rw [laidS_len]; exact h)
    rw [laidS_at s h] at h1 h2
    refine ⟨?_, fun l hl => ?_⟩
    · show ((graftRow (laidS s i q.2) i r).rows.getD i []).length = _
      rw [h1, List.length_append, List.length_cons, List.length_cons, List.length_nil]
      omega
    · rcases h2 l hl with z | ⟨p, hp, e⟩
      · rcases List.mem_append.mp z with z | z
        · exact .inl z
        · rw [List.mem_singleton.mp z]
          exact .inr ⟨q, List.mem_cons_self .., rfl⟩
      · exact .inr ⟨p, List.mem_cons_of_mem _ hp, e⟩
theorem graftTo_len (s s2 : Pst) : ∀ i, (graftTo s s2 i).rows.length = s.rows.length
  | 0 => rfl
  | i + 1 => (graftRow_len i _ _).trans (graftTo_len s s2 i)
theorem graftTo_wear (s s2 : Pst) : ∀ i, (graftTo s s2 i).wear = s.wear
  | 0 => rfl
  | i + 1 => (graftRow_wear i _ _).trans (graftTo_wear s s2 i)
theorem graftTo_late (s s2 : Pst) : ∀ i j, i ≤ j → (graftTo s s2 i).rows[j]? = s.rows[j]?
  | 0, _, _ => rfl
  | i + 1, j, h => (graftRow_other (by omega) _ _).trans (graftTo_late s s2 i j (by omega))
/-! ### members -/
structure Mem where
  a : PlAddr
  b : MdAddr
  s : Pst
  r : Pst
section
variable [Tb] {K : PySem.W.Frag} {CP CL : Addr} {H H' : Hp} {ks : List Ink} {F : List Mem}
structure Fam [Tb] (K : PySem.W.Frag) (CP CL : Addr) (H : Hp) (ks : List Ink) (F : List Mem) : Prop where
  pl : ∀ m ∈ F, PlAt K CP CL H m.a ks m.s
  md : ∀ m ∈ F, MdAt K H m.b ks m.r
  dj : ∀ m ∈ F, ∀ n ∈ F, ∀ y, MF n.b y → ¬ Ft m.a y
  np : ∀ m ∈ F, ∀ n ∈ F, (¬ Mt n.b m.a.pl ∧ ¬ Mt n.b m.a.pd) ∧ ¬ Ft n.a m.a.pl ∧ ¬ Ft n.a m.a.pd
  pp : ∀ (i j : Nat) (m n : Mem), F[i]? = some m → F[j]? = some n → i ≠ j → ∀ y, Ft m.a y → ¬ Ft n.a y
  mm : ∀ (i j : Nat) (m n : Mem), F[i]? = some m → F[j]? = some n → i ≠ j → ∀ y, Mt m.b y → ¬ MF n.b y
theorem Fam.up {S : Addr → Prop} (h : Fam K CP CL H ks F) (k : Kp S H H') (n : ∀ m ∈ F, ∀ y, S y → ¬ Ft m.a y ∧ ¬ MF m.b y ∧ y ≠ m.a.pl ∧ y ≠ m.a.pd) : Fam K CP CL H' ks F :=
  ⟨fun m hm => (h.pl m hm).up k (fun z => (n m hm _ z).2.2.1 rfl) (fun z => (n m hm _ z).2.2.2 rfl) fun y f z => (n m hm y z).1 f, fun m hm => (h.md m hm).up k fun y f z => (n m hm y z).2.1 f, h.dj, h.np, h.pp, h.mm⟩
theorem Fam.up0 (h : Fam K CP CL H ks F) (k : Kp No H H') : Fam K CP CL H' ks F := h.up k fun _ _ _ z => z.elim
theorem md_full {b : MdAddr} {s : Pst} (h : MdAt K H b ks s) : ∀ y, MF b y → H y ≠ none := by
  rintro y (z | z | z | z)
  · rw [z, h.dct]; intro e; cases e
  · obtain ⟨ys, g, _⟩ := h.inks
    rw [z, g]; intro e; cases e
  · rw [z, h.rd]; intro e; cases e
  · obtain ⟨i, hi, rfl⟩ := List.mem_iff_getElem.mp z
    obtain ⟨vs, g1, _⟩ := h.row i _ _ (List.getElem?_eq_getElem hi) (List.getElem?_eq_getElem (show i < s.rows.length by rw [h.rws, ← h.len]; exact hi))
    rw [g1]; intro e; cases e
omit [Tb] in
theorem pal_full {C x dx d : Addr} (h : PalAt C H x dx d ks) : H x ≠ none ∧ H d ≠ none := by
  refine ⟨fun e => ?_, fun e => ?_⟩
  · rw [h.ins] at e; cases e
  · rw [h.dct] at e; cases e
omit [Tb] in
theorem set_get {i j : Nat} {m' n : Mem} (h : (F.set i m')[j]? = some n) : (i = j ∧ n = m') ∨ (i ≠ j ∧ F[j]? = some n) := by
  by_cases e : i = j
  · subst e
    rw [List.getElem?_set] at h
    rw [if_pos rfl] at h
    split at h
    · exact .inl ⟨rfl, (Option.some.inj h).symm⟩
    · cases h
  · rw [List.getElem?_set_ne e] at h
    exact .inr ⟨e, h⟩
theorem Fam.place (h : Fam K CP CL H ks F) {i : Nat} {m : Mem} (hi : F[i]? = some m) {ls' : List Addr} {s' : Pst} (k : Kp (Ft m.a) H H') (p : PlAt K CP CL H' (m.a.at_ ls') ks s') (hl : ∀ l ∈ ls', l ∈ m.a.ls ∨ H l = none) :
    Fam K CP CL H' ks (F.set i ⟨m.a.at_ ls', m.b, s', m.r⟩) := by
  have mi := List.mem_of_getElem? hi
  have ft : ∀ y, Ft (m.a.at_ ls') y → Ft m.a y ∨ H y = none := by
    rintro y (z | z | z)
    · exact .inl (.inl z)
    · exact .inl (.inr (.inl z))
    · exact (hl y z).imp (fun w => .inr (.inr w)) id
  have old : ∀ n, n ∈ F.set i ⟨m.a.at_ ls', m.b, s', m.r⟩ → n = ⟨m.a.at_ ls', m.b, s', m.r⟩ ∨ n ∈ F := fun n hn => (List.mem_or_eq_of_mem_set hn).symm
  have atj : ∀ n, n ∈ F.set i ⟨m.a.at_ ls', m.b, s', m.r⟩ → n = ⟨m.a.at_ ls', m.b, s', m.r⟩ ∨ ∃ j, i ≠ j ∧ F[j]? = some n := fun n hn => by
    obtain ⟨j, hj, e⟩ := List.mem_iff_getElem.mp hn
    rcases set_get ((List.getElem?_eq_getElem hj).trans (congrArg some e)) with z | z
    · exact .inl z.2
    · exact .inr ⟨j, z⟩
  refine ⟨fun n hn => ?_, fun n hn => ?_, fun n hn q hq y f g => ?_, fun n hn q hq => ?_, fun x j n q h1 h2 ne y f g => ?_, fun x j n q h1 h2 ne y f g => ?_⟩
  · rcases atj n hn with rfl | ⟨j, ne, hj⟩
    · exact p
    · have hn := List.mem_of_getElem? hj
      exact (h.pl n hn).up k (h.np n hn m mi).2.1 (h.np n hn m mi).2.2 fun y f z => h.pp i j m n hi hj ne y z f
  · have : MdAt K H' n.b ks n.r := by
      rcases old n hn with rfl | hn
      · exact (h.md m mi).up k fun y f => h.dj m mi m mi y f
      · exact (h.md n hn).up k fun y f => h.dj m mi n hn y f
    exact this
  · have f2 : ∃ q' ∈ F, MF q'.b y ∧ H y ≠ none := by
      rcases old q hq with rfl | hq
      · exact ⟨m, mi, f, md_full (h.md m mi) y f⟩
      · exact ⟨q, hq, f, md_full (h.md q hq) y f⟩
    obtain ⟨q', hq', f3, f4⟩ := f2
    rcases old n hn with rfl | hn
    · rcases ft y g with z | z
      · exact h.dj m mi q' hq' y f3 z
      · exact f4 z
    · exact h.dj n hn q' hq' y f3 g
  · have e1 : ∃ n' ∈ F, n.a.pl = n'.a.pl ∧ n.a.pd = n'.a.pd ∧ H n.a.pl ≠ none ∧ H n.a.pd ≠ none := by
      rcases old n hn with rfl | hn
      · exact ⟨m, mi, rfl, rfl, pal_full (h.pl m mi).pal⟩
      · exact ⟨n, hn, rfl, rfl, pal_full (h.pl n hn).pal⟩
    obtain ⟨n', hn', e1, e2, e3, e4⟩ := e1
    rw [e1] at e3
    rw [e2] at e4
    rw [e1, e2]
    rcases old q hq with rfl | hq
    · refine ⟨(h.np n' hn' m mi).1, fun z => ?_, fun z => ?_⟩
      · rcases ft _ z with w | w
        · exact (h.np n' hn' m mi).2.1 w
        · exact e3 w
      · rcases ft _ z with w | w
        · exact (h.np n' hn' m mi).2.2 w
        · exact e4 w
    · exact h.np n' hn' q hq
  · rcases set_get h1 with ⟨e1, rfl⟩ | ⟨e1, h1⟩
    · rcases set_get h2 with ⟨e2, rfl⟩ | ⟨e2, h2⟩
      · exact ne (e1.symm.trans e2)
      · rcases ft y f with z | z
        · exact h.pp i j m q hi h2 e2 y z g
        · exact (h.pl q (List.mem_of_getElem? h2)).has g z
    · rcases set_get h2 with ⟨e2, rfl⟩ | ⟨e2, h2⟩
      · rcases ft y g with z | z
        · exact h.pp x i n m h1 hi (Ne.symm e1) y f z
        · exact (h.pl n (List.mem_of_getElem? h1)).has f z
      · exact h.pp x j n q h1 h2 ne y f g
  · have g1 : ∃ n', F[x]? = some n' ∧ Mt n'.b y := by
      rcases set_get h1 with ⟨e1, rfl⟩ | ⟨e1, h1⟩
      · exact ⟨m, e1 ▸ hi, f⟩
      · exact ⟨n, h1, f⟩
    have g2 : ∃ q', F[j]? = some q' ∧ MF q'.b y := by
      rcases set_get h2 with ⟨e1, rfl⟩ | ⟨e1, h2⟩
      · exact ⟨m, e1 ▸ hi, g⟩
      · exact ⟨q, h2, g⟩
    obtain ⟨n', a1, a2⟩ := g1
    obtain ⟨q', b1, b2⟩ := g2
    exact h.mm x j n' q' a1 b1 ne y a2 b2
theorem Fam.model (h : Fam K CP CL H ks F) {i : Nat} {m : Mem} (hi : F[i]? = some m) {ms' : List Addr} {r' : Pst} (k : Kp (Mt m.b) H H') (p : MdAt K H' (m.b.at_ ms') ks r') (hl : ∀ l ∈ ms', l ∈ m.b.ls ∨ H l = none) :
    Fam K CP CL H' ks (F.set i ⟨m.a, m.b.at_ ms', m.s, r'⟩) := by
  have mi := List.mem_of_getElem? hi
  have mtF : ∀ {b : MdAddr} {y : Addr}, Mt b y → MF b y := fun z => z.elim .inl fun w => .inr (.inr (.inl w))
  have ft : ∀ y, MF (m.b.at_ ms') y → MF m.b y ∨ H y = none := by
    rintro y (z | z | z | z)
    · exact .inl (.inl z)
    · exact .inl (.inr (.inl z))
    · exact .inl (.inr (.inr (.inl z)))
    · exact (hl y z).imp (fun w => .inr (.inr (.inr w))) id
  have old : ∀ n, n ∈ F.set i ⟨m.a, m.b.at_ ms', m.s, r'⟩ → n = ⟨m.a, m.b.at_ ms', m.s, r'⟩ ∨ n ∈ F := fun n hn => (List.mem_or_eq_of_mem_set hn).symm
  have atj : ∀ n, n ∈ F.set i ⟨m.a, m.b.at_ ms', m.s, r'⟩ → n = ⟨m.a, m.b.at_ ms', m.s, r'⟩ ∨ ∃ j, i ≠ j ∧ F[j]? = some n := fun n hn => by
    obtain ⟨j, hj, e⟩ := List.mem_iff_getElem.mp hn
    rcases set_get ((List.getElem?_eq_getElem hj).trans (congrArg some e)) with z | z
    · exact .inl z.2
    · exact .inr ⟨j, z⟩
  refine ⟨fun n hn => ?_, fun n hn => ?_, fun n hn q hq y f g => ?_, fun n hn q hq => ?_, fun x j n q h1 h2 ne y f g => ?_, fun x j n q h1 h2 ne y f g => ?_⟩
  · have : ∃ n' ∈ F, n.a = n'.a ∧ n.s = n'.s := by
      rcases old n hn with rfl | hn
      · exact ⟨m, mi, rfl, rfl⟩
      · exact ⟨n, hn, rfl, rfl⟩
    obtain ⟨n', hn', e1, e2⟩ := this
    rw [e1, e2]
    exact (h.pl n' hn').up k (h.np n' hn' m mi).1.1 (h.np n' hn' m mi).1.2 fun y f z => h.dj n' hn' m mi y (mtF z) f
  · rcases atj n hn with rfl | ⟨j, ne, hj⟩
    · exact p
    · exact (h.md n (List.mem_of_getElem? hj)).up k fun y f z => h.mm i j m n hi hj ne y z f
  · have g2 : ∃ n' ∈ F, Ft n'.a y := by
      rcases old n hn with rfl | hn
      · exact ⟨m, mi, g⟩
      · exact ⟨n, hn, g⟩
    obtain ⟨n', hn', g3⟩ := g2
    rcases old q hq with rfl | hq
    · rcases ft y f with z | z
      · exact h.dj n' hn' m mi y z g3
      · exact (h.pl n' hn').has g3 z
    · exact h.dj n' hn' q hq y f g3
  · have g1 : ∃ n' ∈ F, n.a = n'.a := by
      rcases old n hn with rfl | hn
      · exact ⟨m, mi, rfl⟩
      · exact ⟨n, hn, rfl⟩
    obtain ⟨n', hn', e1⟩ := g1
    rw [e1]
    rcases old q hq with rfl | hq
    · exact h.np n' hn' m mi
    · exact h.np n' hn' q hq
  · have g1 : ∃ n', F[x]? = some n' ∧ Ft n'.a y := by
      rcases set_get h1 with ⟨e1, rfl⟩ | ⟨e1, h1⟩
      · exact ⟨m, e1 ▸ hi, f⟩
      · exact ⟨n, h1, f⟩
    have g2 : ∃ q', F[j]? = some q' ∧ Ft q'.a y := by
      rcases set_get h2 with ⟨e1, rfl⟩ | ⟨e1, h2⟩
      · exact ⟨m, e1 ▸ hi, g⟩
      · exact ⟨q, h2, g⟩
    obtain ⟨n', a1, a2⟩ := g1
    obtain ⟨q', b1, b2⟩ := g2
    exact h.pp x j n' q' a1 b1 ne y a2 b2
  · rcases set_get h1 with ⟨e1, rfl⟩ | ⟨e1, h1⟩
    · rcases set_get h2 with ⟨e2, rfl⟩ | ⟨e2, h2⟩
      · exact ne (e1.symm.trans e2)
      · exact h.mm i j m q hi h2 e2 y f g
    · rcases set_get h2 with ⟨e2, rfl⟩ | ⟨e2, h2⟩
      · rcases ft y g with z | z
        · exact h.mm x i n m h1 hi (Ne.symm e1) y f z
        · exact md_full (h.md n (List.mem_of_getElem? h1)) y (mtF f) z
      · exact h.mm x j n q h1 h2 ne y f g
/-- one more -/
theorem Fam.snoc (h : Fam K CP CL H ks F) {m : Mem} (k : Kp No H H') (p : PlAt K CP CL H' m.a ks m.s) (d : MdAt K H' m.b ks m.r) (f1 : ∀ y, Ft m.a y → H y = none) (f2 : ∀ y, (y = m.b.m ∨ y = m.b.rd ∨ y ∈ m.b.ls) → H y = none)
    (g1 : ∀ y, MF m.b y → ¬ Ft m.a y) (g2 : ¬ Mt m.b m.a.pl ∧ ¬ Mt m.b m.a.pd) (il : H m.b.il ≠ none) (q1 : ∀ n ∈ F, ¬ Ft n.a m.a.pl ∧ ¬ Ft n.a m.a.pd ∧ ¬ Mt n.b m.a.pl ∧ ¬ Mt n.b m.a.pd ∧ ¬ Ft n.a m.b.il ∧ ¬ Mt n.b m.b.il) : Fam K CP CL H' ks (F ++ [m]) := by
  have h' := h.up0 k
  have mtF : ∀ {b : MdAddr} {y : Addr}, Mt b y → MF b y := fun z => z.elim .inl fun w => .inr (.inr (.inl w))
  have own : ∀ y, MF m.b y → y = m.b.il ∨ H y = none := by
    rintro y (z | z | z | z)
    · exact .inr (f2 y (.inl z))
    · exact .inl z
    · exact .inr (f2 y (.inr (.inl z)))
    · exact .inr (f2 y (.inr (.inr z)))
  have ownM : ∀ y, Mt m.b y → H y = none := fun y z => f2 y (z.elim .inl fun w => .inr (.inl w))
  have cs : ∀ n, n ∈ F ++ [m] → n ∈ F ∨ n = m := fun n hn => (List.mem_append.mp hn).imp id List.mem_singleton.mp
  have ix : ∀ (j : Nat) (n : Mem), (F ++ [m])[j]? = some n → F[j]? = some n ∨ (j = F.length ∧ n = m) := fun j n e => by
    by_cases hj : j < F.length
    · rw [List.getElem?_append_left hj] at e; exact .inl e
    · rw [List.getElem?_append_right (by omega)] at e
      have : j - F.length = 0 := by
        cases q : j - F.length with
        | zero => rfl
        | succ t => rw [q] at e; cases e
      rw [this] at e
      exact .inr ⟨by omega, (Option.some.inj e).symm⟩
  refine ⟨fun n hn => ?_, fun n hn => ?_, fun n hn q hq y f g => ?_, fun n hn q hq => ?_, fun x j n q a1 a2 ne y f g => ?_, fun x j n q a1 a2 ne y f g => ?_⟩
  · rcases cs n hn with z | rfl
    · exact h'.pl n z
    · exact p
  · rcases cs n hn with z | rfl
    · exact h'.md n z
    · exact d
  · rcases cs n hn with z | rfl
    · rcases cs q hq with w | rfl
      · exact h.dj n z q w y f g
      · rcases own y f with e | e
        · rw [e] at g; exact (q1 n z).2.2.2.2.1 g
        · exact (h.pl n z).has g e
    · rcases cs q hq with w | rfl
      · exact md_full (h.md q w) y f (f1 y g)
      · exact g1 y f g
  · rcases cs n hn with z | rfl
    · have pf := pal_full (h.pl n z).pal
      rcases cs q hq with w | rfl
      · exact h.np n z q w
      · exact ⟨⟨fun e => pf.1 (ownM _ e), fun e => pf.2 (ownM _ e)⟩, fun e => pf.1 (f1 _ e), fun e => pf.2 (f1 _ e)⟩
    · rcases cs q hq with w | rfl
      · obtain ⟨b1, b2, b3, b4, _⟩ := q1 q w
        exact ⟨⟨b3, b4⟩, b1, b2⟩
      · exact ⟨g2, fun e => (p.out _ e).1 rfl, fun e => (p.out _ e).2 rfl⟩
  · rcases ix x n a1 with z | ⟨e1, rfl⟩
    · rcases ix j q a2 with w | ⟨e2, rfl⟩
      · exact h.pp x j n q z w ne y f g
      · exact (h.pl n (List.mem_of_getElem? z)).has f (f1 y g)
    · rcases ix j q a2 with w | ⟨e2, rfl⟩
      · exact (h.pl q (List.mem_of_getElem? w)).has g (f1 y f)
      · exact ne (e1.trans e2.symm)
  · rcases ix x n a1 with z | ⟨e1, rfl⟩
    · rcases ix j q a2 with w | ⟨e2, rfl⟩
      · exact h.mm x j n q z w ne y f g
      · rcases own y g with e | e
        · rw [e] at f; exact (q1 n (List.mem_of_getElem? z)).2.2.2.2.2 f
        · exact md_full (h.md n (List.mem_of_getElem? z)) y (mtF f) e
    · rcases ix j q a2 with w | ⟨e2, rfl⟩
      · exact md_full (h.md q (List.mem_of_getElem? w)) y g (ownM y f)
      · exact ne (e1.trans e2.symm)
end
end Y

set_option Elab.async false
set_option linter.all false
set_option maxRecDepth 100000
set_option maxHeartbeats 2000000
set_option exponentiation.threshold 600
/-! X6: bounds of states over steps. -/
namespace Y
open PySem PySem.Spec PyProof.Rows L2
def cnt (rows : List (List Lyr)) : Nat := (rows.map List.length).sum
theorem sum_set : ∀ (l : List Nat) (j x : Nat), (l.set j x).sum + l.getD j 0 ≤ l.sum + x
  | [], _, _ => by simp
  | a :: r, 0, x => by
    show (x :: r).sum + a ≤ _
    rw [List.sum_cons, List.sum_cons]; omega
  | a :: r, j + 1, x => by
    have := sum_set r j x
    show (a :: r.set j x).sum + r.getD j 0 ≤ _
    rw [List.sum_cons, List.sum_cons]; omega
theorem cnt_set {rows : List (List Lyr)} {j k : Nat} {r' : List Lyr} (h : r'.length ≤ (rows.getD j []).length + k) : cnt (rows.set j r') ≤ cnt rows + k := by
  have := sum_set (rows.map List.length) j r'.length
  unfold cnt
  rw [List.map_set]
  have e : (rows.map List.length).getD j 0 = (rows.getD j []).length := by
    rw [List.getD_eq_getElem?_getD, List.getD_eq_getElem?_getD, List.getElem?_map]
    cases rows[j]? <;> rfl
  rw [e] at this
  omega
theorem len_le_cnt : ∀ {rows : List (List Lyr)} {r : List Lyr}, r ∈ rows → r.length ≤ cnt rows
  | q :: rows, r, h => by
    unfold cnt
    rw [List.map_cons, List.sum_cons]
    rcases List.mem_cons.mp h with rfl | h
    · omega
    · have := len_le_cnt h
      unfold cnt at this
      omega
theorem cnt_laid (s : Pst) (j : Nat) (y : Lay) : cnt (laidS s j y).rows ≤ cnt s.rows + 1 := cnt_set (by rw [List.length_append]; exact Nat.le_refl _)
theorem cnt_weak (s : Pst) (j : Nat) (n : Int) : cnt (weakS s j n).rows ≤ cnt s.rows := cnt_set (k := 0) (weakR_len _ _)
theorem cnt_wait (ks : List Ink) (t : Int) (s : Pst) : ∀ j, cnt (waitTo ks t s j).rows ≤ cnt s.rows
  | 0 => Nat.le_refl _
  | j + 1 => Nat.le_trans (cnt_weak _ _ _) (cnt_wait ks t s j)
theorem cnt_worn (s : Pst) (n : Int) : cnt (wornS s n).rows ≤ cnt s.rows := by
  unfold wornS
  cases topOf s.rows with
  | none => exact Nat.le_refl _
  | some p =>
    obtain ⟨i, j⟩ := p
    show cnt (if s.wear = 0 then s else _).rows ≤ _
    split
    · exact Nat.le_refl _
    · exact cnt_set (k := 0) (wornR_len _ _ _)
theorem cnt_graftRow (i : Nat) : ∀ (r : List Lyr) (s : Pst), cnt (graftRow s i r).rows ≤ cnt s.rows + r.length
  | [], s => Nat.le_refl _
  | l :: r, s => by
    have h1 := cnt_graftRow i r (laidS s i l.2)
    have h2 := cnt_laid s i l.2
    show cnt (graftRow (laidS s i l.2) i r).rows ≤ _
    rw [List.length_cons]
    omega
theorem take_sum (rows : List (List Lyr)) (i : Nat) : ((rows.take (i + 1)).map List.length).sum = ((rows.take i).map List.length).sum + (rows.getD i []).length := by
  rw [List.take_add_one, List.map_append, List.sum_append, List.getD_eq_getElem?_getD]
  cases rows[i]? <;> simp
theorem take_le (rows : List (List Lyr)) (i : Nat) : ((rows.take i).map List.length).sum ≤ cnt rows := by
  unfold cnt
  have e : rows.map List.length = (rows.take i).map List.length ++ (rows.drop i).map List.length := by rw [← List.map_append, List.take_append_drop]
  rw [e, List.sum_append]
  omega
theorem cnt_graftTo (s s2 : Pst) : ∀ i, cnt (graftTo s s2 i).rows ≤ cnt s.rows + ((s2.rows.take i).map List.length).sum
  | 0 => Nat.le_add_right _ _
  | i + 1 => by
    have h1 := cnt_graftTo s s2 i
    have h2 := cnt_graftRow i (s2.rows.getD i []) (graftTo s s2 i)
    rw [take_sum]
    show cnt (graftRow _ i _).rows ≤ _
    omega
theorem next_graftTo (s s2 : Pst) : ∀ i, (graftTo s s2 i).next = s.next + (((s2.rows.take i).map List.length).sum : Nat)
  | 0 => by show s.next = s.next + ((0 : Nat) : Int); omega
  | i + 1 => by
    rw [take_sum]
    show (graftRow _ i _).next = _
    rw [graftRow_next, next_graftTo s s2 i]
    omega
def StB (rows : List (List Lyr)) (B : Int) : Prop := ∀ r ∈ rows, ∀ l ∈ r, l.2.2 ≤ B
theorem StB.set {rows : List (List Lyr)} {B : Int} (h : StB rows B) {j : Nat} {r' : List Lyr} (h' : ∀ l ∈ r', l.2.2 ≤ B) : StB (rows.set j r') B := fun r hr l hl => by
  rcases List.mem_or_eq_of_mem_set hr with z | z
  · exact h r z l hl
  · rw [z] at hl; exact h' l hl
theorem StB.getD {rows : List (List Lyr)} {B : Int} (h : StB rows B) (j : Nat) : ∀ l ∈ rows.getD j [], l.2.2 ≤ B := fun l hl => by
  rw [List.getD_eq_getElem?_getD] at hl
  cases e : rows[j]? with
  | none => rw [e] at hl; cases hl
  | some r => rw [e] at hl; exact h r (List.mem_of_getElem? e) l hl
theorem StB.mono {rows : List (List Lyr)} {B B' : Int} (h : StB rows B) (hb : B ≤ B') : StB rows B' := fun r hr l hl => Int.le_trans (h r hr l hl) hb
theorem StB.laid {s : Pst} {B : Int} (h : StB s.rows B) (j : Nat) {y : Lay} (hy : y.2 ≤ B) : StB (laidS s j y).rows B := h.set fun l hl => by
  rcases List.mem_append.mp hl with z | z
  · exact h.getD j l z
  · rw [List.mem_singleton.mp z]; exact hy
theorem StB.weak {s : Pst} {B B' : Int} (h : StB s.rows B) (j : Nat) {n : Int} (hb : B ≤ B') (hn : B - n ≤ B') : StB (weakS s j n).rows B' := (h.mono hb).set fun l hl => by
  obtain ⟨l0, h0, _, rfl⟩ := weakR_mem hl
  have := h.getD j l0 h0
  show l0.2.2 - n ≤ _
  omega
theorem StB.wait {ks : List Ink} {t : Int} {s : Pst} {B : Int} (h : StB s.rows B) (hk : ∀ k ∈ ks, 0 ≤ k.2) (ht : 0 < t) : ∀ j, StB (waitTo ks t s j).rows B
  | 0 => h
  | j + 1 => (h.wait hk ht j).weak j (Int.le_refl _) (by
      have : 0 ≤ (ks.getD j (default, 0)).2 := by
        rw [List.getD_eq_getElem?_getD]
        cases e : ks[j]? with
        | none => exact Int.le_refl 0
        | some k => exact hk k (List.mem_of_getElem? e)
      have := Int.mul_nonneg (Int.le_of_lt ht) this
      omega)
theorem StB.worn {s : Pst} {B : Int} (h : StB s.rows B) (n : Int) : StB (wornS s n).rows B := by
  unfold wornS
  cases topOf s.rows with
  | none => exact h
  | some p =>
    obtain ⟨i, j⟩ := p
    show StB (if s.wear = 0 then s else _).rows B
    split
    · exact h
    · refine h.set fun l hl => ?_
      rcases wornR_mem hl with z | ⟨l0, h0, c1, c2, rfl⟩
      · exact h.getD i l z
      · have := h.getD i l0 h0
        show l0.2.2 - n ≤ _
        omega
theorem StB.graftRow {B : Int} (i : Nat) : ∀ (r : List Lyr) (s : Pst), StB s.rows B → (∀ l ∈ r, l.2.2 ≤ B) → StB (graftRow s i r).rows B
  | [], s, h, _ => h
  | l :: r, s, h, hr => StB.graftRow i r (laidS s i l.2) (h.laid i (hr l (List.mem_cons_self ..))) fun z hz => hr z (List.mem_cons_of_mem _ hz)
theorem StB.graftTo {s s2 : Pst} {B : Int} (h : StB s.rows B) (h2 : StB s2.rows B) : ∀ i, StB (graftTo s s2 i).rows B
  | 0 => h
  | i + 1 => StB.graftRow i _ _ (h.graftTo h2 i) (h2.getD i)
/-- the bounds behind i steps -/
structure B8 (s : Pst) (i : Nat) : Prop where
  w0 : 0 ≤ s.wear
  w6 : s.wear ≤ 6
  n0 : 0 ≤ s.next
  n1 : s.next ≤ 1000 * (i : Int)
  ct : cnt s.rows ≤ 80 + i
  st : StB s.rows ((i : Int) * 10 ^ 60)
theorem B8.more {s : Pst} {i : Nat} (h : B8 s i) : B8 s (i + 1) := ⟨h.w0, h.w6, h.n0, by have := h.n1; omega, by have := h.ct; omega, h.st.mono (by omega)⟩
theorem B8.row {s : Pst} {i : Nat} (h : B8 s i) {r : List Lyr} (hr : r ∈ s.rows) : r.length ≤ 80 + i := Nat.le_trans (len_le_cnt hr) h.ct
theorem B8.press {s s2 : Pst} {i : Nat} (h : B8 s i) (h2 : B8 s2 i) : B8 (pressS s s2) (i + 1) := by
  unfold pressS
  cases topOf s2.rows with
  | none => exact h.more
  | some p =>
    obtain ⟨a, b⟩ := p
    show B8 (if 1 < ((s2.rows.getD a []).getD b (0, default, 0)).2.2 then _ else s) (i + 1)
    split
    · rename_i c
      have hb : ((s2.rows.getD a []).getD b (0, default, 0)).2.2 ≤ (i : Int) * 10 ^ 60 := by
        rw [List.getD_eq_getElem?_getD (l := s2.rows.getD a [])] at c ⊢
        cases e : (s2.rows.getD a [])[b]? with
        | none => rw [e] at c; exact absurd c (by decide)
        | some l => exact h2.st.getD a l (List.mem_of_getElem? e)
      refine ⟨h.w0, h.w6, by show 0 ≤ s.next + 1; have := h.n0; omega, by show s.next + 1 ≤ _; have := h.n1; omega, ?_, ?_⟩
      · have := cnt_laid s a (((s2.rows.getD a []).getD b (0, default, 0)).2.1, ((s2.rows.getD a []).getD b (0, default, 0)).2.2 / 2)
        have := h.ct
        omega
      · refine (h.st.mono (show _ ≤ ((i + 1 : Nat) : Int) * 10 ^ 60 by omega)).laid a ?_
        show ((s2.rows.getD a []).getD b (0, default, 0)).2.2 / 2 ≤ _
        omega
    · exact h.more
theorem B8.graft {s s2 : Pst} {i n : Nat} (h : B8 s i) (h2 : B8 s2 i) (hc : cnt s.rows + cnt s2.rows ≤ 80) : B8 (graftS s s2 n) (i + 1) := by
  have a1 := cnt_graftTo s s2 n
  have a2 := take_le s2.rows n
  have a3 := next_graftTo s s2 n
  have b1 := h.n0
  have b2 := h.n1
  have w1 := h.w0
  have w2 := h.w6
  have w3 := h2.w0
  refine ⟨by show 0 ≤ min s.wear s2.wear; omega, by show min s.wear s2.wear ≤ 6; omega, by show 0 ≤ (graftTo s s2 n).next; omega, by show (graftTo s s2 n).next ≤ _; omega, by show cnt (graftTo s s2 n).rows ≤ _; omega, ?_⟩
  exact (h.st.graftTo h2.st n).mono (by omega)
end Y

set_option Elab.async false
set_option linter.all false
set_option maxRecDepth 100000
set_option maxHeartbeats 2000000
/-! XT: try .. except (A, B, ..) as e. -/
namespace Y
open PySem PySem.Spec PyProof.Rows L2
/-- the clause's expression t asks whether the caught exception's class is one of cs -/
def Asks (X : Cx) (t : Expr) (cs : List Value) : Prop := ∀ (a : Addr) (oe : Obj) (pn pins : List (Addr × Obj)) (σ : L2.St) (H : Hp) (s : Shared) (cls : Value) (b : Bool) (Q : Bool → Shared → Prop) (E : Value → Shared → Prop),
  Inv (X.suite a ((a, oe) :: pn)) pins σ H s → PySem.W.Looks (model X.prog X.w) s.heap (typeOf (.ref a)) cls → PySem.W.exmAny X.K cls cs = some b → (∀ h2 tk2, (∀ q o, s.heap.get? q = some o → h2.get? q = some o) → Q b ⟨h2, s.gens, s.drawn, tk2, s.os⟩) →
  wpAny (model X.prog X.w) (X.A.mark (some (.ref a))) (eval t X.env) (fun c s1 => wpAny (model X.prog X.w) (X.A.mark (some (.ref a))) (excMatches (.ref a) c) Q E s1) E s
section
variable {X : Cx} {cs : List Value}
theorem ld_names {x : Str} {c : Value} {np : Pos} {a : Addr} {oe : Obj} {pn pins : List (Addr × Obj)} {σ : L2.St} {H : Hp} {s : Shared} {Q : Value → Shared → Prop} {E : Value → Shared → Prop} (n : Names X x c) (I : Inv (X.suite a ((a, oe) :: pn)) pins σ H s) (q : Q c s) :
    wpAny (model X.prog X.w) (X.A.mark (some (.ref a))) (eval (.Name x np) X.env) Q E s := by
  obtain ⟨hg, db, h⟩ := n
  rcases h with h | ⟨h1, h2, h3⟩
  · exact ld_glob (X := X.suite a ((a, oe) :: pn)) I hg h q db
  · exact ld_blt (X := X.suite a ((a, oe) :: pn)) I hg h1 h2 q h3 db
theorem asks2 {x1 x2 : Str} {c1 c2 : Value} {p1 p2 tp : Pos} {kk : Nat} (n1 : Names X x1 c1) (n2 : Names X x2 c2) : Asks X (.Tuple [.Name x1 p1, .Name x2 p2] kk tp) [c1, c2] := by
  intro a oe pn pins σ H s cls b Q E I LT he q
  refine wpAny_Tuple (wpAny_items_cons (ld_names n1 I (wpAny_items_cons (ld_names n2 I (wpAny_items_nil ⟨by size_fits, ?_⟩)))))
  have kp : ∀ z o, s.heap.get? z = some o → (s.heap.push { cls := .type "tuple", data := .seq [c1, c2].toArray }).get? z = some o := fun _ _ z => Heap.get?_push_of_some _ z
  exact (PySem.W.exm_tup2 (I.kIn.keeps kp) (LT.keeps kp) (Heap.get?_push_size s.heap rfl) he).here (q _ _ kp)
theorem asks3 {x1 x2 x3 : Str} {c1 c2 c3 : Value} {p1 p2 p3 tp : Pos} {kk : Nat} (n1 : Names X x1 c1) (n2 : Names X x2 c2) (n3 : Names X x3 c3) : Asks X (.Tuple [.Name x1 p1, .Name x2 p2, .Name x3 p3] kk tp) [c1, c2, c3] := by
  intro a oe pn pins σ H s cls b Q E I LT he q
  refine wpAny_Tuple (wpAny_items_cons (ld_names n1 I (wpAny_items_cons (ld_names n2 I (wpAny_items_cons (ld_names n3 I (wpAny_items_nil ⟨by size_fits, ?_⟩)))))))
  have kp : ∀ z o, s.heap.get? z = some o → (s.heap.push { cls := .type "tuple", data := .seq [c1, c2, c3].toArray }).get? z = some o := fun _ _ z => Heap.get?_push_of_some _ z
  exact (PySem.W.exm_tup3 (I.kIn.keeps kp) (LT.keeps kp) (Heap.get?_push_size s.heap rfl) he).here (q _ _ kp)
theorem asks4 {x1 x2 x3 x4 : Str} {c1 c2 c3 c4 : Value} {p1 p2 p3 p4 tp : Pos} {kk : Nat} (n1 : Names X x1 c1) (n2 : Names X x2 c2) (n3 : Names X x3 c3) (n4 : Names X x4 c4) : Asks X (.Tuple [.Name x1 p1, .Name x2 p2, .Name x3 p3, .Name x4 p4] kk tp) [c1, c2, c3, c4] := by
  intro a oe pn pins σ H s cls b Q E I LT he q
  refine wpAny_Tuple (wpAny_items_cons (ld_names n1 I (wpAny_items_cons (ld_names n2 I (wpAny_items_cons (ld_names n3 I (wpAny_items_cons (ld_names n4 I (wpAny_items_nil ⟨by size_fits, ?_⟩)))))))))
  have kp : ∀ z o, s.heap.get? z = some o → (s.heap.push { cls := .type "tuple", data := .seq [c1, c2, c3, c4].toArray }).get? z = some o := fun _ _ z => Heap.get?_push_of_some _ z
  exact (PySem.W.exm_tup4 (I.kIn.keeps kp) (LT.keeps kp) (Heap.get?_push_size s.heap rfl) he).here (q _ _ kp)
theorem flies_on {B h h2 : Heap} {l : List Env} {e : Addr} {Z : Obj → Prop} (f : HandSPX.FlyingZ B l e Z h) (k : ∀ b o, h.get? b = some o → h2.get? b = some o) : HandSPX.FlyingZ B l e Z h2 := by
  obtain ⟨g1, g2, g3, oe, vs, T, oT, ts, a1, a2, a3, a4, a5, a6, a7, a8, a9⟩ := f
  exact ⟨fun b o z => k b o (g1 b o z), g2, g3.of_keeps fun b o z _ => ⟨o, k b o z, rfl⟩, oe, vs, T, oT, ts, k _ _ a1, a2, a3, a4, a5, a6, k _ _ a7, a8, a9⟩
/-- what 'except (A, B, ..) as n' wishes of an exception of the body -/
def wAny (K : PySem.W.Frag) (cs : List Value) (i : Nat) (ts : Addr → Value → Option Addr → TS) (Wout : WX) (D : Ends) : WX := fun cls d σ H =>
  ∃ b, PySem.W.exmAny K cls cs = some b ∧ (b = true → ∀ a, H a = none → ts a cls d ⟨fun σ' H' => D.nx (σ'.set i none) H', D.rt, fun σ' H' => D.bk (σ'.set i none) H', fun σ' H' => D.ct (σ'.set i none) H'⟩ (σ.set i (some (.ref a))) H) ∧ (b = false → Wout cls d σ H)
theorem ps_try_any {n : Str} {i : Nat} {t : Expr} {body suite : List Stmt} {b0 : Stmt} {pos pos2 : Pos} {tb : WX → TS} {ts : Addr → Value → Option Addr → TS} {Wout : WX} (hs : X.stack = X.env :: X.outer) (hf : X.env.frame = some X.env.locals) (nd : X.N.Nodup) (hi : X.N[i]? = some n) (hln : X.env.kindOf n = some .local) (as : Asks X t cs) (tk : Takes X Wout)
    (hb : ∀ (W : WX) (pn : List (Addr × Obj)) (xe : Value → Shared → Prop), Takes (X.tr pn xe) W → PassesOwn (model X.prog X.w) X.A X.env xe → PSs (X.tr pn xe) body (tb W))
    (hsu : ∀ (a : Addr) (oe : Obj) (cls : Value) (d : Option Addr) (pn : List (Addr × Obj)), Zc cls d oe → (∃ vs, oe.data = .fields vs) → PSs (X.suite a ((a, oe) :: pn)) (b0 :: suite) (ts a cls d)) :
    PS X (.Try body [.ExceptHandler (some t) (some n) (b0 :: suite) pos2] [] [] pos) (fun D σ H => tb (wAny X.K cs i ts Wout D) D σ H) := by
  constructor
  intro pins s σ H D I h
  have ok := I.ok
  have frames : X.A.frames = some (X.env :: X.outer) := by rw [ok.frames, hs]
  refine wpAny_Try_except ?_
  let xe : Value → Shared → Prop := fun e s1 => wpAny (model X.prog X.w) X.A (noteFrame e X.env) (fun _ s2 => wpAny (model X.prog X.w) X.A (setFlight e none) (fun _ s3 => wpAny (model X.prog X.w) X.A (handleBy e X.env [.ExceptHandler (some t) (some n) (b0 :: suite) pos2]) (SP X pins D) X.xe s3) X.xe s2) X.xe s1
  have caught : Takes (X.tr (X.pn ++ pins) xe) (wAny X.K cs i ts Wout D) := by
    rintro u s1 ⟨a, B, sI, pins', σ1, H1, cls, d, rfl, J0, nb, up, sky, na, os, ag, b, hb1, yes, no⟩
    have J : Inv X pins σ1 H1 sI := J0.ofTry ok
    have sky2 : Sky B (X.env :: X.outer) a (Zc cls d) X.env.locals s1.heap := by rw [← hs]; exact sky
    show wpAny (model X.prog X.w) X.A (noteFrame (.ref a) X.env) _ _ _
    refine Sky.land Zc.steady frames hf sky2 ?_
    intro h3 fl3 up3
    have J3 : Inv X pins σ1 H1 { s1 with heap := h3 } := J.landed nb fl3.1 (up.trans up3) os ag
    obtain ⟨oe3, vs3, at3, z3, d3⟩ := fl3.there
    have noFrame : a ∉ frs (X.env :: X.outer) := fun hm => by
      obtain ⟨_, o2, e2, hn⟩ := fl3.2.2.1.mem hm
      rw [at3] at e2
      cases e2
      exact hn _ d3
    have nL : a ≠ X.env.locals := fun e => noFrame (List.mem_filterMap.mpr ⟨X.env, List.mem_cons_self, by rw [hf, e]⟩)
    have nF : a ∉ X.fs := fun hm => by
      obtain ⟨e, he, z⟩ := List.mem_filterMap.mp hm
      exact noFrame (List.mem_filterMap.mpr ⟨e, List.mem_cons_of_mem _ he, z⟩)
    have S3 := J3.suite at3 d3 na nL nF
    have LT : PySem.W.Looks (model X.prog X.w) h3 (typeOf (.ref a)) cls := fun A Q E s k z => wpAny_typeOf_ref (k _ _ at3) (by rw [z3.1]; exact z)
    refine wpAny_handleBy_cons (codeAny_handlers_test (as a oe3 _ _ _ _ _ cls b _ _ S3 LT hb1 ?_)) (by intro z; cases z)
    intro h4 tk4 kp
    have fl4 := flies_on fl3 kp
    have up4 := (up.trans up3).trans (Heap.UpToSlots.of_keeps kp)
    cases b with
    | true =>
      refine codeAny_handlers_suite_as (HandSPX.lands_againZ fl4 ?_)
      intro h5 fl5 up5
      have J5 : Inv X pins σ1 H1 ⟨h5, s1.gens, s1.drawn, tk4, s1.os⟩ := J.landed nb fl5.1 (up4.trans up5) os ag
      obtain ⟨oe5, vs5, at5, z5, d5⟩ := fl5.there
      have S5 := J5.suite at5 d5 na nL nF
      refine store_ok (X := X.suite a ((a, oe5) :: (X.pn ++ pins))) (v := .ref a) S5 nd hi (.inl hln) rfl (fun s6 S6 => ?_) (.inr hln)
      refine wpAny_mono ((hsu a oe5 cls d (X.pn ++ pins) z5 ⟨_, d5⟩).run [] s6 _ H1 _ S6 (yes rfl a na)) ?_ (fun _ _ z => z.elim)
      intro fl s7 hsp
      have fin : ∀ {σ7 : L2.St} {H7 : Hp} {R : Shared → Prop}, Inv (X.suite a ((a, oe5) :: (X.pn ++ pins))) [] σ7 H7 s7 → (∀ s8, Inv X pins (σ7.set i none) H7 s8 → R s8) →
          wpAny (model X.prog X.w) X.A (do bindName X.env n .none; unbindBehindTheSuite X.env n pos2) (fun _ s8 => R s8) X.xe s7 := fun S7 hR => gone_ok (S7.unsuite ok) nd hi hln hR
      cases fl with
      | next => exact let ⟨_, _, S7, q7⟩ := hsp; fin S7 fun _ J8 => ⟨_, _, J8, q7⟩
      | brk => exact let ⟨_, _, S7, q7⟩ := hsp; fin S7 fun _ J8 => ⟨_, _, J8, q7⟩
      | cont => exact let ⟨_, _, S7, q7⟩ := hsp; fin S7 fun _ J8 => ⟨_, _, J8, q7⟩
      | ret u => exact let ⟨_, _, _, S7, r7, q7⟩ := hsp; fin S7 fun _ J8 => ⟨_, _, _, J8, r7, q7⟩
    | false =>
      show wpAny _ X.A (handleBy (.ref a) X.env []) _ _ _
      refine wpAny_handleBy_nil ?_
      obtain ⟨g1, g2, g3, oe, vs, T, oT, ts2, a1, a2, a3, a4, a5⟩ := id fl4
      unfold PySem.passOn
      refine wpAny_bind (wpAny_field a1 a3 a4 ?_)
      rw [if_neg (show ¬ ((Value.ref T == Value.none) = true) by simp)]
      have last : wpAny (model X.prog X.w) X.A (setFlight (.ref a) X.env.frame) (fun _ s5 => wpAny (model X.prog X.w) X.A (throw (.ref a) : Sem Flow) (SP X pins D) X.xe s5) X.xe ⟨h4, s1.gens, s1.drawn, tk4, s1.os⟩ := by
        rw [hf]
        refine HandSPX.setFlight_upZ fl4 ?_
        intro h5 hh5 up5
        refine wpAny_throw (tk _ _ ⟨a, B, sI, pins, σ1, H1, cls, d, rfl, J, nb, up4.trans up5, ?_, na, os, ag, no rfl⟩)
        exact .inr (.inr (by rw [hs]; exact hh5))
      first
        | exact wpAny_bind (wpAny_pure (wpAny_bind last))
        | exact wpAny_bind last
  refine wpAny_mono ((hb (wAny X.K cs i ts Wout D) (X.pn ++ pins) xe caught PassesOwn.looking).run [] s σ H D (I.toTry _) h) ?_ fun e s1 z => z
  intro fl s1 hsp
  cases fl with
  | next => exact let ⟨_, _, J, q⟩ := hsp; wpAny_execs_nil ⟨_, _, J.ofTry ok, q⟩
  | brk => exact let ⟨_, _, J, q⟩ := hsp; ⟨_, _, J.ofTry ok, q⟩
  | cont => exact let ⟨_, _, J, q⟩ := hsp; ⟨_, _, J.ofTry ok, q⟩
  | ret u => exact let ⟨_, _, _, J, r, q⟩ := hsp; ⟨_, _, _, J.ofTry ok, r, q⟩
end
end Y

set_option Elab.async false
set_option linter.all false
set_option maxRecDepth 100000
set_option maxHeartbeats 2000000
/-! XU: C(e, ..) where keyword-only parameters take their defaults, beside C(e, .., k = v). -/
namespace Y
open PySem PySem.Spec PyProof.Rows L2
/-- made with its keywords, or without them *(dvs: their defaults)* -/
def CalKJ (P : Program) (w : World) (K : PySem.W.Frag) (mg : Str → Option Value) (base : Heap) (k : Nat) (x : Str) (C : Addr) (n : Nat) (ks : List Str) (dvs : List V) (sp : Sp) : Prop :=
  ∃ f fd ps g ds, FnG P w K mg base CX0 k f fd ps sp ∧ Mk K C f ∧ mg x = some (.ref C) ∧ KBn K fd ps (n + 1) ks g (fun vs zs => vs ++ zs) ∧ Vals dvs ds ∧ Binds K fd ps ds
theorem CalKJ.k {P : Program} {w : World} {K : PySem.W.Frag} {mg : Str → Option Value} {base : Heap} {k : Nat} {x : Str} {C : Addr} {n : Nat} {ks : List Str} {dvs : List V} {sp : Sp} (c : CalKJ P w K mg base k x C n ks dvs sp) : CalK P w K mg base k x C n ks (fun vs zs => vs ++ zs) sp := by
  obtain ⟨f, fd, ps, g, ds, F, M, hm, kb, _⟩ := c
  exact ⟨f, fd, ps, g, F, M, hm, kb⟩
theorem calKJ_of {P : Program} {w : World} {K : PySem.W.Frag} {mg : Str → Option Value} {base : Heap} {k n : Nat} {C : Addr} {q x : Str} {sp : Sp} {kws : List (Str × V)} {st : Stmt} {N ps ks : List Str} (D : IniAt K mg x C q st kws) (hk : kws ≠ []) (S : FnScope N ps (defScope st))
    (bnd : ∀ (D : Addr) (doc pm : Value) (an : Option Addr) (cdv ct : Value) (us ws : List Value), us.length = n + 1 → ws.length = ks.length → KwChain D [] (bindArgs (PySem.W.fnOf "__init__" q (defArgs st) (defBody st) (defScope st) .none (.ref D) doc pm an cdv ct) ⟨us, ks.zip ws⟩) (ps.zip (us ++ ws)))
    (ln : n + 1 + kws.length = ps.length)
    (bnd0 : ∀ (D : Addr) (doc pm : Value) (an : Option Addr) (cdv ct : Value) (us zs : List Value), us.length = n + 1 → zs.length = kws.length → KwChain D ((kws.map (·.1)).zip zs) (bindArgs (PySem.W.fnOf "__init__" q (defArgs st) (defBody st) (defScope st) .none (.ref D) doc pm an cdv ct) ⟨us, []⟩) (ps.zip (us ++ zs)))
    (ar : ∀ vs H Q E, sp vs H Q E → vs.length = ps.length)
    (hb : ∀ (f : Addr) (cd : Value) (A : Around) (out : List Env) (s : Shared) (H : Hp) (vs : List V) (Q : VK) (E : XK), Room k (A.deeper (envOfC q (defScope st) s.heap.objs.size f cd)) → (A.deeper (envOfC q (defScope st) s.heap.objs.size f cd)).guards = some [] → sp vs H Q E →
      ∃ t, PSs (cxOf CX0 P w K mg base N q (defScope st) f cd A out s H E).nox (defBody st) t ∧ t { nx := fun _ H' => Q .non H', rt := Q } (start N vs) H) : CalKJ P w K mg base (k + 1) x C n ks (kws.map (·.2)) sp := by
  obtain ⟨f, fd, F, hm, hx⟩ := D
  obtain ⟨mv, kb⟩ := FunD.kbinds0 F (n + 1) ks [] (fun us _ ws => us ++ ws) hk (fun q hq => (nomatch hq)) (fun r1 _ r3 => r1.append r3) fun D doc pm an cdv ct us mv ws l1 l2 l3 => by
    cases mv with
    | nil => exact bnd D doc pm an cdv ct us ws l1 l3
    | cons a b => cases l2
  obtain ⟨ds, vd, bd⟩ := FunD.binds0 F (n + 1) hk ln bnd0
  exact ⟨f, fd, ps, _, ds, body_of F S ar hb, hm, hx, kb, vd, bd⟩
section
variable {X : Cx} {k j n : Nat} {C : Addr} {x : Str} {sp : Sp} {p pos : Pos} {e : Expr} {es : List Expr} {t : TA} {ks : List Str} {dvs : List V}
def yMakeD (C : Addr) (n : Nat) (sp : Sp) (dvs : List V) (t : TA) : TE := fun σ H Q => t σ H fun vs H1 => vs.length = n ∧ ∀ x dx, H1 x = none → H1 dx = none → dx ≠ x →
  sp ((.ref x :: vs) ++ dvs) (fresh2 H1 C x dx) (fun v H2 => v = .non ∧ Q (.ref x) H2) E0
theorem ye_makeD (c : CalKJ X.prog X.w X.K X.mg X.base k x C n ks dvs sp) (room : Room j X.A) (gd : X.A.guards = some []) (hg : Gl X x) (ha : PA X (e :: es) t) (hk : k + 1 ≤ j := by decide) (hdb : (x == ("__debug__" : Str)) = false := by decide)
    (h1 : starEach (e :: es) X.env = (false, eval e X.env) :: starEach es X.env := by rfl) (h2 : (backTo pos (starEach es X.env)).any (·.1) = false := by rfl) :
    PE X (.Call (.Name x p) (e :: es) [] pos) (yMakeD C n sp dvs t) := by
  obtain ⟨f, fd, ps, g, ds, F, M, hm, _, vd, bd⟩ := c
  constructor
  intro pins s σ H Q I h
  refine wpAny_Call_Name_kw (ld_glob I hg hm ?_ hdb)
  refine PySem.W.callWith_K (h₀ := X.base) I.ok.mod.kin M.kp (thn (ha.run pos pins s σ H _ I h) ?_) h1 h2
  rintro us s1 ⟨vs, H1, I1, r, ln, q⟩
  refine ⟨I1.kIn, ?_⟩
  have hq := q (s1.heap.objs.size + 1) s1.heap.objs.size (I1.hok.fresh (Nat.le_succ _)) (I1.hok.fresh (Nat.le_refl _)) (Nat.ne_of_lt (Nat.lt_succ_self _))
  have el := F.arity _ _ _ _ hq
  have kb : KBn X.K fd ps (n + 1) [] (fun us _ => us ++ ds) (fun vs _ => vs ++ dvs) := by
    refine ⟨fun s us ws hK l1 _ => ?_, fun r _ => r.append vd⟩
    have := bd s us hK (by rw [List.length_append, l1, ← vd.length, ← el, List.length_append, List.length_cons, ln])
    exact this
  exact goes_make (ks := []) (us := us) (ws := []) (zs := []) M F (room.mono hk) gd kb I1 r .nil ln rfl q
end
end Y

set_option Elab.async false
set_option linter.all false
set_option maxRecDepth 100000
set_option maxHeartbeats 2000000
set_option exponentiation.threshold 600
/-! Q1: what a heap holds, as a list of resources: each has a footprint of its own, apart from all others; what is frozen (Z) may be shared. -/
namespace Y
open PySem PySem.Spec PyProof.Rows L2
section
variable [Tb]
/-- a resource: holds with the frozen addresses Z and the footprint f in the heap -/
structure Rsc where
  h : (Addr → Prop) → (Addr → Prop) → Hp → Prop
  stable : ∀ {Z f S : Addr → Prop} {H H' : Hp}, h Z f H → Kp S H H' → (∀ y, f y → ¬ S y) → (∀ y, Z y → ¬ S y) → h Z f H'
  full : ∀ {Z f : Addr → Prop} {H : Hp}, h Z f H → ∀ y, f y → H y ≠ none
  mono : ∀ {Z Z' f : Addr → Prop} {H : Hp}, h Z f H → (∀ y, Z y → Z' y) → h Z' f H
structure CtxA (Z : Addr → Prop) (φ : Nat → Addr → Prop) (l : List Rsc) (H : Hp) : Prop where
  hold : ∀ (i : Nat) (r : Rsc), l[i]? = some r → r.h Z (φ i) H
  dj : ∀ (i j : Nat) (r q : Rsc), l[i]? = some r → l[j]? = some q → i ≠ j → ∀ y, φ i y → ¬ φ j y
  nz : ∀ (i : Nat) (r : Rsc), l[i]? = some r → ∀ y, φ i y → ¬ Z y
  zf : ∀ y, Z y → H y ≠ none
  tab : TbOk H
def Ctx (l : List Rsc) (H : Hp) : Prop := ∃ Z φ, CtxA Z φ l H
variable {Z f S : Addr → Prop} {φ : Nat → Addr → Prop} {l l' : List Rsc} {H H' : Hp} {r r' q q' : Rsc}
theorem CtxA.full (c : CtxA Z φ l H) {i : Nat} (hi : l[i]? = some r) : ∀ y, φ i y → H y ≠ none := r.full (c.hold i r hi)
/-- a change of the resources I, the others stay -/
theorem CtxA.change (c : CtxA Z φ l H) (k : Kp S H H') (I : Nat → Prop) (hS : ∀ y, S y → H y = none ∨ ∃ i r, I i ∧ l[i]? = some r ∧ φ i y) (φ' : Nat → Addr → Prop)
    (old : ∀ i, ¬ I i → ∀ r, l'[i]? = some r → l[i]? = some r ∧ φ' i = φ i)
    (new : ∀ i, I i → ∀ r, l'[i]? = some r → r.h Z (φ' i) H' ∧ ∀ y, φ' i y → H y = none ∨ ∃ j q, I j ∧ l[j]? = some q ∧ φ j y)
    (djn : ∀ i j, I i → I j → i ≠ j → ∀ r q, l'[i]? = some r → l'[j]? = some q → ∀ y, φ' i y → ¬ φ' j y) : CtxA Z φ' l' H' := by
  have nS : ∀ i, ¬ I i → ∀ r, l[i]? = some r → ∀ y, φ i y → ¬ S y := fun i ni r hr y fy sy => by
    rcases hS y sy with e | ⟨j, q, ij, hj, fj⟩
    · exact c.full hr y fy e
    · exact c.dj i j r q hr hj (fun e => ni (e ▸ ij)) y fy fj
  have nZ : ∀ y, Z y → ¬ S y := fun y zy sy => by
    rcases hS y sy with e | ⟨j, q, ij, hj, fj⟩
    · exact c.zf y zy e
    · exact c.nz j q hj y fj zy
  have away : ∀ i j, I i → ¬ I j → ∀ r q, l'[i]? = some r → l'[j]? = some q → ∀ y, φ' i y → ¬ φ' j y := fun i j hi hj r q h1 h2 y f1 f2 => by
    obtain ⟨o1, o2⟩ := old j hj q h2
    rw [o2] at f2
    rcases (new i hi r h1).2 y f1 with e | ⟨m, p, im, hm, fm⟩
    · exact c.full o1 y f2 e
    · exact c.dj m j p q hm o1 (fun e => hj (e ▸ im)) y fm f2
  refine ⟨fun i r hr => ?_, fun i j r q hr hq ne y f1 f2 => ?_, fun i r hr y fy zy => ?_, fun y zy e => c.zf y zy (k.dom y e), k.tab c.tab⟩
  · by_cases hi : I i
    · exact (new i hi r hr).1
    · obtain ⟨o1, o2⟩ := old i hi r hr
      rw [o2]
      exact r.stable (c.hold i r o1) k (nS i hi r o1) nZ
  · by_cases hi : I i
    · by_cases hj : I j
      · exact djn i j hi hj ne r q hr hq y f1 f2
      · exact away i j hi hj r q hr hq y f1 f2
    · by_cases hj : I j
      · exact away j i hj hi q r hq hr y f2 f1
      · obtain ⟨o1, o2⟩ := old i hi r hr
        obtain ⟨o3, o4⟩ := old j hj q hq
        rw [o2] at f1
        rw [o4] at f2
        exact c.dj i j r q o1 o3 ne y f1 f2
  · by_cases hi : I i
    · rcases (new i hi r hr).2 y fy with e | ⟨m, p, im, hm, fm⟩
      · exact c.zf y zy e
      · exact c.nz m p hm y fm zy
    · obtain ⟨o1, o2⟩ := old i hi r hr
      rw [o2] at fy
      exact c.nz i r o1 y fy zy
theorem CtxA.keep (c : CtxA Z φ l H) (k : Kp No H H') : CtxA Z φ l H' :=
  c.change k (fun _ => False) (fun y z => z.elim) φ (fun i _ r hr => ⟨hr, rfl⟩) (fun i z => z.elim) (fun i j z => z.elim)
theorem Ctx.keep (c : Ctx l H) (k : Kp No H H') : Ctx l H' := let ⟨Z, φ, c⟩ := c; ⟨Z, φ, c.keep k⟩
theorem Ctx.tab (c : Ctx l H) : TbOk H := let ⟨_, _, c⟩ := c; c.tab
theorem set_some {α : Type} {l : List α} {i j : Nat} {r q : α} (h : (l.set i q)[j]? = some r) : (i = j ∧ r = q ∧ i < l.length) ∨ (i ≠ j ∧ l[j]? = some r) := by
  by_cases e : i = j
  · subst e
    rw [List.getElem?_set, if_pos rfl] at h
    split at h
    · rename_i z
      exact .inl ⟨rfl, (Option.some.inj h).symm, z⟩
    · cases h
  · rw [List.getElem?_set_ne e] at h
    exact .inr ⟨e, h⟩
theorem CtxA.set (c : CtxA Z φ l H) {i : Nat} (hi : l[i]? = some r) {f' : Addr → Prop} (k : Kp S H H') (hS : ∀ y, S y → φ i y ∨ H y = none) (h : r'.h Z f' H') (hf : ∀ y, f' y → φ i y ∨ H y = none) : CtxA Z (fun j => if j = i then f' else φ j) (l.set i r') H' := by
  refine c.change k (fun j => j = i) (fun y z => (hS y z).symm.imp id fun w => ⟨i, r, rfl, hi, w⟩) _ (fun j hj q hq => ?_) (fun j hj q hq => ?_) (fun j m hj hm ne => absurd (hj.trans hm.symm) ne)
  · rcases set_some hq with ⟨e, _⟩ | ⟨_, e⟩
    · exact absurd e.symm hj
    · exact ⟨e, if_neg hj⟩
  · subst hj
    rcases set_some hq with ⟨_, rfl, _⟩ | ⟨e, _⟩
    · rw [if_pos rfl]
      exact ⟨h, fun y z => (hf y z).symm.imp id fun w => ⟨j, r, rfl, hi, w⟩⟩
    · exact absurd rfl e
theorem set_same {α : Type} {l : List α} {i : Nat} {r : α} (h : l[i]? = some r) : l.set i r = l := by
  obtain ⟨h1, h2⟩ := List.getElem?_eq_some_iff.mp h
  rw [← h2]
  exact List.set_getElem_self _
/-- one resource is taken, and given back as another one *(or the same)* -/
theorem Ctx.use (c : Ctx l H) {i : Nat} (hi : l[i]? = some r) : ∃ Z f, r.h Z f H ∧ (∀ y, f y → ¬ Z y) ∧ (∀ y, Z y → H y ≠ none) ∧
    ∀ {S : Addr → Prop} {H' : Hp} (r' : Rsc) (f' : Addr → Prop), Kp S H H' → (∀ y, S y → f y ∨ H y = none) → r'.h Z f' H' → (∀ y, f' y → f y ∨ H y = none) → Ctx (l.set i r') H' := by
  obtain ⟨Z, φ, c⟩ := c
  exact ⟨Z, φ i, c.hold i r hi, c.nz i r hi, c.zf, fun {S H'} r' f' k hS h hf => ⟨_, _, c.set hi k hS h hf⟩⟩
theorem Ctx.use_ (c : Ctx l H) {i : Nat} (hi : l[i]? = some r) : ∃ Z f, r.h Z f H ∧ (∀ y, f y → ¬ Z y) ∧ (∀ y, Z y → H y ≠ none) ∧
    ∀ {S : Addr → Prop} {H' : Hp} (f' : Addr → Prop), Kp S H H' → (∀ y, S y → f y ∨ H y = none) → r.h Z f' H' → (∀ y, f' y → f y ∨ H y = none) → Ctx l H' := by
  obtain ⟨Z, f, h1, h2, h3, h4⟩ := c.use hi
  refine ⟨Z, f, h1, h2, h3, fun {S H'} f' k hS h hf => ?_⟩
  have := h4 r f' k hS h hf
  rw [set_same hi] at this
  exact this
/-- two at once -/
theorem Ctx.use2 (c : Ctx l H) {i j : Nat} (hi : l[i]? = some r) (hj : l[j]? = some q) (ne : i ≠ j) : ∃ Z f g, r.h Z f H ∧ q.h Z g H ∧ (∀ y, f y → ¬ g y) ∧ (∀ y, f y → ¬ Z y) ∧ (∀ y, g y → ¬ Z y) ∧ (∀ y, Z y → H y ≠ none) ∧
    ∀ {S : Addr → Prop} {H' : Hp} (r' : Rsc) (f' : Addr → Prop) (q' : Rsc) (g' : Addr → Prop), Kp S H H' → (∀ y, S y → H y = none ∨ f y ∨ g y) → r'.h Z f' H' → (∀ y, f' y → H y = none ∨ f y ∨ g y) → q'.h Z g' H' → (∀ y, g' y → H y = none ∨ f y ∨ g y) → (∀ y, f' y → ¬ g' y) → Ctx ((l.set i r').set j q') H' := by
  obtain ⟨Z, φ, c⟩ := c
  refine ⟨Z, φ i, φ j, c.hold i r hi, c.hold j q hj, c.dj i j r q hi hj ne, c.nz i r hi, c.nz j q hj, c.zf, fun {S H'} r' f' q' g' k hS h1 hf h2 hg dj => ⟨Z, fun m => if m = j then g' else if m = i then f' else φ m, ?_⟩⟩
  have to : ∀ y, (H y = none ∨ φ i y ∨ φ j y) → H y = none ∨ ∃ m p, (m = i ∨ m = j) ∧ l[m]? = some p ∧ φ m y := fun y z => z.imp id fun w => w.elim (fun v => ⟨i, r, .inl rfl, hi, v⟩) fun v => ⟨j, q, .inr rfl, hj, v⟩
  have atI : ∀ p, ((l.set i r').set j q')[i]? = some p → p = r' := fun p hp => by
    rcases set_some hp with ⟨e, _⟩ | ⟨_, e⟩
    · exact absurd e.symm ne
    · rcases set_some e with ⟨_, z, _⟩ | ⟨z, _⟩
      · exact z
      · exact absurd rfl z
  have atJ : ∀ p, ((l.set i r').set j q')[j]? = some p → p = q' := fun p hp => by
    rcases set_some hp with ⟨_, z, _⟩ | ⟨z, _⟩
    · exact z
    · exact absurd rfl z
  refine c.change k (fun m => m = i ∨ m = j) (fun y z => to y (hS y z)) _ (fun m hm p hp => ?_) (fun m hm p hp => ?_) (fun m n hm hn mn p o hp ho y f1 f2 => ?_)
  · have n1 : m ≠ i := fun e => hm (.inl e)
    have n2 : m ≠ j := fun e => hm (.inr e)
    rcases set_some hp with ⟨e, _⟩ | ⟨_, e⟩
    · exact absurd e.symm n2
    · rcases set_some e with ⟨e, _⟩ | ⟨_, e⟩
      · exact absurd e.symm n1
      · exact ⟨e, by rw [if_neg n2, if_neg n1]⟩
  · rcases hm with rfl | rfl
    · rw [atI p hp, if_neg ne, if_pos rfl]
      exact ⟨h1, fun y z => to y (hf y z)⟩
    · rw [atJ p hp, if_pos rfl]
      exact ⟨h2, fun y z => to y (hg y z)⟩
  · rcases hm with rfl | rfl
    · rcases hn with rfl | rfl
      · exact mn rfl
      · rw [if_neg ne, if_pos rfl] at f1
        rw [if_pos rfl] at f2
        exact dj y f1 f2
    · rcases hn with rfl | rfl
      · rw [if_pos rfl] at f1
        rw [if_neg ne, if_pos rfl] at f2
        exact dj y f2 f1
      · exact mn rfl
/-- a new one, at the end -/
theorem CtxA.add (c : CtxA Z φ l H) (k : Kp S H H') (hS : ∀ y, S y → H y = none) {f' : Addr → Prop} (h : r'.h Z f' H') (hf : ∀ y, f' y → H y = none) : CtxA Z (fun j => if j = l.length then f' else φ j) (l ++ [r']) H' := by
  refine c.change k (fun j => j = l.length) (fun y z => .inl (hS y z)) _ (fun j hj q hq => ?_) (fun j hj q hq => ?_) (fun j m hj hm ne => absurd (hj.trans hm.symm) ne)
  · refine ⟨?_, if_neg hj⟩
    by_cases hl : j < l.length
    · rw [List.getElem?_append_left hl] at hq
      exact hq
    · rw [List.getElem?_eq_none (by rw [List.length_append, List.length_singleton]; omega)] at hq
      cases hq
  · subst hj
    rw [List.getElem?_append_right (Nat.le_refl _), Nat.sub_self] at hq
    cases hq
    rw [if_pos rfl]
    exact ⟨h, fun y z => .inl (hf y z)⟩
/-- .. with all others at hand -/
theorem Ctx.opn (c : Ctx l H) : ∃ Z φ, CtxA Z φ l H ∧ ∀ {S : Addr → Prop} {H' : Hp} (r' : Rsc) (f' : Addr → Prop), Kp S H H' → (∀ y, S y → H y = none) → r'.h Z f' H' → (∀ y, f' y → H y = none) → Ctx (l ++ [r']) H' := by
  obtain ⟨Z, φ, c⟩ := c
  exact ⟨Z, φ, c, fun {S H'} r' f' k hS h hf => ⟨_, _, c.add k hS h hf⟩⟩
/-- some of them, in another order -/
theorem Ctx.pick (c : Ctx l H) (ix : List Nat) (h : l'.map some = ix.map fun i => l[i]?) (nd : ix.Nodup) : Ctx l' H := by
  obtain ⟨Z, φ, c⟩ := c
  have at_ : ∀ (i : Nat) (r : Rsc), l'[i]? = some r → ∃ m, ix[i]? = some m ∧ l[m]? = some r := fun i r hr => by
    have e : (l'.map some)[i]? = some (some r) := by rw [List.getElem?_map, hr]; rfl
    rw [h, List.getElem?_map] at e
    cases hm : ix[i]? with
    | none => rw [hm] at e; cases e
    | some m =>
      rw [hm] at e
      exact ⟨m, rfl, Option.some.inj e⟩
  refine ⟨Z, fun i => φ (ix.getD i 0), fun i r hr => ?_, fun i j r q hr hq ne y f1 f2 => ?_, fun i r hr y fy => ?_, c.zf, c.tab⟩
  · obtain ⟨m, h1, h2⟩ := at_ i r hr
    rw [List.getD_eq_getElem?_getD, h1]
    exact c.hold m r h2
  · obtain ⟨m, h1, h2⟩ := at_ i r hr
    obtain ⟨n, h3, h4⟩ := at_ j q hq
    rw [List.getD_eq_getElem?_getD, h1] at f1
    rw [List.getD_eq_getElem?_getD, h3] at f2
    refine c.dj m n r q h2 h4 (fun e => ne ?_) y f1 f2
    subst e
    obtain ⟨a1, a2⟩ := List.getElem?_eq_some_iff.mp h1
    obtain ⟨b1, b2⟩ := List.getElem?_eq_some_iff.mp h3
    rcases Nat.lt_trichotomy i j with z | z | z
    · exact absurd (a2.trans b2.symm) (List.pairwise_iff_getElem.mp nd i j a1 b1 z)
    · exact z
    · exact absurd (b2.trans a2.symm) (List.pairwise_iff_getElem.mp nd j i b1 a1 z)
  · obtain ⟨m, h1, h2⟩ := at_ i r hr
    rw [List.getD_eq_getElem?_getD, h1] at fy
    exact c.nz m r h2 y fy
theorem Ctx.left {l1 l2 : List Rsc} (c : Ctx (l1 ++ l2) H) : Ctx l1 H := by
  obtain ⟨Z, φ, c⟩ := c
  have up : ∀ (i : Nat) (r : Rsc), l1[i]? = some r → (l1 ++ l2)[i]? = some r := fun i r h => by
    rw [List.getElem?_append_left (List.getElem?_eq_some_iff.mp h).1]; exact h
  exact ⟨Z, φ, fun i r h => c.hold i r (up i r h), fun i j r q h1 h2 => c.dj i j r q (up i r h1) (up j q h2), fun i r h => c.nz i r (up i r h), c.zf, c.tab⟩
/-- frozen: it never changes, and may be shared -/
def frz (r : Rsc) : Rsc where
  h := fun Z f H => (∃ g, r.h Z g H ∧ ∀ y, g y → Z y) ∧ f = No
  stable := fun h k _ hz => ⟨let ⟨g, h1, h2⟩ := h.1; ⟨g, r.stable h1 k (fun y z => hz y (h2 y z)) hz, h2⟩, h.2⟩
  full := fun h y z => by rw [h.2] at z; exact z.elim
  mono := fun h hz => ⟨let ⟨g, h1, h2⟩ := h.1; ⟨g, r.mono h1 hz, fun y z => hz y (h2 y z)⟩, h.2⟩
theorem Ctx.freeze (c : Ctx l H) {i : Nat} (hi : l[i]? = some r) : Ctx (l.set i (frz r)) H := by
  obtain ⟨Z, φ, c⟩ := c
  refine ⟨fun y => Z y ∨ φ i y, fun j => if j = i then No else φ j, fun j q hq => ?_, fun j m q p hq hp ne y f1 f2 => ?_, fun j q hq y f1 z => ?_, fun y z => z.elim (c.zf y) (c.full hi y), c.tab⟩
  · rcases set_some hq with ⟨rfl, rfl, _⟩ | ⟨e, h⟩
    · rw [if_pos rfl]
      exact ⟨⟨φ i, r.mono (c.hold i r hi) fun y z => .inl z, fun y z => .inr z⟩, rfl⟩
    · rw [if_neg (Ne.symm e)]
      exact q.mono (c.hold j q h) fun y z => .inl z
  · by_cases e1 : j = i
    · rw [if_pos e1] at f1; exact f1
    · by_cases e2 : m = i
      · rw [if_pos e2] at f2; exact f2
      · rw [if_neg e1] at f1
        rw [if_neg e2] at f2
        rcases set_some hq with ⟨e, _⟩ | ⟨_, h1⟩
        · exact e1 e.symm
        rcases set_some hp with ⟨e, _⟩ | ⟨_, h2⟩
        · exact e2 e.symm
        exact c.dj j m q p h1 h2 ne y f1 f2
  · by_cases e1 : j = i
    · rw [if_pos e1] at f1; exact f1
    · rw [if_neg e1] at f1
      rcases set_some hq with ⟨e, _⟩ | ⟨_, h1⟩
      · exact e1 e.symm
      rcases z with z | z
      · exact c.nz j q h1 y f1 z
      · exact c.dj j i q r h1 hi e1 y f1 z
/-! ### common resources -/
/-- data that never change -/
def imR (K : PySem.W.Frag) (v : V) (d : PyData) : Rsc where
  h := fun _ f H => Im K H v d ∧ f = No
  stable := fun h k _ _ => ⟨Im.up k _ _ h.1, h.2⟩
  full := fun h y z => by rw [h.2] at z; exact z.elim
  mono := fun h _ => h
def potR (p : Addr) : Rsc where
  h := fun _ f H => Pot H p ∧ f = At p
  stable := fun h k hf _ => ⟨h.1.keep k (hf p (by rw [h.2])), h.2⟩
  full := fun h y z e => by
    rw [h.2] at z
    obtain ⟨a, b, g, _⟩ := h.1
    rw [show y = p from z, g] at e
    cases e
  mono := fun h _ => h
/-- a list -/
def lstR (p : Addr) (vs : List V) : Rsc where
  h := fun _ f H => H p = some (.lst vs) ∧ f = At p
  stable := fun h k hf _ => ⟨k.all p _ h.1 (hf p (by rw [h.2])), h.2⟩
  full := fun h y z e => by
    rw [h.2] at z
    rw [show y = p from z, h.1] at e
    cases e
  mono := fun h _ => h
/-- a list of data that never change -/
def lstD (K : PySem.W.Frag) (p : Addr) (ds : List PyData) : Rsc where
  h := fun _ f H => (∃ vs, H p = some (.lst vs) ∧ ImAll K H vs ds) ∧ f = At p
  stable := fun h k hf _ => ⟨let ⟨vs, h1, h2⟩ := h.1; ⟨vs, k.all p _ h1 (hf p (by rw [h.2])), ImAll.up k _ _ h2⟩, h.2⟩
  full := fun h y z e => by
    rw [h.2] at z
    obtain ⟨vs, h1, _⟩ := h.1
    rw [show y = p from z, h1] at e
    cases e
  mono := fun h _ => h
/-- the script -/
def sqR (K : PySem.W.Frag) (a : Addr) (xs : List V) : Rsc where
  h := fun Z f H => ((∀ H', SqL K H' a xs) ∨ (SqL K H a xs ∧ Z a)) ∧ f = No
  stable := fun h k _ hz => ⟨h.1.imp id fun z => ⟨k.seq z.1 (hz a z.2), z.2⟩, h.2⟩
  full := fun h y z => by rw [h.2] at z; exact z.elim
  mono := fun h hz => ⟨h.1.imp id fun z => ⟨z.1, hz a z.2⟩, h.2⟩
theorem Ctx.start {K : PySem.W.Frag} {a : Addr} {xs : List V} (hS : SqL K H a xs) (hT : TbOk H) : Ctx [sqR K a xs] H := by
  have one : ∀ {i : Nat} {r : Rsc}, [sqR K a xs][i]? = some r → i = 0 ∧ r = sqR K a xs := fun {i r} h => by
    cases i with
    | zero => exact ⟨rfl, (Option.some.inj h).symm⟩
    | succ i => cases h
  rcases hS with h | h
  · have ne : H a ≠ none := by
      rcases h with h | ⟨o, h⟩
      · rw [h]; intro e; cases e
      · rw [h]; intro e; cases e
    refine ⟨fun y => y = a, fun _ => No, fun i r hr => ?_, fun i j r q h1 h2 ne => absurd ((one h1).1.trans (one h2).1.symm) ne, fun i r hr y z => z.elim, fun y z => by rw [z]; exact ne, hT⟩
    rw [(one hr).2]
    exact ⟨.inr ⟨.inl h, rfl⟩, rfl⟩
  · refine ⟨No, fun _ => No, fun i r hr => ?_, fun i j r q h1 h2 ne => absurd ((one h1).1.trans (one h2).1.symm) ne, fun i r hr y z => z.elim, fun y z => z.elim, hT⟩
    rw [(one hr).2]
    exact ⟨.inl fun H' => .inr h, rfl⟩
theorem Ctx.sq {K : PySem.W.Frag} {a : Addr} {xs : List V} (c : Ctx l H) {i : Nat} (hi : l[i]? = some (sqR K a xs)) : SqL K H a xs := by
  obtain ⟨Z, φ, c⟩ := c
  rcases (c.hold i _ hi).1 with h | h
  · exact h H
  · exact h.1
theorem Ctx.im {K : PySem.W.Frag} {v : V} {d : PyData} (c : Ctx l H) {i : Nat} (hi : l[i]? = some (imR K v d)) : Im K H v d := by
  obtain ⟨Z, φ, c⟩ := c
  exact (c.hold i _ hi).1
theorem Ctx.pot {p : Addr} (c : Ctx l H) {i : Nat} (hi : l[i]? = some (potR p)) : Pot H p := by
  obtain ⟨Z, φ, c⟩ := c
  exact (c.hold i _ hi).1
theorem Ctx.lst {p : Addr} {vs : List V} (c : Ctx l H) {i : Nat} (hi : l[i]? = some (lstR p vs)) : H p = some (.lst vs) := by
  obtain ⟨Z, φ, c⟩ := c
  exact (c.hold i _ hi).1
theorem Ctx.lstF {p : Addr} {vs : List V} (c : Ctx l H) {i : Nat} (hi : l[i]? = some (frz (lstR p vs))) : H p = some (.lst vs) := by
  obtain ⟨Z, φ, c⟩ := c
  obtain ⟨⟨g, h, _⟩, _⟩ := c.hold i _ hi
  exact h.1
theorem Ctx.lstD {K : PySem.W.Frag} {p : Addr} {ds : List PyData} (c : Ctx l H) {i : Nat} (hi : l[i]? = some (lstD K p ds)) : ∃ vs, H p = some (.lst vs) ∧ ImAll K H vs ds := by
  obtain ⟨Z, φ, c⟩ := c
  exact (c.hold i _ hi).1
theorem Ctx.lstDF {K : PySem.W.Frag} {p : Addr} {ds : List PyData} (c : Ctx l H) {i : Nat} (hi : l[i]? = some (frz (Y.lstD K p ds))) : ∃ vs, H p = some (.lst vs) ∧ ImAll K H vs ds := by
  obtain ⟨Z, φ, c⟩ := c
  obtain ⟨⟨g, h, _⟩, _⟩ := c.hold i _ hi
  exact h.1
/-- the pot was drawn from -/
theorem Ctx.drawn {p : Addr} (c : Ctx l H) {i : Nat} (hi : l[i]? = some (potR p)) (k : Kp (At p) H H') (pt : Pot H' p) : Ctx l H' := by
  obtain ⟨Z, f, h, _, _, put⟩ := c.use_ hi
  obtain ⟨_, rfl⟩ := h
  exact put (At p) k (fun y z => .inl z) ⟨pt, rfl⟩ fun y z => .inl z
/-- a new list -/
theorem Ctx.newL (c : Ctx l H) {p : Addr} (hp : H p = none) (vs : List V) : Ctx (l ++ [lstR p vs]) (upd H p (.lst vs)) := by
  obtain ⟨Z, φ, _, put⟩ := c.opn
  exact put (S := No) (lstR p vs) (At p) (Kp.new hp) (fun _ z => z.elim) ⟨upd_same, rfl⟩ fun y z => by rw [show y = p from z]; exact hp
theorem Ctx.setL (c : Ctx l H) {i : Nat} {p : Addr} {vs : List V} (hi : l[i]? = some (lstR p vs)) (ws : List V) : Ctx (l.set i (lstR p ws)) (upd H p (.lst ws)) := by
  obtain ⟨Z, f, h, _, _, put⟩ := c.use hi
  obtain ⟨h, rfl⟩ := h
  exact put (S := At p) (lstR p ws) (At p) (Kp.set rfl h) (fun _ z => .inl z) ⟨upd_same, rfl⟩ fun y z => .inl z
/-- something of data -/
theorem Ctx.addI (c : Ctx l H) {K : PySem.W.Frag} {v : V} {d : PyData} (k : Kp No H H') (im : Im K H' v d) : Ctx (l ++ [imR K v d]) H' := by
  obtain ⟨Z, φ, _, put⟩ := c.opn
  exact put (S := No) (imR K v d) No k (fun _ z => z.elim) ⟨im, rfl⟩ fun y z => z.elim
/-- a new thing that depends on nothing -/
theorem Ctx.add (c : Ctx l H) (r' : Rsc) (f' : Addr → Prop) (k : Kp No H H') (h : ∀ Z, r'.h Z f' H') (hf : ∀ y, f' y → H y = none) : Ctx (l ++ [r']) H' := by
  obtain ⟨Z, φ, _, put⟩ := c.opn
  exact put (S := No) r' f' k (fun _ z => z.elim) (h Z) hf
end
end Y

set_option Elab.async false
set_option linter.all false
set_option maxRecDepth 100000
set_option maxHeartbeats 2000000
/-! ZS: zip(a, b, strict=True) of a list and a list or a tuple, as many of both. -/
namespace ZS
open PySem PySem.Spec PyProof.Rows L2
/-- the sort of the second one -/
inductive Sk | L | T
def ItS : Sk → Heap → Addr → Addr → Nat → Prop
  | .L, h, it, l, i => h.IsListIter it l i
  | .T, h, it, l, i => h.IsTupleIter it l i
def SqS : Sk → Heap → Addr → Array Value → Prop
  | .L, h, l, xs => h.IsList l xs
  | .T, h, l, xs => h.IsTuple l xs
theorem ItS.at {k : Sk} {h h' : Heap} {it l : Addr} {i : Nat} (a : ItS k h it l i) (e : ∀ o, h.get? it = some o → h'.get? it = some o) : ItS k h' it l i := by
  cases k
  · exact Heap.IsListIter.at a e
  · exact Heap.IsTupleIter.at a e
theorem ItS.obj {k : Sk} {h : Heap} {it l : Addr} {i : Nat} (a : ItS k h it l i) : ∃ o, h.get? it = some o ∧ ∀ v, o.data ≠ .cell v := by
  cases k
  · obtain ⟨o, e, _, d⟩ := a
    exact ⟨o, e, fun v q => by rw [d] at q; cases q⟩
  · obtain ⟨o, e, _, d⟩ := a
    exact ⟨o, e, fun v q => by rw [d] at q; cases q⟩
theorem SqS.at {k : Sk} {h h' : Heap} {l : Addr} {xs : Array Value} (a : SqS k h l xs) (e : ∀ o, h.get? l = some o → h'.get? l = some o) : SqS k h' l xs := by
  cases k
  · obtain ⟨o, h1, h2⟩ := a
    exact ⟨o, e o h1, h2⟩
  · obtain ⟨o, h1, h2⟩ := a
    exact ⟨o, e o h1, h2⟩
abbrev IsZipS (h : Heap) (z TI TO : Addr) (f0 : Value) : Prop :=
  h.get? z = some { cls := .type "zip", dict := none, data := .fields #[f0, .bool false, .bool true, .ref TI, .ref TO], slots := #[] }
section
variable {prog : Program} {w : World} {A : Around} {E : Value → Shared → Prop} {s : Shared}
theorem draw_item {k : Sk} {it l : Addr} {i : Nat} {items} {x : Value} {Q : Option Value → Shared → Prop} (hit : ItS k s.heap it l i) (hl : SqS k s.heap l items) (hx : items[i]? = some x)
    (hQ : ∀ h', ItS k h' it l (i + 1) → Heap.SameBut it s.heap h' → Q (some x) { s with heap := h' }) : wpAny (model prog w) A (Builtin.SmallTypes.nextOrEnd (.ref it)) Q E s := by
  unfold Builtin.SmallTypes.nextOrEnd
  refine wpAny_bind (wpAny_attempt ?_)
  cases k
  · exact wpAny_nextOf_list_item hit hl hx fun h' a b => wpAny_pure (hQ h' a b)
  · exact RZ.nextOf_tuple_item hit hl hx fun h' a b => wpAny_pure (hQ h' a b)
theorem draw_end {k : Sk} {it l : Addr} {i : Nat} {items} {Q : Option Value → Shared → Prop} (hh : A.handled = none) (hit : ItS k s.heap it l i) (hl : SqS k s.heap l items) (hx : items[i]? = none)
    (hQ : ∀ h', Heap.ExtBut it s.heap h' → Q none { s with heap := h' }) : wpAny (model prog w) A (Builtin.SmallTypes.nextOrEnd (.ref it)) Q E s := by
  unfold Builtin.SmallTypes.nextOrEnd
  refine wpAny_bind (wpAny_attempt ?_)
  have fin : ∀ (h' : Heap) (e : Addr), Heap.ExtBut it s.heap h' → (∃ o, h'.get? e = some o ∧ o.cls = .type "StopIteration") → wpAny (model prog w) A (do if ← isInstance (.ref e) (.type "StopIteration") then pure none else throw (.ref e)) Q E { s with heap := h' } := by
    rintro h' e ex ⟨o, ho, hc⟩
    refine wpAny_bind (wpAny_isInstance (T := "StopIteration") (b := true) ⟨o, ho, hc⟩ isSubtype_stop ?_)
    exact wpAny_pure (hQ h' ex)
  cases k
  · exact wpAny_nextOf_list_end hh hit hl hx fin
  · exact RZ.nextOf_tuple_end hh hit hl hx fin
theorem zipS_next_item {k : Sk} {z TI TO i1 i2 l1 l2 : Addr} {k1 k2 : Nat} {xs ys : Array Value} {x y a b : Value} {Q : Value → Shared → Prop} (D : ZipApart z TI TO i1 i2 l1 l2)
    (hz : IsZipS s.heap z TI TO .none) (hTI : IsPair s.heap TI (.ref i1) (.ref i2)) (hTO : IsPair s.heap TO a b)
    (h1 : ItS .L s.heap i1 l1 k1) (h2 : ItS k s.heap i2 l2 k2) (hl1 : SqS .L s.heap l1 xs) (hl2 : SqS k s.heap l2 ys) (hx : xs[k1]? = some x) (hy : ys[k2]? = some y)
    (hQ : ∀ h', IsZipS h' z TI TO (rawInt s.heap.objs.size) → IsPair h' TO x y → ItS .L h' i1 l1 (k1 + 1) → ItS k h' i2 l2 (k2 + 1) → IsPair h' s.heap.objs.size x y → h'.objs.size = s.heap.objs.size + 1 →
      (∀ c o, c ≠ z → c ≠ TO → c ≠ i1 → c ≠ i2 → s.heap.get? c = some o → h'.get? c = some o) → Q (.ref s.heap.objs.size) { s with heap := h' }) :
    wpAny (model prog w) A (Builtin.«zip.__next__» ⟨[.ref z], []⟩) (fun fin s' => ∃ v, fin = .done (.ret v) ∧ Q v s') E s := by
  show wpAny _ _ (field (.ref z) 2 >>= _) _ _ _
  refine wpAny_bind (wpAny_field hz rfl (x := .bool true) rfl ?_)
  show wpAny _ _ (field (.ref z) 3 >>= _) _ _ _
  refine wpAny_bind (wpAny_field hz rfl (x := .ref TI) rfl ?_)
  refine wpAny_bind (wpAny_seqItems hTI rfl ?_)
  show wpAny _ _ (Builtin.SmallTypes.ownedTupleIsFree (.ref z) >>= _) _ _ _
  refine wpAny_bind ?_
  unfold Builtin.SmallTypes.ownedTupleIsFree
  refine wpAny_bind (wpAny_field hz rfl (x := .none) rfl (wpAny_pure ?_))
  simp only [if_true]
  refine wpAny_bind (wpAny_rule ?_)
  refine wpAny_bind (wpAny_field hz rfl (x := .ref TO) rfl ?_)
  refine wpAny_bind (wpAny_setField_rec hz (by simp) fun h₁ hz₁ hs₁ => ?_)
  replace hz₁ : IsZipS h₁ z TI TO .ellipsis := hz₁
  refine wpAny_bind ?_
  simp only [List.zipIdx_cons, List.zipIdx_nil, List.forIn_cons, List.forIn_nil]
  refine wpAny_bind (wpAny_bind (wpAny_onRaise ?_))
  show wpAny _ _ (Builtin.SmallTypes.nextOrEnd (.ref i1)) _ _ _
  refine draw_item (h1.at fun o e => hs₁.extBut _ _ D.i1z e) (hl1.at fun o e => hs₁.extBut _ _ D.l1z e) hx fun h₂ h1₂ hs₂ => ?_
  have hTO₂ : IsPair h₂ TO a b := hs₂.extBut _ _ D.TOi1 (hs₁.extBut _ _ D.TOz hTO)
  refine wpAny_bind (wpAny_seqItems hTO₂ rfl ?_)
  refine wpAny_bind (wpAny_updateSeq_pair hTO₂ fun h₃ hTO₃ hs₃ => ?_)
  replace hTO₃ : IsPair h₃ TO x b := hTO₃
  refine wpAny_bind (wpAny_letGo (wpAny_pure ?_))
  refine wpAny_bind (wpAny_bind (wpAny_onRaise ?_))
  show wpAny _ _ (Builtin.SmallTypes.nextOrEnd (.ref i2)) _ _ _
  refine draw_item (h2.at fun o e => hs₃.extBut _ _ D.TOi2.symm (hs₂.extBut _ _ D.i12.symm (hs₁.extBut _ _ D.i2z e)))
    (hl2.at fun o e => hs₃.extBut _ _ D.l2TO (hs₂.extBut _ _ D.l2i1 (hs₁.extBut _ _ D.l2z e))) hy fun h₄ h2₄ hs₄ => ?_
  have hTO₄ : IsPair h₄ TO x b := hs₄.extBut _ _ D.TOi2 hTO₃
  refine wpAny_bind (wpAny_seqItems hTO₄ rfl ?_)
  refine wpAny_bind (wpAny_updateSeq_pair hTO₄ fun h₅ hTO₅ hs₅ => ?_)
  replace hTO₅ : IsPair h₅ TO x y := hTO₅
  refine wpAny_bind (wpAny_letGo (wpAny_pure (wpAny_pure ?_)))
  refine wpAny_bind (wpAny_seqItems hTO₅ rfl ?_)
  refine wpAny_bind (wpAny_newTuple ?_)
  have hsz : h₅.objs.size = s.heap.objs.size := by rw [hs₅.1, hs₄.1, hs₃.1, hs₂.1, hs₁.1]
  have hz₅ : IsZipS h₅ z TI TO .ellipsis := hs₅.extBut _ _ D.TOz.symm (hs₄.extBut _ _ D.i2z.symm (hs₃.extBut _ _ D.TOz.symm (hs₂.extBut _ _ D.i1z.symm hz₁)))
  have hk₅ : ∀ c o, c ≠ z → c ≠ TO → c ≠ i1 → c ≠ i2 → s.heap.get? c = some o → h₅.get? c = some o := fun c o c1 c2 c3 c4 e =>
    hs₅.extBut _ _ c2 (hs₄.extBut _ _ c4 (hs₃.extBut _ _ c2 (hs₂.extBut _ _ c3 (hs₁.extBut _ _ c1 e))))
  have h1₅ : ItS .L h₅ i1 l1 (k1 + 1) := h1₂.at fun o e => hs₅.extBut _ _ D.TOi1.symm (hs₄.extBut _ _ D.i12 (hs₃.extBut _ _ D.TOi1.symm e))
  have h2₅ : ItS k h₅ i2 l2 (k2 + 1) := h2₄.at fun o e => hs₅.extBut _ _ D.TOi2.symm e
  have hzlt : z < h₅.objs.size := Heap.lt_size hz₅
  show wpAny _ _ (Builtin.SmallTypes.ownedTupleHandOut (.ref z) (.ref h₅.objs.size) >>= _) _ _ _
  refine wpAny_bind ?_
  unfold Builtin.SmallTypes.ownedTupleHandOut
  have hz₆ : IsZipS (h₅.push { cls := .type "tuple", data := .seq #[x, y] }) z TI TO .ellipsis := Heap.get?_push_of_some _ hz₅
  refine wpAny_bind (wpAny_setField_rec hz₆ (by simp) fun h₇ hz₇ hs₇ => ?_)
  replace hz₇ : IsZipS h₇ z TI TO (rawInt h₅.objs.size) := hz₇
  refine wpAny_setField_rec hz₇ (by simp) fun h₈ hz₈ hs₈ => ?_
  replace hz₈ : IsZipS h₈ z TI TO (rawInt h₅.objs.size) := hz₈
  have up : ∀ c o, c ≠ z → h₅.get? c = some o → h₈.get? c = some o := fun c o c1 e => hs₈.extBut _ _ c1 (hs₇.extBut _ _ c1 (Heap.get?_push_of_some _ e))
  have hT₈ : IsPair h₈ h₅.objs.size x y := hs₈.extBut _ _ (Nat.ne_of_gt hzlt) (hs₇.extBut _ _ (Nat.ne_of_gt hzlt) (Heap.get?_push_size _ rfl))
  have hz8 : h₈.objs.size = h₅.objs.size + 1 := by rw [hs₈.1, hs₇.1, Heap.size_push]
  rw [hsz] at hz₈ hT₈ hz8
  refine wpAny_pure ⟨_, rfl, ?_⟩
  show Q (.ref h₅.objs.size) _
  rw [hsz]
  exact hQ h₈ hz₈ (up _ _ D.TOz hTO₅) (h1₅.at fun o e => up _ o D.i1z e) (h2₅.at fun o e => up _ o D.i2z e) hT₈ hz8 fun c o c1 c2 c3 c4 e => up c o c1 (hk₅ c o c1 c2 c3 c4 e)
theorem zipS_next_end {k : Sk} {z TI TO i1 i2 l1 l2 : Addr} {k1 k2 : Nat} {xs ys : Array Value} {a b : Value} {Q : Fin → Shared → Prop} (hh : A.handled = none) (D : ZipApart z TI TO i1 i2 l1 l2)
    (hz : IsZipS s.heap z TI TO .none) (hTI : IsPair s.heap TI (.ref i1) (.ref i2)) (hTO : IsPair s.heap TO a b)
    (h1 : ItS .L s.heap i1 l1 k1) (h2 : ItS k s.heap i2 l2 k2) (hl1 : SqS .L s.heap l1 xs) (hl2 : SqS k s.heap l2 ys) (hx : xs[k1]? = none) (hy : ys[k2]? = none)
    (hE : ∀ h' e, (∀ c o, c ≠ z → c ≠ TO → c ≠ i1 → c ≠ i2 → s.heap.get? c = some o → h'.get? c = some o) → (∃ o, h'.get? e = some o ∧ o.cls = .type "StopIteration") → E (.ref e) { s with heap := h' }) :
    wpAny (model prog w) A (Builtin.«zip.__next__» ⟨[.ref z], []⟩) Q E s := by
  show wpAny _ _ (field (.ref z) 2 >>= _) _ _ _
  refine wpAny_bind (wpAny_field hz rfl (x := .bool true) rfl ?_)
  show wpAny _ _ (field (.ref z) 3 >>= _) _ _ _
  refine wpAny_bind (wpAny_field hz rfl (x := .ref TI) rfl ?_)
  refine wpAny_bind (wpAny_seqItems hTI rfl ?_)
  show wpAny _ _ (Builtin.SmallTypes.ownedTupleIsFree (.ref z) >>= _) _ _ _
  refine wpAny_bind ?_
  unfold Builtin.SmallTypes.ownedTupleIsFree
  refine wpAny_bind (wpAny_field hz rfl (x := .none) rfl (wpAny_pure ?_))
  simp only [if_true]
  refine wpAny_bind (wpAny_rule ?_)
  refine wpAny_bind (wpAny_field hz rfl (x := .ref TO) rfl ?_)
  refine wpAny_bind (wpAny_setField_rec hz (by simp) fun h₁ hz₁ hs₁ => ?_)
  replace hz₁ : IsZipS h₁ z TI TO .ellipsis := hz₁
  refine wpAny_bind ?_
  simp only [List.zipIdx_cons, List.zipIdx_nil, List.forIn_cons, List.forIn_nil]
  refine wpAny_bind (wpAny_bind (wpAny_onRaise ?_))
  show wpAny _ _ (Builtin.SmallTypes.nextOrEnd (.ref i1)) _ _ _
  refine draw_end hh (h1.at fun o e => hs₁.extBut _ _ D.i1z e) (hl1.at fun o e => hs₁.extBut _ _ D.l1z e) hx fun h₂ hs₂ => ?_
  have hz₂ : IsZipS h₂ z TI TO .ellipsis := hs₂ _ _ D.i1z.symm hz₁
  refine wpAny_bind (wpAny_setField_rec hz₂ (by simp) fun h₃ _ hs₃ => ?_)
  refine wpAny_bind ?_
  show wpAny _ _ (forIn [(Value.ref i2, 1)] _ _ >>= _) _ _ _
  simp only [List.forIn_cons, List.forIn_nil]
  refine wpAny_bind (wpAny_bind (wpAny_bind (draw_end hh (h2.at fun o e => hs₃.extBut _ _ D.i2z (hs₂ _ _ D.i12.symm (hs₁.extBut _ _ D.i2z e))) (hl2.at fun o e => hs₃.extBut _ _ D.l2z (hs₂ _ _ D.l2i1 (hs₁.extBut _ _ D.l2z e))) hy fun h₄ hs₄ => ?_)))
  refine wpAny_pure (wpAny_pure (wpAny_bind (wpAny_rule ?_)))
  have hk : ∀ c o, c ≠ z → c ≠ TO → c ≠ i1 → c ≠ i2 → s.heap.get? c = some o → h₄.get? c = some o := fun c o c1 c2 c3 c4 e => hs₄ _ _ c4 (hs₃.extBut _ _ c1 (hs₂ _ _ c3 (hs₁.extBut _ _ c1 e)))
  show wpAny _ _ (newExc (.type "StopIteration") [] >>= _) _ _ _
  refine wpAny_bind ?_
  simp only [newExc, newTuple]
  refine wpAny_bind (wpAny_newObj_type ?_ (by size_fits))
  refine wpAny_bind (m := firstArgMember _ _) (wpAny_of_eq (a := Value.none) (by first | rfl | (simp only [firstArgMember]; rfl)) ?_)
  refine wpAny_newObj_type ?_ (by size_fits)
  simp only [raiseNew]
  refine wpAny_bind (wpAny_handled ?_)
  first | rw [show A.in1.handled = none from hh] | rw [hh]
  refine wpAny_bind (wpAny_pure (wpAny_throw ?_))
  exact hE _ _ (fun c o c1 c2 c3 c4 e => Heap.get?_push_of_some _ (Heap.get?_push_of_some _ (hk c o c1 c2 c3 c4 e))) ⟨_, Heap.get?_push_size _ rfl, rfl⟩
theorem pyNext_zipS_item {k : Sk} {z TI TO i1 i2 l1 l2 : Addr} {k1 k2 : Nat} {xs ys : Array Value} {x y a b : Value} {Q : Option Value → Shared → Prop} (D : ZipApart z TI TO i1 i2 l1 l2)
    (hz : IsZipS s.heap z TI TO .none) (hTI : IsPair s.heap TI (.ref i1) (.ref i2)) (hTO : IsPair s.heap TO a b)
    (h1 : ItS .L s.heap i1 l1 k1) (h2 : ItS k s.heap i2 l2 k2) (hl1 : SqS .L s.heap l1 xs) (hl2 : SqS k s.heap l2 ys) (hx : xs[k1]? = some x) (hy : ys[k2]? = some y)
    (hQ : ∀ h', IsZipS h' z TI TO (rawInt s.heap.objs.size) → IsPair h' TO x y → ItS .L h' i1 l1 (k1 + 1) → ItS k h' i2 l2 (k2 + 1) → IsPair h' s.heap.objs.size x y → h'.objs.size = s.heap.objs.size + 1 →
      (∀ c o, c ≠ z → c ≠ TO → c ≠ i1 → c ≠ i2 → s.heap.get? c = some o → h'.get? c = some o) → Q (some (.ref s.heap.objs.size)) { s with heap := h' }) :
    wpAny (model prog w) A (pyNext (.ref z)) Q E s := by
  have hT : s.TypeIs (.ref z) "zip" := ⟨_, hz, rfl⟩
  unfold pyNext
  exact wpAny_bind (wpAny_attempt (wpAny_callSpecial?_slot (name := Str.ofString "__next__") hT F.slot_zip_next
    (wpAny_call_entry F.slot_zip_next hT F.entry_zip_next
      (zipS_next_item D hz hTI hTO h1 h2 hl1 hl2 hx hy fun h' a1 a2 a3 a4 a5 a6 a7 => wpAny_pure (hQ h' a1 a2 a3 a4 a5 a6 a7)) (F.args_zip_next_1 _))))
theorem pyNext_zipS_end {k : Sk} {z TI TO i1 i2 l1 l2 : Addr} {k1 k2 : Nat} {xs ys : Array Value} {a b : Value} {Q : Option Value → Shared → Prop} (hh : A.handled = none) (D : ZipApart z TI TO i1 i2 l1 l2)
    (hz : IsZipS s.heap z TI TO .none) (hTI : IsPair s.heap TI (.ref i1) (.ref i2)) (hTO : IsPair s.heap TO a b)
    (h1 : ItS .L s.heap i1 l1 k1) (h2 : ItS k s.heap i2 l2 k2) (hl1 : SqS .L s.heap l1 xs) (hl2 : SqS k s.heap l2 ys) (hx : xs[k1]? = none) (hy : ys[k2]? = none)
    (hQ : ∀ h', (∀ c o, c ≠ z → c ≠ TO → c ≠ i1 → c ≠ i2 → s.heap.get? c = some o → h'.get? c = some o) → Q none { s with heap := h' }) : wpAny (model prog w) A (pyNext (.ref z)) Q E s := by
  have hT : s.TypeIs (.ref z) "zip" := ⟨_, hz, rfl⟩
  unfold pyNext
  refine wpAny_bind (wpAny_attempt (wpAny_callSpecial?_slot (name := Str.ofString "__next__") hT F.slot_zip_next
    (wpAny_call_entry F.slot_zip_next hT F.entry_zip_next (zipS_next_end hh D hz hTI hTO h1 h2 hl1 hl2 hx hy fun h' e hk he => ?_) (F.args_zip_next_1 _))))
  obtain ⟨o, ho, hc⟩ := he
  refine wpAny_bind (wpAny_isInstance (T := "StopIteration") (b := true) ⟨o, ho, hc⟩ isSubtype_stop ?_)
  exact wpAny_pure (hQ _ hk)
theorem go_zipS {elts : List Expr} {x1} {pos : Pos} {z TI TO T : Addr} {Q : Unit → Shared → Prop} (hz : IsZipS s.heap z TI TO (rawInt T))
    (hQ : ∀ h', IsZipS h' z TI TO .none → Heap.SameBut z s.heap h' → Q () { s with heap := h' }) :
    wpAny (model prog w) A (letOwnedTupleGo (.Tuple elts x1 pos) (.ref z) (.ref T)) Q E s := by
  unfold letOwnedTupleGo
  refine wpAny_bind (wpAny_load hz ?_)
  show wpAny _ _ (if (["enumerate", "zip", "dict_itemiterator", "dict_reverseitemiterator", "odict_iterator", "itertools.zip_longest", "itertools.pairwise"].contains "zip" &&
      (#[rawInt T, .bool false, .bool true, .ref TI, .ref TO] : Array Value)[0]? == some (rawInt T)) = true then _ else _) Q E s
  rw [if_pos (by simp)]
  refine wpAny_bind (wpAny_rule ?_)
  show wpAny _ _ (setField (.ref z) 0 .none) Q E s
  exact wpAny_setField_rec hz (by simp) fun h' hz' hs' => hQ h' hz' hs'
theorem iter_zipS {z TI TO : Addr} {f0 : Value} {Q : Value → Shared → Prop} (hz : IsZipS s.heap z TI TO f0) (h : Q (.ref z) s) : wpAny (model prog w) A (pyIter (.ref z)) Q E s := by
  have hT : s.TypeIs (.ref z) "zip" := ⟨_, hz, rfl⟩
  refine wpAny_pyIter_slot hT F.slot_zip_iter (wpAny_call_entry F.slot_zip_iter hT F.entry_zip_iter ?_ (F.args_zip_iter_1 _))
  show wpAny _ _ (ret (.ref z)) _ _ s
  exact wpAny_pure ⟨_, rfl, "zip", _, hT, F.slot_zip_next.lookup, h⟩
end
def itC : Sk → String
  | .L => "list_iterator"
  | .T => "tuple_iterator"
abbrev zS1 (h : Heap) (l1 : Addr) : Heap := h.push { cls := .type "list_iterator", data := .fields #[.ref l1, .int 0 0] }
abbrev zS2 (k : Sk) (h : Heap) (l1 l2 : Addr) : Heap := (zS1 h l1).push { cls := .type (itC k), data := .fields #[.ref l2, .int 0 0] }
abbrev zS3 (k : Sk) (h : Heap) (l1 l2 : Addr) : Heap := (zS2 k h l1 l2).push { cls := .type "tuple", data := .seq #[.ref h.objs.size, .ref (zS1 h l1).objs.size] }
abbrev zS4 (k : Sk) (h : Heap) (l1 l2 : Addr) : Heap := (zS3 k h l1 l2).push { cls := .type "tuple", data := .seq #[.none, .none] }
abbrev zS5 (k : Sk) (h : Heap) (l1 l2 : Addr) : Heap := (zS4 k h l1 l2).push { cls := .type "zip", data := .fields #[.none, .bool false, .bool true, .ref (zS2 k h l1 l2).objs.size, .ref (zS3 k h l1 l2).objs.size] }
theorem meets_zipS_new (k : Sk) (l1 l2 : Addr) (xs ys : Array Value) :
    Meets (Builtin.«zip.__new__» ⟨[.type "zip", .ref l1, .ref l2], [(Str.ofString "strict", .bool true)]⟩) (fun _ R s => SqS .L s.heap l1 xs ∧ SqS k s.heap l2 ys ∧
      R (.ok (.ret (.ref (zS4 k s.heap l1 l2).objs.size))) { s with heap := zS5 k s.heap l1 l2 }) :=
  .of_wp fun prog w A R s h => by
    obtain ⟨hp, g, d, tk, os⟩ := s; obtain ⟨hl1, hl2, h⟩ := h
    have hsub := sub_zip
    have hL1 : Heap.IsList (Shared.heap ⟨hp, g, d, tk, os⟩) l1 xs := hl1
    have e2 : (Str.ofString "strict" != ("strict" : Str)) = false := by decide +kernel
    cases k
    · have hL2 : Heap.IsList (Shared.heap ⟨hp.push { cls := .type "list_iterator", data := .fields #[.ref l1, .int 0 0] }, g, d, tk, os⟩) l2 ys := Heap.IsList.push hl2 _
      wp_walk using wpAny_pyIter_list hL1, wpAny_pyIter_list hL2
      exact ⟨_, rfl, h⟩
    · have hL2 : Heap.IsTuple (Shared.heap ⟨hp.push { cls := .type "list_iterator", data := .fields #[.ref l1, .int 0 0] }, g, d, tk, os⟩) l2 ys := Heap.IsTuple.push hl2 _
      wp_walk using wpAny_pyIter_list hL1, wpAny_pyIter_tuple hL2
      exact ⟨_, rfl, h⟩
theorem typeCall_zipS (a b c : Value) : checkTypeCall "zip" ⟨[a, b], [(Str.ofString "strict", c)]⟩ = pure () := by kernel_rfl
theorem newCall_zipS (a b c : Value) : checkBuiltinCall "zip.__new__" ⟨[.type "zip", a, b], [(Str.ofString "strict", c)]⟩ = pure () := by kernel_rfl
theorem args_init_zipS (obj a b c : Value) : argsOk "object.__init__" ⟨[obj, a, b], [(Str.ofString "strict", c)]⟩ := by unfold argsOk; kernel_rfl
section
variable {prog : Program} {w : World} {A : Around} {E : Value → Shared → Prop} {s : Shared}
theorem call_zipS (k : Sk) {l1 l2 : Addr} {xs ys : Array Value} {Q : Value → Shared → Prop} (hl1 : SqS .L s.heap l1 xs) (hl2 : SqS k s.heap l2 ys)
    (h : ∀ h', IsZipS h' (s.heap.objs.size + 4) (s.heap.objs.size + 2) (s.heap.objs.size + 3) .none → IsPair h' (s.heap.objs.size + 2) (.ref s.heap.objs.size) (.ref (s.heap.objs.size + 1)) →
      IsPair h' (s.heap.objs.size + 3) .none .none → ItS .L h' s.heap.objs.size l1 0 → ItS k h' (s.heap.objs.size + 1) l2 0 → h'.objs.size = s.heap.objs.size + 5 →
      (∀ c o, s.heap.get? c = some o → h'.get? c = some o) → Q (.ref (s.heap.objs.size + 4)) { s with heap := h' }) :
    wpAny (model prog w) A (call (.type "zip") [.ref l1, .ref l2] [(Str.ofString "strict", .bool true)]) Q E s := by
  refine callType_newKw F.called_zip (by decide) (typeCall_zipS _ _ _) (newCall_zipS _ _ _) (fun obj => args_init_zipS obj _ _ _) F.entry_zip_new
    (meets_zipS_new k l1 l2 xs ys) ⟨hl1, hl2, ?_⟩
  have z1 : (zS1 s.heap l1).objs.size = s.heap.objs.size + 1 := Heap.size_push ..
  have z2 : (zS2 k s.heap l1 l2).objs.size = s.heap.objs.size + 2 := by rw [Heap.size_push, z1]
  have z3 : (zS3 k s.heap l1 l2).objs.size = s.heap.objs.size + 3 := by rw [Heap.size_push, z2]
  have z4 : (zS4 k s.heap l1 l2).objs.size = s.heap.objs.size + 4 := by rw [Heap.size_push, z3]
  have z5 : (zS5 k s.heap l1 l2).objs.size = s.heap.objs.size + 5 := by rw [Heap.size_push, z4]
  have g5 : (zS5 k s.heap l1 l2).get? (zS4 k s.heap l1 l2).objs.size = some _ := Heap.get?_push_size _ rfl
  have g4 : (zS5 k s.heap l1 l2).get? (zS3 k s.heap l1 l2).objs.size = some _ := Heap.get?_push_of_some _ (Heap.get?_push_size _ rfl)
  have g3 : (zS5 k s.heap l1 l2).get? (zS2 k s.heap l1 l2).objs.size = some _ := Heap.get?_push_of_some _ (Heap.get?_push_of_some _ (Heap.get?_push_size _ rfl))
  have g2 : (zS5 k s.heap l1 l2).get? (zS1 s.heap l1).objs.size = some _ := Heap.get?_push_of_some _ (Heap.get?_push_of_some _ (Heap.get?_push_of_some _ (Heap.get?_push_size _ rfl)))
  have g1 : (zS5 k s.heap l1 l2).get? s.heap.objs.size = some _ := Heap.get?_push_of_some _ (Heap.get?_push_of_some _ (Heap.get?_push_of_some _ (Heap.get?_push_of_some _ (Heap.get?_push_size _ rfl))))
  show _ ∧ _
  rw [z2, z3, z4] at g5
  rw [z1, z2] at g3
  rw [z3] at g4
  rw [z1] at g2
  rw [z4]
  have i2 : ItS k (zS5 k s.heap l1 l2) (s.heap.objs.size + 1) l2 0 := by
    cases k
    · exact ⟨_, g2, rfl, rfl⟩
    · exact ⟨_, g2, rfl, rfl⟩
  exact ⟨⟨_, g5, rfl⟩, h _ g5 g3 g4 ⟨_, g1, rfl, rfl⟩ i2 z5 fun c o x =>
    Heap.get?_push_of_some _ (Heap.get?_push_of_some _ (Heap.get?_push_of_some _ (Heap.get?_push_of_some _ (Heap.get?_push_of_some _ x))))⟩
end
end ZS

set_option Elab.async false
set_option linter.all false
set_option maxRecDepth 100000
set_option maxHeartbeats 2000000
/-! ZT: loops over zip(a, b, strict=True). -/
namespace ZS
open PySem PySem.Spec PyProof.Rows L2
def SqV : Sk → PySem.W.Frag → Hp → Addr → List V → Prop
  | .L, K, H, a, xs => SqL K H a xs
  | .T, K, H, a, xs => SqT K H a xs
theorem sqv_at {X : Cx} {pins : List (Addr × Obj)} {σ : L2.St} {H : Hp} {s : Shared} {k : Sk} {a : Addr} {xs : List V} (I : Inv X pins σ H s) (h : SqV k X.K H a xs) : ∃ its : List Value, Vals xs its ∧ SqS k s.heap a its.toArray ∧ a < s.heap.objs.size := by
  cases k
  · obtain ⟨its, rv, p, _⟩ := I.list h
    exact ⟨its, rv, p.isList, p.lt⟩
  · obtain ⟨its, rv, p, _⟩ := I.tuple h
    obtain ⟨o, ho, _⟩ := id p
    exact ⟨its, rv, p, Heap.lt_size ho⟩
theorem sqv_inj {X : Cx} {pins : List (Addr × Obj)} {σ : L2.St} {H : Hp} {s : Shared} {k : Sk} {a : Addr} {xs ys : List V} (I : Inv X pins σ H s) (h : SqV k X.K H a xs) (h2 : SqV k X.K H a ys) : xs = ys := by
  cases k
  · exact I.list_inj h h2
  · exact I.tuple_inj h h2
def ItzS (k : Sk) (K : PySem.W.Frag) (a b : Addr) : It :=
  ⟨fun i H => ∃ (xs ys : List V) (x y : V), SqL K H a xs ∧ SqV k K H b ys ∧ xs[i]? = some x ∧ ys[i]? = some y,
    fun i H v H' => ∃ T x y, v = .ref T ∧ H T = none ∧ H' = upd H T (.tup [x, y]) ∧ (∀ xs, SqL K H a xs → xs[i]? = some x) ∧ ∀ ys, SqV k K H b ys → ys[i]? = some y,
    fun i H => ∃ xs ys : List V, SqL K H a xs ∧ SqV k K H b ys ∧ xs.length ≤ i ∧ ys.length ≤ i⟩
theorem turn_zipS {P : Program} {w : World} {K : PySem.W.Frag} {elts : List Expr} {kk : Nat} {tpos : Pos} {a b z TI TO i1 i2 : Addr} (k : Sk) (D : ZipApart z TI TO i1 i2 a b) :
    Turn P w K (.Tuple elts kk tpos) (ItzS k K a b) [z, TI, TO, i1, i2] z (fun i h => IsZipS h z TI TO .none ∧ IsPair h TI (.ref i1) (.ref i2) ∧ (∃ x y, IsPair h TO x y) ∧ ItS .L h i1 a i ∧ ItS k h i2 b i) where
  mem := by simp
  obj := fun i h st c hc => by
    obtain ⟨hz, hTI, ⟨x, y, hTO⟩, h1, h2⟩ := st
    obtain ⟨o1, e1, d1⟩ := h1.obj
    obtain ⟨o2, e2, d2⟩ := h2.obj
    have e' : c = z ∨ c = TI ∨ c = TO ∨ c = i1 ∨ c = i2 := by simpa using hc
    rcases e' with q | q | q | q | q
    · rw [q]; exact ⟨_, hz, fun v q => nomatch q⟩
    · rw [q]; exact ⟨_, hTI, fun v q => nomatch q⟩
    · rw [q]; exact ⟨_, hTO, fun v q => nomatch q⟩
    · rw [q]; exact ⟨o1, e1, d1⟩
    · rw [q]; exact ⟨o2, e2, d2⟩
  keep := fun i h h' st k => by
    obtain ⟨hz, hTI, ⟨x, y, hTO⟩, h1, h2⟩ := st
    exact ⟨k z (by simp) _ hz, k TI (by simp) _ hTI, ⟨x, y, k TO (by simp) _ hTO⟩, h1.at fun o q => k i1 (by simp) o q, h2.at fun o q => k i2 (by simp) o q⟩
  item := by
    intro X hP hw hK hc i pins s σ H E I hf st hg
    subst hP hw hK
    obtain ⟨hz, hTI, ⟨x0, y0, hTO⟩, h1, h2⟩ := st
    obtain ⟨xs, ys, x, y, hqx, hqy, hx, hy⟩ := hg
    obtain ⟨its, rv, p, _⟩ := sqv_at (k := .L) I hqx
    obtain ⟨its2, rv2, p2, _⟩ := sqv_at I hqy
    obtain ⟨u, hu, ru⟩ := rv.get hx
    obtain ⟨u2, hu2, ru2⟩ := rv2.get hy
    have hzl : z < s.heap.objs.size := Heap.lt_size hz
    refine pyNext_zipS_item D hz hTI hTO h1 h2 p p2 (x := u) (y := u2) (by simpa using hu) (by simpa using hu2) fun h' z' TO' h1' h2' hT hsz hk => ?_
    refine ⟨_, rfl, go_zipS (s := { s with heap := h' }) z' fun h'' z'' sb => ?_⟩
    have hT2 : h''.get? s.heap.objs.size = some { cls := .type "tuple", data := .seq #[u, u2] } := (sb.2 _ (Nat.ne_of_gt hzl)).trans hT
    have new : ObjOk X.prog X.w (upd H s.heap.objs.size (.tup [x, y])) h'' s.heap.objs.size (.tup [x, y]) :=
      ⟨by show 2 ≤ sizeLine; decide, [u, u2], .cons ru (.cons ru2 .nil), ⟨_, hT2, rfl, _, rfl⟩⟩
    have I1 : Inv X pins σ (upd H s.heap.objs.size (.tup [x, y])) { s with heap := h'' } :=
      I.turnedNew (t' := s.toks) (ch := [z, TI, TO, i1, i2]) (fun c o hb q => (sb.2 c (fun q' => hb (by simp [q']))).trans (hk c o (fun q' => hb (by simp [q'])) (fun q' => hb (by simp [q'])) (fun q' => hb (by simp [q'])) (fun q' => hb (by simp [q'])) q)) hf (Nat.le_refl _) new
    refine ⟨.ref s.heap.objs.size, _, I1, rfl, ⟨_, x, y, rfl, I.hok.fresh (Nat.le_refl _), rfl, fun l hl => by rw [sqv_inj (k := .L) I hl hqx]; exact hx, fun l hl => by rw [sqv_inj I hl hqy]; exact hy⟩, ⟨z'', ?_, ⟨u, u2, ?_⟩, ?_, ?_⟩, fun c hcm => ?_⟩
    · exact (sb.2 _ D.TIz).trans (hk _ _ D.TIz D.TITO D.TIi1 D.TIi2 hTI)
    · exact (sb.2 _ D.TOz).trans TO'
    · exact h1'.at fun o q => (sb.2 _ D.i1z).trans q
    · exact h2'.at fun o q => (sb.2 _ D.i2z).trans q
    · have hlt : c < s.heap.objs.size := by
        have e' : c = z ∨ c = TI ∨ c = TO ∨ c = i1 ∨ c = i2 := by simpa using hcm
        rcases e' with q | q | q | q | q
        · rw [q]; exact hzl
        · rw [q]; exact Heap.lt_size hTI
        · rw [q]; exact Heap.lt_size hTO
        · rw [q]; obtain ⟨_, e1, _⟩ := h1.obj; exact Heap.lt_size e1
        · rw [q]; obtain ⟨_, e2, _⟩ := h2.obj; exact Heap.lt_size e2
      rw [upd_ne (Nat.ne_of_lt hlt)]
      exact (hf c hcm).1
  done := by
    intro X hP hw hK hc i pins s σ H E I hf st hg
    subst hP hw hK
    obtain ⟨hz, hTI, ⟨x0, y0, hTO⟩, h1, h2⟩ := st
    obtain ⟨xs, ys, hqx, hqy, e1, e2⟩ := hg
    obtain ⟨its, rv, p, _⟩ := sqv_at (k := .L) I hqx
    obtain ⟨its2, rv2, p2, _⟩ := sqv_at I hqy
    have l1 := rv.length
    have l2 := rv2.length
    exact pyNext_zipS_end (I.ok.hd hc) D hz hTI hTO h1 h2 p p2 (by simp; omega) (by simp; omega) fun h' hk => ⟨rfl, I.turnedL (t' := s.toks) (ch := [z, TI, TO, i1, i2]) (fun c o hb q =>
      hk c o (fun q' => hb (by simp [q'])) (fun q' => hb (by simp [q'])) (fun q' => hb (by simp [q'])) (fun q' => hb (by simp [q'])) q) hf⟩
  self := fun A i s Q E st h => iter_zipS st.1 h
theorem walk_zipS {K : PySem.W.Frag} {k : Sk} {a b : Addr} {xs ys : List V} {n : Nat} (h1 : xs.length = n) (h2 : ys.length = n) : Walk (ItzS k K a b) n (fun H => SqL K H a xs ∧ SqV k K H b ys) (YPair (fun i => xs[i]?) (fun i => ys[i]?)) := by
  refine ⟨fun i _ hi q => ?_, fun _ q => ⟨xs, ys, q.1, q.2, by omega, by omega⟩, fun i H v H' _ q y => ?_⟩
  · have e1 : i < xs.length := by omega
    have e2 : i < ys.length := by omega
    exact ⟨xs, ys, xs[i], ys[i], q.1, q.2, by simp [e1], by simp [e2]⟩
  · obtain ⟨T, x, z, h1, h2, h3, h4, h5⟩ := y
    exact ⟨T, x, z, h1, h2, h3, h4 xs q.1, h5 ys q.2⟩
theorem callWith_typeKw {M : Model} {A : Around} {E : Value → Shared → Prop} {s : Shared} {pos : Pos} {T : String} {first : List Value} {args : List (Bool × Sem Value)} {kws : List (Option Str × Sem Value)} {Q : Value → Shared → Prop}
    (hplain : (args.any (·.1) || kws.any (·.1.isNone)) = false)
    (h : wpAny M A (evalArgs (.type T) true args kws) (fun a s₁ => wpAny M A (call (.type T) (first ++ a.pos) a.kw) Q E s₁) E s) :
    wpAny M A (callWith pos (.type T) first args kws) Q E s := by
  unfold callWith
  refine wpAny_bind (wpAny_holding (wpAny_mono h (fun a s₁ h₁ => wpAny_bind (wpAny_standAt ?_)) fun _ _ x => x))
  simp only [hplain]
  refine wpAny_bind (wpAny_pure ?_)
  exact wpAny_bind (wpAny_mono h₁ (fun r s₂ hr => wpAny_bind (wpAny_holding (wpAny_point (wpAny_pure hr)))) fun _ _ x => x)
def iZipS (K : PySem.W.Frag) (k : Sk) (ta : TA) : TI := fun σ H R => ta σ H fun vs H1 => ∃ a b xs ys, vs = [.ref a, .ref b] ∧ SqL K H1 a xs ∧ SqV k K H1 b ys ∧ R (ItzS k K a b) H1
theorem pi_zipS {X : Cx} {K : PySem.W.Frag} (k : Sk) {e e2 : Expr} {ta : TA} {p pos tpos kpos cpos : Pos} {elts : List Expr} {kk cj : Nat} (hK : X.K = K) (hg : Gl X "zip") (hm : X.mg "zip" = none) (ha : PA X [e, e2] ta)
    (hall : (backToKw pos (keywordEach [⟨some "strict", .Constant (.bool true) cj cpos, kpos⟩] X.env)).all (·.1.isSome) = true := by rfl)
    (hs : starEach [e, e2] X.env = (false, eval e X.env) :: starEach [e2] X.env := by rfl)
    (hpl : ((backTo pos (starEach [e, e2] X.env)).any (·.1) || (backToKw pos (keywordEach [⟨some "strict", .Constant (.bool true) cj cpos, kpos⟩] X.env)).any (·.1.isNone)) = false := by rfl) :
    PI X (.Tuple elts kk tpos) (.Call (.Name "zip" p) [e, e2] [⟨some "strict", .Constant (.bool true) cj cpos, kpos⟩] pos) (iZipS K k ta) := by
  subst hK
  refine ⟨fun pins s σ H R I h => ?_⟩
  refine wpAny_Call_Name_kw (ld_blt I hg hm PyProof.Rows.boot_zip (callWith_typeKw hpl (evalArgs_kw2 hall (thn (ha.run pos pins s σ H _ I h) fun us s1 ⟨vs, H1, I1, r1, q1⟩ => ?_) hs)))
  have hkw : PK X [⟨some "strict", .Constant (.bool true) cj cpos, kpos⟩] (tCons (tC (.bl true)) tNil) := pk_cons pe_bl pk_nil
  refine thn (hkw.run pos pins s1 σ H1 (fun zs H2 => zs = [.bl true] ∧ H2 = H1) I1 ⟨rfl, rfl⟩) fun ws s2 ⟨zs, H2, I2, rz, ez, eH⟩ => ?_
  subst ez eH
  obtain ⟨a, b, xs, ys, ex, hqx, hqy, q⟩ := q1
  subst ex
  cases rz with
  | cons rz1 rz2 =>
  cases rz2
  cases rz1
  cases r1 with
  | cons r rr =>
  cases rr with
  | cons r' rr =>
  cases rr
  cases r
  cases r'
  obtain ⟨its, rv, p1, la⟩ := sqv_at (k := .L) I2 hqx
  obtain ⟨its2, rv2, p2, lb⟩ := sqv_at I2 hqy
  refine call_zipS k p1 p2 fun h' hz hTI hTO h1 h2 hsz hk => iter_zipS hz ?_
  have I3 : Inv X pins σ H2 { s2 with heap := h' } := I2.kept (t' := s2.toks) hk
  refine ⟨s2.heap.objs.size + 4, [s2.heap.objs.size + 4, s2.heap.objs.size + 2, s2.heap.objs.size + 3, s2.heap.objs.size, s2.heap.objs.size + 1], _, _, H2, rfl, I3, turn_zipS k (PySem.W.ktu_apart s2.heap.objs.size a b la lb), ⟨hz, hTI, ⟨_, _, hTO⟩, h1, h2⟩, fun c hcm => ?_, q⟩
  have e' : c = s2.heap.objs.size + 4 ∨ c = s2.heap.objs.size + 2 ∨ c = s2.heap.objs.size + 3 ∨ c = s2.heap.objs.size ∨ c = s2.heap.objs.size + 1 := by simpa using hcm
  have hle : s2.heap.objs.size ≤ c := by
    rcases e' with z | z | z | z | z
    · rw [z]; exact Nat.le_add_right _ _
    · rw [z]; exact Nat.le_add_right _ _
    · rw [z]; exact Nat.le_add_right _ _
    · rw [z]; exact Nat.le_refl _
    · rw [z]; exact Nat.le_add_right _ _
  exact I2.fpOk hle (I2.hok.fresh hle)
end ZS

set_option Elab.async false
set_option linter.all false
set_option maxRecDepth 100000
set_option maxHeartbeats 2000000
/-! MX: max(l) of a list of data that never change. -/
namespace Y
open PySem PySem.Spec PyProof.Rows L2 PySem.W
theorem max_list_at {prog : Program} {w : World} {A : Around} {E : Value → Shared → Prop} {s : Shared} {l : Addr} {vs : Array Value} {x : PyData} {xs : List PyData} {as : List Addr} {Q : Value → Shared → Prop} (hh : A.handled = none) (hl : s.heap.IsList l vs) (hr : ReadsAll s.heap vs.toList (x :: xs) as) (ha : AlikeAll (x :: xs)) (hu : A.units + 1 + PyData.depthAll (x :: xs) < cLine)
    (h : ∀ (i : Nat) v h' tk, vs[i]? = some v → (x :: xs).getD i .none = maxD x xs → (∀ b o, s.heap.get? b = some o → h'.get? b = some o) → Q v { s with heap := h', toks := tk }) :
    wpAny (model prog w) A (call (.builtin "max") [.ref l]) Q E s := by
  have hn : vs.size = xs.length + 1 := readsAll_len hr
  refine call_max_walkH (iter_listW (A := A.in1) hh hl fun s₂ e W st hfp hw hk => ?_)
  refine ⟨_, _, _, _, _, _, _, s.heap, _, rfl, W, st, hfp, by omega, hw, hk, cmpIn_gt (A := A.in1) hr ha (by show A.units + 1 + _ < _; exact hu), fun v s' hP m => ?_⟩
  obtain ⟨h', tk, rfl, hk'⟩ := moved_old e rfl m
  have e1 : vs.size - 1 = xs.length := by omega
  have e2 := (argBest_fold (fun a b => dataLt b a) PyData.none x xs xs.length (Nat.le_refl _)).2
  rw [List.take_length] at e2
  rw [e1] at hP
  exact h _ v h' tk hP (by unfold maxD; exact e2) hk'
def yMaxD (K : PySem.W.Frag) : List V → Hp → VK → Prop := fun vs H Q => match vs with
  | [.ref a] => ∃ (xs : List V) (d : PyData) (ds : List PyData), SqL K H a xs ∧ ImAll K H xs (d :: ds) ∧ AlikeAll (d :: ds) ∧ PyData.depthAll (d :: ds) ≤ 50 ∧ ∀ v, Im K H v (maxD d ds) → Q v H
  | _ => False
theorem kMaxD {X : Cx} {K : PySem.W.Frag} (h0 : X.K = K) (hc : X.calm = true) (hu : X.A.units + 64 < cLine) : CallR X (.builtin "max") (yMaxD K) := by
  subst h0
  intro pins s σ H vs us Q I r h
  unfold yMaxD at h
  split at h
  · rename_i a
    obtain ⟨xs, d, ds, hs, im, al, dp, q⟩ := h
    obtain rfl := Vals.ref1 r
    obtain ⟨its, rv, hl, hz⟩ := I.list hs
    obtain ⟨as, rd⟩ := Dp.reads I (.list (d :: ds)) (.ref a) (.ref a) (.lst hs (ImAll.dp _ _ im)) rfl
    have ra : ∃ as, ReadsAll s.heap its.toArray.toList (d :: ds) as := by
      cases rd with
      | list ho hcl hdt ra =>
        rename_i o n vs' as'
        obtain ⟨o2, ho2, hc2, n2, hd2⟩ := hl.isList
        rw [ho] at ho2
        cases ho2
        rw [hdt] at hd2
        cases hd2
        exact ⟨_, ra⟩
    obtain ⟨as, ra⟩ := ra
    refine max_list_at (I.ok.hd hc) hl.isList ra al (by omega) fun i v h' tk hv hm hk => ?_
    have hv' : its[i]? = some v := by simpa using hv
    obtain ⟨y, hy, ry⟩ : ∃ y, xs[i]? = some y ∧ RelV y v := by
      have : i < xs.length := by rw [rv.length]; exact (List.getElem?_eq_some_iff.mp hv').1
      obtain ⟨u, hu1, hu2⟩ := rv.get (List.getElem?_eq_getElem this)
      rw [hv'] at hu1
      cases hu1
      exact ⟨_, List.getElem?_eq_getElem this, hu2⟩
    obtain ⟨e, he, ime⟩ := im.get hy
    have : e = maxD d ds := by
      rw [← hm, List.getD_eq_getElem?_getD, he]
      rfl
    rw [this] at ime
    exact ⟨y, H, I.kept hk, ry, q y ime⟩
  · exact h.elim
end Y

set_option Elab.async false
set_option linter.all false
set_option maxRecDepth 100000
set_option maxHeartbeats 2000000
set_option exponentiation.threshold 600
/-! KP: kept places as data; what is seen, by the rows' firsts. -/
namespace Y
open PySem PySem.Spec PyProof.Rows L2 PySem.W
structure Kst where
  wear : Int
  rows : List (List Lay)
structure KAddr where
  x : Addr
  dx : Addr
  l : Addr
  pl : Addr
  pdx : Addr
  pd : Addr
def Fk (a : KAddr) : Addr → Prop := fun y => y = a.x ∨ y = a.l
def KAddr.at_ (a : KAddr) (l : Addr) : KAddr := ⟨a.x, a.dx, l, a.pl, a.pdx, a.pd⟩
structure KpAt (K : PySem.W.Frag) (CP CK : Addr) (H : Hp) (a : KAddr) (ks : List Ink) (s : Kst) : Prop where
  pal : PalAt CP H a.pl a.pdx a.pd ks
  ins : H a.x = some (.ins CK a.dx [("kept_palette", .ref a.pl), ("wear_left", .int s.wear), ("kept_rows", .ref a.l)])
  row : ∃ vs, H a.l = some (.lst vs) ∧ ImAll K H vs (s.rows.map rowD)
  rws : s.rows.length = ks.length
  ok : ∀ r ∈ s.rows, r.length ≤ 7 ∧ ∀ y ∈ r, LayOk y
  w0 : 0 ≤ s.wear
  w6 : s.wear ≤ 6
section
variable [Tb] {K : PySem.W.Frag} {CP CK : Addr} {H H' : Hp} {a : KAddr} {ks : List Ink} {s : Kst} {S : Addr → Prop}
theorem KpAt.up (h : KpAt K CP CK H a ks s) (k : Kp S H H') (n1 : ¬ S a.pl) (n2 : ¬ S a.pd) (n3 : ∀ b, Fk a b → ¬ S b) : KpAt K CP CK H' a ks s :=
  ⟨h.pal.up k n1 n2, k.all _ _ h.ins (n3 _ (.inl rfl)), let ⟨vs, g1, g2⟩ := h.row; ⟨vs, k.all _ _ g1 (n3 _ (.inr rfl)), ImAll.up k _ _ g2⟩, h.rws, h.ok, h.w0, h.w6⟩
theorem KpAt.up0 (h : KpAt K CP CK H a ks s) (k : Kp No H H') : KpAt K CP CK H' a ks s := h.up k id id fun _ _ => id
omit [Tb] in
theorem KpAt.has (h : KpAt K CP CK H a ks s) {y : Addr} (hy : Fk a y) : H y ≠ none := by
  rcases hy with z | z
  · rw [z, h.ins]; intro e; cases e
  · obtain ⟨vs, g, _⟩ := h.row
    rw [z, g]; intro e; cases e
omit [Tb] in
theorem KpAt.out (h : KpAt K CP CK H a ks s) : ∀ b, Fk a b → b ≠ a.pl ∧ b ≠ a.pd := by
  obtain ⟨vs, g, _⟩ := h.row
  rintro b (z | z)
  · rw [z]
    refine ⟨fun e => ?_, fun e => ?_⟩
    · have := h.ins
      rw [e, h.pal.ins] at this
      have := congrArg (fun o : Option HO => match o with | some (.ins _ _ l) => l.length | _ => 0) this
      simp at this
    · have := h.ins
      rw [e, h.pal.dct] at this
      cases this
  · rw [z]
    refine ⟨fun e => ?_, fun e => ?_⟩
    · rw [e, h.pal.ins] at g; cases g
    · rw [e, h.pal.dct] at g; cases g
omit [Tb] in
theorem KpAt.ne_xl (h : KpAt K CP CK H a ks s) : a.x ≠ a.l := fun e => by
  obtain ⟨vs, g, _⟩ := h.row
  rw [← e, h.ins] at g; cases g
end
/-- what is kept of a row -/
def keptRow (w : Int) (r : List Lay) : List Lay := normM (thinM r (w + 1).toNat)
theorem keptRow_len {w : Int} {r : List Lay} (h6 : w ≤ 6) : (keptRow w r).length ≤ 7 := by
  unfold keptRow
  rw [norm_len, thin_len]
  omega
theorem keptRow_mem {w : Int} {r : List Lay} {l : Lay} (h : l ∈ keptRow w r) : l ∈ r := thinM_mem (norm_mem.mp h)
theorem keptRow_top {w : Int} {r : List Lay} (h0 : 0 ≤ w) : topL (keptRow w r) = topL r := by
  unfold keptRow
  have e : (w + 1).toNat = w.toNat + 1 := by omega
  rw [e, ← thin_topL r w.toNat]
  exact alike_topL (norm_norm _)
def putK2 (rows : List (List Lay)) (w : Int) : Kst := ⟨w, rows.map (keptRow w)⟩
/-! ### what is seen, by the rows' firsts -/
def bestTo (ts : List (Option Lay)) : Nat → Option (Nat × Lay)
  | 0 => none
  | i + 1 => match ts[i]? with
    | some (some l) => (match bestTo ts i with
      | some (j, y) => if y.2 < l.2 then some (i, l) else some (j, y)
      | none => some (i, l))
    | _ => bestTo ts i
def bestOf (ts : List (Option Lay)) : Option (Nat × Lay) := bestTo ts ts.length
def seenT (ks : List Ink) : Option (Nat × Lay) → PyData
  | none => .none
  | some (i, l) => .tuple [.str (ks.getD i (default, 0)).1, .str l.1, .int l.2]
def topsL (rows : List (List Lay)) : List (Option Lay) := rows.map topL
theorem topL_nil : topL [] = none := rfl
theorem topL_some {r : List Lay} (h : r ≠ []) : topL r = some r[topN r]! ∧ ∃ h' : topN r < r.length, topL r = some r[topN r] := by
  have h' := topN_lt h
  refine ⟨?_, h', ?_⟩
  · unfold topL
    rw [List.getElem?_eq_getElem h', List.getElem!_eq_getElem?_getD, List.getElem?_eq_getElem h']
    rfl
  · unfold topL
    rw [List.getElem?_eq_getElem h']
theorem bestTo_lt (ts : List (Option Lay)) : ∀ i j l, bestTo ts i = some (j, l) → j < i ∧ ts[j]? = some (some l)
  | 0, _, _, h => by cases h
  | i + 1, j, l, h => by
    have ih := bestTo_lt ts i
    unfold bestTo at h
    cases e : ts[i]? with
    | none =>
      rw [e] at h
      have := ih j l h
      exact ⟨by omega, this.2⟩
    | some o =>
      cases o with
      | none =>
        rw [e] at h
        have := ih j l h
        exact ⟨by omega, this.2⟩
      | some y =>
        rw [e] at h
        cases eb : bestTo ts i with
        | none =>
          rw [eb] at h
          cases h
          exact ⟨by omega, e⟩
        | some p =>
          obtain ⟨q, z⟩ := p
          rw [eb] at h
          have h : (if z.2 < y.2 then some (i, y) else some (q, z)) = some (j, l) := h
          split at h
          · cases h
            exact ⟨by omega, e⟩
          · cases h
            have := ih j l eb
            exact ⟨by omega, this.2⟩
/-- a place's top, by the firsts -/
theorem topTo_best {rows : List (List Lyr)} (pos : ∀ r ∈ rows, ∀ l ∈ r, 0 < l.2.2) : ∀ i, (match bestTo (topsL (rows.map layR)) i with
    | none => topTo rows i = (none, 0)
    | some (j, l) => ∃ n r, rows[j]? = some r ∧ (∃ h : n < r.length, r[n].2 = l) ∧ topTo rows i = (some (j, n), l.2))
  | 0 => rfl
  | i + 1 => by
    have ih := topTo_best pos i
    have et : (topsL (rows.map layR))[i]? = (rows[i]?).map fun r => topL (layR r) := by
      unfold topsL
      rw [List.getElem?_map, List.getElem?_map, Option.map_map]
      rfl
    cases e : rows[i]? with
    | none =>
      rw [e] at et
      have e1 : bestTo (topsL (rows.map layR)) (i + 1) = bestTo (topsL (rows.map layR)) i := by
        show (match (topsL (rows.map layR))[i]? with | some (some l) => _ | _ => _) = _
        rw [et]
        rfl
      have e2 : topTo rows (i + 1) = topTo rows i := by
        show (match rows[i]? with | some r => topStep (topTo rows i) i r | none => topTo rows i) = _
        rw [e]
      rw [e1, e2]
      exact ih
    | some r =>
      rw [e] at et
      have e2 := topTo_succ e
      by_cases hr : r = []
      · have e1 : bestTo (topsL (rows.map layR)) (i + 1) = bestTo (topsL (rows.map layR)) i := by
          show (match (topsL (rows.map layR))[i]? with | some (some l) => _ | _ => _) = _
          rw [et, hr]
          rfl
        have e3 : topStep (topTo rows i) i r = topTo rows i := by
          unfold topStep
          rw [if_neg fun z => z.1 hr]
        rw [e1, e2, e3]
        exact ih
      · have hne : layR r ≠ [] := fun z => hr (layR_nil.mp z)
        have hlt := topN_lt hne
        have hlt2 : topN (layR r) < r.length := by rw [layR_len] at hlt; exact hlt
        have et2 : topL (layR r) = some r[topN (layR r)].2 := by
          unfold topL
          exact layR_get hlt2
        have est : stg (layR r) (topN (layR r)) = r[topN (layR r)].2.2 := stg_lyr hlt2
        rw [Option.map_some, et2] at et
        have hp := pos r (List.mem_of_getElem? e) _ (List.getElem_mem hlt2)
        have new : topTo rows (i + 1) = (some (i, topN (layR r)), r[topN (layR r)].2.2) → bestTo (topsL (rows.map layR)) (i + 1) = some (i, r[topN (layR r)].2) → (match bestTo (topsL (rows.map layR)) (i + 1) with
            | none => topTo rows (i + 1) = (none, 0)
            | some (j, l) => ∃ n r, rows[j]? = some r ∧ (∃ h : n < r.length, r[n].2 = l) ∧ topTo rows (i + 1) = (some (j, n), l.2)) := fun h1 h2 => by
          rw [h2]
          exact ⟨topN (layR r), r, e, ⟨hlt2, rfl⟩, h1⟩
        have ebs : bestTo (topsL (rows.map layR)) (i + 1) = (match bestTo (topsL (rows.map layR)) i with
            | some (j, y) => if y.2 < r[topN (layR r)].2.2 then some (i, r[topN (layR r)].2) else some (j, y)
            | none => some (i, r[topN (layR r)].2)) := by
          show (match (topsL (rows.map layR))[i]? with | some (some l) => _ | _ => _) = _
          rw [et]
        have ets : topTo rows (i + 1) = if (topTo rows i).2 < r[topN (layR r)].2.2 then (some (i, topN (layR r)), r[topN (layR r)].2.2) else topTo rows i := by
          rw [e2]
          unfold topStep
          rw [est]
          by_cases c : (topTo rows i).2 < r[topN (layR r)].2.2
          · rw [if_pos ⟨hr, c⟩, if_pos c]
          · rw [if_neg fun z => c z.2, if_neg c]
        cases eb : bestTo (topsL (rows.map layR)) i with
        | none =>
          rw [eb] at ih ebs
          have ih : topTo rows i = (none, 0) := ih
          rw [ih] at ets
          rw [if_pos hp] at ets
          exact new ets ebs
        | some p =>
          obtain ⟨j, y⟩ := p
          rw [eb] at ih ebs
          obtain ⟨n, r', g1, g2, g3⟩ := ih
          rw [g3] at ets
          have ebs : bestTo (topsL (rows.map layR)) (i + 1) = if y.2 < r[topN (layR r)].2.2 then some (i, r[topN (layR r)].2) else some (j, y) := ebs
          by_cases c : y.2 < r[topN (layR r)].2.2
          · rw [if_pos c] at ets ebs
            exact new ets ebs
          · rw [if_neg c] at ets ebs
            rw [ebs]
            exact ⟨n, r', g1, g2, ets⟩
theorem seenD_best {ks : List Ink} {rows : List (List Lyr)} (pos : ∀ r ∈ rows, ∀ l ∈ r, 0 < l.2.2) : seenD ks rows = seenT ks (bestOf (topsL (rows.map layR))) := by
  have el : (topsL (rows.map layR)).length = rows.length := by
    unfold topsL
    rw [List.length_map, List.length_map]
  have h := topTo_best pos rows.length
  unfold bestOf seenD topOf
  rw [el]
  cases eb : bestTo (topsL (rows.map layR)) rows.length with
  | none =>
    rw [eb] at h
    have h : topTo rows rows.length = (none, 0) := h
    rw [h]
    rfl
  | some p =>
    obtain ⟨j, y⟩ := p
    rw [eb] at h
    obtain ⟨n, r', g1, ⟨g2, g4⟩, g3⟩ := h
    rw [g3]
    show PyData.tuple [.str (ks.getD j (default, 0)).1, .str ((rows.getD j []).getD n (0, default, 0)).2.1, .int ((rows.getD j []).getD n (0, default, 0)).2.2] = .tuple [.str (ks.getD j (default, 0)).1, .str y.1, .int y.2]
    have e : (rows.getD j []).getD n (0, default, 0) = r'[n] := by
      rw [List.getD_eq_getElem?_getD (l := rows), g1]
      show r'.getD n (0, default, 0) = r'[n]
      rw [List.getD_eq_getElem?_getD, List.getElem?_eq_getElem g2]
      rfl
    rw [e, g4]
/-! ### the firsts as tuples, and the greatest of them -/
abbrev Fst := Int × Nat × Str
def fstD (p : Fst) : PyData := .tuple [.int p.1, .int (-(p.2.1 : Int)), .int (p.2.1 : Int), .str p.2.2]
def firstsTo (ts : List (Option Lay)) : Nat → List Fst
  | 0 => []
  | i + 1 => match ts[i]? with
    | some (some l) => firstsTo ts i ++ [(l.2, i, l.1)]
    | _ => firstsTo ts i
theorem fst_lt {s s' : Int} {i j : Nat} {t t' : Str} (h : j < i) : dataLt (fstD (s, j, t)) (fstD (s', i, t')) = decide (s < s') := by
  show dataLt (.tuple [.int s, .int (-(j : Int)), .int (j : Int), .str t]) (.tuple [.int s', .int (-(i : Int)), .int (i : Int), .str t']) = _
  rw [dataLt_tuple]
  by_cases e : s = s'
  · subst e
    rw [dataLt_all_yes (by simp [alike]) (by simp [PyData.eqv]), dataLt_all_no (by simp [alike]) (by simp [PyData.eqv]; omega), dataLt_int]
    have : ¬ (-(j : Int) < -(i : Int)) := by omega
    simp [this]
  · rw [dataLt_all_no (by simp [alike]) (by simp [PyData.eqv, e]), dataLt_int]
theorem maxD_snoc (x : PyData) (xs : List PyData) (y : PyData) : maxD x (xs ++ [y]) = if dataLt (maxD x xs) y then y else maxD x xs := by
  unfold maxD
  rw [List.foldl_append]
  rfl
theorem firsts_best (ts : List (Option Lay)) : ∀ i, (match bestTo ts i with
    | none => firstsTo ts i = []
    | some (j, l) => ∃ x xs, firstsTo ts i = x :: xs ∧ maxD (fstD x) (xs.map fstD) = fstD (l.2, j, l.1))
  | 0 => rfl
  | i + 1 => by
    have ih := firsts_best ts i
    have lt := bestTo_lt ts i
    have skip : (∀ l, ts[i]? ≠ some (some l)) → (match bestTo ts (i + 1) with
        | none => firstsTo ts (i + 1) = []
        | some (j, l) => ∃ x xs, firstsTo ts (i + 1) = x :: xs ∧ maxD (fstD x) (xs.map fstD) = fstD (l.2, j, l.1)) := fun h => by
      have e1 : bestTo ts (i + 1) = bestTo ts i := by
        unfold bestTo
        split
        · rename_i l hl; exact absurd hl (h l)
        · cases i <;> rfl
      have e2 : firstsTo ts (i + 1) = firstsTo ts i := by
        show (match ts[i]? with | some (some l) => firstsTo ts i ++ [(l.2, i, l.1)] | _ => firstsTo ts i) = _
        split
        · rename_i l hl; exact absurd hl (h l)
        · rfl
      rw [e1, e2]
      exact ih
    cases e : ts[i]? with
    | none => exact skip fun l h => by rw [e] at h; cases h
    | some o =>
      cases o with
      | none => exact skip fun l h => by rw [e] at h; cases h
      | some l =>
        have e2 : firstsTo ts (i + 1) = firstsTo ts i ++ [(l.2, i, l.1)] := by
          show (match ts[i]? with | some (some l) => firstsTo ts i ++ [(l.2, i, l.1)] | _ => firstsTo ts i) = _
          rw [e]
        have e1 : bestTo ts (i + 1) = (match bestTo ts i with
            | some (j, y) => if y.2 < l.2 then some (i, l) else some (j, y)
            | none => some (i, l)) := by
          show (match ts[i]? with | some (some l) => _ | _ => _) = _
          rw [e]
        cases eb : bestTo ts i with
        | none =>
          rw [eb] at ih e1
          have ih : firstsTo ts i = [] := ih
          have e1 : bestTo ts (i + 1) = some (i, l) := e1
          rw [e1, e2, ih]
          exact ⟨_, [], rfl, rfl⟩
        | some p =>
          obtain ⟨j, y⟩ := p
          rw [eb] at ih e1
          obtain ⟨x, xs, g1, g2⟩ := ih
          have e1 : bestTo ts (i + 1) = if y.2 < l.2 then some (i, l) else some (j, y) := e1
          have hm : maxD (fstD x) ((xs ++ [(l.2, i, l.1)]).map fstD) = if y.2 < l.2 then fstD (l.2, i, l.1) else fstD (y.2, j, y.1) := by
            rw [List.map_append, List.map_cons, List.map_nil, maxD_snoc, g2, fst_lt (lt j y eb).1]
            by_cases c : y.2 < l.2
            · rw [if_pos (decide_eq_true c), if_pos c]
            · rw [if_neg (by rw [decide_eq_false c]; decide), if_neg c]
          rw [e1, e2, g1]
          by_cases c : y.2 < l.2
          · rw [if_pos c] at hm ⊢
            exact ⟨x, _, rfl, hm⟩
          · rw [if_neg c] at hm ⊢
            exact ⟨x, _, rfl, hm⟩
end Y

set_option Elab.async false
set_option linter.all false
set_option maxRecDepth 100000
set_option maxHeartbeats 2000000
/-! AL: defs that stand at another name of the module. -/
namespace Y
open PySem PySem.Spec PyProof.Rows L2
/-- the def st of the name y stands at the module's name x -/
def DefAs (K : PySem.W.Frag) (mg : Str → Option Value) (x y : Str) (st : Stmt) : Prop :=
  ∃ f fd, FunD K y y (defArgs st) (defBody st) (defScope st) [] [] f fd ∧ mg x = some (.ref f)
theorem cal_ofA {P : Program} {w : World} {K : PySem.W.Frag} {mg : Str → Option Value} {base : Heap} {k : Nat} {x y : Str} {sp : Sp} {st : Stmt} {N ps : List Str} (D : DefAs K mg x y st) (S : FnScope N ps (defScope st))
    (bnd : ∀ (kV doc pm : Value) (an : Option Addr) (cdv ct : Value) (us : List Value), us.length = ps.length → bindArgs (PySem.W.fnOf y y (defArgs st) (defBody st) (defScope st) .none kV doc pm an cdv ct) ⟨us, []⟩ = pure (ps.zip us))
    (ar : ∀ vs H Q E, sp vs H Q E → vs.length = ps.length)
    (hb : ∀ (f : Addr) (cd : Value) (A : Around) (out : List Env) (s : Shared) (H : Hp) (vs : List V) (Q : VK) (E : XK), Room k (A.deeper (envOfC y (defScope st) s.heap.objs.size f cd)) → (A.deeper (envOfC y (defScope st) s.heap.objs.size f cd)).guards = some [] → sp vs H Q E →
      ∃ t, PSs (cxOf CX0 P w K mg base N y (defScope st) f cd A out s H E).nox (defBody st) t ∧ t { nx := fun _ H' => Q .non H', rt := Q } (start N vs) H) : Cal P w K mg base (k + 1) x sp := by
  obtain ⟨f, fd, F, hm⟩ := D
  refine ⟨f, fd, ps, funD_goes F S ar fun cd A out s H vs Q E r g q => ?_, hm, F.kp, F.bindsN bnd⟩
  obtain ⟨t, h1, h2⟩ := hb f cd A out s H vs Q E r g q
  exact ⟨t, h1.nox, h2⟩
theorem iteNo {A B : Prop} {b : Bool} (h : b = false) (hB : B) : if b = true then A else B := by
  rw [h]; exact iteF hB
theorem nz {n : Nat} {A B : Prop} (h : B) : if n + 1 = 0 then A else B := by
  rw [if_neg (by omega)]; exact h
theorem Im.fstInv {K : PySem.W.Frag} {H : Hp} {v : V} {p : Fst} (h : Im K H v (fstD p)) : ∃ a, v = .ref a ∧ Tp K H a [.int p.1, .int (-(p.2.1 : Int)), .int (p.2.1 : Int), .str p.2.2] := by
  obtain ⟨a, xs, rfl, h1, h2⟩ := id h.tupInv
  cases h2 with
  | cons z1 z2 =>
  cases z2 with
  | cons z2 z3 =>
  cases z3 with
  | cons z3 z4 =>
  cases z4 with
  | cons z4 z5 =>
  cases z5
  obtain rfl := z1.intInv
  obtain rfl := z2.intInv
  obtain rfl := z3.intInv
  obtain rfl := z4.strInv
  exact ⟨a, rfl, h1⟩
end Y

set_option Elab.async false
set_option linter.all false
set_option maxRecDepth 100000
set_option maxHeartbeats 2000000
set_option exponentiation.threshold 600
/-! KQ: deeds of kept places as mathematics. -/
namespace Y
open PySem PySem.Spec PyProof.Rows L2 PySem.W
def weakL (r : List Lay) (n : Int) : List Lay := (shiftM r (-n)).filter posB
def rowOf (s : Kst) (i : Nat) : List Lay := s.rows.getD i []
def layK2 (s : Kst) (i : Nat) (y : Lay) : Kst := putK2 (s.rows.set i (rowOf s i ++ [y])) s.wear
def washK (s : Kst) (i : Nat) (n : Int) : Kst := putK2 (s.rows.set i (weakL (rowOf s i) n)) s.wear
def warmK (s : Kst) (i : Nat) (n : Int) : Kst := putK2 (s.rows.set i (shiftM (rowOf s i) n)) s.wear
def waitRows (ks : List Ink) (t : Int) (rows : List (List Lay)) : List (List Lay) := List.zipWith (fun r (k : Ink) => weakL r (t * k.2)) rows ks
def waitK (ks : List Ink) (s : Kst) (t : Int) : Kst := putK2 (waitRows ks t s.rows) s.wear
def wornL (r : List Lay) (n : Int) : List Lay := if n = 0 then scrapM r else rubM r n
def wornK (s : Kst) (n : Int) : Kst := match bestOf (topsL s.rows) with
  | none => s
  | some (i, _) => if s.wear = 0 then s else putK2 (s.rows.set i (wornL (rowOf s i) n)) (s.wear - 1)
def isWornK (s : Kst) : Bool := (bestOf (topsL s.rows)).isSome && decide (s.wear = 0)
def doK (ks : List Ink) (s : Kst) : Deed → Kst
  | .lay i y => layK2 s i y
  | .wait t => waitK ks s t
  | .wash i n => washK s i n
  | .warm i n => warmK s i n
  | .scrape => wornK s 0
  | .rub n => wornK s n
def wornByK (s : Kst) : Deed → Bool
  | .scrape => isWornK s
  | .rub _ => isWornK s
  | _ => false
def FitK (s : Kst) : Deed → Prop
  | .warm i n => ∀ l ∈ rowOf s i, l.2 + n < 10 ^ 400
  | _ => True
theorem weakL_len (r : List Lay) (n : Int) : (weakL r n).length ≤ r.length := by
  unfold weakL
  refine Nat.le_trans (List.length_filter_le _ _) ?_
  unfold shiftM
  rw [List.length_map]
  exact Nat.le_refl _
theorem weakL_ok {r : List Lay} {n : Int} (h : ∀ l ∈ r, LayOk l) (h0 : 0 ≤ n) : ∀ l ∈ weakL r n, LayOk l := fun l hl => by
  unfold weakL at hl
  obtain ⟨h1, h2⟩ := List.mem_filter.mp hl
  unfold shiftM at h1
  obtain ⟨y, hy, rfl⟩ := List.mem_map.mp h1
  have o := h y hy
  have h2 : 0 < y.2 + -n := of_decide_eq_true h2
  exact ⟨o.nm, h2, by have := o.big; show y.2 + -n < 10 ^ 400; omega⟩
theorem shift_ok {r : List Lay} {n : Int} (h : ∀ l ∈ r, LayOk l) (h0 : 0 ≤ n) (hb : ∀ l ∈ r, l.2 + n < 10 ^ 400) : ∀ l ∈ shiftM r n, LayOk l := fun l hl => by
  unfold shiftM at hl
  obtain ⟨y, hy, rfl⟩ := List.mem_map.mp hl
  have o := h y hy
  exact ⟨o.nm, by have := o.pos; show 0 < y.2 + n; omega, hb y hy⟩
theorem scrap_ok {r : List Lay} (h : ∀ l ∈ r, LayOk l) : ∀ l ∈ scrapM r, LayOk l := fun l hl => h l (List.mem_of_mem_eraseIdx hl)
theorem scrap_len (r : List Lay) : (scrapM r).length ≤ r.length := List.length_eraseIdx_le _ _
theorem rub_len2 (r : List Lay) (n : Int) : (rubM r n).length ≤ r.length := by
  unfold rubM
  split
  · rw [low_len]; exact Nat.le_refl _
  · exact scrap_len r
theorem rub_ok2 {r : List Lay} {n : Int} (h : ∀ l ∈ r, LayOk l) (h0 : 0 ≤ n) : ∀ l ∈ rubM r n, LayOk l := fun l hl => by
  unfold rubM at hl
  split at hl
  · rename_i c
    unfold lowM at hl
    rcases List.mem_or_eq_of_mem_set hl with z | z
    · exact h l z
    · rw [z]
      have hne : r ≠ [] := fun e => by
        subst e
        have : stg [] (topN []) = 0 := rfl
        omega
      have hlt := topN_lt hne
      have o := h _ (List.getElem_mem hlt)
      have e1 : r.getD (topN r) (default, 0) = r[topN r] := by rw [List.getD_eq_getElem?_getD, List.getElem?_eq_getElem hlt]; rfl
      have e2 := stg_at hlt
      rw [e1]
      exact ⟨o.nm, c, by have := o.big; show stg r (topN r) - n < 10 ^ 400; omega⟩
  · exact scrap_ok h l hl
theorem worn_ok2 {r : List Lay} {n : Int} (h : ∀ l ∈ r, LayOk l) (h0 : 0 ≤ n) : ∀ l ∈ wornL r n, LayOk l := by
  unfold wornL
  split
  · exact scrap_ok h
  · exact rub_ok2 h h0
theorem worn_len2 (r : List Lay) (n : Int) : (wornL r n).length ≤ r.length := by
  unfold wornL
  split
  · exact scrap_len r
  · exact rub_len2 r n
theorem rowOf_at {s : Kst} {i : Nat} (h : i < s.rows.length) : rowOf s i = s.rows[i] := by
  unfold rowOf
  rw [List.getD_eq_getElem?_getD, List.getElem?_eq_getElem h]
  rfl
/-- rows put together -/
theorem add_rows [Tb] {K : PySem.W.Frag} {H : Hp} {v1 v2 : V} {r1 r2 : List Lay} (im1 : Im K H v1 (rowD r1)) (im2 : Im K H v2 (rowD r2)) (hl : r1.length + r2.length ≤ 3000) {Q : VK} (q : ∀ v H', Kp No H H' → Im K H' v (rowD (r1 ++ r2)) → Q v H') : yAdd K v1 v2 H Q := by
  obtain ⟨t1, xs, rfl, h1, h2⟩ := id im1.tupInv
  obtain ⟨t2, ys, rfl, h3, h4⟩ := id im2.tupInv
  have e1 : xs.length = r1.length := by rw [h2.length, List.length_map]
  have e2 : ys.length = r2.length := by rw [h4.length, List.length_map]
  have nil1 : xs = [] → r1 = [] := fun z => by
    rw [z] at e1
    exact List.length_eq_zero_iff.mp e1.symm
  have nil2 : ys = [] → r2 = [] := fun z => by
    rw [z] at e2
    exact List.length_eq_zero_iff.mp e2.symm
  refine .inr ⟨t1, t2, xs, ys, rfl, rfl, h1.sq, h3.sq, Nat.le_trans (show xs.length + ys.length ≤ 3000 by omega) (by decide), fun z => ?_, fun _ z => ?_, fun _ _ p hp => ?_⟩
  · rw [nil1 z] at q
    exact q _ _ (Kp.refl _) im2
  · rw [nil2 z, List.append_nil] at q
    exact q _ _ (Kp.refl _) im1
  · have k : Kp No H (upd H p (.tup (xs ++ ys))) := Kp.new hp
    refine q _ _ k (Im.mk upd_same ?_)
    rw [List.map_append]
    exact (ImAll.up k _ _ h2).app (ImAll.up k _ _ h4)
end Y

set_option Elab.async false
set_option linter.all false
set_option maxRecDepth 100000
set_option maxHeartbeats 2000000
set_option exponentiation.threshold 600
/-! MB: a law's own model: a dict of a wear and a list of rows, each a list of layers; rows made normal by insertion. -/
namespace Y
open PySem PySem.Spec PyProof.Rows L2 PySem.W
structure MbAddr where
  m : Addr
  rl : Addr
  ls : List Addr
def MbAddr.at_ (b : MbAddr) (rl : Addr) (ls : List Addr) : MbAddr := ⟨b.m, rl, ls⟩
abbrev mbK (b : MbAddr) (s : Kst) : List (Key × V) := [(.inr "wear", .int s.wear), (.inr "rows", .ref b.rl)]
def RowAt (K : PySem.W.Frag) (H : Hp) (l : Addr) (r : List Lay) : Prop := ∃ vs, H l = some (.lst vs) ∧ ImAll K H vs (r.map layD)
structure MbAt (K : PySem.W.Frag) (H : Hp) (b : MbAddr) (s : Kst) : Prop where
  dct : H b.m = some (.dK (mbK b s))
  lst : H b.rl = some (.lst (b.ls.map V.ref))
  len : b.ls.length = s.rows.length
  row : ∀ (i : Nat) (l : Addr) (r : List Lay), b.ls[i]? = some l → s.rows[i]? = some r → RowAt K H l r
  ok : ∀ r ∈ s.rows, r.length ≤ 1000 ∧ ∀ y ∈ r, LayOk y
  out : b.rl ∉ b.ls
/-- what may change of it -/
def Mm (b : MbAddr) : Addr → Prop := fun y => y = b.m ∨ y = b.rl
section
variable [Tb] {K : PySem.W.Frag} {H H' : Hp} {b : MbAddr} {s : Kst} {S : Addr → Prop} {l : Addr} {r : List Lay}
theorem RowAt.up (h : RowAt K H l r) (k : Kp S H H') (n : ¬ S l) : RowAt K H' l r := let ⟨vs, h1, h2⟩ := h; ⟨vs, k.all _ _ h1 n, ImAll.up k _ _ h2⟩
theorem RowAt.up0 (h : RowAt K H l r) (k : Kp No H H') : RowAt K H' l r := h.up k id
omit [Tb] in
theorem RowAt.full (h : RowAt K H l r) : H l ≠ none := let ⟨vs, h1, _⟩ := h; fun e => by rw [h1] at e; cases e
theorem MbAt.up (h : MbAt K H b s) (k : Kp S H H') (n1 : ¬ S b.m) (n2 : ¬ S b.rl) (n3 : ∀ l ∈ b.ls, ¬ S l) : MbAt K H' b s :=
  ⟨k.all _ _ h.dct n1, k.all _ _ h.lst n2, h.len, fun i l r h1 h2 => (h.row i l r h1 h2).up k (n3 l (List.mem_of_getElem? h1)), h.ok, h.out⟩
theorem MbAt.up0 (h : MbAt K H b s) (k : Kp No H H') : MbAt K H' b s := h.up k id id fun _ _ => id
omit [Tb] in
theorem MbAt.at_ (h : MbAt K H b s) {i : Nat} (hi : i < s.rows.length) : ∃ l, b.ls[i]? = some l ∧ RowAt K H l s.rows[i] ∧ (b.ls.map V.ref)[i]? = some (.ref l) := by
  have h1 : i < b.ls.length := by rw [h.len]; exact hi
  refine ⟨b.ls[i], List.getElem?_eq_getElem h1, h.row i _ _ (List.getElem?_eq_getElem h1) (List.getElem?_eq_getElem hi), ?_⟩
  rw [List.getElem?_map, List.getElem?_eq_getElem h1]
  rfl
omit [Tb] in
theorem MbAt.full (h : MbAt K H b s) : ∀ y, Mm b y ∨ y ∈ b.ls → H y ≠ none := by
  rintro y ((z | z) | z)
  · rw [z, h.dct]; intro e; cases e
  · rw [z, h.lst]; intro e; cases e
  · obtain ⟨i, hi, rfl⟩ := List.mem_iff_getElem.mp z
    exact (h.row i _ _ (List.getElem?_eq_getElem hi) (List.getElem?_eq_getElem (show i < s.rows.length by rw [← h.len]; exact hi))).full
end
theorem valB_wear (b : MbAddr) (s : Kst) : valV (mbK b s) (.inr "wear") = some (.int s.wear) := rfl
theorem valB_rows (b : MbAddr) (s : Kst) : valV (mbK b s) (.inr "rows") = some (.ref b.rl) := rfl
/-! ### made normal by insertion at the end -/
/-- how far the last one goes down -/
def downTo (l : List Lay) (x : Lay) : Nat → Nat
  | 0 => 0
  | n + 1 => match l[n]? with
    | some y => if y.1 = x.1 ∧ x.2 < y.2 then downTo l x n else n + 1
    | none => n + 1
def insEnd (l : List Lay) (x : Lay) : List Lay := l.take (downTo l x l.length) ++ x :: l.drop (downTo l x l.length)
theorem downTo_le (l : List Lay) (x : Lay) : ∀ n, downTo l x n ≤ n
  | 0 => Nat.le_refl _
  | n + 1 => by
    unfold downTo
    split
    · split
      · exact Nat.le_succ_of_le (downTo_le l x n)
      · exact Nat.le_refl _
    · exact Nat.le_refl _
theorem down_sws (l : List Lay) (x : Lay) : ∀ n, n ≤ l.length → Sws (l.take n ++ x :: l.drop n) (l.take (downTo l x n) ++ x :: l.drop (downTo l x n))
  | 0, _ => .refl _
  | n + 1, h => by
    unfold downTo
    have e := List.getElem?_eq_getElem (show n < l.length by omega)
    rw [e]
    show Sws _ (l.take (if l[n].1 = x.1 ∧ x.2 < l[n].2 then downTo l x n else n + 1) ++ x :: l.drop (if l[n].1 = x.1 ∧ x.2 < l[n].2 then downTo l x n else n + 1))
    split
    · rename_i c
      refine .step ?_ (down_sws l x n (by omega))
      have e1 : l.take (n + 1) = l.take n ++ [l[n]] := by rw [List.take_add_one, e]; rfl
      have e2 : l.drop n = l[n] :: l.drop (n + 1) := List.drop_eq_getElem_cons (by omega)
      rw [e1, e2, List.append_assoc]
      exact .mk (l.take n) l[n] x (l.drop (n + 1)) c.1
    · exact .refl _
theorem loc_iff : ∀ {l : List Lay}, LocS l ↔ ∀ (i : Nat) (a b : Lay), l[i]? = some a → l[i + 1]? = some b → ¬ (a.1 = b.1 ∧ b.2 < a.2)
  | [] => ⟨fun _ i a b h => by simp at h, fun _ => trivial⟩
  | [x] => ⟨fun _ i a b _ h => by simp at h, fun _ => trivial⟩
  | x :: y :: t => by
    have ih := loc_iff (l := y :: t)
    constructor
    · rintro ⟨h1, h2⟩ i a b ha hb
      cases i with
      | zero =>
        obtain rfl : x = a := by simpa using ha
        obtain rfl : y = b := by simpa using hb
        exact h1
      | succ i => exact ih.mp h2 i a b (by simpa using ha) (by simpa using hb)
    · intro h
      exact ⟨h 0 x y rfl rfl, ih.mpr fun i a b ha hb => h (i + 1) a b (by simpa using ha) (by simpa using hb)⟩
theorem down_spec (l : List Lay) (x : Lay) : ∀ n, n ≤ l.length → (∀ y, l[downTo l x n - 1]? = some y → 0 < downTo l x n → ¬ (y.1 = x.1 ∧ x.2 < y.2)) ∧ (∀ i y, downTo l x n ≤ i → i < n → l[i]? = some y → y.1 = x.1 ∧ x.2 < y.2)
  | 0, _ => ⟨fun _ _ h => absurd h (Nat.lt_irrefl 0), fun i _ _ h => absurd h (Nat.not_lt_zero i)⟩
  | n + 1, h => by
    have ih := down_spec l x n (by omega)
    have e := List.getElem?_eq_getElem (show n < l.length by omega)
    unfold downTo
    rw [e]
    by_cases c : l[n].1 = x.1 ∧ x.2 < l[n].2
    · have ed : (match some l[n] with | some y => if y.1 = x.1 ∧ x.2 < y.2 then downTo l x n else n + 1 | none => n + 1) = downTo l x n := if_pos c
      rw [ed]
      refine ⟨ih.1, fun i y h1 h2 h3 => ?_⟩
      by_cases ei : i = n
      · subst ei
        rw [e] at h3
        cases h3
        exact c
      · exact ih.2 i y h1 (by omega) h3
    · have ed : (match some l[n] with | some y => if y.1 = x.1 ∧ x.2 < y.2 then downTo l x n else n + 1 | none => n + 1) = n + 1 := if_neg c
      rw [ed]
      refine ⟨fun y h1 _ => ?_, fun i y h1 h2 => absurd h1 (by omega)⟩
      rw [Nat.add_sub_cancel, e] at h1
      cases h1
      exact c
theorem insEnd_loc {l : List Lay} (hl : LocS l) (x : Lay) : LocS (insEnd l x) := by
  have hle := downTo_le l x l.length
  obtain ⟨s1, s2⟩ := down_spec l x l.length (Nat.le_refl _)
  rw [loc_iff] at hl ⊢
  unfold insEnd
  generalize hd : downTo l x l.length = d at *
  have lt : (l.take d).length = d := by rw [List.length_take]; omega
  have at1 : ∀ i, i < d → (l.take d ++ x :: l.drop d)[i]? = l[i]? := fun i h => by
    rw [List.getElem?_append_left (by omega), List.getElem?_take, if_pos h]
  have at2 : (l.take d ++ x :: l.drop d)[d]? = some x := by
    rw [List.getElem?_append_right (by omega), lt, Nat.sub_self]; rfl
  have at3 : ∀ i, d < i → (l.take d ++ x :: l.drop d)[i]? = l[i - 1]? := fun i h => by
    rw [List.getElem?_append_right (by omega), lt]
    obtain ⟨k, rfl⟩ : ∃ k, i = d + 1 + k := ⟨i - d - 1, by omega⟩
    rw [show d + 1 + k - d = k + 1 by omega, List.getElem?_cons_succ, List.getElem?_drop]
    congr 1; omega
  intro i a b ha hb
  rcases Nat.lt_trichotomy (i + 1) d with h | h | h
  · rw [at1 i (by omega)] at ha
    rw [at1 (i + 1) h] at hb
    exact hl i a b ha hb
  · rw [at1 i (by omega)] at ha
    rw [h, at2] at hb
    cases hb
    have : d - 1 = i := by omega
    exact s1 a (by rw [this]; exact ha) (by omega)
  · by_cases e : i = d
    · subst e
      rw [at2] at ha
      cases ha
      rw [at3 (i + 1) (by omega), Nat.add_sub_cancel] at hb
      have hlt : i < l.length := (List.getElem?_eq_some_iff.mp hb).1
      have := s2 i b (Nat.le_refl _) hlt hb
      intro z
      have := this.2
      have := z.2
      omega
    · rw [at3 i (by omega)] at ha
      rw [at3 (i + 1) (by omega), Nat.add_sub_cancel] at hb
      have e2 : i - 1 + 1 = i := by omega
      exact hl (i - 1) a b ha (by rw [e2]; exact hb)
theorem insEnd_norm (p : List Lay) (x : Lay) : insEnd (normM p) x = normM (p ++ [x]) := by
  have h1 : normM (normM p ++ [x]) = normM (p ++ [x]) := alike_app [x] (norm_norm p)
  have h2 := (down_sws (normM p) x (normM p).length (Nat.le_refl _)).norm
  rw [List.take_length, List.drop_length] at h2
  rw [← h1, h2]
  exact (norm_id (insEnd_loc (norm_loc p) x)).symm
end Y

set_option Elab.async false
set_option linter.all false
set_option maxRecDepth 100000
set_option maxHeartbeats 2000000
set_option exponentiation.threshold 600
/-! MC: deeds of a law's own rows without marks, and of a place, as mathematics. -/
namespace Y
open PySem PySem.Spec PyProof.Rows L2 PySem.W
/-- a place without its marks -/
def kOf (s : Pst) : Kst := ⟨s.wear, s.rows.map layR⟩
def wornM (s : Kst) (n : Int) : Kst := match bestOf (topsL s.rows) with
  | none => s
  | some (i, _) => if s.wear = 0 then s else ⟨s.wear - 1, s.rows.set i (wornL (rowOf s i) n)⟩
def doM (ks : List Ink) (s : Kst) : Deed → Kst
  | .lay i y => ⟨s.wear, s.rows.set i (rowOf s i ++ [y])⟩
  | .wait t => ⟨s.wear, waitRows ks t s.rows⟩
  | .wash i n => ⟨s.wear, s.rows.set i (weakL (rowOf s i) n)⟩
  | .warm i n => ⟨s.wear, s.rows.set i (weakL (rowOf s i) (-n))⟩
  | .scrape => wornM s 0
  | .rub n => wornM s n
theorem weakL_fm (r : List Lay) (n : Int) : (r.filterMap fun l : Lay => if decide (n < l.2) = true then some ((l.1, l.2 - n) : Lay) else none) = weakL r n := by
  induction r with
  | nil => rfl
  | cons x r ih =>
    have e : weakL (x :: r) n = if decide (0 < x.2 + -n) = true then (x.1, x.2 + -n) :: weakL r n else weakL r n := by
      unfold weakL shiftM posB
      rw [List.map_cons, List.filter_cons]
    rw [e, ← ih, List.filterMap_cons]
    by_cases c : n < x.2
    · rw [if_pos (decide_eq_true c), if_pos (decide_eq_true (by omega))]
      show (x.1, x.2 - n) :: _ = (x.1, x.2 + -n) :: _
      rw [Int.sub_eq_add_neg]
    · rw [if_neg (by rw [decide_eq_false c]; decide), if_neg (by rw [decide_eq_false (by omega)]; decide)]
theorem weakR_lay (r : List Lyr) (n : Int) : layR (weakR r n) = weakL (layR r) n := by
  rw [← weakL_fm]
  unfold layR weakR
  rw [List.map_filterMap, List.filterMap_map]
  congr 1
  funext l
  show ((if decide (n < l.2.2) = true then some ((l.1, (l.2.1, l.2.2 - n)) : Lyr) else none).map fun x : Lyr => x.2) = if decide (n < l.2.2) = true then some ((l.2.1, l.2.2 - n) : Lay) else none
  split <;> rfl
theorem getD_lay (rows : List (List Lyr)) (i : Nat) : layR (rows.getD i []) = (rows.map layR).getD i [] := by
  rw [List.getD_eq_getElem?_getD, List.getD_eq_getElem?_getD, List.getElem?_map]
  cases rows[i]? <;> rfl
theorem rowOf_kOf (s : Pst) (i : Nat) : rowOf (kOf s) i = layR (s.rows.getD i []) := (getD_lay s.rows i).symm
theorem kOf_weak (s : Pst) (i : Nat) (n : Int) : kOf (weakS s i n) = ⟨s.wear, (kOf s).rows.set i (weakL (rowOf (kOf s) i) n)⟩ := by
  unfold kOf weakS
  show Kst.mk s.wear ((s.rows.set i (weakR (s.rows.getD i []) n)).map layR) = _
  rw [List.map_set, weakR_lay]
  congr 2
  rw [getD_lay]
  rfl
theorem kOf_laid (s : Pst) (i : Nat) (y : Lay) : kOf (laidS s i y) = ⟨s.wear, (kOf s).rows.set i (rowOf (kOf s) i ++ [y])⟩ := by
  unfold kOf laidS
  show Kst.mk s.wear ((s.rows.set i (s.rows.getD i [] ++ [(s.next, y)])).map layR) = _
  rw [List.map_set]
  congr 2
  show layR (s.rows.getD i [] ++ [(s.next, y)]) = (s.rows.map layR).getD i [] ++ [y]
  rw [← getD_lay]
  unfold layR
  rw [List.map_append]
  rfl
theorem waitTo_at {ks : List Ink} {t : Int} {s : Pst} (hl : s.rows.length = ks.length) : ∀ j, j ≤ ks.length → (kOf (waitTo ks t s j)).wear = s.wear ∧ (kOf (waitTo ks t s j)).rows = waitRows (ks.take j) t ((kOf s).rows.take j) ++ (kOf s).rows.drop j
  | 0, _ => ⟨rfl, by
      show (kOf s).rows = waitRows [] t [] ++ (kOf s).rows
      rfl⟩
  | j + 1, h => by
    obtain ⟨e1, e2⟩ := waitTo_at hl j (by omega)
    have hr : (kOf s).rows.length = ks.length := by show (s.rows.map layR).length = _; rw [List.length_map]; exact hl
    have lw : (waitRows (ks.take j) t ((kOf s).rows.take j)).length = j := by
      unfold waitRows
      rw [List.length_zipWith, List.length_take, List.length_take, hr]
      omega
    have hj : j < (kOf s).rows.length := by omega
    have ek := kOf_weak (waitTo ks t s j) j (t * (ks.getD j (default, 0)).2)
    refine ⟨by rw [show waitTo ks t s (j + 1) = weakS (waitTo ks t s j) j (t * (ks.getD j (default, 0)).2) from rfl, ek]; exact e1, ?_⟩
    rw [show waitTo ks t s (j + 1) = weakS (waitTo ks t s j) j (t * (ks.getD j (default, 0)).2) from rfl, ek]
    show (kOf (waitTo ks t s j)).rows.set j (weakL (rowOf (kOf (waitTo ks t s j)) j) _) = _
    have er : rowOf (kOf (waitTo ks t s j)) j = (kOf s).rows[j] := by
      unfold rowOf
      rw [e2, List.getD_eq_getElem?_getD, List.getElem?_append_right (by omega), lw, Nat.sub_self, List.getElem?_drop, Nat.add_zero, List.getElem?_eq_getElem hj]
      rfl
    have ekk : ks.getD j (default, 0) = ks[j] := by rw [List.getD_eq_getElem?_getD, List.getElem?_eq_getElem (by omega)]; rfl
    rw [er, e2, List.set_append_right _ _ (by omega), lw, Nat.sub_self, List.drop_eq_getElem_cons hj, List.set_cons_zero, ekk]
    have et1 : ks.take (j + 1) = ks.take j ++ [ks[j]] := by rw [List.take_add_one, List.getElem?_eq_getElem (by omega)]; rfl
    have et2 : (kOf s).rows.take (j + 1) = (kOf s).rows.take j ++ [(kOf s).rows[j]] := by rw [List.take_add_one, List.getElem?_eq_getElem hj]; rfl
    rw [et1, et2]
    unfold waitRows
    rw [List.zipWith_append (by rw [List.length_take, List.length_take, hr])]
    simp
theorem kOf_wait {ks : List Ink} {t : Int} {s : Pst} (hl : s.rows.length = ks.length) : kOf (waitTo ks t s ks.length) = ⟨s.wear, waitRows ks t (kOf s).rows⟩ := by
  obtain ⟨e1, e2⟩ := waitTo_at (t := t) hl ks.length (Nat.le_refl _)
  have hr : (kOf s).rows.length = ks.length := by show (s.rows.map layR).length = _; rw [List.length_map]; exact hl
  rw [List.take_length, ← hr, List.take_length, List.drop_length, List.append_nil, hr] at e2
  cases hk : kOf (waitTo ks t s ks.length) with
  | mk w r =>
    rw [hk] at e1 e2
    have e1 : w = s.wear := e1
    have e2 : r = waitRows ks t (kOf s).rows := e2
    rw [e1, e2]
theorem topTo_top (rows : List (List Lyr)) : ∀ i j n, (topTo rows i).1 = some (j, n) → ∃ r, rows[j]? = some r ∧ r ≠ [] ∧ n = topN (layR r)
  | 0, _, _, h => by cases h
  | i + 1, j, n, h => by
    unfold topTo at h
    cases e : rows[i]? with
    | none =>
      rw [e] at h
      exact topTo_top rows i j n h
    | some r =>
      rw [e] at h
      have h : (topStep (topTo rows i) i r).1 = some (j, n) := h
      unfold topStep at h
      split at h
      · rename_i c
        cases h
        exact ⟨r, e, c.1, rfl⟩
      · exact topTo_top rows i j n h
theorem topOf_best {rows : List (List Lyr)} (pos : ∀ r ∈ rows, ∀ l ∈ r, 0 < l.2.2) : (match bestOf (topsL (rows.map layR)) with
    | none => topOf rows = none
    | some (j, l) => ∃ r, rows[j]? = some r ∧ r ≠ [] ∧ topOf rows = some (j, topN (layR r))) := by
  have el : (topsL (rows.map layR)).length = rows.length := by
    unfold topsL
    rw [List.length_map, List.length_map]
  have h := topTo_best pos rows.length
  unfold bestOf topOf
  rw [el]
  cases eb : bestTo (topsL (rows.map layR)) rows.length with
  | none =>
    rw [eb] at h
    have h : topTo rows rows.length = (none, 0) := h
    rw [h]
  | some p =>
    obtain ⟨j, y⟩ := p
    rw [eb] at h
    obtain ⟨n, r', g1, ⟨g2, g4⟩, g3⟩ := h
    have g5 : (topTo rows rows.length).1 = some (j, n) := by rw [g3]
    obtain ⟨r, h1, h2, h3⟩ := topTo_top rows _ j n g5
    exact ⟨r, h1, h2, by rw [g5, h3]⟩
theorem wornR_lay {r : List Lyr} {n : Int} (hne : r ≠ []) (h0 : 0 ≤ n) : layR (wornR r (topN (layR r)) n) = wornL (layR r) n := by
  have hne2 : layR r ≠ [] := fun z => hne (layR_nil.mp z)
  have ht : topN (layR r) < r.length := by have := topN_lt hne2; rw [layR_len] at this; exact this
  have e := List.getElem?_eq_getElem ht
  have sc : layR (r.take (topN (layR r)) ++ r.drop (topN (layR r) + 1)) = scrapM (layR r) := by
    unfold scrapM
    rw [List.eraseIdx_eq_take_drop_succ]
    unfold layR
    rw [List.map_append, List.map_take, List.map_drop]
  have es : stg (layR r) (topN (layR r)) = r[topN (layR r)].2.2 := stg_lyr ht
  unfold wornL
  by_cases z : n = 0
  · rw [if_pos z, wornR_out e (fun c => by omega)]
    exact sc
  · rw [if_neg z]
    unfold rubM
    rw [es]
    by_cases c : n < r[topN (layR r)].2.2
    · rw [if_pos (by omega), wornR_in e (by omega) c]
      unfold lowM
      rw [es]
      have eg : ((layR r).getD (topN (layR r)) (default, 0)) = r[topN (layR r)].2 := by
        rw [List.getD_eq_getElem?_getD, layR_get ht]
        rfl
      rw [eg, List.set_eq_take_append_cons_drop, if_pos (by rw [layR_len]; exact ht)]
      show List.map _ (_ ++ _ :: _) = _
      rw [List.map_append, List.map_cons, List.map_take, List.map_drop]
      rfl
    · rw [if_neg (by omega), wornR_out e (fun z => c z.2)]
      exact sc
theorem kOf_worn {s : Pst} {n : Int} (pos : ∀ r ∈ s.rows, ∀ l ∈ r, 0 < l.2.2) (h0 : 0 ≤ n) : kOf (wornS s n) = wornM (kOf s) n ∧ isWorn s = isWornK (kOf s) := by
  have h := topOf_best pos
  unfold wornS wornM isWorn isWornK
  show kOf _ = (match bestOf (topsL (s.rows.map layR)) with | none => kOf s | some (i, _) => if s.wear = 0 then kOf s else ⟨s.wear - 1, (kOf s).rows.set i (wornL (rowOf (kOf s) i) n)⟩) ∧ _ = ((bestOf (topsL (s.rows.map layR))).isSome && decide (s.wear = 0))
  cases eb : bestOf (topsL (s.rows.map layR)) with
  | none =>
    rw [eb] at h
    have h : topOf s.rows = none := h
    rw [h]
    exact ⟨rfl, rfl⟩
  | some p =>
    obtain ⟨j, l⟩ := p
    rw [eb] at h
    obtain ⟨r, h1, h2, h3⟩ := h
    rw [h3]
    refine ⟨?_, rfl⟩
    show kOf (if s.wear = 0 then s else _) = if s.wear = 0 then kOf s else _
    by_cases c : s.wear = 0
    · rw [if_pos c, if_pos c]
    · rw [if_neg c, if_neg c]
      have e : s.rows.getD j [] = r := by rw [List.getD_eq_getElem?_getD, h1]; rfl
      show Kst.mk (s.wear - 1) ((s.rows.set j (wornR (s.rows.getD j []) (topN (layR r)) n)).map layR) = _
      rw [List.map_set, rowOf_kOf, e, wornR_lay h2 h0]
      rfl
end Y
namespace Y
open PySem PySem.Spec PyProof.Rows L2 PySem.W
def rowL (r : List Lay) : PyData := .list (r.map layD)
theorem rowL_fine {r : List Lay} (h : ∀ l ∈ r, LayOk l) : fine (rowL r) = true := fine_list fun d hd => by
  obtain ⟨l, hl, rfl⟩ := List.mem_map.mp hd
  exact layD_fine (h l hl)
theorem rowL_deep (r : List Lay) : (rowL r).depth ≤ 2 := by
  rw [rowL, PyData.depth]
  have := depthAll_le (n := 1) (ds := r.map layD) fun d hd => by
    obtain ⟨l, _, rfl⟩ := List.mem_map.mp hd
    exact layD_deep l
  omega
theorem rowL_shaped {r : List Lay} (h : ∀ l ∈ r, LayOk l) : SeqAt.shaped (rowL r) = true := fine_shaped (rowL_fine h) (Nat.le_trans (rowL_deep r) (by decide))
theorem rowL_nil (r : List Lay) : PyData.eqv (rowL r) (.list []) = r.isEmpty := by
  unfold rowL
  cases r with
  | nil => simp [PyData.eqv, PyData.eqvAll]
  | cons x r => simp [PyData.eqv, PyData.eqvAll]
section
variable [Tb] {K : PySem.W.Frag} {H : Hp} {l u : Addr} {r : List Lay}
theorem RowAt.ne (h : RowAt K H l r) (hu : H u = some (.lst [])) (ok : ∀ y ∈ r, LayOk y) {Q : VK} (q : Q (.bl (!r.isEmpty)) H) : yNe K (.ref l) (.ref u) H Q := by
  obtain ⟨vs, h1, h2⟩ := h
  exact ⟨rowL r, .list [], .lst (.inl (.inl h1)) (ImAll.dp _ _ h2), .lst (.inl (.inl hu)) .nil, rowL_shaped ok, by decide, by rw [rowL_nil]; exact q⟩
theorem RowAt.eq (h : RowAt K H l r) (hu : H u = some (.lst [])) (ok : ∀ y ∈ r, LayOk y) {Q : VK} (q : Q (.bl r.isEmpty) H) : yEq K (.ref l) (.ref u) H Q := by
  obtain ⟨vs, h1, h2⟩ := h
  exact ⟨rowL r, .list [], .lst (.inl (.inl h1)) (ImAll.dp _ _ h2), .lst (.inl (.inl hu)) .nil, rowL_shaped ok, by decide, by rw [rowL_nil]; exact q⟩
end
theorem max_top {r : List Lay} (hne : r ≠ []) {m : Int} (h1 : m ∈ r.map (·.2)) (h2 : ∀ y ∈ r.map (·.2), y ≤ m) : ∃ l, topL r = some l ∧ l.2 = m := by
  obtain ⟨_, h', e⟩ := topL_some hne
  refine ⟨_, e, ?_⟩
  have a := h2 _ (List.mem_map.mpr ⟨_, List.getElem_mem h', rfl⟩)
  obtain ⟨y, hy, rfl⟩ := List.mem_map.mp h1
  obtain ⟨j, hj, rfl⟩ := List.mem_iff_getElem.mp hy
  have := topN_first hne hj
  rw [ahead_no, stg_at hj, stg_at h'] at this
  omega
theorem tops_at {rows : List (List Lay)} {i : Nat} (h : i < rows.length) : (topsL rows)[i]? = some (topL rows[i]) := by
  unfold topsL
  rw [List.getElem?_map, List.getElem?_eq_getElem h]
  rfl
theorem best_skip {rows : List (List Lay)} {i : Nat} (h : i < rows.length) (e : rows[i] = []) : bestTo (topsL rows) (i + 1) = bestTo (topsL rows) i := by
  show (match (topsL rows)[i]? with | some (some l) => _ | _ => _) = _
  rw [tops_at h, e] <;> rfl
theorem best_step {rows : List (List Lay)} {i : Nat} (h : i < rows.length) {l : Lay} (e : topL rows[i] = some l) : bestTo (topsL rows) (i + 1) = (match bestTo (topsL rows) i with
    | some (j, y) => if y.2 < l.2 then some (i, l) else some (j, y)
    | none => some (i, l)) := by
  show (match (topsL rows)[i]? with | some (some l) => _ | _ => _) = _
  rw [tops_at h, e] <;> rfl
theorem tops_len (rows : List (List Lay)) : (topsL rows).length = rows.length := by unfold topsL; rw [List.length_map]
/-- what is best is some row's first -/
theorem best_in {rows : List (List Lay)} {i : Nat} {l : Lay} (h : bestOf (topsL rows) = some (i, l)) : ∃ hi : i < rows.length, rows[i] ≠ [] ∧ ∃ ht : topN rows[i] < rows[i].length, rows[i][topN rows[i]] = l := by
  obtain ⟨h1, h2⟩ := bestTo_lt _ _ _ _ h
  rw [tops_len] at h1
  rw [tops_at h1] at h2
  have h2 := Option.some.inj h2
  have hne : rows[i] ≠ [] := fun z => by rw [z] at h2; cases h2
  obtain ⟨_, h', e⟩ := topL_some hne
  rw [e] at h2
  exact ⟨h1, hne, h', Option.some.inj h2⟩
end Y
namespace Y
open PySem PySem.Spec PyProof.Rows L2 PySem.W
section
variable [Tb] {K : PySem.W.Frag} {H H' : Hp} {b : MbAddr} {s : Kst}
omit [Tb] in
theorem MbAt.ne_rl (h : MbAt K H b s) : b.m ≠ b.rl := ne_of h.dct h.lst fun z => by cases z
omit [Tb] in
theorem MbAt.ne_ls (h : MbAt K H b s) {l : Addr} (hl : l ∈ b.ls) : l ≠ b.m ∧ l ≠ b.rl := by
  refine ⟨?_, fun e => h.out (e ▸ hl)⟩
  obtain ⟨i, hi, rfl⟩ := List.mem_iff_getElem.mp hl
  have hi2 : i < s.rows.length := by rw [← h.len]; exact hi
  obtain ⟨vs, h1, h2⟩ := h.row i _ _ (List.getElem?_eq_getElem hi) (List.getElem?_eq_getElem hi2)
  exact ne_of h1 h.dct fun z => by cases z
/-- a row's list exchanged -/
theorem MbAt.setRow (h : MbAt K H b s) {i : Nat} {D : Addr} {r' : List Lay} (n2 : D ≠ b.rl) (ro : RowAt K H D r') (hl : r'.length ≤ 1000) (ok : ∀ y ∈ r', LayOk y) (hi : i < s.rows.length) :
    MbAt K (upd H b.rl (.lst ((b.ls.map V.ref).set i (.ref D)))) (b.at_ b.rl (b.ls.set i D)) ⟨s.wear, s.rows.set i r'⟩ ∧ Kp (At b.rl) H (upd H b.rl (.lst ((b.ls.map V.ref).set i (.ref D)))) := by
  have k2 : Kp (At b.rl) H (upd H b.rl (.lst ((b.ls.map V.ref).set i (.ref D)))) := Kp.set rfl h.lst
  refine ⟨⟨k2.all b.m _ h.dct h.ne_rl, ?_, ?_, fun j l r h1 h3 => ?_, fun r hr => ?_, fun z => ?_⟩, k2⟩
  · show upd H b.rl _ b.rl = some (.lst ((b.ls.set i D).map V.ref))
    rw [upd_same, List.map_set]
  · show (b.ls.set i D).length = (s.rows.set i r').length
    rw [List.length_set, List.length_set]
    exact h.len
  · have h1 : (b.ls.set i D)[j]? = some l := h1
    have h3 : (s.rows.set i r')[j]? = some r := h3
    by_cases e : i = j
    · subst e
      rw [List.getElem?_set_self (by rw [h.len]; exact hi)] at h1
      rw [List.getElem?_set_self hi] at h3
      cases h1
      cases h3
      exact ro.up k2 n2
    · rw [List.getElem?_set_ne e] at h1 h3
      exact (h.row j l r h1 h3).up k2 (h.ne_ls (List.mem_of_getElem? h1)).2
  · have hr : r ∈ s.rows.set i r' := hr
    rcases List.mem_or_eq_of_mem_set hr with z | z
    · exact h.ok r z
    · rw [z]; exact ⟨hl, ok⟩
  · have z : b.rl ∈ b.ls.set i D := z
    rcases List.mem_or_eq_of_mem_set z with z | z
    · exact h.out z
    · exact n2 z.symm
/-- the wear written anew -/
theorem MbAt.setWear (h : MbAt K H b s) (w' : Int) : MbAt K (upd H b.m (.dK (mbK b ⟨w', s.rows⟩))) b ⟨w', s.rows⟩ ∧ Kp (At b.m) H (upd H b.m (.dK (mbK b ⟨w', s.rows⟩))) := by
  have k2 : Kp (At b.m) H (upd H b.m (.dK (mbK b ⟨w', s.rows⟩))) := Kp.set rfl h.dct
  exact ⟨⟨upd_same, k2.all _ _ h.lst fun z => h.ne_rl z.symm, h.len, fun i l r h1 h3 => (h.row i l r h1 h3).up k2 (h.ne_ls (List.mem_of_getElem? h1)).1, h.ok, h.out⟩, k2⟩
/-- the rows written anew -/
theorem MbAt.setRows (h : MbAt K H b s) {L : Addr} {ls : List Addr} {rows : List (List Lay)} (h1 : H L = some (.lst (ls.map V.ref))) (hl : ls.length = rows.length) (ro : ∀ (i : Nat) (l : Addr) (r : List Lay), ls[i]? = some l → rows[i]? = some r → RowAt K H l r) (ok : ∀ r ∈ rows, r.length ≤ 1000 ∧ ∀ y ∈ r, LayOk y) (out : L ∉ ls) :
    MbAt K (upd H b.m (.dK (mbK (b.at_ L ls) ⟨s.wear, rows⟩))) (b.at_ L ls) ⟨s.wear, rows⟩ ∧ Kp (At b.m) H (upd H b.m (.dK (mbK (b.at_ L ls) ⟨s.wear, rows⟩))) := by
  have k2 : Kp (At b.m) H (upd H b.m (.dK (mbK (b.at_ L ls) ⟨s.wear, rows⟩))) := Kp.set rfl h.dct
  refine ⟨⟨upd_same, k2.all _ _ h1 (ne_of h1 h.dct fun z => by cases z), hl, fun i l r h3 h4 => ?_, ok, out⟩, k2⟩
  have r1 := ro i l r h3 h4
  obtain ⟨vs, g1, g2⟩ := id r1
  exact r1.up k2 (ne_of g1 h.dct fun z => by cases z)
end
theorem putB_wear (b : MbAddr) (s : Kst) (w' : Int) : putK (mbK b s) (.inr "wear") (.int w') = mbK b ⟨w', s.rows⟩ := rfl
theorem putB_rows (b : MbAddr) (s : Kst) (L : Addr) (ls : List Addr) (rows : List (List Lay)) : putK (mbK b s) (.inr "rows") (.ref L) = mbK (b.at_ L ls) ⟨s.wear, rows⟩ := rfl
/-- what becomes of it -/
def MbCh [Tb] (K : PySem.W.Frag) (b : MbAddr) (s' : Kst) (H : Hp) (Q : VK) : Prop := ∀ b' H', b'.m = b.m → (b'.rl = b.rl ∨ H b'.rl = none) → (∀ l ∈ b'.ls, l ∈ b.ls ∨ H l = none) → Kp (Mm b) H H' → MbAt K H' b' s' → Q (.bl true) H'
theorem weak1 (l : Lay) (n : Int) : weakL [l] n = if n < l.2 then [(l.1, l.2 - n)] else [] := by
  rw [← weakL_fm]
  by_cases c : n < l.2
  · rw [if_pos c, List.filterMap_cons, if_pos (decide_eq_true c)]
    rfl
  · rw [if_neg c, List.filterMap_cons, if_neg (by rw [decide_eq_false c]; decide)]
    rfl
theorem worn_split {r : List Lay} (ht : topN r < r.length) {n : Int} : wornL r n = r.take (topN r) ++ (if n = 0 then [] else weakL [r[topN r]] n) ++ r.drop (topN r + 1) := by
  unfold wornL
  have sc : scrapM r = r.take (topN r) ++ [] ++ r.drop (topN r + 1) := by
    unfold scrapM
    rw [List.eraseIdx_eq_take_drop_succ, List.append_nil]
  by_cases z : n = 0
  · rw [if_pos z, if_pos z]
    exact sc
  · rw [if_neg z, if_neg z, weak1]
    unfold rubM
    rw [stg_at ht]
    by_cases c : n < r[topN r].2
    · rw [if_pos (by omega), if_pos c]
      unfold lowM
      have eg : (r.getD (topN r) (default, 0)) = r[topN r] := by rw [List.getD_eq_getElem?_getD, List.getElem?_eq_getElem ht]; rfl
      rw [eg, stg_at ht, List.set_eq_take_append_cons_drop, if_pos ht]
      simp
    · rw [if_neg (by omega), if_neg c]
      exact sc
end Y

set_option Elab.async false
set_option linter.all false
set_option maxRecDepth 100000
set_option maxHeartbeats 2000000
/-! NK: f(e, .., k = v, ..) of a def without defaults. -/
namespace Y
open PySem PySem.Spec PyProof.Rows L2
/-- called by place, or the parameters behind the first n by their names -/
def CalJ (P : Program) (w : World) (K : PySem.W.Frag) (mg : Str → Option Value) (base : Heap) (k : Nat) (x : Str) (n : Nat) (ks : List Str) (sp : Sp) : Prop :=
  ∃ f fd ps, FnG P w K mg base CX0 k f fd ps sp ∧ mg x = some (.ref f) ∧ PySem.W.keepIn K (.ref f) = true ∧ Binds K fd ps [] ∧ n + ks.length = ps.length ∧ ∀ (s : Shared) (us ws : List Value), us.length = n → ws.length = ks.length → BindsTo s fd ⟨us, ks.zip ws⟩ (ps.zip (us ++ ws))
section
variable {P : Program} {w : World} {K : PySem.W.Frag} {mg : Str → Option Value} {base : Heap} {k n : Nat} {x : Str} {sp : Sp} {ks : List Str}
theorem CalJ.c (c : CalJ P w K mg base k x n ks sp) : Cal P w K mg base k x sp := by
  obtain ⟨f, fd, ps, F, hm, kp, hb, _⟩ := c
  exact ⟨f, fd, ps, F, hm, kp, hb⟩
theorem calJ_of {st : Stmt} {N ps : List Str} (D : DefAt K mg x st) (S : FnScope N ps (defScope st))
    (bnd : ∀ (kV doc pm : Value) (an : Option Addr) (cdv ct : Value) (us : List Value), us.length = ps.length → bindArgs (PySem.W.fnOf x x (defArgs st) (defBody st) (defScope st) .none kV doc pm an cdv ct) ⟨us, []⟩ = pure (ps.zip us))
    (ln : n + ks.length = ps.length)
    (bnd2 : ∀ (kV doc pm : Value) (an : Option Addr) (cdv ct : Value) (us ws : List Value), us.length = n → ws.length = ks.length → bindArgs (PySem.W.fnOf x x (defArgs st) (defBody st) (defScope st) .none kV doc pm an cdv ct) ⟨us, ks.zip ws⟩ = pure (ps.zip (us ++ ws)))
    (ar : ∀ vs H Q E, sp vs H Q E → vs.length = ps.length)
    (hb : ∀ (f : Addr) (cd : Value) (A : Around) (out : List Env) (s : Shared) (H : Hp) (vs : List V) (Q : VK) (E : XK), Room k (A.deeper (envOfC x (defScope st) s.heap.objs.size f cd)) → (A.deeper (envOfC x (defScope st) s.heap.objs.size f cd)).guards = some [] → sp vs H Q E →
      ∃ t, PSs (cxOf CX0 P w K mg base N x (defScope st) f cd A out s H E).nox (defBody st) t ∧ t { nx := fun _ H' => Q .non H', rt := Q } (start N vs) H) : CalJ P w K mg base (k + 1) x n ks sp := by
  obtain ⟨f, fd, F, hm⟩ := D
  refine ⟨f, fd, ps, funD_goes F S ar fun cd A out s H vs Q E r g q => ?_, hm, F.kp, F.bindsN bnd, ln, ?_⟩
  · obtain ⟨t, h1, h2⟩ := hb f cd A out s H vs Q E r g q
    exact ⟨t, h1.nox, h2⟩
  · intro s us ws l1 l2
    obtain ⟨oc, od, dV, kV, doc, pm, an, cdv, ct, osl, rfl, lk, hcd, hD, hK⟩ := F.ex
    rcases hD with ⟨_, rfl⟩ | ⟨e, _⟩
    · exact .of_eq (bnd2 kV doc pm an cdv ct us ws l1 l2)
    · exact absurd rfl e
end
section
variable {X : Cx} {k j n : Nat} {x : Str} {sp : Sp} {p pos : Pos} {e : Expr} {es : List Expr} {t tk : TA} {ks : List Str} {kws : List Keyword}
def yCallN (n m : Nat) (sp : Sp) (t tk : TA) : TE := fun σ H Q => t σ H fun vs H1 => tk σ H1 fun zs H2 => vs.length = n ∧ zs.length = m ∧ sp (vs ++ zs) H2 Q E0
theorem run_callN {pins : List (Addr × Obj)} {σ : L2.St} {H : Hp} {s : Shared} {Q : VK} {us ws : List Value} {vs zs : List V} (c : CalJ X.prog X.w X.K X.mg X.base k x n ks sp) {f : Addr} (hf : X.mg x = some (.ref f)) (room : Room k X.A) (gd : X.A.guards = some []) (I : Inv X pins σ H s) (r : Vals vs us) (rz : Vals zs ws) (l1 : vs.length = n) (l2 : zs.length = ks.length) (want : sp (vs ++ zs) H Q E0) :
    wpAny (model X.prog X.w) X.A (call (.ref f) us (ks.zip ws)) (EP X pins σ Q) X.xe s := by
  obtain ⟨f', fd, ps, F, hm, kp, _, ln, hb⟩ := c
  obtain rfl : f' = f := by rw [hm] at hf; exact Value.ref.inj (Option.some.inj hf)
  have r2 := r.append rz
  refine wpAny_call (codeAny_mono (F.goes X.A X.stack s H ⟨us, ks.zip ws⟩ (us ++ ws) (vs ++ zs) Q E0 room gd I.env0 (hb s us ws (r.length ▸ l1) (rz.length ▸ l2)) r2 want) ?_)
  intro rr s' hq
  cases rr with
  | error er => exact pass0 pins σ H s er s' I hq
  | ok fl =>
    cases fl with
    | ret u => exact I.after hq
    | next => exact hq.elim
    | brk => exact hq.elim
    | cont => exact hq.elim
/-- f(k = v, ..) -/
theorem ye_callN0 (c : CalJ X.prog X.w X.K X.mg X.base k x n ks sp) (room : Room j X.A) (gd : X.A.guards = some []) (hg : Gl X x) (hkw : PK X kws tk) (hk : k ≤ j := by decide) (hdb : (x == ("__debug__" : Str)) = false := by decide)
    (hall : (backToKw pos (keywordEach kws X.env)).all (·.1.isSome) = true := by rfl) (hks : (backToKw pos (keywordEach kws X.env)).filterMap (·.1) = ks := by rfl)
    (hpl : ((backTo pos (starEach [] X.env)).any (·.1) || (backToKw pos (keywordEach kws X.env)).any (·.1.isNone)) = false := by rfl) :
    PE X (.Call (.Name x p) [] kws pos) (yCallN n ks.length sp tNil tk) := by
  have c0 := c
  obtain ⟨f, fd, ps, F, hm, kp, _⟩ := c0
  constructor
  intro pins s σ H Q I h
  refine wpAny_Call_Name_kw (ld_glob I hg hm ?_ hdb)
  refine PySem.W.callWith_KW0 (h₀ := X.base) I.ok.mod.kin kp hall (thn (hkw.run pos pins s σ H _ I h) fun ws s2 ⟨zs, H2, I2, rz, l1, l2, q2⟩ => ⟨I2.kIn, ?_⟩) hpl
  rw [hks]
  exact run_callN (us := []) (vs := []) c hm (room.mono hk) gd I2 .nil rz l1 l2 q2
/-- f(e, .., k = v, ..) -/
theorem ye_callN (c : CalJ X.prog X.w X.K X.mg X.base k x n ks sp) (room : Room j X.A) (gd : X.A.guards = some []) (hg : Gl X x) (ha : PA X (e :: es) t) (hkw : PK X kws tk) (hk : k ≤ j := by decide) (hdb : (x == ("__debug__" : Str)) = false := by decide)
    (hall : (backToKw pos (keywordEach kws X.env)).all (·.1.isSome) = true := by rfl) (hks : (backToKw pos (keywordEach kws X.env)).filterMap (·.1) = ks := by rfl)
    (he : starEach (e :: es) X.env = (false, eval e X.env) :: starEach es X.env := by rfl)
    (hpl : ((backTo pos (starEach (e :: es) X.env)).any (·.1) || (backToKw pos (keywordEach kws X.env)).any (·.1.isNone)) = false := by rfl) :
    PE X (.Call (.Name x p) (e :: es) kws pos) (yCallN n ks.length sp t tk) := by
  have c0 := c
  obtain ⟨f, fd, ps, F, hm, kp, _⟩ := c0
  constructor
  intro pins s σ H Q I h
  refine wpAny_Call_Name_kw (ld_glob I hg hm ?_ hdb)
  refine PySem.W.callWith_KW (h₀ := X.base) I.ok.mod.kin kp hall (thn (ha.run pos pins s σ H _ I h) fun us s1 ⟨vs, H1, I1, r, q⟩ => ?_) hpl he
  refine thn (hkw.run pos pins s1 σ H1 _ I1 q) fun ws s2 ⟨zs, H2, I2, rz, l1, l2, q2⟩ => ⟨I2.kIn, ?_⟩
  rw [hks]
  exact run_callN c hm (room.mono hk) gd I2 r rz l1 l2 q2
end
end Y

set_option Elab.async false
set_option linter.all false
set_option maxRecDepth 100000
set_option maxHeartbeats 2000000
set_option exponentiation.threshold 600
/-! KM: what is kept of a place behind deeds, grafts, presses is what the kept place is behind them. -/
namespace Y
open PySem PySem.Spec PyProof.Rows L2 PySem.W
def ntM (m : Nat) (r : List Lay) : List Lay := normM (thinM r m)
theorem keptRow_nt (w : Int) (r : List Lay) : keptRow w r = ntM (w + 1).toNat r := rfl
theorem thin_le {r : List Lay} {m k : Nat} (h : m ≤ k) : thinM (thinM r k) m = thinM r m := by rw [thin_thin, Nat.min_eq_right h]
theorem nt_nt {r : List Lay} {m k : Nat} (h : m ≤ k) : ntM m (ntM k r) = ntM m r := by
  unfold ntM
  rw [alike_thin m (norm_norm (thinM r k)), thin_le h]
theorem thin_weak (r : List Lay) (n : Int) (m : Nat) : thinM (weakL r n) m = weakL (thinM r m) n := by
  unfold weakL
  rw [thin_pos, thin_shift]
theorem nt_weak (r : List Lay) (n : Int) (m : Nat) : ntM m (weakL (ntM m r) n) = ntM m (weakL r n) := by
  unfold ntM
  have e : normM (weakL (normM (thinM r m)) n) = normM (weakL (thinM r m) n) := alike_filter _ (alike_shift _ (norm_norm _))
  rw [alike_thin m e, thin_weak, thin_weak, thin_thin, Nat.min_self]
theorem nt_shift (r : List Lay) (n : Int) (m : Nat) : ntM m (shiftM (ntM m r) n) = ntM m (shiftM r n) := by
  unfold ntM
  have e : normM (shiftM (normM (thinM r m)) n) = normM (shiftM (thinM r m) n) := alike_shift _ (norm_norm _)
  rw [alike_thin m e, thin_shift, thin_shift, thin_thin, Nat.min_self]
theorem nt_mem {r : List Lay} {m : Nat} {l : Lay} (h : l ∈ ntM m r) : l ∈ r := thinM_mem (norm_mem.mp h)
theorem nt_worn {r : List Lay} (hp : ∀ l ∈ r, 0 < l.2) (n : Int) (m : Nat) : ntM m (wornL (ntM (m + 1) r) n) = ntM m (wornL r n) := by
  unfold wornL
  split
  · unfold ntM
    rw [alike_thin m (alike_scrap (norm_norm (thinM r (m + 1)))), thin_scrap, thin_scrap, thin_thin, Nat.min_self]
  · unfold ntM
    have := alike_rub n (fun l hl => hp l (thinM_mem (norm_mem.mp hl))) (norm_norm (thinM r (m + 1)))
    rw [alike_thin m this, thin_rub]
theorem app_stg2 {r t : List Lay} (i : Nat) : stg (r ++ t) (r.length + i) = stg t i := by
  unfold stg
  rw [List.getD_eq_getElem?_getD, List.getD_eq_getElem?_getD, List.getElem?_append_right (by omega), Nat.add_sub_cancel_left]
theorem app_ahead2 {r t : List Lay} (i j : Nat) : ahead (r ++ t) (r.length + i) (r.length + j) = ahead t i j := by
  unfold ahead
  rw [app_stg2, app_stg2]
  congr 2
  simp
theorem app_cnt2 {r t : List Lay} (i : Nat) : cntM t i ≤ cntM (r ++ t) (r.length + i) := by
  unfold cntM
  rw [List.length_append, List.range_add, List.filter_append, List.length_append, List.filter_map, List.length_map]
  have e : (List.range t.length).filter ((fun o => ahead (r ++ t) o (r.length + i)) ∘ fun x => r.length + x) = (List.range t.length).filter fun o => ahead t o i := List.filter_congr fun j hj => app_ahead2 j i
  rw [e]
  omega
theorem thin_app2 (r t : List Lay) (m : Nat) : thinM (r ++ thinM t m) m = thinM (r ++ t) m := by
  have e : r ++ thinM t m = partM (r ++ t) fun i => decide (r.length ≤ i → cntM t (i - r.length) < m) := by
    rw [partM_fmI, fmI_app, thin_fmI]
    congr 1
    · have e2 : fmI (fun i (l : Lay) => if decide (r.length ≤ i → cntM t (i - r.length) < m) = true then some l else none) r = partM r fun _ => true := by
        rw [partM_fmI]
        exact fmI_congr fun i l hl => by
          have hi := (List.getElem?_eq_some_iff.mp hl).1
          rw [decide_eq_true (fun z => absurd z (by omega))]
      rw [e2, part_all]
    · exact fmI_congr fun i l hl => by
        have : (r.length ≤ r.length + i → cntM t (r.length + i - r.length) < m) ↔ cntM t i < m := by
          rw [Nat.add_sub_cancel_left]
          exact ⟨fun z => z (by omega), fun z _ => z⟩
        simp only [this]
  rw [e]
  refine thin_part fun i hi hc => decide_eq_true fun hr => ?_
  have := app_cnt2 (r := r) (t := t) (i - r.length)
  rw [Nat.add_sub_cancel' hr] at this
  omega
theorem alike_app2 (t : List Lay) {r r' : List Lay} (h : normM r = normM r') : normM (t ++ r) = normM (t ++ r') := by rw [normM_app, normM_app, h]
theorem nt_app {a b : List Lay} {m k j : Nat} (h1 : m ≤ k) (h2 : m ≤ j) : ntM m (ntM k a ++ ntM j b) = ntM m (a ++ b) := by
  unfold ntM
  have e : normM (normM (thinM a k) ++ normM (thinM b j)) = normM (thinM a k ++ thinM b j) := (alike_app _ (norm_norm _)).trans (alike_app2 _ (norm_norm _))
  rw [alike_thin m e]
  have f1 : thinM (thinM a k ++ thinM b j) m = thinM (a ++ thinM b j) m := by
    rw [← thin_le (r := thinM a k ++ thinM b j) h1, thin_app, thin_le h1]
  have f2 : thinM (a ++ thinM b j) m = thinM (a ++ b) m := by
    rw [← thin_le (r := a ++ thinM b j) h2, thin_app2, thin_le h2]
  rw [f1, f2]
theorem nt_app1 {a b : List Lay} {m : Nat} : ntM m (ntM m a ++ b) = ntM m (a ++ b) := by
  unfold ntM
  rw [alike_thin m (alike_app b (norm_norm (thinM a m))), thin_app]
theorem nt_nil (m : Nat) : ntM m [] = [] := by
  have : thinM [] m = [] := List.length_eq_zero_iff.mp (Nat.le_zero.mp (thinM_length_le [] m))
  unfold ntM
  rw [this]
  rfl
theorem weak_warm {r : List Lay} (hp : ∀ l ∈ r, 0 < l.2) {n : Int} (h0 : 0 ≤ n) : weakL r (-n) = shiftM r n := by
  unfold weakL
  rw [Int.neg_neg]
  refine List.filter_eq_self.mpr fun l hl => ?_
  unfold shiftM at hl
  obtain ⟨y, hy, rfl⟩ := List.mem_map.mp hl
  have := hp y hy
  exact decide_eq_true (show 0 < y.2 + n by omega)
/-! ### states -/
/-- what is kept of it -/
def keptSt (s : Kst) : Kst := putK2 s.rows s.wear
def PosK (s : Kst) : Prop := ∀ r ∈ s.rows, ∀ l ∈ r, 0 < l.2
theorem rowOf_kept (s : Kst) (i : Nat) : rowOf (keptSt s) i = keptRow s.wear (rowOf s i) := by
  unfold rowOf keptSt putK2
  rw [List.getD_eq_getElem?_getD, List.getD_eq_getElem?_getD, List.getElem?_map]
  cases s.rows[i]? with
  | none => exact (nt_nil _).symm
  | some r => rfl
theorem tops_kept {s : Kst} (h0 : 0 ≤ s.wear) : topsL (keptSt s).rows = topsL s.rows := by
  unfold topsL keptSt putK2
  rw [List.map_map]
  exact List.map_congr_left fun r _ => keptRow_top h0
theorem rowOf_pos {s : Kst} (h : PosK s) (i : Nat) : ∀ l ∈ rowOf s i, 0 < l.2 := fun l hl => by
  unfold rowOf at hl
  rw [List.getD_eq_getElem?_getD] at hl
  cases e : s.rows[i]? with
  | none => rw [e] at hl; cases hl
  | some r => rw [e] at hl; exact h r (List.mem_of_getElem? e) l hl
theorem put_set {s : Kst} {w : Int} {i : Nat} {x y : List Lay} (hw : w ≤ s.wear) (h : keptRow w x = keptRow w y) : putK2 ((keptSt s).rows.set i x) w = putK2 (s.rows.set i y) w := by
  unfold putK2 keptSt
  show (⟨w, ((s.rows.map (keptRow s.wear)).set i x).map (keptRow w)⟩ : Kst) = _
  rw [List.map_set, List.map_map, List.map_set, h]
  congr 1
  congr 1
  refine List.map_congr_left fun r _ => ?_
  exact nt_nt (by omega)
theorem kept_do {ks : List Ink} {s : Kst} {d : Deed} (hp : PosK s) (h0 : 0 ≤ s.wear) (ok : DeedOk ks d) : doK ks (keptSt s) d = keptSt (doM ks s d) ∧ wornByK (keptSt s) d = wornByK s d := by
  have wb : isWornK (keptSt s) = isWornK s := by
    unfold isWornK
    rw [tops_kept h0]
    rfl
  have worn : ∀ n : Int, wornK (keptSt s) n = keptSt (wornM s n) := fun n => by
    unfold wornK wornM
    rw [tops_kept h0]
    cases bestOf (topsL s.rows) with
    | none => rfl
    | some p =>
      obtain ⟨i, l⟩ := p
      show (if s.wear = 0 then keptSt s else _) = keptSt (if s.wear = 0 then s else _)
      by_cases c : s.wear = 0
      · rw [if_pos c, if_pos c]
      · rw [if_neg c, if_neg c]
        refine put_set (w := s.wear - 1) (by omega) ?_
        rw [rowOf_kept, keptRow_nt, keptRow_nt, keptRow_nt]
        have e : (s.wear + 1).toNat = (s.wear - 1 + 1).toNat + 1 := by omega
        rw [e]
        exact nt_worn (rowOf_pos hp i) n _
  cases d with
  | lay i y =>
    refine ⟨put_set (Int.le_refl _) ?_, rfl⟩
    rw [rowOf_kept]
    exact nt_app1
  | wait t =>
    refine ⟨?_, rfl⟩
    show putK2 (waitRows ks t (s.rows.map (keptRow s.wear))) s.wear = putK2 (waitRows ks t s.rows) s.wear
    unfold putK2 waitRows
    congr 1
    rw [List.zipWith_map_left, List.map_zipWith, List.map_zipWith]
    congr 1
    funext r k
    exact nt_weak _ _ _
  | wash i n =>
    refine ⟨put_set (Int.le_refl _) ?_, rfl⟩
    rw [rowOf_kept]
    exact nt_weak _ _ _
  | warm i n =>
    refine ⟨put_set (Int.le_refl _) ?_, rfl⟩
    rw [rowOf_kept, weak_warm (rowOf_pos hp i) (Int.le_of_lt ok.2.1)]
    exact nt_shift _ _ _
  | scrape => exact ⟨worn 0, wb⟩
  | rub n => exact ⟨worn n, wb⟩
def graftM (s t : Kst) : Kst := ⟨min s.wear t.wear, List.zipWith (· ++ ·) s.rows t.rows⟩
def graftK (s t : Kst) : Kst := putK2 (List.zipWith (· ++ ·) s.rows t.rows) (min s.wear t.wear)
def pressM (s t : Kst) : Kst := match bestOf (topsL t.rows) with
  | none => s
  | some (i, l) => if 1 < l.2 then ⟨s.wear, s.rows.set i (rowOf s i ++ [(l.1, l.2 / 2)])⟩ else s
def pressK (s t : Kst) : Kst := match bestOf (topsL t.rows) with
  | none => s
  | some (i, l) => if 1 < l.2 then layK2 s i (l.1, l.2 / 2) else s
theorem kept_graft (s t : Kst) : graftK (keptSt s) (keptSt t) = keptSt (graftM s t) := by
  show putK2 (List.zipWith (· ++ ·) (s.rows.map (keptRow s.wear)) (t.rows.map (keptRow t.wear))) (min s.wear t.wear) = putK2 (List.zipWith (· ++ ·) s.rows t.rows) (min s.wear t.wear)
  unfold putK2
  congr 1
  rw [List.zipWith_map, List.map_zipWith, List.map_zipWith]
  congr 1
  funext a b
  exact nt_app (by omega) (by omega)
theorem kept_press {s t : Kst} (h0 : 0 ≤ t.wear) : pressK (keptSt s) (keptSt t) = keptSt (pressM s t) := by
  unfold pressK pressM
  rw [tops_kept h0]
  cases bestOf (topsL t.rows) with
  | none => rfl
  | some p =>
    obtain ⟨i, l⟩ := p
    show (if 1 < l.2 then _ else _) = keptSt (if 1 < l.2 then _ else _)
    by_cases c : 1 < l.2
    · rw [if_pos c, if_pos c]
      refine put_set (Int.le_refl _) ?_
      rw [rowOf_kept]
      exact nt_app1
    · rw [if_neg c, if_neg c]
theorem kept_kept (s : Kst) : keptSt (keptSt s) = keptSt s := by
  show putK2 (s.rows.map (keptRow s.wear)) s.wear = putK2 s.rows s.wear
  unfold putK2
  congr 1
  rw [List.map_map]
  exact List.map_congr_left fun r _ => nt_nt (Nat.le_refl _)
theorem kOf_press {s t : Pst} (pos : ∀ r ∈ t.rows, ∀ l ∈ r, 0 < l.2.2) : kOf (pressS s t) = pressM (kOf s) (kOf t) := by
  have h := topTo_best pos t.rows.length
  have el : (topsL (t.rows.map layR)).length = t.rows.length := by rw [tops_len, List.length_map]
  unfold pressS pressM topOf bestOf
  show kOf _ = (match bestTo (topsL (t.rows.map layR)) (topsL (t.rows.map layR)).length with | none => _ | some (i, l) => _)
  rw [el]
  cases eb : bestTo (topsL (t.rows.map layR)) t.rows.length with
  | none =>
    rw [eb] at h
    have h : topTo t.rows t.rows.length = (none, 0) := h
    rw [h]
  | some p =>
    obtain ⟨j, y⟩ := p
    rw [eb] at h
    obtain ⟨n, r', g1, ⟨g2, g4⟩, g3⟩ := h
    rw [g3]
    have e : (t.rows.getD j []).getD n (0, default, 0) = r'[n] := by
      rw [List.getD_eq_getElem?_getD (l := t.rows), g1]
      show r'.getD n (0, default, 0) = r'[n]
      rw [List.getD_eq_getElem?_getD, List.getElem?_eq_getElem g2]
      rfl
    show kOf (if 1 < ((t.rows.getD j []).getD n (0, default, 0)).2.2 then laidS s j (((t.rows.getD j []).getD n (0, default, 0)).2.1, ((t.rows.getD j []).getD n (0, default, 0)).2.2 / 2) else s) = if 1 < y.2 then _ else _
    rw [e, g4]
    by_cases c : 1 < y.2
    · rw [if_pos c, if_pos c]
      exact kOf_laid s j (y.1, y.2 / 2)
    · rw [if_neg c, if_neg c]
theorem graftRow_lay (i : Nat) : ∀ (r : List Lyr) (s : Pst), i < s.rows.length → (kOf (graftRow s i r)).rows[i]? = (kOf s).rows[i]?.map (· ++ layR r)
  | [], s, h => by
    show (kOf s).rows[i]? = _
    cases (kOf s).rows[i]? with
    | none => rfl
    | some x => show some x = some (x ++ []); rw [List.append_nil]
  | l :: r, s, h => by
    show (kOf (graftRow (laidS s i l.2) i r)).rows[i]? = _
    rw [graftRow_lay i r _ (by rw [laidS_len]; exact h), kOf_laid]
    have hi : i < (kOf s).rows.length := by show i < (s.rows.map layR).length; rw [List.length_map]; exact h
    rw [List.getElem?_set_self hi, List.getElem?_eq_getElem hi, rowOf_at hi]
    show some ((kOf s).rows[i] ++ [l.2] ++ layR r) = some ((kOf s).rows[i] ++ layR (l :: r))
    rw [List.append_assoc]
    rfl
theorem kOf_graft {s t : Pst} {n : Nat} (h1 : s.rows.length = n) (h2 : t.rows.length = n) : kOf (graftS s t n) = graftM (kOf s) (kOf t) := by
  have key : ∀ i, i ≤ n → ∀ j, j < i → (kOf (graftTo s t i)).rows[j]? = (List.zipWith (· ++ ·) (kOf s).rows (kOf t).rows)[j]? := fun i => by
    induction i with
    | zero => intro _ j hj; omega
    | succ i ih =>
      intro hi j hj
      have hir : i < s.rows.length := by omega
      have hit : i < t.rows.length := by omega
      have e2 : t.rows.getD i [] = t.rows[i] := by rw [List.getD_eq_getElem?_getD, List.getElem?_eq_getElem hit]; rfl
      show (kOf (graftRow (graftTo s t i) i (t.rows.getD i []))).rows[j]? = _
      by_cases e : j = i
      · subst e
        rw [graftRow_lay _ _ _ (by rw [graftTo_len]; exact hir), e2]
        show ((graftTo s t j).rows.map layR)[j]?.map _ = _
        rw [List.getElem?_map, graftTo_late s t j j (Nat.le_refl _), List.getElem?_zipWith]
        have es : (kOf s).rows[j]? = some (layR s.rows[j]) := by show (s.rows.map layR)[j]? = _; rw [List.getElem?_map, List.getElem?_eq_getElem hir]; rfl
        have et : (kOf t).rows[j]? = some (layR t.rows[j]) := by show (t.rows.map layR)[j]? = _; rw [List.getElem?_map, List.getElem?_eq_getElem hit]; rfl
        rw [es, et, List.getElem?_eq_getElem hir]
        rfl
      · show ((graftRow (graftTo s t i) i (t.rows.getD i [])).rows.map layR)[j]? = _
        rw [List.getElem?_map, graftRow_other (fun z => e z.symm), ← ih (by omega) j (by omega)]
        show _ = ((graftTo s t i).rows.map layR)[j]?
        rw [List.getElem?_map]
  unfold graftM
  show (⟨min s.wear t.wear, (graftTo s t n).rows.map layR⟩ : Kst) = ⟨min s.wear t.wear, _⟩
  congr 1
  refine List.ext_getElem? fun j => ?_
  by_cases hj : j < n
  · exact key n (Nat.le_refl _) j hj
  · rw [List.getElem?_eq_none (by rw [List.length_map, graftTo_len]; omega), List.getElem?_eq_none]
    rw [List.length_zipWith]
    show min (s.rows.map layR).length _ ≤ j
    rw [List.length_map]
    omega
end Y

set_option Elab.async false
set_option linter.all false
set_option maxRecDepth 100000
set_option maxHeartbeats 2000000
set_option exponentiation.threshold 600
/-! Q2: what a heap holds, as resources by keys (see Q1). -/
namespace Y
open PySem PySem.Spec PyProof.Rows L2
section
variable [Tb] {ι : Type} [DecidableEq ι]
structure CxA (Z : Addr → Prop) (φ : ι → Addr → Prop) (l : ι → Option Rsc) (H : Hp) : Prop where
  hold : ∀ (i : ι) (r : Rsc), l i = some r → r.h Z (φ i) H
  dj : ∀ (i j : ι) (r q : Rsc), l i = some r → l j = some q → i ≠ j → ∀ y, φ i y → ¬ φ j y
  nz : ∀ (i : ι) (r : Rsc), l i = some r → ∀ y, φ i y → ¬ Z y
  zf : ∀ y, Z y → H y ≠ none
  tab : TbOk H
def Rs (l : ι → Option Rsc) (H : Hp) : Prop := ∃ Z φ, CxA Z φ l H
def upl (l : ι → Option Rsc) (i : ι) (r : Rsc) : ι → Option Rsc := fun j => if j = i then some r else l j
variable {Z f S : Addr → Prop} {φ : ι → Addr → Prop} {l l' : ι → Option Rsc} {H H' : Hp} {r r' q q' : Rsc} {i j : ι}
omit [DecidableEq ι] in
theorem CxA.full (c : CxA Z φ l H) (hi : l i = some r) : ∀ y, φ i y → H y ≠ none := r.full (c.hold i r hi)
omit [DecidableEq ι] in
theorem CxA.keep (c : CxA Z φ l H) (k : Kp No H H') : CxA Z φ l H' :=
  ⟨fun i r hi => r.stable (c.hold i r hi) k (fun _ _ => id) (fun _ _ => id), c.dj, c.nz, fun y z e => c.zf y z (k.dom y e), k.tab c.tab⟩
omit [DecidableEq ι] in
theorem Rs.keep (c : Rs l H) (k : Kp No H H') : Rs l H' := let ⟨Z, φ, c⟩ := c; ⟨Z, φ, c.keep k⟩
omit [DecidableEq ι] in
theorem Rs.tab (c : Rs l H) : TbOk H := let ⟨_, _, c⟩ := c; c.tab
omit [DecidableEq ι] in
theorem Rs.weak (c : Rs l H) (h : ∀ i r, l' i = some r → l i = some r) : Rs l' H := by
  obtain ⟨Z, φ, c⟩ := c
  exact ⟨Z, φ, fun i r hi => c.hold i r (h i r hi), fun i j r q h1 h2 => c.dj i j r q (h i r h1) (h j q h2), fun i r hi => c.nz i r (h i r hi), c.zf, c.tab⟩
/-- what i holds there -/
def Own (φ : ι → Addr → Prop) (l : ι → Option Rsc) (i : ι) : Addr → Prop := fun y => (∃ r, l i = some r) ∧ φ i y
theorem CxA.put (c : CxA Z φ l H) (k : Kp S H H') (hS : ∀ y, S y → Own φ l i y ∨ H y = none) {f' : Addr → Prop} (h : r'.h Z f' H') (hf : ∀ y, f' y → Own φ l i y ∨ H y = none) : CxA Z (fun j => if j = i then f' else φ j) (upl l i r') H' := by
  have nS : ∀ j q, j ≠ i → l j = some q → ∀ y, φ j y → ¬ S y := fun j q nj hj y fy sy => by
    rcases hS y sy with ⟨⟨r, hi⟩, fi⟩ | e
    · exact c.dj j i q r hj hi nj y fy fi
    · exact c.full hj y fy e
  have nZ : ∀ y, Z y → ¬ S y := fun y zy sy => by
    rcases hS y sy with ⟨⟨r, hi⟩, fi⟩ | e
    · exact c.nz i r hi y fi zy
    · exact c.zf y zy e
  have away : ∀ j q, j ≠ i → l j = some q → ∀ y, φ j y → ¬ f' y := fun j q nj hj y fy sy => by
    rcases hf y sy with ⟨⟨r, hi⟩, fi⟩ | e
    · exact c.dj j i q r hj hi nj y fy fi
    · exact c.full hj y fy e
  refine ⟨fun j q hj => ?_, fun j m q p hj hm ne y f1 f2 => ?_, fun j q hj y fy zy => ?_, fun y z e => c.zf y z (k.dom y e), k.tab c.tab⟩
  · unfold upl at hj
    by_cases e : j = i
    · rw [if_pos e] at hj ⊢
      cases hj
      exact h
    · rw [if_neg e] at hj ⊢
      exact q.stable (c.hold j q hj) k (nS j q e hj) nZ
  · unfold upl at hj hm
    by_cases e : j = i
    · rw [if_pos e] at f1
      have e2 : m ≠ i := fun z => ne (e.trans z.symm)
      rw [if_neg e2] at hm f2
      exact away m p e2 hm y f2 f1
    · rw [if_neg e] at hj f1
      by_cases e2 : m = i
      · rw [if_pos e2] at f2
        exact away j q e hj y f1 f2
      · rw [if_neg e2] at hm f2
        exact c.dj j m q p hj hm ne y f1 f2
  · unfold upl at hj
    by_cases e : j = i
    · rw [if_pos e] at fy
      rcases hf y fy with ⟨⟨r, hi⟩, fi⟩ | e3
      · exact c.nz i r hi y fi zy
      · exact c.zf y zy e3
    · rw [if_neg e] at hj fy
      exact c.nz j q hj y fy zy
/-- one resource is taken, and given back as another one -/
theorem Rs.use (c : Rs l H) (hi : l i = some r) : ∃ Z f, r.h Z f H ∧ (∀ y, f y → ¬ Z y) ∧ (∀ y, Z y → H y ≠ none) ∧
    ∀ {S : Addr → Prop} {H' : Hp} (r' : Rsc) (f' : Addr → Prop), Kp S H H' → (∀ y, S y → f y ∨ H y = none) → r'.h Z f' H' → (∀ y, f' y → f y ∨ H y = none) → Rs (upl l i r') H' := by
  obtain ⟨Z, φ, c⟩ := c
  exact ⟨Z, φ i, c.hold i r hi, c.nz i r hi, c.zf, fun {S H'} r' f' k hS h hf => ⟨_, _, c.put k (fun y z => (hS y z).imp (fun w => ⟨⟨r, hi⟩, w⟩) id) h fun y z => (hf y z).imp (fun w => ⟨⟨r, hi⟩, w⟩) id⟩⟩
omit [DecidableEq ι] in
theorem upl_same [DecidableEq ι] (hi : l i = some r) : ∀ j q, l j = some q → upl l i r j = some q := fun j q h => by
  unfold upl
  by_cases e : j = i
  · rw [if_pos e, ← hi, ← e, h]
  · rw [if_neg e]; exact h
theorem Rs.use_ (c : Rs l H) (hi : l i = some r) : ∃ Z f, r.h Z f H ∧ (∀ y, f y → ¬ Z y) ∧ (∀ y, Z y → H y ≠ none) ∧
    ∀ {S : Addr → Prop} {H' : Hp} (f' : Addr → Prop), Kp S H H' → (∀ y, S y → f y ∨ H y = none) → r.h Z f' H' → (∀ y, f' y → f y ∨ H y = none) → Rs l H' := by
  obtain ⟨Z, f, h1, h2, h3, h4⟩ := c.use hi
  exact ⟨Z, f, h1, h2, h3, fun {S H'} f' k hS h hf => (h4 r f' k hS h hf).weak (upl_same hi)⟩
/-- something new, in the place of what was there -/
theorem Rs.new (c : Rs l H) (i : ι) : ∃ Z φ, CxA Z φ l H ∧ ∀ {S : Addr → Prop} {H' : Hp} (r' : Rsc) (f' : Addr → Prop), Kp S H H' → (∀ y, S y → H y = none) → r'.h Z f' H' → (∀ y, f' y → H y = none) → Rs (upl l i r') H' := by
  obtain ⟨Z, φ, c⟩ := c
  exact ⟨Z, φ, c, fun {S H'} r' f' k hS h hf => ⟨_, _, c.put k (fun y z => .inr (hS y z)) h fun y z => .inr (hf y z)⟩⟩
theorem Rs.add (c : Rs l H) (i : ι) (r' : Rsc) (f' : Addr → Prop) (k : Kp No H H') (h : ∀ Z, r'.h Z f' H') (hf : ∀ y, f' y → H y = none) : Rs (upl l i r') H' := by
  obtain ⟨Z, φ, _, put⟩ := c.new i
  exact put (S := No) r' f' k (fun _ z => z.elim) (h Z) hf
/-- what never changes any more -/
theorem Rs.freeze (c : Rs l H) (hi : l i = some r) : Rs (upl l i (frz r)) H := by
  obtain ⟨Z, φ, c⟩ := c
  refine ⟨fun y => Z y ∨ φ i y, fun j => if j = i then No else φ j, fun j q hq => ?_, fun j m q p hq hp ne y f1 f2 => ?_, fun j q hq y f1 z => ?_, fun y z => z.elim (c.zf y) (c.full hi y), c.tab⟩
  · unfold upl at hq
    by_cases e : j = i
    · rw [if_pos e] at hq ⊢
      cases hq
      exact ⟨⟨φ i, r.mono (c.hold i r hi) fun y z => .inl z, fun y z => .inr z⟩, rfl⟩
    · rw [if_neg e] at hq ⊢
      exact q.mono (c.hold j q hq) fun y z => .inl z
  · unfold upl at hq hp
    by_cases e1 : j = i
    · rw [if_pos e1] at f1; exact f1
    · by_cases e2 : m = i
      · rw [if_pos e2] at f2; exact f2
      · rw [if_neg e1] at f1 hq
        rw [if_neg e2] at f2 hp
        exact c.dj j m q p hq hp ne y f1 f2
  · unfold upl at hq
    by_cases e1 : j = i
    · rw [if_pos e1] at f1; exact f1
    · rw [if_neg e1] at f1 hq
      rcases z with z | z
      · exact c.nz j q hq y f1 z
      · exact c.dj j i q r hq hi e1 y f1 z
omit [DecidableEq ι] in
theorem Rs.start {K : PySem.W.Frag} {a : Addr} {xs : List V} (hS : SqL K H a xs) (hT : TbOk H) (i : ι) (h : ∀ j r, l j = some r → j = i ∧ r = sqR K a xs) : Rs l H := by
  rcases hS with h2 | h2
  · have ne : H a ≠ none := by
      rcases h2 with h | ⟨o, h⟩
      · rw [h]; intro e; cases e
      · rw [h]; intro e; cases e
    refine ⟨fun y => y = a, fun _ => No, fun i r hr => ?_, fun i j r q h1 h2 ne => absurd ((h _ _ h1).1.trans (h _ _ h2).1.symm) ne, fun i r hr y z => z.elim, fun y z => by rw [z]; exact ne, hT⟩
    rw [(h _ _ hr).2]
    exact ⟨.inr ⟨.inl h2, rfl⟩, rfl⟩
  · refine ⟨No, fun _ => No, fun i r hr => ?_, fun i j r q h1 h2 ne => absurd ((h _ _ h1).1.trans (h _ _ h2).1.symm) ne, fun i r hr y z => z.elim, fun y z => z.elim, hT⟩
    rw [(h _ _ hr).2]
    exact ⟨.inl fun H' => .inr h2, rfl⟩
omit [DecidableEq ι] in
theorem Rs.sq {K : PySem.W.Frag} {a : Addr} {xs : List V} (c : Rs l H) (hi : l i = some (sqR K a xs)) : SqL K H a xs := by
  obtain ⟨Z, φ, c⟩ := c
  rcases (c.hold i _ hi).1 with h | h
  · exact h H
  · exact h.1
omit [DecidableEq ι] in
theorem Rs.pot {p : Addr} (c : Rs l H) (hi : l i = some (potR p)) : Pot H p := by
  obtain ⟨Z, φ, c⟩ := c
  exact (c.hold i _ hi).1
omit [DecidableEq ι] in
theorem Rs.lst {p : Addr} {vs : List V} (c : Rs l H) (hi : l i = some (lstR p vs)) : H p = some (.lst vs) := by
  obtain ⟨Z, φ, c⟩ := c
  exact (c.hold i _ hi).1
omit [DecidableEq ι] in
theorem Rs.lstF {p : Addr} {vs : List V} (c : Rs l H) (hi : l i = some (frz (lstR p vs))) : H p = some (.lst vs) := by
  obtain ⟨Z, φ, c⟩ := c
  obtain ⟨⟨g, h, _⟩, _⟩ := c.hold i _ hi
  exact h.1
omit [DecidableEq ι] in
theorem Rs.lstDF {K : PySem.W.Frag} {p : Addr} {ds : List PyData} (c : Rs l H) (hi : l i = some (frz (Y.lstD K p ds))) : ∃ vs, H p = some (.lst vs) ∧ ImAll K H vs ds := by
  obtain ⟨Z, φ, c⟩ := c
  obtain ⟨⟨g, h, _⟩, _⟩ := c.hold i _ hi
  exact h.1
theorem Rs.drawn {p : Addr} (c : Rs l H) (hi : l i = some (potR p)) (k : Kp (At p) H H') (pt : Pot H' p) : Rs l H' := by
  obtain ⟨Z, f, h, _, _, put⟩ := c.use_ hi
  obtain ⟨_, rfl⟩ := h
  exact put (At p) k (fun y z => .inl z) ⟨pt, rfl⟩ fun y z => .inl z
theorem Rs.setL (c : Rs l H) {p : Addr} {vs : List V} (hi : l i = some (lstR p vs)) (ws : List V) : Rs (upl l i (lstR p ws)) (upd H p (.lst ws)) := by
  obtain ⟨Z, f, h, _, _, put⟩ := c.use hi
  obtain ⟨h, rfl⟩ := h
  exact put (S := At p) (lstR p ws) (At p) (Kp.set rfl h) (fun _ z => .inl z) ⟨upd_same, rfl⟩ fun y z => .inl z
/-- a tuple -/
def tupR (u : Addr) (vs : List V) : Rsc where
  h := fun _ f H => H u = some (.tup vs) ∧ f = No
  stable := fun h k _ _ => ⟨k.tup u vs h.1, h.2⟩
  full := fun h y z => by rw [h.2] at z; exact z.elim
  mono := fun h _ => h
omit [DecidableEq ι] in
theorem Rs.tup {u : Addr} {vs : List V} (c : Rs l H) (hi : l i = some (tupR u vs)) : H u = some (.tup vs) := by
  obtain ⟨Z, φ, c⟩ := c
  exact (c.hold i _ hi).1
/-- a palette, frozen -/
def palR (CP x : Addr) (ks : List Ink) : Rsc where
  h := fun Z f H => (∃ dx d, PalAt CP H x dx d ks ∧ Z x ∧ Z d) ∧ f = No
  stable := fun h k _ hz => ⟨let ⟨dx, d, p, z1, z2⟩ := h.1; ⟨dx, d, p.up k (hz _ z1) (hz _ z2), z1, z2⟩, h.2⟩
  full := fun h y z => by rw [h.2] at z; exact z.elim
  mono := fun h hz => ⟨let ⟨dx, d, p, z1, z2⟩ := h.1; ⟨dx, d, p, hz _ z1, hz _ z2⟩, h.2⟩
/-- a place -/
def plR (K : PySem.W.Frag) (CP CL x : Addr) (ks : List Ink) (s : Pst) : Rsc where
  h := fun Z f H => ∃ a : PlAddr, a.x = x ∧ PlAt K CP CL H a ks s ∧ Z a.pl ∧ Z a.pd ∧ f = Ft a
  stable := fun ⟨a, e, p, z1, z2, ef⟩ k hf hz => ⟨a, e, p.up k (hz _ z1) (hz _ z2) (fun y hy => hf y (by rw [ef]; exact hy)), z1, z2, ef⟩
  full := fun ⟨a, e, p, z1, z2, ef⟩ y z => by rw [ef] at z; exact p.has z
  mono := fun ⟨a, e, p, z1, z2, ef⟩ hz => ⟨a, e, p, hz _ z1, hz _ z2, ef⟩
/-- a kept place -/
def kpR (K : PySem.W.Frag) (CP CK x : Addr) (ks : List Ink) (s : Kst) : Rsc where
  h := fun Z f H => ∃ a : KAddr, a.x = x ∧ KpAt K CP CK H a ks s ∧ Z a.pl ∧ Z a.pd ∧ f = Fk a
  stable := fun ⟨a, e, p, z1, z2, ef⟩ k hf hz => ⟨a, e, p.up k (hz _ z1) (hz _ z2) (fun y hy => hf y (by rw [ef]; exact hy)), z1, z2, ef⟩
  full := fun ⟨a, e, p, z1, z2, ef⟩ y z => by rw [ef] at z; exact p.has z
  mono := fun ⟨a, e, p, z1, z2, ef⟩ hz => ⟨a, e, p, hz _ z1, hz _ z2, ef⟩
def MbF (b : MbAddr) : Addr → Prop := fun y => Mm b y ∨ y ∈ b.ls
/-- a law's model -/
def mbR (K : PySem.W.Frag) (m : Addr) (s : Kst) : Rsc where
  h := fun Z f H => ∃ b : MbAddr, b.m = m ∧ MbAt K H b s ∧ f = MbF b
  stable := fun ⟨b, e, p, ef⟩ k hf hz => ⟨b, e, p.up k (hf _ (by rw [ef]; exact .inl (.inl rfl))) (hf _ (by rw [ef]; exact .inl (.inr rfl))) (fun l hl => hf l (by rw [ef]; exact .inr hl)), ef⟩
  full := fun ⟨b, e, p, ef⟩ y z => by rw [ef] at z; exact p.full y z
  mono := fun h _ => h
theorem Rs.pl {K : PySem.W.Frag} {CP CL x : Addr} {ks : List Ink} {s : Pst} (c : Rs l H) (hi : l i = some (plR K CP CL x ks s)) : ∃ a : PlAddr, a.x = x ∧ PlAt K CP CL H a ks s ∧ ∀ {S : Addr → Prop} {s' : Pst} {ls' : List Addr} {H' : Hp}, Kp S H H' → (∀ y, S y → Ft a y ∨ H y = none) → PlAt K CP CL H' (a.at_ ls') ks s' → (∀ l ∈ ls', l ∈ a.ls ∨ H l = none) → Rs (upl l i (plR K CP CL x ks s')) H' := by
  obtain ⟨Z, f, ⟨a, e, p, z1, z2, ef⟩, _, _, put⟩ := c.use hi
  subst ef
  refine ⟨a, e, p, fun {S s' ls' H'} k hS p' hl => put _ (Ft (a.at_ ls')) k hS ⟨a.at_ ls', e, p', z1, z2, rfl⟩ fun y hy => ?_⟩
  rcases hy with w | w | w
  · exact .inl (.inl w)
  · exact .inl (.inr (.inl w))
  · exact (hl y w).imp (fun z => .inr (.inr z)) id
theorem Rs.kp {K : PySem.W.Frag} {CP CK x : Addr} {ks : List Ink} {s : Kst} (c : Rs l H) (hi : l i = some (kpR K CP CK x ks s)) : ∃ a : KAddr, a.x = x ∧ KpAt K CP CK H a ks s ∧ ∀ {S : Addr → Prop} {s' : Kst} {l' : Addr} {H' : Hp}, Kp S H H' → (∀ y, S y → Fk a y ∨ H y = none) → KpAt K CP CK H' (a.at_ l') ks s' → (l' = a.l ∨ H l' = none) → Rs (upl l i (kpR K CP CK x ks s')) H' := by
  obtain ⟨Z, f, ⟨a, e, p, z1, z2, ef⟩, _, _, put⟩ := c.use hi
  subst ef
  refine ⟨a, e, p, fun {S s' l' H'} k hS p' hl => put _ (Fk (a.at_ l')) k hS ⟨a.at_ l', e, p', z1, z2, rfl⟩ fun y hy => ?_⟩
  rcases hy with w | w
  · exact .inl (.inl w)
  · have w : y = l' := w
    rw [w]
    exact hl.imp .inr id
theorem Rs.mb {K : PySem.W.Frag} {m : Addr} {s : Kst} (c : Rs l H) (hi : l i = some (mbR K m s)) : ∃ b : MbAddr, b.m = m ∧ MbAt K H b s ∧ ∀ {S : Addr → Prop} {s' : Kst} {b' : MbAddr} {H' : Hp}, Kp S H H' → (∀ y, S y → MbF b y ∨ H y = none) → MbAt K H' b' s' → b'.m = b.m → (b'.rl = b.rl ∨ H b'.rl = none) → (∀ l ∈ b'.ls, l ∈ b.ls ∨ H l = none) → Rs (upl l i (mbR K m s')) H' := by
  obtain ⟨Z, f, ⟨b, e, p, ef⟩, _, _, put⟩ := c.use hi
  subst ef
  refine ⟨b, e, p, fun {S s' b' H'} k hS p' e1 e2 e3 => put _ (MbF b') k hS ⟨b', e1.trans e, p', rfl⟩ fun y hy => ?_⟩
  rcases hy with (w | w) | w
  · exact .inl (.inl (.inl (w.trans e1)))
  · rw [w]
    exact e2.imp (fun z => by rw [z]; exact .inl (.inr rfl)) id
  · exact (e3 y w).imp .inr id
/-- of two keys nothing is shared -/
theorem Rs.pl2 {K : PySem.W.Frag} {CP CL x x2 : Addr} {ks ks2 : List Ink} {s s2 : Pst} (c : Rs l H) (hi : l i = some (plR K CP CL x ks s)) (hj : l j = some (plR K CP CL x2 ks2 s2)) (ne : i ≠ j) : ∃ a a2 : PlAddr, a.x = x ∧ a2.x = x2 ∧ PlAt K CP CL H a ks s ∧ PlAt K CP CL H a2 ks2 s2 ∧ ((∀ y, Ft a2 y → ¬ Ft a y) ∧ ¬ Ft a a2.pl ∧ ¬ Ft a a2.pd) ∧ ∀ {S : Addr → Prop} {s' : Pst} {ls' : List Addr} {H' : Hp}, Kp S H H' → (∀ y, S y → Ft a y ∨ H y = none) → PlAt K CP CL H' (a.at_ ls') ks s' → (∀ l ∈ ls', l ∈ a.ls ∨ H l = none) → Rs (upl l i (plR K CP CL x ks s')) H' := by
  obtain ⟨Z, φ, c⟩ := c
  obtain ⟨a, e, p, z1, z2, ef⟩ := c.hold i _ hi
  obtain ⟨a2, e2, p2, w1, w2, ef2⟩ := c.hold j _ hj
  refine ⟨a, a2, e, e2, p, p2, ⟨fun y f1 f2 => c.dj i j _ _ hi hj ne y (by rw [ef]; exact f2) (by rw [ef2]; exact f1), fun z => c.nz i _ hi _ (by rw [ef]; exact z) w1, fun z => c.nz i _ hi _ (by rw [ef]; exact z) w2⟩, fun {S s' ls' H'} k hS p' hl => ?_⟩
  refine ⟨_, _, c.put k (fun y z => (hS y z).imp (fun w => ⟨⟨_, hi⟩, by rw [ef]; exact w⟩) id) (f' := Ft (a.at_ ls')) ⟨a.at_ ls', e, p', z1, z2, rfl⟩ fun y hy => ?_⟩
  rcases hy with w | w | w
  · exact .inl ⟨⟨_, hi⟩, by rw [ef]; exact .inl w⟩
  · exact .inl ⟨⟨_, hi⟩, by rw [ef]; exact .inr (.inl w)⟩
  · exact (hl y w).imp (fun z => ⟨⟨_, hi⟩, by rw [ef]; exact .inr (.inr z)⟩) id
omit [DecidableEq ι] in
theorem Rs.kpAt {K : PySem.W.Frag} {CP CK x : Addr} {ks : List Ink} {s : Kst} (c : Rs l H) (hi : l i = some (kpR K CP CK x ks s)) : ∃ a : KAddr, a.x = x ∧ KpAt K CP CK H a ks s := by
  obtain ⟨Z, φ, c⟩ := c
  obtain ⟨a, e, p, _⟩ := c.hold i _ hi
  exact ⟨a, e, p⟩
omit [DecidableEq ι] in
theorem Rs.plAt {K : PySem.W.Frag} {CP CL x : Addr} {ks : List Ink} {s : Pst} (c : Rs l H) (hi : l i = some (plR K CP CL x ks s)) : ∃ a : PlAddr, a.x = x ∧ PlAt K CP CL H a ks s := by
  obtain ⟨Z, φ, c⟩ := c
  obtain ⟨a, e, p, _⟩ := c.hold i _ hi
  exact ⟨a, e, p⟩
omit [DecidableEq ι] in
theorem Rs.mbAt {K : PySem.W.Frag} {m : Addr} {s : Kst} (c : Rs l H) (hi : l i = some (mbR K m s)) : ∃ b : MbAddr, b.m = m ∧ MbAt K H b s := by
  obtain ⟨Z, φ, c⟩ := c
  obtain ⟨b, e, p, _⟩ := c.hold i _ hi
  exact ⟨b, e, p⟩
end
end Y

set_option Elab.async false
set_option linter.all false
set_option maxRecDepth 100000
set_option maxHeartbeats 2000000
set_option exponentiation.threshold 600
/-! R3: palettes as resources; three places, the kept ones beside, a law's models (k32). -/
namespace Y
open PySem PySem.Spec PyProof.Rows L2
section
variable [Tb] {ι : Type} [DecidableEq ι]
/-- a palette made anew -/
def palN (CP x : Addr) (ks : List Ink) : Rsc where
  h := fun _ f H => ∃ dx d, PalAt CP H x dx d ks ∧ f = fun y => y = x ∨ y = d
  stable := fun ⟨dx, d, p, ef⟩ k hf _ => ⟨dx, d, p.up k (hf _ (by rw [ef]; exact .inl rfl)) (hf _ (by rw [ef]; exact .inr rfl)), ef⟩
  full := fun ⟨dx, d, p, ef⟩ y z => by
    rw [ef] at z
    rcases z with z | z
    · rw [z, p.ins]; intro e; cases e
    · rw [z, p.dct]; intro e; cases e
  mono := fun h _ => h
variable {l l' : ι → Option Rsc} {H H' : Hp} {i j : ι}
theorem upl_at (l : ι → Option Rsc) (i : ι) (r : Rsc) : upl l i r i = some r := if_pos rfl
theorem upl_ne (l : ι → Option Rsc) {i j : ι} (r : Rsc) (h : j ≠ i) : upl l i r j = l j := if_neg h
/-- a new palette, frozen at once -/
theorem Rs.addPal {CP x dx d : Addr} {ks : List Ink} (c : Rs l H) (i : ι) (k : Kp No H H') (p : PalAt CP H' x dx d ks) (h1 : H x = none) (h2 : H d = none) : Rs (upl l i (frz (palN CP x ks))) H' := by
  have a := c.add i (palN CP x ks) (fun y => y = x ∨ y = d) k (fun _ => ⟨dx, d, p, rfl⟩) fun y z => by
    rcases z with z | z
    · rw [z]; exact h1
    · rw [z]; exact h2
  refine (a.freeze (upl_at _ _ _)).weak fun j r h => ?_
  by_cases e : j = i
  · rw [e, upl_at] at h ⊢; exact h
  · rw [upl_ne _ _ e] at h ⊢; rw [upl_ne _ _ e]; exact h
/-- made with a frozen palette -/
theorem Rs.palF {CP x : Addr} {ks : List Ink} (c : Rs l H) (hp : l j = some (frz (palN CP x ks))) (i : ι) : ∃ dx d, PalAt CP H x dx d ks ∧
    (∀ {K : PySem.W.Frag} {CL : Addr} {a : PlAddr} {s : Pst} {H' : Hp}, a.pl = x → a.pd = d → Kp No H H' → PlAt K CP CL H' a ks s → (∀ y, Ft a y → H y = none) → Rs (upl l i (plR K CP CL a.x ks s)) H') ∧
    (∀ {K : PySem.W.Frag} {CK : Addr} {b : KAddr} {t : Kst} {H' : Hp}, b.pl = x → b.pd = d → Kp No H H' → KpAt K CP CK H' b ks t → (∀ y, Fk b y → H y = none) → Rs (upl l i (kpR K CP CK b.x ks t)) H') := by
  obtain ⟨Z, φ, c0, put⟩ := c.new i
  obtain ⟨⟨g, ⟨dx, d, pa, eg⟩, hz⟩, _⟩ := c0.hold j _ hp
  have zx : Z x := hz _ (by rw [eg]; exact .inl rfl)
  have zd : Z d := hz _ (by rw [eg]; exact .inr rfl)
  refine ⟨dx, d, pa, fun {K CL a s H'} e1 e2 k p hf => ?_, fun {K CK b t H'} e1 e2 k p hf => ?_⟩
  · exact put (S := No) (plR K CP CL a.x ks s) (Ft a) k (fun _ z => z.elim) ⟨a, rfl, p, e1 ▸ zx, e2 ▸ zd, rfl⟩ hf
  · exact put (S := No) (kpR K CP CK b.x ks t) (Fk b) k (fun _ z => z.elim) ⟨b, rfl, p, e1 ▸ zx, e2 ▸ zd, rfl⟩ hf
/-- kept anew of a place -/
theorem Rs.plK {K : PySem.W.Frag} {CP CL x : Addr} {ks : List Ink} {s : Pst} (c : Rs l H) (hi : l j = some (plR K CP CL x ks s)) (i : ι) : ∃ a : PlAddr, a.x = x ∧ PlAt K CP CL H a ks s ∧
    ∀ {CK : Addr} {b : KAddr} {t : Kst} {H' : Hp}, b.pl = a.pl → b.pd = a.pd → Kp No H H' → KpAt K CP CK H' b ks t → (∀ y, Fk b y → H y = none) → Rs (upl l i (kpR K CP CK b.x ks t)) H' := by
  obtain ⟨Z, φ, c0, put⟩ := c.new i
  obtain ⟨a, e, p, z1, z2, ef⟩ := c0.hold j _ hi
  refine ⟨a, e, p, fun {CK b t H'} e1 e2 k q hf => ?_⟩
  exact put (S := No) (kpR K CP CK b.x ks t) (Fk b) k (fun _ z => z.elim) ⟨b, rfl, q, e1 ▸ z1, e2 ▸ z2, rfl⟩ hf
theorem Rs.addMb {K : PySem.W.Frag} {b : MbAddr} {s : Kst} (c : Rs l H) (i : ι) (k : Kp No H H') (p : MbAt K H' b s) (hf : ∀ y, MbF b y → H y = none) : Rs (upl l i (mbR K b.m s)) H' :=
  c.add i _ (MbF b) k (fun _ => ⟨b, rfl, p, rfl⟩) hf
theorem Rs.addTup {u : Addr} {vs : List V} (c : Rs l H) (i : ι) (hu : H u = none) : Rs (upl l i (tupR u vs)) (upd H u (.tup vs)) :=
  c.add i (tupR u vs) No (Kp.new hu) (fun _ => ⟨upd_same, rfl⟩) fun _ z => z.elim
theorem Rs.addLst {u : Addr} {vs : List V} (c : Rs l H) (i : ι) (hu : H u = none) : Rs (upl l i (lstR u vs)) (upd H u (.lst vs)) :=
  c.add i (lstR u vs) (At u) (Kp.new hu) (fun _ => ⟨upd_same, rfl⟩) fun y z => by rw [z]; exact hu
theorem Rs.addPot {p : Addr} (c : Rs l H) (i : ι) (k : Kp No H H') (pt : Pot H' p) (hp : H p = none) : Rs (upl l i (potR p)) H' :=
  c.add i (potR p) (At p) k (fun _ => ⟨pt, rfl⟩) fun y z => by rw [z]; exact hp
end
/-! ### three of each -/
structure Tri where
  T : Addr
  X : Addr
  Y : Addr
  M : Addr
  s : Pst
inductive Ky
  | sc | il | tl | lst | pot | tmp
  | tup (i : Nat) | pl (i : Nat) | kp (i : Nat) | mb (i : Nat)
deriving DecidableEq
structure S32 where
  sc : Addr
  il : Addr
  tl : Addr
  L : Option Addr
  pot : Option Addr
  ns : List Int
  ks : List Ink
  ts : List Str
  F : List Tri
section
variable [Tb] {K : PySem.W.Frag} {CP CL CK : Addr}
def ly (K : PySem.W.Frag) (CP CL CK : Addr) (S : S32) : Ky → Option Rsc
  | .sc => some (sqR K S.sc (S.ns.map V.int))
  | .il => some (frz (lstD K S.il (S.ks.map inkD)))
  | .tl => some (frz (lstR S.tl (S.ts.map V.str)))
  | .lst => S.L.map fun L => lstR L (S.F.map fun f => V.ref f.T)
  | .pot => S.pot.map potR
  | .tmp => none
  | .tup i => S.F[i]?.map fun f => tupR f.T [.ref f.X, .ref f.Y, .ref f.M]
  | .pl i => S.F[i]?.map fun f => plR K CP CL f.X S.ks f.s
  | .kp i => S.F[i]?.map fun f => kpR K CP CK f.Y S.ks (keptSt (kOf f.s))
  | .mb i => S.F[i]?.map fun f => mbR K f.M (kOf f.s)
/-- one of them is another one now -/
theorem ly_put {S : S32} {i : Nat} {f f' : Tri} {l : Ky → Option Rsc} (hi : S.F[i]? = some f)
    (h1 : l (.tup i) = some (tupR f'.T [.ref f'.X, .ref f'.Y, .ref f'.M])) (h2 : l (.pl i) = some (plR K CP CL f'.X S.ks f'.s)) (h3 : l (.kp i) = some (kpR K CP CK f'.Y S.ks (keptSt (kOf f'.s)))) (h4 : l (.mb i) = some (mbR K f'.M (kOf f'.s)))
    (h5 : l .lst = S.L.map fun L => lstR L ((S.F.set i f').map fun f => V.ref f.T))
    (h6 : ∀ k, k ≠ .tup i → k ≠ .pl i → k ≠ .kp i → k ≠ .mb i → k ≠ .lst → k ≠ .tmp → l k = ly K CP CL CK S k) :
    ∀ k r, ly K CP CL CK { S with F := S.F.set i f' } k = some r → l k = some r := by
  have hl : i < S.F.length := (List.getElem?_eq_some_iff.mp hi).1
  intro k r h
  have at_ : ∀ j, (S.F.set i f')[j]? = if j = i then some f' else S.F[j]? := fun j => by
    by_cases e : j = i
    · rw [e, List.getElem?_set_self hl, if_pos rfl]
    · rw [List.getElem?_set_ne (fun z => e z.symm), if_neg e]
  cases k with
  | sc => rw [h6 _ (by simp) (by simp) (by simp) (by simp) (by simp) (by simp)]; exact h
  | il => rw [h6 _ (by simp) (by simp) (by simp) (by simp) (by simp) (by simp)]; exact h
  | tl => rw [h6 _ (by simp) (by simp) (by simp) (by simp) (by simp) (by simp)]; exact h
  | pot => rw [h6 _ (by simp) (by simp) (by simp) (by simp) (by simp) (by simp)]; exact h
  | lst => rw [h5]; exact h
  | tmp => cases h
  | tup j =>
    have h : (S.F.set i f')[j]?.map (fun f => tupR f.T [.ref f.X, .ref f.Y, .ref f.M]) = some r := h
    rw [at_] at h
    by_cases e : j = i
    · rw [if_pos e] at h; rw [e, h1]; exact h
    · rw [if_neg e] at h; rw [h6 _ (by simp [e]) (by simp) (by simp) (by simp) (by simp) (by simp)]; exact h
  | pl j =>
    have h : (S.F.set i f')[j]?.map (fun f => plR K CP CL f.X S.ks f.s) = some r := h
    rw [at_] at h
    by_cases e : j = i
    · rw [if_pos e] at h; rw [e, h2]; exact h
    · rw [if_neg e] at h; rw [h6 _ (by simp) (by simp [e]) (by simp) (by simp) (by simp) (by simp)]; exact h
  | kp j =>
    have h : (S.F.set i f')[j]?.map (fun f => kpR K CP CK f.Y S.ks (keptSt (kOf f.s))) = some r := h
    rw [at_] at h
    by_cases e : j = i
    · rw [if_pos e] at h; rw [e, h3]; exact h
    · rw [if_neg e] at h; rw [h6 _ (by simp) (by simp) (by simp [e]) (by simp) (by simp) (by simp)]; exact h
  | mb j =>
    have h : (S.F.set i f')[j]?.map (fun f => mbR K f.M (kOf f.s)) = some r := h
    rw [at_] at h
    by_cases e : j = i
    · rw [if_pos e] at h; rw [e, h4]; exact h
    · rw [if_neg e] at h; rw [h6 _ (by simp) (by simp) (by simp) (by simp [e]) (by simp) (by simp)]; exact h
/-- one more -/
theorem ly_snoc {S : S32} {f : Tri} {l : Ky → Option Rsc} (n : Nat) (hn : S.F.length = n)
    (h1 : l (.tup n) = some (tupR f.T [.ref f.X, .ref f.Y, .ref f.M])) (h2 : l (.pl n) = some (plR K CP CL f.X S.ks f.s)) (h3 : l (.kp n) = some (kpR K CP CK f.Y S.ks (keptSt (kOf f.s)))) (h4 : l (.mb n) = some (mbR K f.M (kOf f.s)))
    (h5 : l .lst = S.L.map fun L => lstR L ((S.F ++ [f]).map fun f => V.ref f.T))
    (h6 : ∀ k, k ≠ .tup n → k ≠ .pl n → k ≠ .kp n → k ≠ .mb n → k ≠ .lst → k ≠ .tmp → l k = ly K CP CL CK S k) :
    ∀ k r, ly K CP CL CK { S with F := S.F ++ [f] } k = some r → l k = some r := by
  intro k r h
  have at_ : ∀ j, (S.F ++ [f])[j]? = if j = n then some f else S.F[j]? := fun j => by
    subst hn
    by_cases e : j = S.F.length
    · rw [e, List.getElem?_append_right (Nat.le_refl _), Nat.sub_self, if_pos rfl]; rfl
    · rw [if_neg e]
      by_cases e2 : j < S.F.length
      · rw [List.getElem?_append_left e2]
      · rw [List.getElem?_eq_none (l := S.F ++ [f]) (by rw [List.length_append, List.length_singleton]; omega), List.getElem?_eq_none (by omega)]
  cases k with
  | sc => rw [h6 _ (by simp) (by simp) (by simp) (by simp) (by simp) (by simp)]; exact h
  | il => rw [h6 _ (by simp) (by simp) (by simp) (by simp) (by simp) (by simp)]; exact h
  | tl => rw [h6 _ (by simp) (by simp) (by simp) (by simp) (by simp) (by simp)]; exact h
  | pot => rw [h6 _ (by simp) (by simp) (by simp) (by simp) (by simp) (by simp)]; exact h
  | lst => rw [h5]; exact h
  | tmp => cases h
  | tup j =>
    have h : (S.F ++ [f])[j]?.map (fun f => tupR f.T [.ref f.X, .ref f.Y, .ref f.M]) = some r := h
    rw [at_] at h
    by_cases e : j = n
    · rw [if_pos e] at h; rw [e, h1]; exact h
    · rw [if_neg e] at h; rw [h6 _ (by simp [e]) (by simp) (by simp) (by simp) (by simp) (by simp)]; exact h
  | pl j =>
    have h : (S.F ++ [f])[j]?.map (fun f => plR K CP CL f.X S.ks f.s) = some r := h
    rw [at_] at h
    by_cases e : j = n
    · rw [if_pos e] at h; rw [e, h2]; exact h
    · rw [if_neg e] at h; rw [h6 _ (by simp) (by simp [e]) (by simp) (by simp) (by simp) (by simp)]; exact h
  | kp j =>
    have h : (S.F ++ [f])[j]?.map (fun f => kpR K CP CK f.Y S.ks (keptSt (kOf f.s))) = some r := h
    rw [at_] at h
    by_cases e : j = n
    · rw [if_pos e] at h; rw [e, h3]; exact h
    · rw [if_neg e] at h; rw [h6 _ (by simp) (by simp) (by simp [e]) (by simp) (by simp) (by simp)]; exact h
  | mb j =>
    have h : (S.F ++ [f])[j]?.map (fun f => mbR K f.M (kOf f.s)) = some r := h
    rw [at_] at h
    by_cases e : j = n
    · rw [if_pos e] at h; rw [e, h4]; exact h
    · rw [if_neg e] at h; rw [h6 _ (by simp) (by simp) (by simp) (by simp [e]) (by simp) (by simp)]; exact h
section
variable {S : S32} {i : Nat} {f : Tri}
theorem ly_tup (hi : S.F[i]? = some f) : ly K CP CL CK S (.tup i) = some (tupR f.T [.ref f.X, .ref f.Y, .ref f.M]) := by show S.F[i]?.map _ = _; rw [hi]; rfl
theorem ly_pl (hi : S.F[i]? = some f) : ly K CP CL CK S (.pl i) = some (plR K CP CL f.X S.ks f.s) := by show S.F[i]?.map _ = _; rw [hi]; rfl
theorem ly_kp (hi : S.F[i]? = some f) : ly K CP CL CK S (.kp i) = some (kpR K CP CK f.Y S.ks (keptSt (kOf f.s))) := by show S.F[i]?.map _ = _; rw [hi]; rfl
theorem ly_mb (hi : S.F[i]? = some f) : ly K CP CL CK S (.mb i) = some (mbR K f.M (kOf f.s)) := by show S.F[i]?.map _ = _; rw [hi]; rfl
end
end
end Y

set_option Elab.async false
set_option linter.all false
set_option maxRecDepth 100000
set_option maxHeartbeats 2000000
set_option exponentiation.threshold 600
/-! R4: two places with their models, several kept ones of the first (k37). -/
namespace Y
open PySem PySem.Spec PyProof.Rows L2
section
variable [Tb] {ι : Type} [DecidableEq ι] {l : ι → Option Rsc} {H H' : Hp}
/-- drawn, and something new -/
theorem Rs.drawNew {p : Addr} (c : Rs l H) {ip : ι} (hp : l ip = some (potR p)) (k : Kp (At p) H H') (pt : Pot H' p) (i : ι) (ni : i ≠ ip) (r' : Rsc) (f' : Addr → Prop) (h : ∀ Z, r'.h Z f' H') (hf : ∀ y, f' y → H y = none) : Rs (upl l i r') H' := by
  obtain ⟨Z, φ, c⟩ := c
  have ep : φ ip = At p := (c.hold ip _ hp).2
  refine ⟨Z, fun j => if j = i then f' else φ j, fun j q hj => ?_, fun j m q r hj hm ne y f1 f2 => ?_, fun j q hj y fy zy => ?_, fun y z e => c.zf y z (k.dom y e), k.tab c.tab⟩
  · by_cases e : j = i
    · subst e
      rw [upl_at] at hj
      cases hj
      rw [if_pos rfl]
      exact h Z
    · rw [upl_ne _ _ e] at hj
      rw [if_neg e]
      by_cases e2 : j = ip
      · subst e2
        rw [hp] at hj
        cases hj
        exact ⟨pt, ep⟩
      · exact q.stable (c.hold j q hj) k (fun y fy z => c.dj j ip q _ hj hp e2 y fy (by rw [ep]; exact z)) fun y zy z => c.nz ip _ hp y (by rw [ep]; exact z) zy
  · by_cases e : j = i
    · rw [if_pos e] at f1
      have e2 : m ≠ i := fun z => ne (e.trans z.symm)
      rw [upl_ne _ _ e2] at hm
      rw [if_neg e2] at f2
      exact c.full hm y f2 (hf y f1)
    · rw [upl_ne _ _ e] at hj
      rw [if_neg e] at f1
      by_cases e2 : m = i
      · rw [if_pos e2] at f2
        exact c.full hj y f1 (hf y f2)
      · rw [upl_ne _ _ e2] at hm
        rw [if_neg e2] at f2
        exact c.dj j m q r hj hm ne y f1 f2
  · by_cases e : j = i
    · rw [if_pos e] at fy
      exact c.zf y zy (hf y fy)
    · rw [upl_ne _ _ e] at hj
      rw [if_neg e] at fy
      exact c.nz j q hj y fy zy
/-- a model and the pot, a frozen thing and the pot are apart -/
theorem Rs.potMb {K : PySem.W.Frag} {p m : Addr} {s : Kst} {i j : ι} (c : Rs l H) (hp : l i = some (potR p)) (hm : l j = some (mbR K m s)) (ne : i ≠ j) : ∃ b : MbAddr, b.m = m ∧ MbAt K H b s ∧ ∀ y, Mm b y ∨ y ∈ b.ls → y ≠ p := by
  obtain ⟨Z, φ, cx⟩ := c
  have ep : φ i = At p := (cx.hold i _ hp).2
  obtain ⟨b, eb, pb, ef⟩ := cx.hold j _ hm
  exact ⟨b, eb, pb, fun y hy e => cx.dj i j _ _ hp hm ne y (by rw [ep, e] <;> rfl) (by rw [ef]; exact hy)⟩
theorem Rs.potLD {K : PySem.W.Frag} {p a : Addr} {ds : List PyData} {i j : ι} (c : Rs l H) (hp : l i = some (potR p)) (ha : l j = some (frz (lstD K a ds))) : a ≠ p := by
  obtain ⟨Z, φ, cx⟩ := c
  have ep : φ i = At p := (cx.hold i _ hp).2
  obtain ⟨⟨g, ⟨_, eg⟩, hz⟩, _⟩ := cx.hold j _ ha
  exact fun e => cx.nz i _ hp a (by rw [ep, e] <;> rfl) (hz a (by rw [eg] <;> rfl))
theorem Rs.potLF {p a : Addr} {vs : List V} {i j : ι} (c : Rs l H) (hp : l i = some (potR p)) (ha : l j = some (frz (lstR a vs))) : a ≠ p := by
  obtain ⟨Z, φ, cx⟩ := c
  have ep : φ i = At p := (cx.hold i _ hp).2
  obtain ⟨⟨g, ⟨_, eg⟩, hz⟩, _⟩ := cx.hold j _ ha
  exact fun e => cx.nz i _ hp a (by rw [ep, e] <;> rfl) (hz a (by rw [eg] <;> rfl))
/-- kept anew of a kept one -/
theorem Rs.kpK {K : PySem.W.Frag} {CP CK x : Addr} {ks : List Ink} {s : Kst} {j : ι} (c : Rs l H) (hi : l j = some (kpR K CP CK x ks s)) (i : ι) : ∃ a : KAddr, a.x = x ∧ KpAt K CP CK H a ks s ∧
    ∀ {b : KAddr} {t : Kst} {H' : Hp}, b.pl = a.pl → b.pd = a.pd → Kp No H H' → KpAt K CP CK H' b ks t → (∀ y, Fk b y → H y = none) → Rs (upl l i (kpR K CP CK b.x ks t)) H' := by
  obtain ⟨Z, φ, c0, put⟩ := c.new i
  obtain ⟨a, e, p, z1, z2, ef⟩ := c0.hold j _ hi
  refine ⟨a, e, p, fun {b t H'} e1 e2 k q hf => ?_⟩
  exact put (S := No) (kpR K CP CK b.x ks t) (Fk b) k (fun _ z => z.elim) ⟨b, rfl, q, e1 ▸ z1, e2 ▸ z2, rfl⟩ hf
end
inductive K7
  | sc | il | tl | pot | tmp | lst | tup | p0 | p1 | m0 | m1 | ko
  | kp (i : Nat)
deriving DecidableEq
/-- the first place with its model, the second one with its; kept ones of the first: addresses, states; the kept other one -/
structure S37 where
  sc : Addr
  il : Addr
  tl : Addr
  pot : Option Addr
  Lm : Option Addr
  To : Option Addr
  X0 : Addr
  M0 : Addr
  X1 : Addr
  M1 : Addr
  ns : List Int
  ks : List Ink
  ts : List Str
  p0 : Pst
  p1 : Option Pst
  m0 : Kst
  m1 : Option Kst
  ko : Option (Addr × Kst)
  n : Nat
  ya : Nat → Addr
  st : Nat → Kst
section
variable [Tb] {K : PySem.W.Frag} {CP CL CK : Addr} {S : S37}
def kl (S : S37) : List V := (List.range S.n).map fun i => V.ref (S.ya i)
def l7 (K : PySem.W.Frag) (CP CL CK : Addr) (S : S37) : K7 → Option Rsc
  | .sc => some (sqR K S.sc (S.ns.map V.int))
  | .il => some (frz (lstD K S.il (S.ks.map inkD)))
  | .tl => some (frz (lstR S.tl (S.ts.map V.str)))
  | .pot => S.pot.map potR
  | .tmp => none
  | .lst => S.Lm.map fun L => lstR L (kl S)
  | .tup => S.To.map fun T => tupR T [.ref S.X1, .ref S.M1]
  | .p0 => some (plR K CP CL S.X0 S.ks S.p0)
  | .p1 => S.p1.map fun s => plR K CP CL S.X1 S.ks s
  | .m0 => some (mbR K S.M0 S.m0)
  | .m1 => S.m1.map fun s => mbR K S.M1 s
  | .ko => S.ko.map fun z => kpR K CP CK z.1 S.ks z.2
  | .kp i => if i < S.n then some (kpR K CP CK (S.ya i) S.ks (S.st i)) else none
theorem l7_p0 (s : Pst) : upl (l7 K CP CL CK S) .p0 (plR K CP CL S.X0 S.ks s) = l7 K CP CL CK { S with p0 := s } := by funext k; cases k <;> rfl
theorem l7_m0 (s : Kst) : upl (l7 K CP CL CK S) .m0 (mbR K S.M0 s) = l7 K CP CL CK { S with m0 := s } := by funext k; cases k <;> rfl
theorem l7_p1 (s : Pst) : upl (l7 K CP CL CK S) .p1 (plR K CP CL S.X1 S.ks s) = l7 K CP CL CK { S with p1 := some s } := by funext k; cases k <;> rfl
theorem l7_m1 (s : Kst) : upl (l7 K CP CL CK S) .m1 (mbR K S.M1 s) = l7 K CP CL CK { S with m1 := some s } := by funext k; cases k <;> rfl
theorem l7_ko (x : Addr) (s : Kst) : upl (l7 K CP CL CK S) .ko (kpR K CP CK x S.ks s) = l7 K CP CL CK { S with ko := some (x, s) } := by funext k; cases k <;> rfl
theorem l7_pot (p : Addr) : upl (l7 K CP CL CK S) .pot (potR p) = l7 K CP CL CK { S with pot := some p } := by funext k; cases k <;> rfl
def upf {α : Type} (f : Nat → α) (i : Nat) (x : α) : Nat → α := fun j => if j = i then x else f j
theorem upf_at {α : Type} (f : Nat → α) (i : Nat) (x : α) : upf f i x i = x := if_pos rfl
theorem upf_ne {α : Type} (f : Nat → α) {i j : Nat} (x : α) (h : j ≠ i) : upf f i x j = f j := if_neg h
/-- one kept one is otherwise now -/
theorem l7_st {i : Nat} (hi : i < S.n) (s : Kst) : upl (l7 K CP CL CK S) (.kp i) (kpR K CP CK (S.ya i) S.ks s) = l7 K CP CL CK { S with st := upf S.st i s } := by
  funext k
  cases k with
  | kp j =>
    by_cases e : j = i
    · subst e
      rw [upl_at]
      show _ = if j < S.n then some (kpR K CP CK (S.ya j) S.ks (upf S.st j s j)) else none
      rw [if_pos hi, upf_at]
    · rw [upl_ne _ _ (by simp [e])]
      show (if j < S.n then some (kpR K CP CK (S.ya j) S.ks (S.st j)) else none) = if j < S.n then some (kpR K CP CK (S.ya j) S.ks (upf S.st i s j)) else none
      rw [upf_ne _ _ e]
  | _ => rfl
theorem l7_kp {i : Nat} (hi : i < S.n) : l7 K CP CL CK S (.kp i) = some (kpR K CP CK (S.ya i) S.ks (S.st i)) := if_pos hi
/-- states that agree where it counts -/
theorem l7_ext {S' : S37} (h : S' = { S with st := S'.st }) (e : ∀ i, i < S.n → S'.st i = S.st i) : l7 K CP CL CK S' = l7 K CP CL CK S := by
  rw [h]
  funext k
  cases k with
  | kp j =>
    show (if j < S.n then some (kpR K CP CK (S.ya j) S.ks (S'.st j)) else none) = if j < S.n then some (kpR K CP CK (S.ya j) S.ks (S.st j)) else none
    by_cases hj : j < S.n
    · rw [e j hj]
    · rw [if_neg hj, if_neg hj]
  | _ => rfl
/-- one is another object now -/
theorem l7_put {i : Nat} (hi : i < S.n) {L : Addr} (hL : S.Lm = some L) (x : Addr) (s : Kst) : upl (upl (l7 K CP CL CK S) (.kp i) (kpR K CP CK x S.ks s)) .lst (lstR L ((kl S).set i (.ref x))) = l7 K CP CL CK { S with ya := upf S.ya i x, st := upf S.st i s } := by
  have el : (kl S).set i (.ref x) = kl { S with ya := upf S.ya i x, st := upf S.st i s } := by
    unfold kl
    refine List.ext_getElem? fun j => ?_
    rw [List.getElem?_set, List.getElem?_map, List.getElem?_map, List.length_map, List.length_range]
    by_cases e : i = j
    · subst e
      rw [if_pos rfl, if_pos hi, List.getElem?_range hi]
      show _ = some (V.ref (upf S.ya i x i))
      rw [upf_at]
    · rw [if_neg e]
      by_cases hj : j < S.n
      · rw [List.getElem?_range hj]
        show some (V.ref (S.ya j)) = some (V.ref (upf S.ya i x j))
        rw [upf_ne _ _ (fun z => e z.symm)]
      · rw [List.getElem?_eq_none (by rw [List.length_range]; omega)]
        rfl
  funext k
  cases k with
  | lst =>
    rw [upl_at, el]
    show _ = S.Lm.map _
    rw [hL]
    rfl
  | kp j =>
    rw [upl_ne _ _ (by simp)]
    by_cases e : j = i
    · subst e
      rw [upl_at]
      show _ = if j < S.n then some (kpR K CP CK (upf S.ya j x j) S.ks (upf S.st j s j)) else none
      rw [if_pos hi, upf_at, upf_at]
    · rw [upl_ne _ _ (by simp [e])]
      show (if j < S.n then some (kpR K CP CK (S.ya j) S.ks (S.st j)) else none) = if j < S.n then some (kpR K CP CK (upf S.ya i x j) S.ks (upf S.st i s j)) else none
      rw [upf_ne _ _ e, upf_ne _ _ e]
  | _ => rfl
/-- one more -/
theorem l7_snoc {L : Addr} (hL : S.Lm = some L) (x : Addr) (s : Kst) : upl (upl (l7 K CP CL CK S) (.kp S.n) (kpR K CP CK x S.ks s)) .lst (lstR L (kl S ++ [.ref x])) = l7 K CP CL CK { S with n := S.n + 1, ya := upf S.ya S.n x, st := upf S.st S.n s } := by
  have el : kl S ++ [.ref x] = kl { S with n := S.n + 1, ya := upf S.ya S.n x, st := upf S.st S.n s } := by
    unfold kl
    show _ = (List.range (S.n + 1)).map fun i => V.ref (upf S.ya S.n x i)
    rw [List.range_succ, List.map_append]
    congr 1
    · refine List.map_congr_left fun j hj => ?_
      have := List.mem_range.mp hj
      rw [upf_ne _ _ (by omega)]
    · show [V.ref x] = [V.ref (upf S.ya S.n x S.n)]
      rw [upf_at]
  funext k
  cases k with
  | lst =>
    rw [upl_at, el]
    show _ = S.Lm.map _
    rw [hL]
    rfl
  | kp j =>
    rw [upl_ne _ _ (by simp)]
    by_cases e : j = S.n
    · subst e
      rw [upl_at]
      show _ = if S.n < S.n + 1 then some (kpR K CP CK (upf S.ya S.n x S.n) S.ks (upf S.st S.n s S.n)) else none
      rw [if_pos (by omega), upf_at, upf_at]
    · rw [upl_ne _ _ (by simp [e])]
      show (if j < S.n then some (kpR K CP CK (S.ya j) S.ks (S.st j)) else none) = if j < S.n + 1 then some (kpR K CP CK (upf S.ya S.n x j) S.ks (upf S.st S.n s j)) else none
      rw [upf_ne _ _ e, upf_ne _ _ e]
      by_cases hj : j < S.n
      · rw [if_pos hj, if_pos (by omega)]
      · rw [if_neg hj, if_neg (by omega)]
  | _ => rfl
theorem kl_get {i : Nat} (hi : i < S.n) : (kl S)[i]? = some (.ref (S.ya i)) := by
  unfold kl
  rw [List.getElem?_map, List.getElem?_range hi]
  rfl
theorem kl_len : (kl S).length = S.n := by unfold kl; rw [List.length_map, List.length_range]
end
end Y

set_option Elab.async false
set_option linter.all false
set_option maxRecDepth 100000
set_option maxHeartbeats 2000000
/-! NP: defs and methods called by their parameters' names alone, in any order. -/
namespace Y
open PySem PySem.Spec PyProof.Rows L2
/-- the values in the parameters' order -/
def prm {α : Type} (d : α) (π : List Nat) (ws : List α) : List α := π.map fun i => ws.getD i d
theorem prm_vals {zs : List V} {ws : List Value} (h : Vals zs ws) : ∀ π : List Nat, (∀ i ∈ π, i < zs.length) → Vals (prm .non π zs) (prm .none π ws)
  | [], _ => .nil
  | i :: π, hi => by
    have key : ∀ {zs : List V} {ws : List Value}, Vals zs ws → ∀ i, i < zs.length → RelV (zs.getD i .non) (ws.getD i .none) := fun {zs ws} h => by
      induction h with
      | nil => intro i hi; cases hi
      | cons r _ ih =>
        intro i hi
        cases i with
        | zero => exact r
        | succ i => exact ih i (Nat.lt_of_succ_lt_succ hi)
    exact .cons (key h i (hi i List.mem_cons_self)) (prm_vals h π fun j hj => hi j (List.mem_cons_of_mem _ hj))
section
variable {P : Program} {w : World} {K : PySem.W.Frag} {mg : Str → Option Value} {base : Heap} {k : Nat} {x m q : Str} {C : Addr} {sp : Sp} {ks : List Str} {π : List Nat}
def CalP (P : Program) (w : World) (K : PySem.W.Frag) (mg : Str → Option Value) (base : Heap) (k : Nat) (x : Str) (ks : List Str) (π : List Nat) (sp : Sp) : Prop :=
  ∃ f fd ps, FnG P w K mg base CX0 k f fd ps sp ∧ mg x = some (.ref f) ∧ PySem.W.keepIn K (.ref f) = true ∧ (∀ i ∈ π, i < ks.length) ∧ ∀ (s : Shared) (ws : List Value), ws.length = ks.length → BindsTo s fd ⟨[], ks.zip ws⟩ (ps.zip (prm .none π ws))
def CalXP (P : Program) (w : World) (K : PySem.W.Frag) (mg : Str → Option Value) (base : Heap) (k : Nat) (x : Str) (ks : List Str) (π : List Nat) (sp : Sp) : Prop :=
  ∃ f fd ps, FnG P w K mg base (L2.CX P w) k f fd ps sp ∧ mg x = some (.ref f) ∧ PySem.W.keepIn K (.ref f) = true ∧ (∀ i ∈ π, i < ks.length) ∧ ∀ (s : Shared) (ws : List Value), ws.length = ks.length → BindsTo s fd ⟨[], ks.zip ws⟩ (ps.zip (prm .none π ws))
def CalMP (P : Program) (w : World) (K : PySem.W.Frag) (mg : Str → Option Value) (base : Heap) (k : Nat) (C : Addr) (m : Str) (ks : List Str) (π : List Nat) (sp : Sp) : Prop :=
  ∃ f fd ps, FnG P w K mg base CX0 k f fd ps sp ∧ Cls K C ∧ Meth K C m f ∧ (∀ i ∈ π, i < ks.length) ∧ ∀ (s : Shared) (u : Value) (ws : List Value), ws.length = ks.length → BindsTo s fd ⟨[u], ks.zip ws⟩ (ps.zip (u :: prm .none π ws))
def CalMXP (P : Program) (w : World) (K : PySem.W.Frag) (mg : Str → Option Value) (base : Heap) (k : Nat) (C : Addr) (m : Str) (ks : List Str) (π : List Nat) (sp : Sp) : Prop :=
  ∃ f fd ps, FnG P w K mg base (L2.CX P w) k f fd ps sp ∧ Cls K C ∧ Meth K C m f ∧ (∀ i ∈ π, i < ks.length) ∧ ∀ (s : Shared) (u : Value) (ws : List Value), ws.length = ks.length → BindsTo s fd ⟨[u], ks.zip ws⟩ (ps.zip (u :: prm .none π ws))
theorem binds_of {st : Stmt} {f : Addr} {fd : FuncData} {kws : List (Str × V)} {args : Args} {L : List (Str × Value)} (F : FunD K m q (defArgs st) (defBody st) (defScope st) [] kws f fd) (hk : kws = [])
    (bnd : ∀ (kV doc pm : Value) (an : Option Addr) (cdv ct : Value), bindArgs (PySem.W.fnOf m q (defArgs st) (defBody st) (defScope st) .none kV doc pm an cdv ct) args = pure L) (s : Shared) : BindsTo s fd args L := by
  subst hk
  obtain ⟨oc, od, dV, kV, doc, pm, an, cdv, ct, osl, rfl, lk, hcd, hD, hK⟩ := F.ex
  rcases hD with ⟨_, rfl⟩ | ⟨e, _⟩
  · exact .of_eq (bnd kV doc pm an cdv ct)
  · exact absurd rfl e
theorem calP_of {st : Stmt} {N ps : List Str} (D : DefAt K mg x st) (S : FnScope N ps (defScope st)) (ks : List Str) (π : List Nat) (hπ : ∀ i ∈ π, i < ks.length)
    (bnd : ∀ (kV doc pm : Value) (an : Option Addr) (cdv ct : Value) (ws : List Value), ws.length = ks.length → bindArgs (PySem.W.fnOf x x (defArgs st) (defBody st) (defScope st) .none kV doc pm an cdv ct) ⟨[], ks.zip ws⟩ = pure (ps.zip (prm .none π ws)))
    (ar : ∀ vs H Q E, sp vs H Q E → vs.length = ps.length)
    (hb : ∀ (f : Addr) (cd : Value) (A : Around) (out : List Env) (s : Shared) (H : Hp) (vs : List V) (Q : VK) (E : XK), Room k (A.deeper (envOfC x (defScope st) s.heap.objs.size f cd)) → (A.deeper (envOfC x (defScope st) s.heap.objs.size f cd)).guards = some [] → sp vs H Q E →
      ∃ t, PSs (cxOf CX0 P w K mg base N x (defScope st) f cd A out s H E).nox (defBody st) t ∧ t { nx := fun _ H' => Q .non H', rt := Q } (start N vs) H) : CalP P w K mg base (k + 1) x ks π sp := by
  obtain ⟨f, fd, F, hm⟩ := D
  refine ⟨f, fd, ps, funD_goes F S ar fun cd A out s H vs Q E r g q => ?_, hm, F.kp, hπ, fun s ws l => binds_of F rfl (fun kV doc pm an cdv ct => bnd kV doc pm an cdv ct ws l) s⟩
  obtain ⟨t, h1, h2⟩ := hb f cd A out s H vs Q E r g q
  exact ⟨t, h1.nox, h2⟩
theorem calXP_of {st : Stmt} {N ps : List Str} (D : DefAt K mg x st) (S : FnScope N ps (defScope st)) (ks : List Str) (π : List Nat) (hπ : ∀ i ∈ π, i < ks.length)
    (bnd : ∀ (kV doc pm : Value) (an : Option Addr) (cdv ct : Value) (ws : List Value), ws.length = ks.length → bindArgs (PySem.W.fnOf x x (defArgs st) (defBody st) (defScope st) .none kV doc pm an cdv ct) ⟨[], ks.zip ws⟩ = pure (ps.zip (prm .none π ws)))
    (ar : ∀ vs H Q E, sp vs H Q E → vs.length = ps.length)
    (hb : ∀ (f : Addr) (cd : Value) (A : Around) (out : List Env) (s : Shared) (H : Hp) (vs : List V) (Q : VK) (E : XK), Room k (A.deeper (envOfC x (defScope st) s.heap.objs.size f cd)) → (A.deeper (envOfC x (defScope st) s.heap.objs.size f cd)).guards = some [] → Takes (cxOf (L2.CX P w) P w K mg base N x (defScope st) f cd A out s H E) (fun cls d _ H => E cls d H) → sp vs H Q E →
      ∃ t, PSs (cxOf (L2.CX P w) P w K mg base N x (defScope st) f cd A out s H E) (defBody st) t ∧ t { nx := fun _ H' => Q .non H', rt := Q } (start N vs) H) : CalXP P w K mg base (k + 1) x ks π sp := by
  obtain ⟨f, fd, F, hm⟩ := D
  exact ⟨f, fd, ps, funD_goes F S ar fun cd A out s H vs Q E r g z => hb f cd A out s H vs Q E r g (takes_of rfl rfl rfl rfl) z, hm, F.kp, hπ, fun s ws l => binds_of F rfl (fun kV doc pm an cdv ct => bnd kV doc pm an cdv ct ws l) s⟩
theorem calMP_of {st : Stmt} {N ps : List Str} (D : MetAt K C m q st) (c : Cls K C) (S : FnScope N ps (defScope st)) (ks : List Str) (π : List Nat) (hπ : ∀ i ∈ π, i < ks.length)
    (bnd : ∀ (kV doc pm : Value) (an : Option Addr) (cdv ct : Value) (u : Value) (ws : List Value), ws.length = ks.length → bindArgs (PySem.W.fnOf m q (defArgs st) (defBody st) (defScope st) .none kV doc pm an cdv ct) ⟨[u], ks.zip ws⟩ = pure (ps.zip (u :: prm .none π ws)))
    (ar : ∀ vs H Q E, sp vs H Q E → vs.length = ps.length)
    (hb : ∀ (f : Addr) (cd : Value) (A : Around) (out : List Env) (s : Shared) (H : Hp) (vs : List V) (Q : VK) (E : XK), Room k (A.deeper (envOfC q (defScope st) s.heap.objs.size f cd)) → (A.deeper (envOfC q (defScope st) s.heap.objs.size f cd)).guards = some [] → sp vs H Q E →
      ∃ t, PSs (cxOf CX0 P w K mg base N q (defScope st) f cd A out s H E).nox (defBody st) t ∧ t { nx := fun _ H' => Q .non H', rt := Q } (start N vs) H) : CalMP P w K mg base (k + 1) C m ks π sp := by
  obtain ⟨f, fd, F, hm⟩ := D
  exact ⟨f, fd, ps, body_of F S ar hb, c, hm, hπ, fun s u ws l => binds_of F rfl (fun kV doc pm an cdv ct => bnd kV doc pm an cdv ct u ws l) s⟩
theorem calMXP_of {st : Stmt} {N ps : List Str} (D : MetAt K C m q st) (c : Cls K C) (S : FnScope N ps (defScope st)) (ks : List Str) (π : List Nat) (hπ : ∀ i ∈ π, i < ks.length)
    (bnd : ∀ (kV doc pm : Value) (an : Option Addr) (cdv ct : Value) (u : Value) (ws : List Value), ws.length = ks.length → bindArgs (PySem.W.fnOf m q (defArgs st) (defBody st) (defScope st) .none kV doc pm an cdv ct) ⟨[u], ks.zip ws⟩ = pure (ps.zip (u :: prm .none π ws)))
    (ar : ∀ vs H Q E, sp vs H Q E → vs.length = ps.length)
    (hb : ∀ (f : Addr) (cd : Value) (A : Around) (out : List Env) (s : Shared) (H : Hp) (vs : List V) (Q : VK) (E : XK), Room k (A.deeper (envOfC q (defScope st) s.heap.objs.size f cd)) → (A.deeper (envOfC q (defScope st) s.heap.objs.size f cd)).guards = some [] → Takes (cxOf (L2.CX P w) P w K mg base N q (defScope st) f cd A out s H E) (fun cls d _ H => E cls d H) → sp vs H Q E →
      ∃ t, PSs (cxOf (L2.CX P w) P w K mg base N q (defScope st) f cd A out s H E) (defBody st) t ∧ t { nx := fun _ H' => Q .non H', rt := Q } (start N vs) H) : CalMXP P w K mg base (k + 1) C m ks π sp := by
  obtain ⟨f, fd, F, hm⟩ := D
  exact ⟨f, fd, ps, funD_goes F S ar fun cd A out s H vs Q E r g z => hb f cd A out s H vs Q E r g (takes_of rfl rfl rfl rfl) z, c, hm, hπ, fun s u ws l => binds_of F rfl (fun kV doc pm an cdv ct => bnd kV doc pm an cdv ct u ws l) s⟩
end
section
variable {X : Cx} {k j : Nat} {C : Addr} {m x : Str} {sp : Sp} {p pos apos : Pos} {o : Expr} {ta : TE} {tk : TA} {ks : List Str} {kws : List Keyword} {π : List Nat} {W : WX}
def yCallP (n : Nat) (π : List Nat) (sp : Sp) (tk : TA) : TE := fun σ H Q => tk σ H fun zs H2 => zs.length = n ∧ sp (prm .non π zs) H2 Q E0
def yCallXP (n : Nat) (π : List Nat) (sp : Sp) (W : WX) (tk : TA) : TE := fun σ H Q => tk σ H fun zs H2 => zs.length = n ∧ sp (prm .non π zs) H2 Q (WE W σ)
def yMethP (C : Addr) (m : Str) (n : Nat) (π : List Nat) (sp : Sp) (ta : TE) (tk : TA) : TE := fun σ H Q => ta σ H fun x H1 => match x with
  | .ref a => ∃ dx fs, H1 a = some (.ins C dx fs) ∧ fs.lookup m = none ∧ tk σ H1 fun zs H2 => zs.length = n ∧ sp (.ref a :: prm .non π zs) H2 Q E0
  | _ => False
def yMethXP (C : Addr) (m : Str) (n : Nat) (π : List Nat) (sp : Sp) (W : WX) (ta : TE) (tk : TA) : TE := fun σ H Q => ta σ H fun x H1 => match x with
  | .ref a => ∃ dx fs, H1 a = some (.ins C dx fs) ∧ fs.lookup m = none ∧ tk σ H1 fun zs H2 => zs.length = n ∧ sp (.ref a :: prm .non π zs) H2 Q (WE W σ)
  | _ => False
theorem goes_P {f : Addr} {fd : FuncData} {ps : List Str} {pins : List (Addr × Obj)} {σ : L2.St} {H : Hp} {s : Shared} {Q : VK} {args : Args} {us : List Value} {vs : List V} (F : FnG X.prog X.w X.K X.mg X.base CX0 k f fd ps sp) (room : Room k X.A) (gd : X.A.guards = some [])
    (b : BindsTo s fd args (ps.zip us)) (I : Inv X pins σ H s) (rel : Vals vs us) (want : sp vs H Q E0) : wpAny (model X.prog X.w) X.A (call (.ref f) args.pos args.kw) (EP X pins σ Q) X.xe s := by
  refine wpAny_call (codeAny_mono (F.goes X.A X.stack s H ⟨args.pos, args.kw⟩ us vs Q E0 room gd I.env0 b rel want) ?_)
  intro rr s' hq
  cases rr with
  | error er => exact pass0 pins σ H s er s' I hq
  | ok fl =>
    cases fl with
    | ret u => exact I.after hq
    | next => exact hq.elim
    | brk => exact hq.elim
    | cont => exact hq.elim
theorem goes_XP {f : Addr} {fd : FuncData} {ps : List Str} {pins : List (Addr × Obj)} {σ : L2.St} {H : Hp} {s : Shared} {Q : VK} {args : Args} {us : List Value} {vs : List V} (F : FnG X.prog X.w X.K X.mg X.base (L2.CX X.prog X.w) k f fd ps sp) (room : Room k X.A) (gd : X.A.guards = some [])
    (b : BindsTo s fd args (ps.zip us)) (tk : Takes X W) (I : Inv X pins σ H s) (rel : Vals vs us) (want : sp vs H Q (WE W σ)) : wpAny (model X.prog X.w) X.A (call (.ref f) args.pos args.kw) (EP X pins σ Q) X.xe s := by
  refine wpAny_call (codeAny_mono (F.goes X.A X.stack s H ⟨args.pos, args.kw⟩ us vs Q (WE W σ) room gd I.env0 b rel want) ?_)
  intro r s' hq
  match r, hq with
  | .error er, hq => exact passAt tk σ pins H s er s' I hq
  | .ok (.ret u), hq => exact I.after hq
  | .ok .next, hq => exact hq.elim
  | .ok .brk, hq => exact hq.elim
  | .ok .cont, hq => exact hq.elim
theorem ye_callP (c : CalP X.prog X.w X.K X.mg X.base k x ks π sp) (room : Room j X.A) (gd : X.A.guards = some []) (hg : Gl X x) (hkw : PK X kws tk) (hk : k ≤ j := by decide) (hdb : (x == ("__debug__" : Str)) = false := by decide)
    (hall : (backToKw pos (keywordEach kws X.env)).all (·.1.isSome) = true := by rfl) (hks : (backToKw pos (keywordEach kws X.env)).filterMap (·.1) = ks := by rfl)
    (hpl : ((backTo pos (starEach [] X.env)).any (·.1) || (backToKw pos (keywordEach kws X.env)).any (·.1.isNone)) = false := by rfl) :
    PE X (.Call (.Name x p) [] kws pos) (yCallP ks.length π sp tk) := by
  obtain ⟨f, fd, ps, F, hm, kp, hπ, hb⟩ := c
  constructor
  intro pins s σ H Q I h
  refine wpAny_Call_Name_kw (ld_glob I hg hm ?_ hdb)
  refine PySem.W.callWith_KW0 (h₀ := X.base) I.ok.mod.kin kp hall (thn (hkw.run pos pins s σ H _ I h) fun ws s2 ⟨zs, H2, I2, rz, l1, q2⟩ => ⟨I2.kIn, ?_⟩) hpl
  rw [hks]
  exact goes_P (args := ⟨[], ks.zip ws⟩) (F.up hk) room gd (hb s2 ws (rz.length ▸ l1)) I2 (prm_vals rz π (by rw [l1]; exact hπ)) q2
theorem ye_callXP (tkk : Takes X W) (c : CalXP X.prog X.w X.K X.mg X.base k x ks π sp) (room : Room j X.A) (gd : X.A.guards = some []) (hg : Gl X x) (hkw : PK X kws tk) (hk : k ≤ j := by decide) (hdb : (x == ("__debug__" : Str)) = false := by decide)
    (hall : (backToKw pos (keywordEach kws X.env)).all (·.1.isSome) = true := by rfl) (hks : (backToKw pos (keywordEach kws X.env)).filterMap (·.1) = ks := by rfl)
    (hpl : ((backTo pos (starEach [] X.env)).any (·.1) || (backToKw pos (keywordEach kws X.env)).any (·.1.isNone)) = false := by rfl) :
    PE X (.Call (.Name x p) [] kws pos) (yCallXP ks.length π sp W tk) := by
  obtain ⟨f, fd, ps, F, hm, kp, hπ, hb⟩ := c
  constructor
  intro pins s σ H Q I h
  refine wpAny_Call_Name_kw (ld_glob I hg hm ?_ hdb)
  refine PySem.W.callWith_KW0 (h₀ := X.base) I.ok.mod.kin kp hall (thn (hkw.run pos pins s σ H _ I h) fun ws s2 ⟨zs, H2, I2, rz, l1, q2⟩ => ⟨I2.kIn, ?_⟩) hpl
  rw [hks]
  exact goes_XP (args := ⟨[], ks.zip ws⟩) (F.up hk) room gd (hb s2 ws (rz.length ▸ l1)) tkk I2 (prm_vals rz π (by rw [l1]; exact hπ)) q2
theorem ye_methP {pl : Sem Bool} (c : CalMP X.prog X.w X.K X.mg X.base k C m ks π sp) (room : Room j X.A) (gd : X.A.guards = some []) (he : PE X o ta) (hkw : PK X kws tk) (hk : k ≤ j := by decide)
    (hall : (backToKw pos (keywordEach kws X.env)).all (·.1.isSome) = true := by rfl) (hks : (backToKw pos (keywordEach kws X.env)).filterMap (·.1) = ks := by rfl)
    (hpl : ((backTo pos (starEach [] X.env)).any (·.1) || (backToKw pos (keywordEach kws X.env)).any (·.1.isNone)) = false := by rfl)
    (ht : eval (.Call (.Attribute o m apos) [] kws pos) X.env = (do
      let ov ← eval o X.env
      standAt apos.atName
      let (g, one) ← holding [ov] (getMethod ov m pl)
      callWith pos g one (backTo pos (starEach [] X.env)) (backToKw pos (keywordEach kws X.env))) := by rfl) :
    PE X (.Call (.Attribute o m apos) [] kws pos) (yMethP C m ks.length π sp ta tk) := by
  obtain ⟨g, fd, ps, F, cl, hm, hπ, hb⟩ := c
  constructor
  intro pins s σ H Q I h
  refine PySem.W.methodCall_KW (pl := pl) (thn (he.run pins s σ H _ I h) ?_) ht
  rintro u s1 ⟨x, H1, I1, rx, q⟩
  cases x with
  | ref a =>
    obtain ⟨dx, fs, ea, l, q⟩ := q
    obtain rfl : u = Value.ref a := rx
    refine getmeth_ok I1 ea cl hm l (PySem.W.callWith_KW0 (first := [.ref a]) (h₀ := X.base) I.ok.mod.kin hm.kp hall (thn (hkw.run pos pins s1 σ H1 _ I1 q) fun ws s2 ⟨zs, H2, I2, rz, l1, q2⟩ => ⟨I2.kIn, ?_⟩) hpl)
    rw [hks]
    exact goes_P (args := ⟨[.ref a], ks.zip ws⟩) (F.up hk) room gd (hb s2 (.ref a) ws (rz.length ▸ l1)) I2 (vs := .ref a :: prm .non π zs) (.cons rfl (prm_vals rz π (by rw [l1]; exact hπ))) q2
  | _ => exact q.elim
theorem ye_methXP {pl : Sem Bool} (tkk : Takes X W) (c : CalMXP X.prog X.w X.K X.mg X.base k C m ks π sp) (room : Room j X.A) (gd : X.A.guards = some []) (he : PE X o ta) (hkw : PK X kws tk) (hk : k ≤ j := by decide)
    (hall : (backToKw pos (keywordEach kws X.env)).all (·.1.isSome) = true := by rfl) (hks : (backToKw pos (keywordEach kws X.env)).filterMap (·.1) = ks := by rfl)
    (hpl : ((backTo pos (starEach [] X.env)).any (·.1) || (backToKw pos (keywordEach kws X.env)).any (·.1.isNone)) = false := by rfl)
    (ht : eval (.Call (.Attribute o m apos) [] kws pos) X.env = (do
      let ov ← eval o X.env
      standAt apos.atName
      let (g, one) ← holding [ov] (getMethod ov m pl)
      callWith pos g one (backTo pos (starEach [] X.env)) (backToKw pos (keywordEach kws X.env))) := by rfl) :
    PE X (.Call (.Attribute o m apos) [] kws pos) (yMethXP C m ks.length π sp W ta tk) := by
  obtain ⟨g, fd, ps, F, cl, hm, hπ, hb⟩ := c
  constructor
  intro pins s σ H Q I h
  refine PySem.W.methodCall_KW (pl := pl) (thn (he.run pins s σ H _ I h) ?_) ht
  rintro u s1 ⟨x, H1, I1, rx, q⟩
  cases x with
  | ref a =>
    obtain ⟨dx, fs, ea, l, q⟩ := q
    obtain rfl : u = Value.ref a := rx
    refine getmeth_ok I1 ea cl hm l (PySem.W.callWith_KW0 (first := [.ref a]) (h₀ := X.base) I.ok.mod.kin hm.kp hall (thn (hkw.run pos pins s1 σ H1 _ I1 q) fun ws s2 ⟨zs, H2, I2, rz, l1, q2⟩ => ⟨I2.kIn, ?_⟩) hpl)
    rw [hks]
    exact goes_XP (args := ⟨[.ref a], ks.zip ws⟩) (F.up hk) room gd (hb s2 (.ref a) ws (rz.length ▸ l1)) tkk I2 (vs := .ref a :: prm .non π zs) (.cons rfl (prm_vals rz π (by rw [l1]; exact hπ))) q2
  | _ => exact q.elim
end
end Y

set_option Elab.async false
set_option linter.all false
set_option maxRecDepth 100000
set_option maxHeartbeats 2000000
set_option exponentiation.threshold 600
/-! R5: kept places with their models, in tuples in a list (k33). -/
namespace Y
open PySem PySem.Spec PyProof.Rows L2
structure Duo3 where
  T : Addr
  Y : Addr
  M : Addr
  s : Kst
structure S33 where
  sc : Addr
  il : Addr
  tl : Addr
  L : Option Addr
  pot : Option Addr
  ns : List Int
  ks : List Ink
  ts : List Str
  F : List Duo3
section
variable [Tb] {K : PySem.W.Frag} {CP CK : Addr}
def l3 (K : PySem.W.Frag) (CP CK : Addr) (S : S33) : Ky → Option Rsc
  | .sc => some (sqR K S.sc (S.ns.map V.int))
  | .il => some (frz (lstD K S.il (S.ks.map inkD)))
  | .tl => some (frz (lstR S.tl (S.ts.map V.str)))
  | .lst => S.L.map fun L => lstR L (S.F.map fun f => V.ref f.T)
  | .pot => S.pot.map potR
  | .tmp => none
  | .tup i => S.F[i]?.map fun f => tupR f.T [.ref f.Y, .ref f.M]
  | .pl _ => none
  | .kp i => S.F[i]?.map fun f => kpR K CP CK f.Y S.ks (keptSt f.s)
  | .mb i => S.F[i]?.map fun f => mbR K f.M f.s
/-- one of them is another one now -/
theorem l3_put {S : S33} {i : Nat} {f f' : Duo3} {l : Ky → Option Rsc} (hi : S.F[i]? = some f)
    (h1 : l (.tup i) = some (tupR f'.T [.ref f'.Y, .ref f'.M])) (h3 : l (.kp i) = some (kpR K CP CK f'.Y S.ks (keptSt f'.s))) (h4 : l (.mb i) = some (mbR K f'.M f'.s))
    (h5 : l .lst = S.L.map fun L => lstR L ((S.F.set i f').map fun f => V.ref f.T))
    (h6 : ∀ k, k ≠ .tup i → k ≠ .pl i → k ≠ .kp i → k ≠ .mb i → k ≠ .lst → k ≠ .tmp → l k = l3 K CP CK S k) :
    ∀ k r, l3 K CP CK { S with F := S.F.set i f' } k = some r → l k = some r := by
  have hl : i < S.F.length := (List.getElem?_eq_some_iff.mp hi).1
  intro k r h
  have at_ : ∀ j, (S.F.set i f')[j]? = if j = i then some f' else S.F[j]? := fun j => by
    by_cases e : j = i
    · rw [e, List.getElem?_set_self hl, if_pos rfl]
    · rw [List.getElem?_set_ne (fun z => e z.symm), if_neg e]
  cases k with
  | sc => rw [h6 _ (by simp) (by simp) (by simp) (by simp) (by simp) (by simp)]; exact h
  | il => rw [h6 _ (by simp) (by simp) (by simp) (by simp) (by simp) (by simp)]; exact h
  | tl => rw [h6 _ (by simp) (by simp) (by simp) (by simp) (by simp) (by simp)]; exact h
  | pot => rw [h6 _ (by simp) (by simp) (by simp) (by simp) (by simp) (by simp)]; exact h
  | lst => rw [h5]; exact h
  | tmp => cases h
  | tup j =>
    have h : (S.F.set i f')[j]?.map (fun f => tupR f.T [.ref f.Y, .ref f.M]) = some r := h
    rw [at_] at h
    by_cases e : j = i
    · rw [if_pos e] at h; rw [e, h1]; exact h
    · rw [if_neg e] at h; rw [h6 _ (by simp [e]) (by simp) (by simp) (by simp) (by simp) (by simp)]; exact h
  | pl j => cases h
  | kp j =>
    have h : (S.F.set i f')[j]?.map (fun f => kpR K CP CK f.Y S.ks (keptSt f.s)) = some r := h
    rw [at_] at h
    by_cases e : j = i
    · rw [if_pos e] at h; rw [e, h3]; exact h
    · rw [if_neg e] at h; rw [h6 _ (by simp) (by simp) (by simp [e]) (by simp) (by simp) (by simp)]; exact h
  | mb j =>
    have h : (S.F.set i f')[j]?.map (fun f => mbR K f.M f.s) = some r := h
    rw [at_] at h
    by_cases e : j = i
    · rw [if_pos e] at h; rw [e, h4]; exact h
    · rw [if_neg e] at h; rw [h6 _ (by simp) (by simp) (by simp) (by simp [e]) (by simp) (by simp)]; exact h
/-- one more -/
theorem l3_snoc {S : S33} {f : Duo3} {l : Ky → Option Rsc} (n : Nat) (hn : S.F.length = n)
    (h1 : l (.tup n) = some (tupR f.T [.ref f.Y, .ref f.M])) (h3 : l (.kp n) = some (kpR K CP CK f.Y S.ks (keptSt f.s))) (h4 : l (.mb n) = some (mbR K f.M f.s))
    (h5 : l .lst = S.L.map fun L => lstR L ((S.F ++ [f]).map fun f => V.ref f.T))
    (h6 : ∀ k, k ≠ .tup n → k ≠ .pl n → k ≠ .kp n → k ≠ .mb n → k ≠ .lst → k ≠ .tmp → l k = l3 K CP CK S k) :
    ∀ k r, l3 K CP CK { S with F := S.F ++ [f] } k = some r → l k = some r := by
  intro k r h
  have at_ : ∀ j, (S.F ++ [f])[j]? = if j = n then some f else S.F[j]? := fun j => by
    subst hn
    by_cases e : j = S.F.length
    · rw [e, List.getElem?_append_right (Nat.le_refl _), Nat.sub_self, if_pos rfl]; rfl
    · rw [if_neg e]
      by_cases e2 : j < S.F.length
      · rw [List.getElem?_append_left e2]
      · rw [List.getElem?_eq_none (l := S.F ++ [f]) (by rw [List.length_append, List.length_singleton]; omega), List.getElem?_eq_none (by omega)]
  cases k with
  | sc => rw [h6 _ (by simp) (by simp) (by simp) (by simp) (by simp) (by simp)]; exact h
  | il => rw [h6 _ (by simp) (by simp) (by simp) (by simp) (by simp) (by simp)]; exact h
  | tl => rw [h6 _ (by simp) (by simp) (by simp) (by simp) (by simp) (by simp)]; exact h
  | pot => rw [h6 _ (by simp) (by simp) (by simp) (by simp) (by simp) (by simp)]; exact h
  | lst => rw [h5]; exact h
  | tmp => cases h
  | tup j =>
    have h : (S.F ++ [f])[j]?.map (fun f => tupR f.T [.ref f.Y, .ref f.M]) = some r := h
    rw [at_] at h
    by_cases e : j = n
    · rw [if_pos e] at h; rw [e, h1]; exact h
    · rw [if_neg e] at h; rw [h6 _ (by simp [e]) (by simp) (by simp) (by simp) (by simp) (by simp)]; exact h
  | pl j => cases h
  | kp j =>
    have h : (S.F ++ [f])[j]?.map (fun f => kpR K CP CK f.Y S.ks (keptSt f.s)) = some r := h
    rw [at_] at h
    by_cases e : j = n
    · rw [if_pos e] at h; rw [e, h3]; exact h
    · rw [if_neg e] at h; rw [h6 _ (by simp) (by simp) (by simp [e]) (by simp) (by simp) (by simp)]; exact h
  | mb j =>
    have h : (S.F ++ [f])[j]?.map (fun f => mbR K f.M f.s) = some r := h
    rw [at_] at h
    by_cases e : j = n
    · rw [if_pos e] at h; rw [e, h4]; exact h
    · rw [if_neg e] at h; rw [h6 _ (by simp) (by simp) (by simp) (by simp [e]) (by simp) (by simp)]; exact h
section
variable {S : S33} {i : Nat} {f : Duo3}
theorem l3_tup (hi : S.F[i]? = some f) : l3 K CP CK S (.tup i) = some (tupR f.T [.ref f.Y, .ref f.M]) := by show S.F[i]?.map _ = _; rw [hi]; rfl
theorem l3_kp (hi : S.F[i]? = some f) : l3 K CP CK S (.kp i) = some (kpR K CP CK f.Y S.ks (keptSt f.s)) := by show S.F[i]?.map _ = _; rw [hi]; rfl
theorem l3_mb (hi : S.F[i]? = some f) : l3 K CP CK S (.mb i) = some (mbR K f.M f.s) := by show S.F[i]?.map _ = _; rw [hi]; rfl
end
end
end Y

set_option Elab.async false
set_option linter.all false
set_option maxRecDepth 100000
set_option maxHeartbeats 2000000
/-! XN: what may raise, its exceptions known to have no context (HandS.ExcCtx): X1's and X2's rules once more; an except suite where names are set side by side. -/
namespace Y
open PySem PySem.Spec PyProof.Rows L2
section
variable {P : Program} {w : World} {K : PySem.W.Frag} {mg : Str → Option Value} {base : Heap} {k : Nat} {C : Addr} {m q x f : Str} {sp : Sp}
def CalXN (P : Program) (w : World) (K : PySem.W.Frag) (mg : Str → Option Value) (base : Heap) (k : Nat) (x : Str) (sp : Sp) : Prop :=
  ∃ f fd ps, FnG P w K mg base (L2N.CX P w) k f fd ps sp ∧ mg x = some (.ref f) ∧ PySem.W.keepIn K (.ref f) = true ∧ Binds K fd ps []
def CalMXN (P : Program) (w : World) (K : PySem.W.Frag) (mg : Str → Option Value) (base : Heap) (k : Nat) (C : Addr) (m : Str) (sp : Sp) : Prop :=
  ∃ f fd ps, FnG P w K mg base (L2N.CX P w) k f fd ps sp ∧ Cls K C ∧ Meth K C m f ∧ Binds K fd ps []
theorem calXN_of {st : Stmt} {N ps : List Str} (D : DefAt K mg x st) (S : FnScope N ps (defScope st))
    (bnd : ∀ (kV doc pm : Value) (an : Option Addr) (cdv ct : Value) (us : List Value), us.length = ps.length → bindArgs (PySem.W.fnOf x x (defArgs st) (defBody st) (defScope st) .none kV doc pm an cdv ct) ⟨us, []⟩ = pure (ps.zip us))
    (ar : ∀ vs H Q E, sp vs H Q E → vs.length = ps.length)
    (hb : ∀ (f : Addr) (cd : Value) (A : Around) (out : List Env) (s : Shared) (H : Hp) (vs : List V) (Q : VK) (E : XK), Room k (A.deeper (envOfC x (defScope st) s.heap.objs.size f cd)) → (A.deeper (envOfC x (defScope st) s.heap.objs.size f cd)).guards = some [] → L2N.Takes (cxOf (L2N.CX P w) P w K mg base N x (defScope st) f cd A out s H E) (fun cls d _ H => E cls d H) → sp vs H Q E →
      ∃ t, PSs (cxOf (L2N.CX P w) P w K mg base N x (defScope st) f cd A out s H E) (defBody st) t ∧ t { nx := fun _ H' => Q .non H', rt := Q } (start N vs) H) : CalXN P w K mg base (k + 1) x sp := by
  obtain ⟨f, fd, F, hm⟩ := D
  exact ⟨f, fd, ps, funD_goes F S ar fun cd A out s H vs Q E r g z => hb f cd A out s H vs Q E r g (L2N.takes_of rfl rfl rfl rfl) z, hm, F.kp, F.bindsN bnd⟩
theorem calMXN_of {st : Stmt} {N ps : List Str} (D : MetAt K C m q st) (c : Cls K C) (S : FnScope N ps (defScope st))
    (bnd : ∀ (kV doc pm : Value) (an : Option Addr) (cdv ct : Value) (us : List Value), us.length = ps.length → bindArgs (PySem.W.fnOf m q (defArgs st) (defBody st) (defScope st) .none kV doc pm an cdv ct) ⟨us, []⟩ = pure (ps.zip us))
    (ar : ∀ vs H Q E, sp vs H Q E → vs.length = ps.length)
    (hb : ∀ (f : Addr) (cd : Value) (A : Around) (out : List Env) (s : Shared) (H : Hp) (vs : List V) (Q : VK) (E : XK), Room k (A.deeper (envOfC q (defScope st) s.heap.objs.size f cd)) → (A.deeper (envOfC q (defScope st) s.heap.objs.size f cd)).guards = some [] → L2N.Takes (cxOf (L2N.CX P w) P w K mg base N q (defScope st) f cd A out s H E) (fun cls d _ H => E cls d H) → sp vs H Q E →
      ∃ t, PSs (cxOf (L2N.CX P w) P w K mg base N q (defScope st) f cd A out s H E) (defBody st) t ∧ t { nx := fun _ H' => Q .non H', rt := Q } (start N vs) H) : CalMXN P w K mg base (k + 1) C m sp := by
  obtain ⟨f, fd, F, hm⟩ := D
  exact ⟨f, fd, ps, funD_goes F S ar fun cd A out s H vs Q E r g z => hb f cd A out s H vs Q E r g (L2N.takes_of rfl rfl rfl rfl) z, c, hm, F.bindsN bnd⟩
end
section
variable {X : Cx} {k j : Nat} {C : Addr} {m x : Str} {sp : Sp} {p pos apos : Pos} {e o : Expr} {es : List Expr} {ta : TE} {t : TA} {W : WX}
theorem goes_fnXN {f : Addr} {fd : FuncData} {ps : List Str} {pins : List (Addr × Obj)} {σ : L2.St} {H : Hp} {s : Shared} {Q : VK} {us : List Value} {vs : List V} (F : FnG X.prog X.w X.K X.mg X.base (L2N.CX X.prog X.w) k f fd ps sp) (room : Room k X.A) (gd : X.A.guards = some [])
    (hb : Binds X.K fd ps []) (tk : L2N.Takes X W) (I : Inv X pins σ H s) (rel : Vals vs us) (want : sp vs H Q (WE W σ)) : wpAny (model X.prog X.w) X.A (call (.ref f) us) (EP X pins σ Q) X.xe s := by
  have ln : us.length = ps.length := rel.length ▸ F.arity _ _ _ _ want
  have b := hb s us I.kIn (by rw [List.append_nil]; exact ln)
  rw [List.append_nil] at b
  refine wpAny_call (codeAny_mono (F.goes X.A X.stack s H ⟨us, []⟩ us vs Q (WE W σ) room gd I.env0 b rel want) ?_)
  intro r s' hq
  match r, hq with
  | .error er, hq => exact L2N.passAt tk σ pins H s er s' I hq
  | .ok (.ret u), hq => exact I.after hq
  | .ok .next, hq => exact hq.elim
  | .ok .brk, hq => exact hq.elim
  | .ok .cont, hq => exact hq.elim
theorem ye_callXN (tk : L2N.Takes X W) (c : CalXN X.prog X.w X.K X.mg X.base k x sp) (room : Room j X.A) (gd : X.A.guards = some []) (hg : Gl X x) (ha : PA X (e :: es) t) (hk : k ≤ j := by decide) (hdb : (x == ("__debug__" : Str)) = false := by decide)
    (h1 : starEach (e :: es) X.env = (false, eval e X.env) :: starEach es X.env := by rfl) (h2 : (backTo pos (starEach es X.env)).any (·.1) = false := by rfl) :
    PE X (.Call (.Name x p) (e :: es) [] pos) (yCallX sp W t) := by
  obtain ⟨f, fd, ps, F, hm, kp, hb⟩ := c
  constructor
  intro pins s σ H Q I h
  refine wpAny_Call_Name_kw (ld_glob I hg hm ?_ hdb)
  refine PySem.W.callWith_K (h₀ := X.base) I.ok.mod.kin kp (thn (ha.run pos pins s σ H _ I h) ?_) h1 h2
  rintro us s1 ⟨vs, H1, I1, r, q⟩
  exact ⟨I1.kIn, goes_fnXN (F.up hk) room gd hb tk I1 r q⟩
theorem ye_methXN {pl : Sem Bool} (tk : L2N.Takes X W) (c : CalMXN X.prog X.w X.K X.mg X.base k C m sp) (room : Room j X.A) (gd : X.A.guards = some []) (he : PE X o ta) (ha : PA X (e :: es) t) (hk : k ≤ j := by decide)
    (h1 : starEach (e :: es) X.env = (false, eval e X.env) :: starEach es X.env := by rfl) (h2 : (backTo pos (starEach es X.env)).any (·.1) = false := by rfl)
    (ht : eval (.Call (.Attribute o m apos) (e :: es) [] pos) X.env = (do
      let ov ← eval o X.env
      standAt apos.atName
      let (g, one) ← holding [ov] (getMethod ov m pl)
      callWith pos g one (backTo pos (starEach (e :: es) X.env)) (backToKw pos (keywordEach [] X.env))) := by rfl) :
    PE X (.Call (.Attribute o m apos) (e :: es) [] pos) (yMethX C m sp W ta t) := by
  obtain ⟨g, fd, ps, F, cl, hm, hb⟩ := c
  constructor
  intro pins s σ H Q I h
  refine PySem.W.methodCall_KW (pl := pl) (thn (he.run pins s σ H _ I h) ?_) ht
  rintro u s1 ⟨x, H1, I1, rx, q⟩
  cases x with
  | ref a =>
    obtain ⟨dx, fs, ea, l, q⟩ := q
    obtain rfl : u = Value.ref a := rx
    refine getmeth_ok I1 ea cl hm l (PySem.W.callWith_K (first := [.ref a]) (h₀ := X.base) I.ok.mod.kin hm.kp (thn (ha.run pos pins s1 σ H1 _ I1 q) ?_) h1 h2)
    rintro us s2 ⟨vs, H2, I2, r, q2⟩
    exact ⟨I2.kIn, goes_fnXN (us := .ref a :: us) (vs := .ref a :: vs) (F.up hk) room gd hb tk I2 (.cons rfl r) q2⟩
  | _ => exact q.elim
theorem ye_methXN0 {pl : Sem Bool} (tk : L2N.Takes X W) (c : CalMXN X.prog X.w X.K X.mg X.base k C m sp) (room : Room j X.A) (gd : X.A.guards = some []) (he : PE X o ta) (hk : k ≤ j := by decide)
    (ht : eval (.Call (.Attribute o m apos) [] [] pos) X.env = (do
      let ov ← eval o X.env
      standAt apos.atName
      let (g, one) ← holding [ov] (getMethod ov m pl)
      callWith pos g one (backTo pos (starEach [] X.env)) (backToKw pos (keywordEach [] X.env))) := by rfl) :
    PE X (.Call (.Attribute o m apos) [] [] pos) (yMethX C m sp W ta tNil) := by
  obtain ⟨g, fd, ps, F, cl, hm, hb⟩ := c
  constructor
  intro pins s σ H Q I h
  refine PySem.W.methodCall_KW (pl := pl) (thn (he.run pins s σ H _ I h) ?_) ht
  rintro u s1 ⟨x, H1, I1, rx, q⟩
  cases x with
  | ref a =>
    obtain ⟨dx, fs, ea, l, q⟩ := q
    obtain rfl : u = Value.ref a := rx
    exact getmeth_ok I1 ea cl hm l (PySem.W.callWith_K0 (first := [.ref a]) I1.kIn hm.kp (goes_fnXN (us := [.ref a]) (vs := [.ref a]) (F.up hk) room gd hb tk I1 (.cons rfl .nil) q))
  | _ => exact q.elim
end
section
variable {X : Cx} {W : WX}
theorem heldZ_imp {h B : Heap} {l : List Env} {a : Addr} {Z Z' : Obj → Prop} {L : Addr} (z : ∀ o, Z o → Z' o) (x : HandSPX.HeldZ B l a Z L h) : HandSPX.HeldZ B l a Z' L h := by
  exact ⟨x.1, x.2.1, x.2.2.1, L2H.tracedZ_imp z x.2.2.2⟩
/-- what has no context is an exception -/
theorem tkN (tk : L2.Takes X W) : L2N.Takes X W := fun u s' ⟨a, B, sI, pins, σ, H, cls, d, e, I, nb, up, sky, na, os, ag, wh⟩ =>
  tk u s' ⟨a, B, sI, pins, σ, H, cls, d, e, I, nb, up, by
    rcases sky with ⟨h1, h2, h3, oe, vs, h4, h5, h6, h7⟩ | h | h
    · exact .inl ⟨h1, h2, h3, oe, vs, h4, h5.zc, h6, h7⟩
    · exact .inr (.inl (L2H.flyingZ_imp (fun o z => z.zc) h))
    · exact .inr (.inr (heldZ_imp (fun o z => z.zc) h)), na, os, ag, wh⟩
end
section
variable {X : Cx} {f : Str} {C : Addr}
theorem mk_endN {pins : List (Addr × Obj)} {σ : L2.St} {H1 H2 : Hp} {Q : XK} {hp hp2 h2 : Heap} {g1 g2 : Array GenState} {d1 d2 : Drawn} {t1 t2 : Nat} {os1 os2 : OsState} {a C d : Addr} {fs : List (Str × V)} (T : Raises X (.ref C)) (I1 : Inv X pins σ H1 ⟨hp, g1, d1, t1, os1⟩)
    (ha : hp.objs.size ≤ a) (k : ∀ b o, hp.get? b = some o → hp2.get? b = some o) (un : Un (frs X.stack) [] (upd H1 a (exo a C none)) H2 hp2 h2) (hok : HOk X.prog X.w H2 h2) (ho : os2 = os1) (hb : AllBare g2)
    (ea : H2 a = some (exo a C (some d))) (ed : H2 d = some (exd d fs)) (hd1 : H1 d = none) (q : Q (.ref C) (some d) (upd (del H2 a) d (.xd fs))) : L2N.MkP X pins σ Q (.ref a) ⟨h2, g2, d2, t2, os2⟩ := by
  obtain ⟨t0, G, J, kG, ge, hoe, na⟩ := mk_end0 (d2 := d2) (t2 := t2) I1 ha k un hok ho hb ea ed hd1
  exact ⟨a, _, _, ⟨G, g2, d2, t2, os2⟩, _, .ref C, some d, rfl, J, kG, ge, hoe, ⟨rfl, rfl, fun vs e => by cases e; rfl⟩, rfl, rfl, na, rfl, hb, T, q⟩
theorem pmkEN {k j : Nat} {x : Str} {e : Expr} {es : List Expr} {ta : TA} {p pos : Pos} (c : CalE X.prog X.w X.K X.mg X.base k x C f) (room : Room j X.A) (gd : X.A.guards = some []) (hg : Gl X x) (ha : PA X (e :: es) ta) (hk : k + 1 ≤ j := by decide)
    (hdb : (x == ("__debug__" : Str)) = false := by decide) (h1 : starEach (e :: es) X.env = (false, eval e X.env) :: starEach es X.env := by rfl) (h2 : (backTo pos (starEach es X.env)).any (·.1) = false := by rfl) :
    L2N.PMk X (.Call (.Name x p) (e :: es) [] pos) (tMkE C f ta) := by
  obtain ⟨fI, fd, ps, tail, newId, F1, B, T, iC, tI, hm, hb⟩ := c
  intro pins s σ H Q I h
  obtain ⟨n1, n2, N, b1, bm, s1, s2, b2, c1, d1, k0, k1, k2, k3, k5, look, own⟩ := T.cls
  obtain ⟨B0, initId, FB⟩ := B.base
  refine wpAny_Call_Name_kw (ld_glob I hg hm ?_ hdb)
  refine PySem.W.callWith_K (h₀ := X.base) I.ok.mod.kin T.kp (thn (ha.run pos pins s σ H _ I h) ?_) h1 h2
  rintro us s1 ⟨vs, H1, I1, r1, q1⟩
  refine ⟨I1.kIn, ?_⟩
  show wpAny _ _ (call (.ref C) us) _ _ _
  have one : ∃ v, vs = [v] ∧ ∀ dd, H1 dd = none → Q (.ref C) (some dd) (upd H1 dd (.xd [(f, v)])) := match vs, q1 with | [v], q => ⟨v, rfl, q⟩
  obtain ⟨v, rfl, q1⟩ := one
  obtain ⟨hp, g, dr, tk, os⟩ := s1
  let a : Addr := hp.objs.size + 1
  let h1 : Heap := (hp.push (PySem.W.kdv_tup us)).push (PySem.HandSPX.excO C hp.objs.size)
  have le : hp.objs.size ≤ a := Nat.le_succ _
  have na : H1 a = none := I1.hok.fresh le
  have keep : ∀ b o, hp.get? b = some o → h1.get? b = some o := fun b o z => Heap.get?_push_of_some _ (Heap.get?_push_of_some _ z)
  have got : h1.get? a = some (PySem.HandSPX.excO C hp.objs.size) := by show ((hp.push (PySem.W.kdv_tup us)).push _).get? (hp.objs.size + 1) = _; heap_get
  have I2 : Inv X pins σ (upd H1 a (exo a C none)) ⟨h1, g, dr, tk, os⟩ := I1.laid (t' := tk) (a := a) (o := exo a C none) (h' := h1) keep le (exo_ok got)
  have r2 : Vals [V.ref a, v] (Value.ref a :: us) := .cons rfl r1
  have want : spExc C f [.ref a, v] (upd H1 a (exo a C none)) (fun z H2 => z = .non ∧ ∃ (d : Addr) (fs : List (Str × V)), H2 a = some (exo a C (some d)) ∧ H2 d = some (exd d fs) ∧ H1 d = none ∧ Q (.ref C) (some d) (upd (del H2 a) d (.xd fs))) (fun _ _ _ => False) := by
    refine ⟨a, v, rfl, upd_same, fun dx hdx ne => ⟨rfl, dx, [(f, v)], upd_same, ?_, ?_, ?_⟩⟩
    · rw [upd_ne ne, upd_same]
    · rw [upd_ne ne] at hdx; exact hdx
    · rw [upd_ne ne] at hdx
      rw [made_eq na hdx ne]
      exact q1 dx hdx
  have ln : (Value.ref a :: us).length = ps.length := r2.length ▸ F1.arity _ _ _ _ want
  have small : us.length ≤ sizeLine := by
    rw [← r1.length, sizeLine_eq]
    show 1 ≤ _
    omega
  have bnd := hb _ (Value.ref a :: us) I2.kIn (by rw [List.append_nil]; exact ln)
  rw [List.append_nil] at bnd
  have run := F1.goes _ X.stack _ _ ⟨Value.ref a :: us, []⟩ (Value.ref a :: us) _ _ (fun _ _ _ => False) ((room.mono hk).make C us []) gd (I2.env0.make C us []) bnd r2 want
  refine wpAny_call (PySem.HandSPX.call_own FB (fun Y => ownTo_has Y bm own) (I1.kIn _ _ look) (PySem.W.looks_findIn I1.kIn iC) (fun self => PySem.W.bind_fn I1.kIn self tI) small (codeAny_mono run ?_))
  intro r s' hq
  match r, hq with
  | .error er, hq => exact (pass0 (X := X) pins σ _ _ er s' I2 hq)
  | .ok .next, hq => exact hq.elim
  | .ok .brk, hq => exact hq.elim
  | .ok .cont, hq => exact hq.elim
  | .ok (.ret u), hq =>
    obtain ⟨v2, H2, os2, bare2, un2, hok2, rv, ev, d, fs, ea, ed, hd1, q2⟩ := hq
    subst ev
    obtain ⟨h3, g3, d3, t3, os3⟩ := s'
    exact ⟨rv, mk_endN (raises_own T.exc T.typ) I1 le keep un2 hok2 os2 bare2 ea ed hd1 q2⟩
end
theorem pmkNN {X : Cx} {K : PySem.W.Frag} {mg : Str → Option Value} {tail : List Value} {newId B initId : String} {x : String} {m : Str} {j : Nat} {p p2 pos : Pos} (F : ExcBaseFacts B newId initId tail) (hK : X.K = K) (hmg : X.mg = mg) (n : NxC K mg tail newId x) (hg : Gl X (x : Str)) (hdb : ((x : Str) == ("__debug__" : Str)) = false := by decide) :
    L2N.PMk X (.Call (.Name (x : Str) p) [.Constant (.str m) j p2] [] pos) (fun _ H Q => Q (.ref (gx K x)) none H) := by
  subst hK hmg
  exact L2N.pmk_own F n.ex n.mgx n.kp (raises_own n.exc n.typ) hg (hdb := hdb)
section
variable {X : Cx} {x : Str} {c : Value} {body suite : List Stmt} {b₀ : Stmt} {np pos pos' : Pos} {tb : WX → TS} {ts : Addr → Value → Option Addr → TS} {Wout : WX}
/-- try: .. except C: .. where what is handled has no context -/
theorem ps_try_onlyN (hs : X.stack = X.env :: X.outer) (hf : X.env.frame = some X.env.locals) (hc : Names X x c) (hpa : ∀ hd : Option Value, PassesOwnAt (model X.prog X.w) (X.A.mark hd) X.A X.env X.xe) (tk : L2.Takes X Wout)
    (hb : ∀ (W : WX) (pn : List (Addr × Obj)) (xe : Value → Shared → Prop), L2N.Takes (X.tr pn xe) W → PassesOwn (model X.prog X.w) X.A X.env xe → PSs (X.tr pn xe) body (tb W))
    (hsu : ∀ (a : Addr) (oe : Obj) (cls : Value) (d : Option Addr) (pn : List (Addr × Obj)), L2N.Zn cls d oe → (∃ vs, oe.data = .fields vs) → PSs (L2H.suiteX X a ((a, oe) :: pn)) (b₀ :: suite) (ts a cls d)) :
    PS X (.Try body [.ExceptHandler (some (.Name x np)) none (b₀ :: suite) pos'] [] [] pos) (fun D σ H => tb (wOnly X.K c ts Wout D) D σ H) :=
  L2H.ps_try_onlyX hs hf hc hpa tk (fun W pn xe t1 _ pw => hb W pn xe t1 pw) fun a oe cls d pn hz hf _ _ => hsu a oe cls d pn hz hf
end
/-! ### names set side by side where an exception is handled -/
section
open PySem
variable {prog : Program} {w : World} {A : Around} {E : Value → Shared → Prop} {s : Shared}
/-- what is handled, at a: an object without context -/
def HotA (s : Shared) (a : Addr) : Prop := ∃ (o : Obj) (vs : Array Value), s.heap.get? a = some o ∧ o.data = .fields vs ∧ vs[2]? = some .none
theorem HotA.keep {s : Shared} {a b : Addr} {h' : Heap} (h : HotA s a) (k : Heap.ExtBut b s.heap h') (ne : a ≠ b) : HotA { s with heap := h' } a := by
  obtain ⟨o, vs, h1, h2, h3⟩ := h
  exact ⟨o, vs, k a o ne h1, h2, h3⟩
theorem next_tuple_end_in {it t a : Addr} {i : Nat} {items : Array Value} {Q : Option Value → Shared → Prop} (hh : A.handled = some (.ref a)) (ha : HotA s a) (nai : a ≠ it)
    (hit : IsTupIter s.heap it t i) (ht : IsTup s.heap t items) (hx : items[i]? = none)
    (hQ : ∀ h', Heap.ExtBut it s.heap h' → Q none { s with heap := h' }) : wpAny (model prog w) A (pyNext (.ref it)) Q E s := by
  obtain ⟨o, ho, hc, hd⟩ := id hit
  obtain ⟨ol, hol, _, nl, hdl⟩ := ht
  obtain ⟨oa, va, g1, g2, g3⟩ := ha
  unfold pyNext
  refine wpAny_bind (wpAny_attempt (wpAny_callSpecial?_slot (name := Str.ofString "__next__") hit.typeIs slot_tupleiter_next
    (wpAny_call_entry slot_tupleiter_next hit.typeIs entry_tupleiter_next ?_ (args_tupleiter_next _))))
  show wpAny _ _ (field (.ref it) 0 >>= _) _ _ s
  refine wpAny_bind (wpAny_field ho hd (x := .ref t) rfl ?_)
  show wpAny _ _ (if (Value.ref t == Value.none) = true then _ else _) _ _ s
  rw [if_neg (show ¬ ((Value.ref t == Value.none) = true) from Bool.false_ne_true)]
  show wpAny _ _ (field (.ref it) 1 >>= _) _ _ s
  refine wpAny_bind (wpAny_field ho hd (x := .int i 0) rfl ?_)
  show wpAny _ _ (seqItems? (.ref t) >>= _) _ _ s
  refine wpAny_bind (wpAny_seqItems hol hdl ?_)
  simp only [Int.toNat_natCast, hx]
  refine wpAny_bind (wpAny_rule (wpAny_bind (wpAny_setField ho hd (by simp) ?_)))
  show wpAny _ _ (newExc (.type "StopIteration") [] >>= _) _ _ _
  refine wpAny_bind ?_
  simp only [newExc, newTuple]
  refine wpAny_bind (wpAny_newObj_type ?_ (by size_fits))
  refine wpAny_bind (m := firstArgMember _ _) (wpAny_of_eq (a := Value.none) (by first | rfl | (simp only [firstArgMember]; rfl)) ?_)
  refine wpAny_newObj_type ?_ (by size_fits)
  generalize hU : s.heap.update it _ = hu
  have ku : ∀ b o', b ≠ it → s.heap.get? b = some o' → hu.get? b = some o' := fun b o' nb e => by
    rw [← hU, Heap.get?_update_other _ _ (Ne.symm nb)]
    exact e
  generalize hT : ({ cls := Value.type "tuple", data := _ } : Obj) = tp
  have hap : (hu.push tp).get? a = some oa := Heap.get?_push_of_some _ (ku a oa nai g1)
  generalize hX : ({ cls := Value.type "StopIteration", data := _ } : Obj) = ox
  have hox : ox.cls = .type "StopIteration" ∧ ∃ ws, ox.data = .fields ws ∧ 2 < ws.size := by
    rw [← hX]
    exact ⟨rfl, _, rfl, by show 2 < 6; decide⟩
  obtain ⟨cx, ws, dx, zx⟩ := hox
  have hap2 : ((hu.push tp).push ox).get? a = some oa := Heap.get?_push_of_some _ hap
  have hep : ((hu.push tp).push ox).get? (hu.push tp).objs.size = some ox := Heap.get?_push_size _ (Obj.isFreed_of_fields dx)
  have nae : a ≠ (hu.push tp).objs.size := Nat.ne_of_lt (Heap.lt_size hap)
  refine wpAny_raiseNew_in (a := a) (e := (hu.push tp).objs.size) (oe := ox) (show A.in1.handled = some (.ref a) from hh) nae hap2 g2 g3 hep dx zx ?_
  have he2 : (((hu.push tp).push ox).update (hu.push tp).objs.size (Obj.mapFields (·.setIfInBounds 2 (.ref a)))).get? (hu.push tp).objs.size = some (ox.mapFields (·.setIfInBounds 2 (.ref a))) := Heap.get?_update_self _ hep (Obj.isFreed_of_fields (Obj.data_mapFields dx _))
  refine wpAny_bind (wpAny_isInstance (T := "StopIteration") (b := true) ⟨_, he2, (Obj.cls_mapFields ..).trans cx⟩ isSubtype_stop ?_)
  refine wpAny_pure (hQ _ fun b o' nb e => ?_)
  have e1 : ((hu.push tp).push ox).get? b = some o' := Heap.get?_push_of_some _ (Heap.get?_push_of_some _ (ku b o' nb e))
  have e2 : (hu.push tp).get? b = some o' := Heap.get?_push_of_some _ (ku b o' nb e)
  rw [Heap.get?_update_other _ _ (Ne.symm (Nat.ne_of_lt (Heap.lt_size e2)))]
  exact e1
theorem unpackItems_tuple_in {t a : Addr} {items : Array Value} {Q : List Value → Shared → Prop} (hh : A.handled = some (.ref a)) (ha : HotA s a) (ht : IsTup s.heap t items)
    (hQ : ∀ h', Heap.ExtBut s.heap.objs.size s.heap h' → Q items.toList { s with heap := h' }) : wpAny (model prog w) A (unpackItems (.ref t) items.size none) Q E s := by
  have hlt : t ≠ s.heap.objs.size := by obtain ⟨o, ho, _⟩ := ht; exact Nat.ne_of_lt (Heap.lt_size ho)
  have hla : a ≠ s.heap.objs.size := by obtain ⟨o, vs, ho, _⟩ := ha; exact Nat.ne_of_lt (Heap.lt_size ho)
  unfold unpackItems
  refine wpAny_bind ?_
  unfold notIterableAtAll
  refine wpAny_bind (wpAny_specialOf ht.typeIs slot_tuple_iter.lookup ?_)
  refine wpAny_pure ?_
  simp only [Bool.false_eq_true, if_false]
  refine wpAny_bind (wpAny_holding (iter_tuple ht ?_))
  refine wpAny_bind (wpAny_holding (draw_tuple hlt items.size 0 _ _ ⟨_, Heap.get?_push_size _ rfl, rfl, rfl⟩ (ht.push _) (by omega) fun h₁ hit₁ hs₁ => ?_))
  have hall : List.take items.size (List.drop 0 items.toList) = items.toList := by
    rw [List.drop_zero]; exact List.take_of_length_le (by simp)
  rw [hall]
  rw [if_neg (by simp)]
  have ht₁ : IsTup h₁ t items := (ht.push _).extBut hs₁.extBut hlt
  have ha₁ : HotA { s with heap := h₁ } a := by
    obtain ⟨o, vs, g1, g2, g3⟩ := ha
    exact ⟨o, vs, hs₁.extBut a o hla (Heap.get?_push_of_some _ g1), g2, g3⟩
  refine wpAny_bind (wpAny_holding (next_tuple_end_in hh ha₁ hla hit₁ ht₁ (by simp) fun h₂ he₂ => ?_))
  simp only [Option.isSome_none, Bool.false_eq_true, if_false]
  refine wpAny_pure (hQ h₂ fun b o hb e => he₂ b o hb (hs₁.extBut b o hb (Heap.get?_push_of_some _ e)))
end
section
variable {X : Cx}
/-- x, y = e, f in an except suite -/
theorem ps_parH {i j : Nat} {x y : Str} {a b : Expr} {ta : TA} {px py pt pos : Pos} {kt k2 pt2} {p : Addr} {oe : Obj} (hA : X.A.handled = some (.ref p)) (hp : (p, oe) ∈ X.pn) (hf : ∃ vs, oe.data = .fields vs) (hz : PXN.CtxN oe) (hN : X.N.Nodup) (hi : X.N[i]? = some x) (hj : X.N[j]? = some y) (hij : i ≠ j)
    (hx : X.env.scope.names.lookup x = some .local) (hy : X.env.scope.names.lookup y = some .local) (ha : PA X [a, b] ta)
    (hw : swappedStores [.Tuple [.Name x px, .Name y py] kt pt] (.Tuple [a, b] k2 pt2) X.env = pure (some [x, y]))
    (hs : swapsWithSole [.Tuple [.Name x px, .Name y py] kt pt] (.Tuple [a, b] k2 pt2) pos.line X.env = pure false := by rfl) :
    PS X (.Assign [.Tuple [.Name x px, .Name y py] kt pt] (.Tuple [a, b] k2 pt2) pos) (tPar i j ta) := by
  refine ⟨fun pins s σ H D I h => ?_⟩
  rw [exec_Assign_arm]
  refine wpAny_bind (wpAny_standAt ?_)
  rw [hs]
  refine wpAny_bind (wpAny_pure ?_)
  rw [if_neg (by decide)]
  refine wpAny_bind (Tuple_ (thn (ha.run _ pins s σ H _ I h) fun us s1 ⟨vs, H1, I1, r1, q1⟩ => ?_))
  obtain ⟨v, w, e1, q1⟩ := q1
  subst e1
  obtain ⟨u1, u2, rfl, rv, rw'⟩ : ∃ u1 u2, us = [u1, u2] ∧ RelV v u1 ∧ RelV w u2 := by
    cases r1 with
    | cons p q =>
      cases q with
      | cons p' q' =>
        cases q'
        exact ⟨_, _, rfl, p, p'⟩
  refine wpAny_newObj_type ?_ (by show 2 ≤ sizeLine; decide)
  have I2 : Inv X pins σ H1 { s1 with heap := s1.heap.push { cls := .type "tuple", data := .seq [u1, u2].toArray } } := I1.kept (t' := s1.toks) fun b o e => Heap.get?_push_of_some _ e
  have hot : HotA { s1 with heap := s1.heap.push { cls := .type "tuple", data := .seq [u1, u2].toArray } } p := by
    obtain ⟨vs, e⟩ := hf
    exact ⟨oe, vs, (I2.pin (p, oe) (List.mem_append_left _ hp)).1, e, hz vs e⟩
  rw [hw]
  refine wpAny_bind (wpAny_pure ?_)
  show wpAny (model X.prog X.w) X.A (do rule "assign.swapped-stores"; let items ← unpackItems (.ref s1.heap.objs.size) 2 none; assignInOrder [fun v => bindName X.env y v, fun v => bindName X.env x v] items.reverse; pure Flow.next) _ _ _
  refine wpAny_bind (wpAny_rule (wpAny_bind (unpackItems_tuple_in (items := #[u1, u2]) hA hot (IsTup.new s1.heap _) fun h' hx' => ?_)))
  have I3 := I2.kept (h' := h') (t' := s1.toks) fun b o e => hx' b o (Nat.ne_of_lt (Heap.lt_size e)) e
  show wpAny _ _ (assignInOrder [fun v => bindName X.env y v, fun v => bindName X.env x v] [u2, u1] >>= fun _ => pure Flow.next) _ _ _
  refine wpAny_bind (assignInOrder_cons (wpAny_bindName (store_ok I3 hN hj (.inl hy) rw' (fun s2 I4 => ?_) (.inr hy))))
  refine assignInOrder_cons (wpAny_bindName (store_ok I4 hN hi (.inl hx) rv (fun s3 I5 => assignInOrder_nil (wpAny_pure ?_)) (.inr hx)))
  rw [List.set_comm _ _ (Ne.symm hij)] at I5
  exact ⟨_, H1, I5, q1⟩
end
end Y

set_option Elab.async false
set_option linter.all false
set_option maxRecDepth 100000
set_option maxHeartbeats 2000000
/-! EE: tuples and lists of anything against () and []; words that are not in the table of deeds. -/
namespace Y
open PySem PySem.Spec PyProof.Rows L2
section
variable {X : Cx}
/-- x == () , x == []: items of any kind -/
def yEqE (K : PySem.W.Frag) : R2 := fun x y H Q => match x, y with
  | .ref a, .ref b => (∃ xs, SqT K H a xs ∧ SqT K H b [] ∧ Q (.bl xs.isEmpty) H) ∨ (∃ xs, SqL K H a xs ∧ SqL K H b [] ∧ Q (.bl xs.isEmpty) H)
  | _, _ => False
theorem kEqE {K : PySem.W.Frag} (h0 : X.K = K) (hu : X.A.units + 64 < cLine) : OpR X (compareOp .Eq) (yEqE K) := by
  subst h0
  intro pins s σ H x y v u Q I rx ry h
  unfold yEqE at h
  split at h
  · rename_i a b
    cases rx
    cases ry
    rcases h with ⟨xs, ha, hb, q⟩ | ⟨xs, ha, hb, q⟩
    · obtain ⟨us, r1, p1, _⟩ := I.tuple ha
      obtain ⟨ws, r2, p2, _⟩ := I.tuple hb
      cases r2
      refine SeqAt.RcAt.tuples (e := fun _ => true) p1 p2 (by omega) (fun j h1 h2 => absurd h2 (Nat.not_lt_zero j)) _ _ _ _ ?_
      refine ⟨.bl xs.isEmpty, H, I, ?_, q⟩
      show Value.bool _ = Value.bool _
      cases r1 with
      | nil => rfl
      | cons => simp
    · obtain ⟨us, r1, p1, _⟩ := I.list ha
      obtain ⟨ws, r2, p2, _⟩ := I.list hb
      cases r2
      cases r1 with
      | nil =>
        exact SeqAt.RcAt.lists (e := fun _ => true) p1.isList p2.isList rfl (by omega) (fun j h1 h2 => absurd h2 (Nat.not_lt_zero j)) _ _ _ _ ⟨.bl true, H, I, rfl, q⟩
      | cons h t =>
        exact SeqAt.RcAt.lists_lengths p1.isList p2.isList (by simp) (by omega) _ _ _ _ ⟨.bl false, H, I, rfl, q⟩
  · exact h.elim
end
/-- a dict of these words alone -/
def noB (K : PySem.W.Frag) (a : Addr) (ws : List Str) : Bool := match K.lookup a with
  | some ⟨_, _, .dict es _, _⟩ => es.toList.all fun e => ws.any (fun w => e.key.isStr w) && !e.refKey
  | _ => false
theorem isStr_eq {v : Value} {a b : Str} (h1 : v.isStr a = true) (h2 : v.isStr b = true) : a = b := by
  unfold Value.isStr at h1 h2
  split at h1
  · exact (eq_of_beq h1).symm.trans (eq_of_beq h2)
  · cases h1
theorem noB_ok {K : PySem.W.Frag} {a : Addr} {ws : List Str} (h : noB K a ws = true) (z : Str) (hz : z ∉ ws) : PySem.W.nsIn K a z = some none := by
  unfold noB at h
  unfold PySem.W.nsIn
  split at h
  · rename_i e
    rw [e]
    rename_i es _ _
    have h := List.all_eq_true.mp h
    have e1 : es.toList.find? (fun d => d.key.isStr z) = none := by
      rw [List.find?_eq_none]
      intro d hd hc
      have h1 := (Bool.and_eq_true_iff.mp (h d hd)).1
      obtain ⟨w, hw, e2⟩ := List.any_eq_true.mp h1
      exact hz (isStr_eq hc e2 ▸ hw)
    have e2 : es.toList.any (fun d => d.refKey) = false := by
      rw [List.any_eq_false]
      intro d hd hc
      have h2 := (Bool.and_eq_true_iff.mp (h d hd)).2
      rw [hc] at h2
      cases h2
    simp only []
    rw [e1, e2]
    rfl
  · cases h
/-- the table of deeds has no other words -/
structure WtN (K : PySem.W.Frag) (aS : Addr) : Prop where
  nos : ∀ z, z ∉ sizesL.map (·.1) → PySem.W.nsIn K aS z = some none
section
variable {X : Cx} {K : PySem.W.Frag} {aS aI : Addr} {mg : Str → Option Value}
def yNotInA (aS : Addr) : R2 := fun x y H Q => match x, y with
  | .str z, .ref d => d = aS ∧ Q (.bl (!decide (z ∈ sizesL.map (·.1)))) H
  | _, _ => False
theorem kNotInA (h0 : X.K = K) (W : Wt K X.w mg aS aI) (N : WtN K aS) : OpR X (compareOp .NotIn) (yNotInA aS) := by
  subst h0
  intro pins s σ H x y v u Q I rx ry h
  unfold yNotInA at h
  split at h
  · obtain ⟨rfl, q⟩ := h
    rename_i z d
    obtain ⟨es, n, D⟩ := W.dct
    by_cases hz : z ∈ sizesL.map (·.1)
    · rw [decide_eq_true hz] at q
      obtain ⟨p, hp, rfl⟩ := List.mem_map.mp hz
      obtain ⟨u0, h1, _⟩ := W.vals p hp
      exact op_notIn_kd D pins s σ H _ _ v u Q I rx ry ⟨_, _, rfl, rfl, h1, q⟩
    · rw [decide_eq_false hz] at q
      exact op_notIn_kd D pins s σ H _ _ v u Q I rx ry ⟨_, _, rfl, rfl, N.nos z hz, q⟩
  · exact h.elim
end
end Y

set_option Elab.async false
set_option linter.all false
/-! HX: the head's look at K over given addresses (a range): no closure is computed. -/
namespace He
open PySem PySem.Spec PyProof.Rows L2
def obsR (as : List Addr) (fa : List Fa) (fn : List DefD) (ts : List Tab) (tf : List Defn) (ex : PySem.W.Frag → Bool) (g : Addr → Option Obj) : AlX := (obsT fa fn ts (frT g as), ex (frT g as) && tabsB g tf (frT g as))
theorem saysR_of {as : List Addr} {fa : List Fa} {fn : List DefD} {ts : List Tab} {tf : List Defn} {ex : PySem.W.Frag → Bool} {w : World} {h : Heap} (e : obsR as fa fn ts tf ex h.get? = valX fn ts w) : SaysX fa fn ts tf ex w h (frT h.get? as) := by
  have e1 : obsT fa fn ts (frT h.get? as) = valT fn ts w := congrArg (fun z : AlX => z.1) e
  have e2 : (ex (frT h.get? as) && tabsB h.get? tf (frT h.get? as)) = true := congrArg (fun z : AlX => z.2) e
  obtain ⟨h1, h2⟩ := ba e2
  have key : ∀ p ∈ tf, PySem.W.codeHdIn (frT h.get? as) (cT (frT h.get? as) p).1 (cT (frT h.get? as) p).2 = true ∧ ∃ o, h.get? (cT (frT h.get? as) p).2 = some o ∧ emptyTab o = true := fun p hp => by
    obtain ⟨h3, h4⟩ := ba (List.all_eq_true.mp h2 p hp)
    refine ⟨h3, ?_⟩
    cases q : h.get? (cT (frT h.get? as) p).2 with
    | none =>
      rw [q] at h4
      cases h4
    | some o =>
      rw [q] at h4
      exact ⟨o, rfl, h4⟩
  exact ⟨e1, h1, fun p hp => (key p hp).1, fun p hp => by
    obtain ⟨_, o, q, z⟩ := key p hp
    exact frT_none q z, fun p hp => by
    obtain ⟨_, o, q, z⟩ := key p hp
    rw [q, emptyTab_eq z]⟩
def hookR (as : List Addr) (fa : List Fa) (fn : List DefD) (ts : List Tab) (tf : List Defn) (ex : PySem.W.Frag → Bool) : PySem.W.Hook where
  α := AlX
  obs := fun s => obsR as fa fn ts tf ex s.heap.get?
  val := fun w => valX fn ts w
  says := fun w h => ∃ K : PySem.W.Frag, K.In h ∧ SaysX fa fn ts tf ex w h K
  of := fun _ _ e => ⟨_, frT_in, saysR_of e⟩
  keeps := fun _ _ _ ⟨K, hK, c⟩ k => ⟨K, PySem.W.Frag.In.keeps hK k, ⟨c.t, c.more, c.hd, c.out, fun p hp => k _ _ (c.empty p hp)⟩⟩
theorem obsR_eq {as : List Addr} {fa : List Fa} {fn : List DefD} {ts : List Tab} {tf : List Defn} {ex : PySem.W.Frag → Bool} {g : Addr → Option Obj} {s : Shared} (h : ∀ a, g a = s.heap.get? a) : obsR as fa fn ts tf ex g = (hookR as fa fn ts tf ex).obs s := by
  have e : g = s.heap.get? := funext h
  rw [e] <;> rfl
end He

set_option Elab.async false
set_option linter.all false
set_option maxRecDepth 100000
set_option maxHeartbeats 4000000
set_option exponentiation.threshold 600
namespace K21
open PySem PySem.Spec PyProof.Rows L2 Y LamX NdefX
--C CPalette
--NM is_deed palette,thing
--ALL
def topS (i : Nat) : Stmt := PySem.Challenge.pw_fadeleaf_k21_deeds_that_fit.main.body.getD i (.Pass ⟨0, 0, 0, 0⟩)
abbrev s_NoPalette___init__ : Stmt := inClass (topS 2) 0
abbrev n_NoPalette___init__ : List Str := ["self", "at"]
theorem sc_NoPalette___init__ : FnScope n_NoPalette___init__ ["self", "at"] (defScope s_NoPalette___init__) := ⟨rfl, rfl, rfl, by decide +kernel, rfl, by decide +kernel, by decide +kernel⟩
abbrev s_NoInk___init__ : Stmt := inClass (topS 3) 0
abbrev n_NoInk___init__ : List Str := ["self", "who"]
theorem sc_NoInk___init__ : FnScope n_NoInk___init__ ["self", "who"] (defScope s_NoInk___init__) := ⟨rfl, rfl, rfl, by decide +kernel, rfl, by decide +kernel, by decide +kernel⟩
abbrev s_is_whole : Stmt := topS 8
abbrev n_is_whole : List Str := ["thing"]
theorem sc_is_whole : FnScope n_is_whole ["thing"] (defScope s_is_whole) := ⟨rfl, rfl, rfl, by decide +kernel, rfl, by decide +kernel, by decide +kernel⟩
abbrev s_is_name : Stmt := topS 9
abbrev n_is_name : List Str := ["thing", "sign"]
theorem sc_is_name : FnScope n_is_name ["thing"] (defScope s_is_name) := ⟨rfl, rfl, rfl, by decide +kernel, rfl, by decide +kernel, by decide +kernel⟩
abbrev s_is_amount : Stmt := topS 10
abbrev n_is_amount : List Str := ["thing"]
theorem sc_is_amount : FnScope n_is_amount ["thing"] (defScope s_is_amount) := ⟨rfl, rfl, rfl, by decide +kernel, rfl, by decide +kernel, by decide +kernel⟩
abbrev s_is_ink : Stmt := topS 11
abbrev n_is_ink : List Str := ["thing"]
theorem sc_is_ink : FnScope n_is_ink ["thing"] (defScope s_is_ink) := ⟨rfl, rfl, rfl, by decide +kernel, rfl, by decide +kernel, by decide +kernel⟩
abbrev s_first_wrong : Stmt := topS 12
abbrev n_first_wrong : List Str := ["inks", "seen", "at", "thing"]
theorem sc_first_wrong : FnScope n_first_wrong ["inks"] (defScope s_first_wrong) := ⟨rfl, rfl, rfl, by decide +kernel, rfl, by decide +kernel, by decide +kernel⟩
abbrev s_Palette___init__ : Stmt := inClass (topS 13) 0
abbrev n_Palette___init__ : List Str := ["self", "inks", "wrong"]
theorem sc_Palette___init__ : FnScope n_Palette___init__ ["self", "inks"] (defScope s_Palette___init__) := ⟨rfl, rfl, rfl, by decide +kernel, rfl, by decide +kernel, by decide +kernel⟩
abbrev s_Palette_inks : Stmt := inClass (topS 13) 1
abbrev n_Palette_inks : List Str := ["self", "name", "fade"]
theorem sc_Palette_inks : FnScope n_Palette_inks ["self"] (defScope s_Palette_inks) := ⟨rfl, rfl, rfl, by decide +kernel, rfl, by decide +kernel, by decide +kernel⟩
abbrev s_Palette_names : Stmt := inClass (topS 13) 2
abbrev n_Palette_names : List Str := ["self"]
theorem sc_Palette_names : FnScope n_Palette_names ["self"] (defScope s_Palette_names) := ⟨rfl, rfl, rfl, by decide +kernel, rfl, by decide +kernel, by decide +kernel⟩
abbrev s_Palette_has : Stmt := inClass (topS 13) 3
abbrev n_Palette_has : List Str := ["self", "name"]
theorem sc_Palette_has : FnScope n_Palette_has ["self", "name"] (defScope s_Palette_has) := ⟨rfl, rfl, rfl, by decide +kernel, rfl, by decide +kernel, by decide +kernel⟩
abbrev s_Palette_fade : Stmt := inClass (topS 13) 4
abbrev n_Palette_fade : List Str := ["self", "name"]
theorem sc_Palette_fade : FnScope n_Palette_fade ["self", "name"] (defScope s_Palette_fade) := ⟨rfl, rfl, rfl, by decide +kernel, rfl, by decide +kernel, by decide +kernel⟩
abbrev s_Palette_order : Stmt := inClass (topS 13) 5
abbrev n_Palette_order : List Str := ["self", "name"]
theorem sc_Palette_order : FnScope n_Palette_order ["self", "name"] (defScope s_Palette_order) := ⟨rfl, rfl, rfl, by decide +kernel, rfl, by decide +kernel, by decide +kernel⟩
abbrev s_Palette___eq__ : Stmt := inClass (topS 13) 6
abbrev n_Palette___eq__ : List Str := ["self", "other"]
theorem sc_Palette___eq__ : FnScope n_Palette___eq__ ["self", "other"] (defScope s_Palette___eq__) := ⟨rfl, rfl, rfl, by decide +kernel, rfl, by decide +kernel, by decide +kernel⟩
abbrev s_Palette___len__ : Stmt := inClass (topS 13) 7
abbrev n_Palette___len__ : List Str := ["self"]
theorem sc_Palette___len__ : FnScope n_Palette___len__ ["self"] (defScope s_Palette___len__) := ⟨rfl, rfl, rfl, by decide +kernel, rfl, by decide +kernel, by decide +kernel⟩
abbrev s_is_deed : Stmt := topS 18
abbrev n_is_deed : List Str := ["thing", "palette", "word", "rest"]
theorem sc_is_deed : FnScope n_is_deed ["thing", "palette"] (defScope s_is_deed) := ⟨rfl, rfl, rfl, by decide +kernel, rfl, by decide +kernel, by decide +kernel⟩
abbrev s_wears : Stmt := topS 19
abbrev n_wears : List Str := ["deed"]
theorem sc_wears : FnScope n_wears ["deed"] (defScope s_wears) := ⟨rfl, rfl, rfl, by decide +kernel, rfl, by decide +kernel, by decide +kernel⟩
abbrev s_l_at : Stmt := topS 21
abbrev n_l_at : List Str := ["_law_script", "_law_k"]
theorem sc_l_at : FnScope n_l_at ["_law_script", "_law_k"] (defScope s_l_at) := ⟨rfl, rfl, rfl, by decide +kernel, rfl, by decide +kernel, by decide +kernel⟩
abbrev s_l_pot : Stmt := topS 22
abbrev n_l_pot : List Str := ["_law_cell"]
theorem sc_l_pot : FnScope n_l_pot ["_law_cell"] (defScope s_l_pot) := ⟨rfl, rfl, rfl, by decide +kernel, rfl, by decide +kernel, by decide +kernel⟩
abbrev s_l_take : Stmt := topS 23
abbrev n_l_take : List Str := ["_law_pot_here", "_law_many", "_law_digit"]
theorem sc_l_take : FnScope n_l_take ["_law_pot_here", "_law_many"] (defScope s_l_take) := ⟨rfl, rfl, rfl, by decide +kernel, rfl, by decide +kernel, by decide +kernel⟩
abbrev s_l_word : Stmt := topS 24
abbrev n_l_word : List Str := ["_law_pot_here", "_law_found", "_law_letters", "_law_word_here", "_law_k", "_law_letter"]
theorem sc_l_word : FnScope n_l_word ["_law_pot_here", "_law_found"] (defScope s_l_word) := ⟨rfl, rfl, rfl, by decide +kernel, rfl, by decide +kernel, by decide +kernel⟩
abbrev s_l_words : Stmt := topS 25
abbrev n_l_words : List Str := ["_law_pot_here", "_law_many", "_law_found", "_law_k"]
theorem sc_l_words : FnScope n_l_words ["_law_pot_here", "_law_many"] (defScope s_l_words) := ⟨rfl, rfl, rfl, by decide +kernel, rfl, by decide +kernel, by decide +kernel⟩
abbrev s_l_amount : Stmt := topS 26
abbrev n_l_amount : List Str := ["_law_pot_here"]
theorem sc_l_amount : FnScope n_l_amount ["_law_pot_here"] (defScope s_l_amount) := ⟨rfl, rfl, rfl, by decide +kernel, rfl, by decide +kernel, by decide +kernel⟩
abbrev s_l_inks : Stmt := topS 27
abbrev n_l_inks : List Str := ["_law_pot_here", "_law_most", "_law_names", "_law_found", "_law_name"]
theorem sc_l_inks : FnScope n_l_inks ["_law_pot_here", "_law_most"] (defScope s_l_inks) := ⟨rfl, rfl, rfl, by decide +kernel, rfl, by decide +kernel, by decide +kernel⟩
abbrev s_l_deed : Stmt := topS 28
abbrev n_l_deed : List Str := ["_law_pot_here", "_law_inks_here", "_law_tags", "_law_word_here", "_law_ink"]
theorem sc_l_deed : FnScope n_l_deed ["_law_pot_here", "_law_inks_here", "_law_tags"] (defScope s_l_deed) := ⟨rfl, rfl, rfl, by decide +kernel, rfl, by decide +kernel, by decide +kernel⟩
abbrev s_l_no_name : Stmt := topS 29
abbrev n_l_no_name : List Str := ["_law_pot_here", "_law_letters", "_law_signs", "_law_word_here", "_law_at_here", "_law_odd_here"]
theorem sc_l_no_name : FnScope n_l_no_name ["_law_pot_here"] (defScope s_l_no_name) := ⟨rfl, rfl, rfl, by decide +kernel, rfl, by decide +kernel, by decide +kernel⟩
abbrev s_l_odd : Stmt := topS 30
abbrev n_l_odd : List Str := ["_law_pot_here", "_law_inks_here", "_law_some"]
theorem sc_l_odd : FnScope n_l_odd ["_law_pot_here", "_law_inks_here"] (defScope s_l_odd) := ⟨rfl, rfl, rfl, by decide +kernel, rfl, by decide +kernel, by decide +kernel⟩
abbrev s_l_drawn : Stmt := topS 31
abbrev n_l_drawn : List Str := ["_law_pot_here", "_law_inks_here", "_law_deed_here", "_law_way", "_law_at_here", "_law_some"]
theorem sc_l_drawn : FnScope n_l_drawn ["_law_pot_here", "_law_inks_here"] (defScope s_l_drawn) := ⟨rfl, rfl, rfl, by decide +kernel, rfl, by decide +kernel, by decide +kernel⟩
abbrev s_l_is_name : Stmt := topS 32
abbrev n_l_is_name : List Str := ["_law_one", "_law_sign"]
theorem sc_l_is_name : FnScope n_l_is_name ["_law_one"] (defScope s_l_is_name) := ⟨rfl, rfl, rfl, by decide +kernel, rfl, by decide +kernel, by decide +kernel⟩
abbrev s_l_is_amount : Stmt := topS 33
abbrev n_l_is_amount : List Str := ["_law_one"]
theorem sc_l_is_amount : FnScope n_l_is_amount ["_law_one"] (defScope s_l_is_amount) := ⟨rfl, rfl, rfl, by decide +kernel, rfl, by decide +kernel, by decide +kernel⟩
abbrev s_l_fits : Stmt := topS 34
abbrev n_l_fits : List Str := ["_law_one", "_law_names"]
theorem sc_l_fits : FnScope n_l_fits ["_law_one", "_law_names"] (defScope s_l_fits) := ⟨rfl, rfl, rfl, by decide +kernel, rfl, by decide +kernel, by decide +kernel⟩
abbrev s_law : Stmt := topS 35
abbrev n_law : List Str := ["_law_script", "_law_k", "_law_pot_here", "_law_inks_here", "_law_made", "_law_one", "_law_due", "_law_ink", "_law_fade"]
theorem sc_law : FnScope n_law ["_law_script"] (defScope s_law) := ⟨rfl, rfl, rfl, by decide +kernel, rfl, by decide +kernel, by decide +kernel⟩
structure Fr (mg : Str → Option Value) : Prop where
  abs_ : mg "abs" = none
  all_ : mg "all" = none
  bool_ : mg "bool" = none
  dict_ : mg "dict" = none
  divmod_ : mg "divmod" = none
  enumerate_ : mg "enumerate" = none
  int_ : mg "int" = none
  isinstance_ : mg "isinstance" = none
  len_ : mg "len" = none
  list_ : mg "list" = none
  max_ : mg "max" = none
  min_ : mg "min" = none
  range_ : mg "range" = none
  repr_ : mg "repr" = none
  str_ : mg "str" = none
  tuple_ : mg "tuple" = none
  LETTERS_ : ∃ t, mg "LETTERS" = some (.str "abcdefghijklmnopqrstuvwxyz" t)
  MOST_INKS_ : ∃ t, mg "MOST_INKS" = some (.int (8) t)
  MOST_LETTERS_ : ∃ t, mg "MOST_LETTERS" = some (.int (8) t)
structure Cf (K : PySem.W.Frag) (mg : Str → Option Value) (CPalette : Addr) : Prop where
  cls_Palette : Cls K CPalette
  mg_Palette : mg "Palette" = some (.ref CPalette)
  na_Palette_fades : NoAttr K CPalette "fades"
/-! ### the head: facts by names, the run -/
def d_is_whole : He.DefD := ⟨("is_whole", none), "is_whole", "is_whole", defArgs s_is_whole, defBody s_is_whole, defScope s_is_whole, [], []⟩
def d_is_name : He.DefD := ⟨("is_name", none), "is_name", "is_name", defArgs s_is_name, defBody s_is_name, defScope s_is_name, [], []⟩
def d_is_amount : He.DefD := ⟨("is_amount", none), "is_amount", "is_amount", defArgs s_is_amount, defBody s_is_amount, defScope s_is_amount, [], []⟩
def d_is_ink : He.DefD := ⟨("is_ink", none), "is_ink", "is_ink", defArgs s_is_ink, defBody s_is_ink, defScope s_is_ink, [], []⟩
def d_first_wrong : He.DefD := ⟨("first_wrong", none), "first_wrong", "first_wrong", defArgs s_first_wrong, defBody s_first_wrong, defScope s_first_wrong, [], []⟩
def d_Palette___init__ : He.DefD := ⟨("Palette", some "__init__"), "__init__", "Palette.__init__", defArgs s_Palette___init__, defBody s_Palette___init__, defScope s_Palette___init__, [], []⟩
def d_Palette_inks : He.DefD := ⟨("Palette", some "inks"), "inks", "Palette.inks", defArgs s_Palette_inks, defBody s_Palette_inks, defScope s_Palette_inks, [], []⟩
def d_Palette_names : He.DefD := ⟨("Palette", some "names"), "names", "Palette.names", defArgs s_Palette_names, defBody s_Palette_names, defScope s_Palette_names, [], []⟩
def d_Palette_has : He.DefD := ⟨("Palette", some "has"), "has", "Palette.has", defArgs s_Palette_has, defBody s_Palette_has, defScope s_Palette_has, [], []⟩
def d_is_deed : He.DefD := ⟨("is_deed", none), "is_deed", "is_deed", defArgs s_is_deed, defBody s_is_deed, defScope s_is_deed, [], []⟩
def d_wears : He.DefD := ⟨("wears", none), "wears", "wears", defArgs s_wears, defBody s_wears, defScope s_wears, [], []⟩
def d_l_at : He.DefD := ⟨("_law_at", none), "_law_at", "_law_at", defArgs s_l_at, defBody s_l_at, defScope s_l_at, [], []⟩
def d_l_pot : He.DefD := ⟨("_law_pot", none), "_law_pot", "_law_pot", defArgs s_l_pot, defBody s_l_pot, defScope s_l_pot, [], []⟩
def d_l_take : He.DefD := ⟨("_law_take", none), "_law_take", "_law_take", defArgs s_l_take, defBody s_l_take, defScope s_l_take, [], []⟩
def d_l_word : He.DefD := ⟨("_law_word", none), "_law_word", "_law_word", defArgs s_l_word, defBody s_l_word, defScope s_l_word, [], []⟩
def d_l_words : He.DefD := ⟨("_law_words", none), "_law_words", "_law_words", defArgs s_l_words, defBody s_l_words, defScope s_l_words, [], []⟩
def d_l_amount : He.DefD := ⟨("_law_amount", none), "_law_amount", "_law_amount", defArgs s_l_amount, defBody s_l_amount, defScope s_l_amount, [], []⟩
def d_l_inks : He.DefD := ⟨("_law_inks", none), "_law_inks", "_law_inks", defArgs s_l_inks, defBody s_l_inks, defScope s_l_inks, [], []⟩
def d_l_deed : He.DefD := ⟨("_law_deed", none), "_law_deed", "_law_deed", defArgs s_l_deed, defBody s_l_deed, defScope s_l_deed, [], []⟩
def d_l_no_name : He.DefD := ⟨("_law_no_name", none), "_law_no_name", "_law_no_name", defArgs s_l_no_name, defBody s_l_no_name, defScope s_l_no_name, [], []⟩
def d_l_odd : He.DefD := ⟨("_law_odd", none), "_law_odd", "_law_odd", defArgs s_l_odd, defBody s_l_odd, defScope s_l_odd, [], []⟩
def d_l_drawn : He.DefD := ⟨("_law_drawn", none), "_law_drawn", "_law_drawn", defArgs s_l_drawn, defBody s_l_drawn, defScope s_l_drawn, [], []⟩
def d_l_is_name : He.DefD := ⟨("_law_is_name", none), "_law_is_name", "_law_is_name", defArgs s_l_is_name, defBody s_l_is_name, defScope s_l_is_name, [], []⟩
def d_l_is_amount : He.DefD := ⟨("_law_is_amount", none), "_law_is_amount", "_law_is_amount", defArgs s_l_is_amount, defBody s_l_is_amount, defScope s_l_is_amount, [], []⟩
def d_l_fits : He.DefD := ⟨("_law_fits", none), "_law_fits", "_law_fits", defArgs s_l_fits, defBody s_l_fits, defScope s_l_fits, [], []⟩
def d_law : He.DefD := ⟨("law", none), "law", "law", defArgs s_law, defBody s_law, defScope s_law, [], []⟩
def fnL : List He.DefD := [d_is_whole, d_is_name, d_is_amount, d_is_ink, d_first_wrong, d_Palette___init__, d_Palette_inks, d_Palette_names, d_Palette_has, d_is_deed, d_wears, d_l_at, d_l_pot, d_l_take, d_l_word, d_l_words, d_l_amount, d_l_inks, d_l_deed, d_l_no_name, d_l_odd, d_l_drawn, d_l_is_name, d_l_is_amount, d_l_fits, d_law]
def tsL : List He.Tab := [(fun K => He.ga K "SIZES", ["lay", "wait", "wash", "warm", "scrape", "rub"])]
def faL : List He.Fa := [.glo "is_whole", .glo "is_name", .glo "is_amount", .glo "is_ink", .glo "first_wrong", .glo "is_deed", .glo "wears", .glo "_law_at", .glo "_law_pot", .glo "_law_take", .glo "_law_word", .glo "_law_words", .glo "_law_amount", .glo "_law_inks", .glo "_law_deed", .glo "_law_no_name", .glo "_law_odd", .glo "_law_drawn", .glo "_law_is_name", .glo "_law_is_amount", .glo "_law_fits", .glo "law", .free "abs", .free "all", .free "bool", .free "dict", .free "divmod", .free "enumerate", .free "int", .free "isinstance", .free "len", .free "list", .free "max", .free "min", .free "range", .free "repr", .free "str", .free "tuple", .str "LETTERS" "abcdefghijklmnopqrstuvwxyz", .int "MOST_INKS" (8), .int "MOST_LETTERS" (8), .glo "Palette", .cls "Palette", .noat "Palette" "fades", .mkr "Palette", .meth "Palette" "inks", .meth "Palette" "names", .meth "Palette" "has", .glo "SIZES", .glo "WITH_INK", .glo "WEARING"]
def tfL : List He.Defn := []
abbrev tabA (K : PySem.W.Frag) (x : Str) : Addr := (He.cT K (x, none)).2
def exL (K : PySem.W.Frag) : Bool := sizB K (He.ga K "SIZES") && tupB K (He.ga K "WITH_INK") ["lay", "wash", "warm"] && noB K (He.ga K "SIZES") (sizesL.map (·.1)) && tupB K (He.ga K "WEARING") ["scrape", "rub"]
abbrev namesL : List Str := [("FadeError" : Str), ("NoPalette" : Str), ("NoInk" : Str), ("MOST_INKS" : Str), ("MOST_LETTERS" : Str), ("LETTERS" : Str), ("is_whole" : Str), ("is_name" : Str), ("is_amount" : Str), ("is_ink" : Str), ("first_wrong" : Str), ("Palette" : Str), ("SIZES" : Str), ("WITH_INK" : Str), ("WEARING" : Str), ("is_deed" : Str), ("wears" : Str), ("_law_at" : Str), ("_law_pot" : Str), ("_law_take" : Str), ("_law_word" : Str), ("_law_words" : Str), ("_law_amount" : Str), ("_law_inks" : Str), ("_law_deed" : Str), ("_law_no_name" : Str), ("_law_odd" : Str), ("_law_drawn" : Str), ("_law_is_name" : Str), ("_law_is_amount" : Str), ("_law_fits" : Str)]
abbrev R : PySem.W.OpenRow := PySem.W.OpenLaw.row PySem.Challenge.rw_fadeleaf_k21_deeds_that_fit
def asN : List Addr := List.range 1600
abbrev hk : PySem.W.Hook := He.hookR asN faL fnL tsL tfL exL
def ob (s : PySem.W.SharedT) : He.AlX := He.obsR asN faL fnL tsL tfL exL (HandSHeadRun.getT s)
theorem ob_eq (s : PySem.W.SharedT) : ob s = hk.obs s.abs := He.obsR_eq (HandSHeadRun.getT_eq s)
theorem run_two {α β γ δ : Type} {e : Option α} {f : α → β} {g : α → γ} {h : α → δ} {x : β} {y : γ} {z : δ} (a : e.map (fun s => (f s, g s)) = some (x, y)) (b : e.map h = some z) : e.map (fun s => (f s, g s, h s)) = some (x, y, z) := by
  cases e with
  | none => cases a
  | some s =>
    have a1 : (f s, g s) = (x, y) := Option.some.inj a
    have b1 : h s = z := Option.some.inj b
    cases a1
    cases b1
    rfl
abbrev frK (s : PySem.W.SharedT) : PySem.W.Frag := He.frT (HandSHeadRun.getT s) asN
def ob1 (s : PySem.W.SharedT) : Bool := faL.all fun f => f.ok (frK s)
def ob2 (s : PySem.W.SharedT) : Bool := fnL.all fun d => d.ok (frK s)
def ob3 (s : PySem.W.SharedT) := fnL.map fun d => He.fnW (frK s) d.at_
def ob4 (s : PySem.W.SharedT) := (tsL.map fun t => He.dicW (frK s) (t.1 (frK s)), exL (frK s) && He.tabsB (HandSHeadRun.getT s) tfL (frK s))
theorem run_four {e : Option PySem.W.SharedT} {v3 : List He.FnW} {v4 : List (Option (List (Option (Str × Int)))) × Bool} (a : e.map ob1 = some true) (b : e.map ob2 = some true) (c : e.map ob3 = some v3) (d : e.map ob4 = some v4) : e.map ob = some (((true, v3), v4.1), v4.2) := by
  cases e with
  | none => cases a
  | some s =>
    have a1 : ob1 s = true := Option.some.inj a
    have b1 : ob2 s = true := Option.some.inj b
    have c1 : ob3 s = v3 := Option.some.inj c
    have d1 : ob4 s = v4 := Option.some.inj d
    have e1 : ob s = (((ob1 s && ob2 s, ob3 s), (ob4 s).1), (ob4 s).2) := rfl
    show some (ob s) = _
    rw [e1, a1, b1, c1, d1] <;> rfl
section
open PySem PySem.W PySem.Calls PyProof.Rows
theorem runA_false (w : World) (os : OsState) : (HandSHeadRun.endF (HandSHeadRun.stepQ (HandSHeadRun.denQ HandSHeadRun.tabQ) R.prog (w.withFollow "special-get-raises" false)) 6000 R.prog (w.withFollow "special-get-raises" false) os).map (fun s => (HandSHeadRun.looksF R.prog (boot_heap (w.withFollow "special-get-raises" false).params) s.abs, HandSHeadRun.seenQ (PySem.W.view R.prog [35]) namesL (importedModules R.prog.main.body) (fun s => xlAt (PySem.W.view R.prog [35]) [] s && recOk R.toRowW.records s) s.abs)) = some (true, openGood (PySem.W.view R.prog [35]) namesL) := by kernel_rfl
theorem runB1_false (w : World) (os : OsState) : (HandSHeadRun.endF (HandSHeadRun.stepQ (HandSHeadRun.denQ HandSHeadRun.tabQ) R.prog (w.withFollow "special-get-raises" false)) 6000 R.prog (w.withFollow "special-get-raises" false) os).map ob1 = some true := by kernel_rfl
theorem runB2_false (w : World) (os : OsState) : (HandSHeadRun.endF (HandSHeadRun.stepQ (HandSHeadRun.denQ HandSHeadRun.tabQ) R.prog (w.withFollow "special-get-raises" false)) 6000 R.prog (w.withFollow "special-get-raises" false) os).map ob2 = some true := by kernel_rfl
theorem runB3_false (w : World) (os : OsState) : (HandSHeadRun.endF (HandSHeadRun.stepQ (HandSHeadRun.denQ HandSHeadRun.tabQ) R.prog (w.withFollow "special-get-raises" false)) 6000 R.prog (w.withFollow "special-get-raises" false) os).map ob3 = some (fnL.map He.DefD.val) := by kernel_rfl
theorem runB4_false (w : World) (os : OsState) : (HandSHeadRun.endF (HandSHeadRun.stepQ (HandSHeadRun.denQ HandSHeadRun.tabQ) R.prog (w.withFollow "special-get-raises" false)) 6000 R.prog (w.withFollow "special-get-raises" false) os).map ob4 = some (tsL.map (fun t => some (He.keysIn (w.withFollow "special-get-raises" false).params t.2)), true) := by kernel_rfl
theorem runB_false (w : World) (os : OsState) : (HandSHeadRun.endF (HandSHeadRun.stepQ (HandSHeadRun.denQ HandSHeadRun.tabQ) R.prog (w.withFollow "special-get-raises" false)) 6000 R.prog (w.withFollow "special-get-raises" false) os).map ob = some (hk.val (w.withFollow "special-get-raises" false)) := run_four (runB1_false w os) (runB2_false w os) (runB3_false w os) (runB4_false w os)
end
theorem run_false (w : World) : HandSHeadRun.RunEq R (PySem.W.view R.prog [35]) hk ob 6000 namesL (w.withFollow "special-get-raises" false) := fun os => run_two (runA_false w os) (runB_false w os)
section
open PySem PySem.W PySem.Calls PyProof.Rows
theorem runA_true (w : World) (os : OsState) : (HandSHeadRun.endF (HandSHeadRun.stepQ (HandSHeadRun.denQ HandSHeadRun.tabQ) R.prog (w.withFollow "special-get-raises" true)) 6000 R.prog (w.withFollow "special-get-raises" true) os).map (fun s => (HandSHeadRun.looksF R.prog (boot_heap (w.withFollow "special-get-raises" true).params) s.abs, HandSHeadRun.seenQ (PySem.W.view R.prog [35]) namesL (importedModules R.prog.main.body) (fun s => xlAt (PySem.W.view R.prog [35]) [] s && recOk R.toRowW.records s) s.abs)) = some (true, openGood (PySem.W.view R.prog [35]) namesL) := by kernel_rfl
theorem runB1_true (w : World) (os : OsState) : (HandSHeadRun.endF (HandSHeadRun.stepQ (HandSHeadRun.denQ HandSHeadRun.tabQ) R.prog (w.withFollow "special-get-raises" true)) 6000 R.prog (w.withFollow "special-get-raises" true) os).map ob1 = some true := by kernel_rfl
theorem runB2_true (w : World) (os : OsState) : (HandSHeadRun.endF (HandSHeadRun.stepQ (HandSHeadRun.denQ HandSHeadRun.tabQ) R.prog (w.withFollow "special-get-raises" true)) 6000 R.prog (w.withFollow "special-get-raises" true) os).map ob2 = some true := by kernel_rfl
theorem runB3_true (w : World) (os : OsState) : (HandSHeadRun.endF (HandSHeadRun.stepQ (HandSHeadRun.denQ HandSHeadRun.tabQ) R.prog (w.withFollow "special-get-raises" true)) 6000 R.prog (w.withFollow "special-get-raises" true) os).map ob3 = some (fnL.map He.DefD.val) := by kernel_rfl
theorem runB4_true (w : World) (os : OsState) : (HandSHeadRun.endF (HandSHeadRun.stepQ (HandSHeadRun.denQ HandSHeadRun.tabQ) R.prog (w.withFollow "special-get-raises" true)) 6000 R.prog (w.withFollow "special-get-raises" true) os).map ob4 = some (tsL.map (fun t => some (He.keysIn (w.withFollow "special-get-raises" true).params t.2)), true) := by kernel_rfl
theorem runB_true (w : World) (os : OsState) : (HandSHeadRun.endF (HandSHeadRun.stepQ (HandSHeadRun.denQ HandSHeadRun.tabQ) R.prog (w.withFollow "special-get-raises" true)) 6000 R.prog (w.withFollow "special-get-raises" true) os).map ob = some (hk.val (w.withFollow "special-get-raises" true)) := run_four (runB1_true w os) (runB2_true w os) (runB3_true w os) (runB4_true w os)
end
theorem run_true (w : World) : HandSHeadRun.RunEq R (PySem.W.view R.prog [35]) hk ob 6000 namesL (w.withFollow "special-get-raises" true) := fun os => run_two (runA_true w os) (runB_true w os)
theorem run (w : World) : HandSHeadRun.RunEq R (PySem.W.view R.prog [35]) hk ob 6000 namesL w := PySem.W.byRow2 "special-get-raises" (P := fun w => HandSHeadRun.RunEq R (PySem.W.view R.prog [35]) hk ob 6000 namesL w) run_false run_true w
section
variable [Tb] {P : Program} {w : World} {K : PySem.W.Frag} {mg : Str → Option Value} {base : Heap} {CPalette aS aI aW : Addr}
theorem Kd.ty {K : PySem.W.Frag} {H : Hp} {a : Addr} {o : HO} {m : String} (h : H a = some o) (e : tyO o = some m) : TyX K H (.ref a) (.type m) := by
  cases o with
  | lst xs => cases e; exact .base (.lst h)
  | tup xs => cases e; exact .base (.tup h)
  | dK kvs => cases e; exact .base (.dK h)
  | _ => cases e
theorem tyO_str {o : HO} {m : String} (e : tyO o = some m) : kitB m "str" = some false ∧ kitB m "int" = some false ∧ kitB m "bool" = some false := by
  cases o with
  | lst xs => cases e; decide +kernel
  | tup xs => cases e; decide +kernel
  | dK kvs => cases e; decide +kernel
  | _ => cases e
def spIsWhole [Tb] (K : PySem.W.Frag) : Sp := fun vs H Q _ => ∃ v : V, vs = [v] ∧ Kd H v ∧ Q (.bl (whV v)) H
theorem ok_is_whole (D : DefAt K mg "is_whole" s_is_whole) (fr : Fr mg) : Cal P w K mg base 1 "is_whole" (spIsWhole K) := by
  refine cal_of D sc_is_whole (fun _ _ _ _ _ _ us hl => match us, hl with | [_], _ => rfl) (fun vs H Q E h => by obtain ⟨v, rfl, _⟩ := h; rfl) fun f cd A out s H vs Q E room gd h => ?_
  obtain ⟨v, rfl, kd, q⟩ := h
  refine ⟨_, (pss_one (ps_ret (ye_and (pe_callB (kIsi (K := K) (by rfl)) (by rfl) fr.isinstance_ (by decide +kernel) (pa_cons (yv 0) (pa_cons (ye_ty (n := "int") (by rfl) fr.int_ (by decide +kernel)) pa_nil))) (pe_one (ye_not (pe_callB (kIsi (K := K) (by rfl)) (by rfl) fr.isinstance_ (by decide +kernel) (pa_cons (yv 0) (pa_cons (ye_ty (n := "bool") (by rfl) fr.bool_ (by decide +kernel)) pa_nil)))))))), ?_⟩
  cases kd with
  | str z hz hf => exact ⟨"str", false, .base (.str _), by decide +kernel, q⟩
  | int i => exact ⟨"int", true, .base (.int _), by decide +kernel, "int", false, .base (.int _), by decide +kernel, q⟩
  | bl b => exact ⟨"bool", true, .base (.bl _), by decide +kernel, "bool", true, .base (.bl _), by decide +kernel, q⟩
  | non => exact ⟨"NoneType", false, .base .non, by decide +kernel, q⟩
  | ref h e => exact ⟨_, false, Kd.ty h e, (tyO_str e).2.1, q⟩
def spIsName [Tb] (K : PySem.W.Frag) : Sp := fun vs H Q _ => ∃ v : V, vs = [v] ∧ Kd H v ∧ ∀ H', Kp No H H' → Q (.bl (nmV v)) H'
theorem ok_is_name (D : DefAt K mg "is_name" s_is_name) (fr : Fr mg) : Cal P w K mg base 1 "is_name" (spIsName K) := by
  refine cal_of D sc_is_name (fun _ _ _ _ _ _ us hl => match us, hl with | [_], _ => rfl) (fun vs H Q E h => by obtain ⟨v, rfl, _⟩ := h; rfl) fun f cd A out s H vs Q E room gd h => ?_
  obtain ⟨v, rfl, kd, q⟩ := h
  refine ⟨_, (pss_cons (ps_if (PW.pt (pw_or (pt_not (yt_val (pe_callB (kIsi (K := K) (by rfl)) (by rfl) fr.isinstance_ (by decide +kernel) (pa_cons (yv 0) (pa_cons (ye_ty (n := "str") (by rfl) fr.str_ (by decide +kernel)) pa_nil))))) (pw_or1 (pt_not (pt_chain oLe oLe pe_int (pe_callB (kLen (K := K) (by rfl)) (by rfl) fr.len_ (by decide +kernel) (pa_cons (yv 0) pa_nil)) (ye_gint fr.MOST_LETTERS_ (by rfl))))))) (pss_one (ps_ret pe_bl)) pss_nil)
    (pss_one (ps_ret (pe_callB (kAll (K := K) (by rfl) rfl) (by rfl) fr.all_ (by decide +kernel) (pa_cons (pe_lc (own := [("sign", 1)]) rfl sc_is_name.nd (yi_str (yv 0)) (blkOk_by (own := [("sign", 1)]) (N := n_is_name) (sc := defScope s_is_name) (by decide +kernel)) (fun _ _ _ _ _ => (yg_name 1 sc_is_name.nd)) (fun _ _ _ _ _ => pts_nil) (fun _ _ _ _ _ => (pe_cmpR (kIn (K := K) (by rfl)) (yv 1) (ye_gstr fr.LETTERS_ (by rfl)) (by rfl)))) pa_nil))))), ?_⟩
  cases kd with
  | str z hz hf =>
    have hzl : z.length ≤ sizeLine := Nat.le_trans hz (by decide)
    refine ⟨"str", true, .base (.str _), by decide +kernel, iteNb rfl ⟨hzl, _, rfl, ?_⟩⟩
    have qf : nmB z = false → ∀ H', Kp No H H' → Q (.bl false) H' := fun e H' k => by
      have := q H' k
      rw [show nmV (.str z) = nmB z from rfl, e] at this
      exact this
    refine iteD (fun h1 => ⟨_, rfl, ?_⟩) fun h1 => ⟨_, rfl, qf (nmB_no (.inl (by omega))) _ (Kp.refl _)⟩
    have key : z.length ≤ 8 → (∀ Dd, H Dd = none → LcGoal (Its z) (gName 1) tYes (tOp (yIn K false) (yVar 1) (tC (.str "abcdefghijklmnopqrstuvwxyz"))) [1] [some (.str z), none] H Dd fun H1 => ∃ bs : List Bool, SqL K H1 Dd (bs.map V.bl) ∧ Q (.bl (bs.all id)) H1) := by
      intro h8 Dd hD
      refine lc_mapS (K := K) PyData.bool (fun c => some (decide (c ∈ abc.cps.toList))) hD (by have := len_tl z; omega) (fun c Hc k kn hc kc hk hkn => ?_) (fun ys H2 h2 k2 im => ?_)
      · exact ⟨rfl, c, rfl, hk _ (decide (c ∈ abc.cps.toList)) _ rfl (Kp.refl _) (.bl _)⟩
      · have e2 := ImAll.bools im
        subst e2
        refine ⟨_, .inl (.inl h2), ?_⟩
        have := q H2 k2
        rw [show nmV (.str z) = nmB z from rfl, nmB_yes (by omega) h8] at this
        rw [List.filterMap_eq_map' (f := fun c : Nat => decide (c ∈ abc.cps.toList))]
        exact this
    by_cases h2 : z.length ≤ 8
    · have e2 : decide (((z.length : Nat) : Int) ≤ 8) = true := decide_eq_true (by omega)
      refine iteNb e2 ?_
      exact fun Dd hD => key h2 Dd hD
    · have e2 : decide (((z.length : Nat) : Int) ≤ 8) = false := decide_eq_false (by omega)
      exact iteN0 e2 (qf (nmB_no (.inr (by omega))) _ (Kp.refl _))
  | int i => exact ⟨"int", false, .base (.int _), by decide +kernel, q _ (Kp.refl _)⟩
  | bl b => exact ⟨"bool", false, .base (.bl _), by decide +kernel, q _ (Kp.refl _)⟩
  | non => exact ⟨"NoneType", false, .base .non, by decide +kernel, q _ (Kp.refl _)⟩
  | ref h e => exact ⟨_, false, Kd.ty h e, (tyO_str e).1, q _ (Kp.refl _)⟩
def spIsAmount [Tb] (K : PySem.W.Frag) : Sp := fun vs H Q _ => ∃ v : V, vs = [v] ∧ Kd H v ∧ Q (.bl (amV v)) H
theorem ok_is_amount (D : DefAt K mg "is_amount" s_is_amount) (fr : Fr mg) (c_is_whole : Cal P w K mg base 1 "is_whole" (spIsWhole K)) : Cal P w K mg base 2 "is_amount" (spIsAmount K) := by
  refine cal_of D sc_is_amount (fun _ _ _ _ _ _ us hl => match us, hl with | [_], _ => rfl) (fun vs H Q E h => by obtain ⟨v, rfl, _⟩ := h; rfl) fun f cd A out s H vs Q E room gd h => ?_
  obtain ⟨v, rfl, kd, q⟩ := h
  refine ⟨_, (pss_one (ps_ret (ye_and (ye_call c_is_whole room gd (by rfl) (pa_cons (yv 0) pa_nil)) (pe_one (pe_cmpR oGt (yv 0) pe_int (nomark _)))))), ?_⟩
  refine ⟨v, rfl, kd, ?_⟩
  cases kd with
  | str z hz hf => exact q
  | int i => exact q
  | bl b => exact q
  | non => exact q
  | ref h e => exact q

def spCell [Tb] (K : PySem.W.Frag) : Sp := fun vs H Q _ => ∃ (a : Addr) (ns : List Int) (k : Int), vs = [.ref a, .int k] ∧ SqL K H a (ns.map V.int) ∧ 0 ≤ k ∧ ∀ c : Int, Q (.int c) H
theorem ok_l_at (D : DefAt K mg "_law_at" s_l_at) (fr : Fr mg) : Cal P w K mg base 1 "_law_at" (spCell K) := by
  refine cal_of D sc_l_at (fun _ _ _ _ _ _ us hl => match us, hl with | [_, _], _ => rfl) (fun vs H Q E h => by obtain ⟨p, m, k, rfl, _⟩ := h; rfl) fun f cd A out s H vs Q E room gd h => ?_
  obtain ⟨a, ns, k, rfl, hS, hk, q⟩ := h
  refine ⟨_, (pss_cons (ps_if (yt_cmp oLt (yv 1) (pe_callB (kLen (K := K) (by rfl)) (by rfl) fr.len_ (by decide +kernel) (pa_cons (yv 0) pa_nil)) (nomark _)) (pss_one (ps_ret (kIx (K := K) (by rfl) (yv 0) (yv 1)))) pss_nil)
    (pss_one (ps_ret pe_int))), ?_⟩
  refine ⟨_, .inl hS, iteD (fun h1 => ?_) fun h0 => q _⟩
  have h2 : k.toNat < ns.length := by rw [List.length_map] at h1; omega
  refine ⟨_, .int ns[k.toNat], .inl hS, at_of (j := k.toNat) (by omega) ?_, q _⟩
  rw [List.getElem?_map, List.getElem?_eq_getElem h2]; rfl
def spPot [Tb] : Sp := fun vs H Q _ => ∃ (c : Int), vs = [.int c] ∧ ∀ (p : Addr) H', H p = none → Kp No H H' → Pot H' p → Q (.ref p) H'
theorem ok_l_pot (D : DefAt K mg "_law_pot" s_l_pot) (fr : Fr mg) : Cal P w K mg base 1 "_law_pot" spPot := by
  refine cal_of D sc_l_pot (fun _ _ _ _ _ _ us hl => match us, hl with | [_], _ => rfl) (fun vs H Q E h => by obtain ⟨p, rfl, _⟩ := h; rfl) fun f cd A out s H vs Q E room gd h => ?_
  obtain ⟨c, rfl, q⟩ := h
  refine ⟨_, (pss_one (ps_ret (ye_lst (pa_cons (pe_callB (cMax2 rfl) (by rfl) fr.max_ (by decide +kernel) (pa_cons pe_int (pa_cons (pe_op oSub (yv 0) (pe_op oPow pe_int pe_int)) pa_nil))) (pa_cons (pe_op (kAdd (K := K) (by rfl)) (pe_op oMod (pe_op oPow (pe_op (kAdd (K := K) (by rfl)) (pe_op oMod (pe_callB cAbs (by rfl) fr.abs_ (by decide +kernel) (pa_cons (yv 0) pa_nil)) pe_int) pe_int) pe_int) pe_int) pe_int) pa_nil))))), ?_⟩
  have e1 : 0 ≤ (c.natAbs : Int) % 2147483563 := Int.emod_nonneg _ (by decide)
  have e2 : (c.natAbs : Int) % 2147483563 < 2147483563 := Int.emod_lt_of_pos _ (by decide)
  refine ⟨⟨by decide, by decide, by decide⟩, by decide, ⟨by decide, by decide, by omega⟩, by decide, fun p hp => ?_⟩
  refine q p _ hp (Kp.new hp) ⟨_, _, upd_same, by omega, ?_, ?_⟩
  · have := Int.emod_nonneg (((c.natAbs : Int) % 2147483563 + 3) ^ ((2 : Int).toNat)) (show (2147483549 : Int) ≠ 0 by decide)
    omega
  · have := Int.emod_lt_of_pos (((c.natAbs : Int) % 2147483563 + 3) ^ ((2 : Int).toNat)) (show (0 : Int) < 2147483549 by decide)
    omega
def spTake [Tb] : Sp := fun vs H Q _ => ∃ (p : Addr) (m : Int), vs = [.ref p, .int m] ∧ Pot H p ∧ 0 < m ∧ m < 10 ^ 70 ∧ ∀ (d : Int) H', Kp (At p) H H' → Pot H' p → 0 ≤ d → d < m → Q (.int d) H'
theorem ok_l_take (D : DefAt K mg "_law_take" s_l_take) (fr : Fr mg) : Cal P w K mg base 1 "_law_take" spTake := by
  refine cal_of D sc_l_take (fun _ _ _ _ _ _ us hl => match us, hl with | [_, _], _ => rfl) (fun vs H Q E h => by obtain ⟨p, m, rfl, _⟩ := h; rfl) fun f cd A out s H vs Q E room gd h => ?_
  obtain ⟨p, m, rfl, ⟨a, b, hp, ha, hb, hb2⟩, hm, hm2, q⟩ := h
  refine ⟨_, (pss_cons (ps_if (yt_cmp oGt (kIx (K := K) (by rfl) (yv 0) pe_int) pe_int (nomark _)) (pss_cons (ps_asg (pe_callB cDivmod (by rfl) fr.divmod_ (by decide +kernel) (pa_cons (kIx (K := K) (by rfl) (yv 0) pe_int) (pa_cons (yv 1) pa_nil))) (kgTup (K := K) (n := 2) (by rfl) rfl (yg_cons (pg_sub (yv 0) pe_int oSetI) (yg_cons (yg_name 2 sc_l_take.nd) yg_nil))))
    (pss_one (ps_ret (yv 2)))) pss_nil)
    (pss_cons (ps_asg (pe_op oMod (pe_op (kAdd (K := K) (by rfl)) (pe_op oMul (kIx (K := K) (by rfl) (yv 0) pe_int) pe_int) pe_int) pe_int) (pg_sub (yv 0) pe_int oSetI))
    (pss_one (ps_ret (pe_op oMod (pe_op oFdv (pe_op oMod (pe_op oMul (kIx (K := K) (by rfl) (yv 0) pe_int) (kIx (K := K) (by rfl) (yv 0) pe_int)) pe_int) pe_int) (yv 1)))))), ?_⟩
  refine ⟨_, _, .inl (.inl (.inl hp)), rfl, ite2 (fun h0 => ?_) fun h0 => ?_⟩
  · refine ⟨_, _, .inl (.inl (.inl hp)), rfl, ⟨hm, hm2⟩, fun t ht => ?_⟩
    have np : p ≠ t := ne_of_none hp ht
    have hp2 : upd H t (.tup [.int (a / m), .int (a % m)]) p = some (.lst [.int a, .int b]) := by rw [upd_ne np]; exact hp
    refine ⟨_, .inl (.inl upd_same), rfl, _, 0, hp2, rfl, ?_⟩
    exact q _ _ ((Kp.new ht).trans (Kp.set rfl hp2)) ⟨a / m, b, upd_same, Int.ediv_nonneg ha (Int.le_of_lt hm), hb, hb2⟩ (Int.emod_nonneg _ (by omega)) (Int.emod_lt_of_pos _ hm)
  · refine ⟨_, _, .inl (.inl (.inl hp)), rfl, mid64 (by omega) (by omega), mid64 (by omega) (by omega), by decide, _, 1, hp, rfl, ?_⟩
    have e1 : 0 ≤ (b * 48271 + 9973) % 2147483647 := Int.emod_nonneg _ (by decide)
    have e2 : (b * 48271 + 9973) % 2147483647 < 2147483647 := Int.emod_lt_of_pos _ (by decide)
    have hp2 : ∀ l, upd H p (.lst l) p = some (.lst l) := fun l => upd_same
    refine ⟨_, _, .inl (.inl (.inl (hp2 _))), rfl, _, _, .inl (.inl (.inl (hp2 _))), rfl, mid64 (by omega) (by omega), mid64 (by omega) (by omega), by decide, by decide, by decide, hm, ?_⟩
    exact q _ _ (Kp.set rfl hp) ⟨a, _, upd_same, ha, e1, by omega⟩ (Int.emod_nonneg _ (by omega)) (Int.emod_lt_of_pos _ hm)
/-- a word that is not among those found -/
def spWord2 [Tb] : Sp := fun vs H Q _ => ∃ (p f : Addr) (ns : List Str), vs = [.ref p, .ref f] ∧ Pot H p ∧ H f = some (.lst (ns.map V.str)) ∧ ns.length < 26 ∧ f ≠ p ∧ ∀ (z : Str) H', Kp (At p) H H' → Pot H' p → Nm z → z ∉ ns → Q (.str z) H'
theorem inV_strs (a : Str) (ns : List Str) : inV (.str a) (ns.map V.str) = decide (a ∈ ns) := by
  unfold inV
  rw [Bool.eq_iff_iff, List.any_map, List.any_eq_true, decide_eq_true_eq]
  constructor
  · rintro ⟨y, hy, e⟩
    have : y = a := eq_of_beq e
    exact this ▸ hy
  · intro h
    exact ⟨a, h, beq_self_eq_true a⟩
theorem free_letter {ns : List Str} (h : ns.length < 26) : ∃ c cs, (abc.cps.toList.filter fun c => !decide ((⟨#[c]⟩ : Str) ∈ ns)) = c :: cs := by
  cases e : abc.cps.toList.filter fun c => !decide ((⟨#[c]⟩ : Str) ∈ ns) with
  | cons c cs => exact ⟨c, cs, rfl⟩
  | nil =>
    exfalso
    rw [List.filter_eq_nil_iff] at e
    have nd : (abc.cps.toList.map fun c => (⟨#[c]⟩ : Str)).Nodup := by decide +kernel
    have := nodup_le nd (m := ns) fun x hx => by
      obtain ⟨c, hc, rfl⟩ := List.mem_map.mp hx
      have := e c hc
      simpa using this
    have l26 : (abc.cps.toList.map fun c => (⟨#[c]⟩ : Str)).length = 26 := by decide +kernel
    omega
theorem ok_l_word (D : DefAt K mg "_law_word" s_l_word) (fr : Fr mg) (c_l_take : Cal P w K mg base 1 "_law_take" spTake) : Cal P w K mg base 2 "_law_word" spWord2 := by
  refine cal_of D sc_l_word (fun _ _ _ _ _ _ us hl => match us, hl with | [_, _], _ => rfl) (fun vs H Q E h => by obtain ⟨p, f, ns, rfl, _⟩ := h; rfl) fun f cd A out s H vs Q E room gd h => ?_
  obtain ⟨p, fo, ns, rfl, pot, hf, hn, nfp, q⟩ := h
  refine ⟨_, (pss_cons (ys_set 2 sc_l_word.nd pe_str)
    (pss_cons (ys_set 3 sc_l_word.nd (kJoin (K := K) (by rfl) pe_str (pe_lc (own := [("_law_k", 4)]) rfl sc_l_word.nd (yi_range1 (by rfl) fr.range_ (pa_cons (pe_op (kAdd (K := K) (by rfl)) pe_int (ye_call c_l_take room gd (by rfl) (pa_cons (yv 0) (pa_cons pe_int pa_nil)))) pa_nil)) (blkOk_by (own := [("_law_k", 4)]) (N := n_l_word) (sc := defScope s_l_word) (by decide +kernel)) (fun _ _ _ _ _ => (yg_name 4 sc_l_word.nd)) (fun _ _ _ _ _ => pts_nil) (fun _ _ _ _ _ => (kIx (K := K) (by rfl) (yv 2) (ye_call c_l_take room gd (by rfl) (pa_cons (yv 0) (pa_cons pe_int pa_nil))))))))
    (pss_cons (ps_if (yt_cmp (kIn (K := K) (by rfl)) (yv 3) (yv 1) (by rfl)) (pss_one (ys_set 3 sc_l_word.nd (kIx (K := K) (by rfl) (pe_lc (own := [("_law_letter", 5)]) rfl sc_l_word.nd (yi_str (yv 2)) (blkOk_by (own := [("_law_letter", 5)]) (N := n_l_word) (sc := defScope s_l_word) (by decide +kernel)) (fun _ _ _ _ _ => (yg_name 5 sc_l_word.nd)) (fun _ _ _ _ _ => (pts_one (yt_cmp (kNotIn (K := K) (by rfl)) (yv 5) (yv 1) (by rfl)))) (fun _ _ _ _ _ => (yv 5))) pe_int))) pss_nil)
    (pss_one (ps_ret (yv 3)))))), ?_⟩
  refine ⟨p, 8, rfl, pot, by decide, by decide, fun d H1 k1 pot1 d0 d1 => ⟨⟨by omega, by omega⟩, fun Dd hD => ?_⟩⟩
  refine lc_draw (K := K) (fun c : Nat => PyData.str ⟨#[c]⟩) (fun c => 97 ≤ c ∧ c ≤ 122) hD pot1 (by omega) (fun i Ha k kn hi ka pa hk => ?_) (fun ys bs H2 h2 k2 pot2 hl hP im => ?_)
  · refine ⟨rfl, p, 26, rfl, pa, by decide, by decide, fun e H4 k4 pot4 e0 e1 => ⟨by decide, _, abc_at e0 e1, ?_⟩⟩
    exact hk _ _ _ (by omega) k4 pot4 (.str _)
  · have e : bs.map (fun c : Nat => PyData.str ⟨#[c]⟩) = (bs.map fun c => (⟨#[c]⟩ : Str)).map PyData.str := by rw [List.map_map]; rfl
    rw [e] at im
    have e2 := im.strs
    subst e2
    have k02 := k1.trans k2
    have hf2 := k02.all fo _ hf nfp
    refine ⟨_, .inl (.inl (.inl h2)), ?_, ?_⟩
    · rw [signs_len]
      show _ + _ * 0 ≤ _
      omega
    · rw [join_signs]
      have nm : Nm ⟨bs.toArray⟩ := nm_of_codes (by omega) (by omega) hP
      refine ⟨fo, _, rfl, .inl (.inl (.inl hf2)), rfl, flat_strs _, ?_⟩
      rw [inV_strs]
      refine iteD (fun hm => fun D2 hD2 => ?_) fun hm => q _ _ k02 pot2 nm hm
      refine lc_mapS (K := K) (fun c : Nat => PyData.str ⟨#[c]⟩) (fun c => if (!decide ((⟨#[c]⟩ : Str) ∈ ns)) = true then some c else none) hD2 (by decide) (fun c Hc k kn hc kc hk hkn => ?_) (fun ys H3 h3 k3 im => ?_)
      · refine ⟨rfl, fo, _, rfl, .inl (.inl (.inl (kc.all fo _ hf2 id))), rfl, flat_strs _, ?_⟩
        show if (!inV (.str ⟨#[c]⟩) (ns.map V.str)) = true then _ else _
        rw [inV_strs]
        exact ite2 (fun h => hk _ c _ (if_pos h) (Kp.refl _) (.str _)) fun h => hkn _ (if_neg h) (Kp.refl _)
      · rw [fm_filter] at im
        obtain ⟨c, cs, ec⟩ := free_letter hn
        have hc : c ∈ abc.cps.toList.filter fun c => !decide ((⟨#[c]⟩ : Str) ∈ ns) := by rw [ec]; exact List.mem_cons_self
        rw [List.mem_filter] at hc
        have im : ImAll K H3 ys ((abc.cps.toList.filter fun c => !decide ((⟨#[c]⟩ : Str) ∈ ns)).map fun c : Nat => PyData.str ⟨#[c]⟩) := im
        rw [ec] at im
        cases im with
        | cons z1 z2 =>
        obtain rfl := z1.strInv
        refine ⟨_, _, .inl (.inl (.inl h3)), at_of (j := 0) rfl rfl, q _ _ (k02.trans k3.no) (pot2.keep k3 id) ?_ ?_⟩
        · have hr : c ∈ (List.range 26).map (97 + ·) := abc_list ▸ hc.1
          obtain ⟨j, hj, rfl⟩ := List.mem_map.mp hr
          have := List.mem_range.mp hj
          exact nm_of_codes (cs := [97 + j]) (by simp) (by simp) fun x hx => by rw [List.mem_singleton.mp hx]; omega
        · simpa using hc.2
def spNames [Tb] : Sp := fun vs H Q _ => ∃ (p : Addr) (m : Int), vs = [.ref p, .int m] ∧ Pot H p ∧ 0 ≤ m ∧ m ≤ 25 ∧
  ∀ (l : Addr) (ns : List Str) H', H l = none → Kp (At p) H H' → Pot H' p → H' l = some (.lst (ns.map V.str)) → (ns.length : Int) = m → (∀ z ∈ ns, Nm z) → ns.Nodup → Q (.ref l) H'
theorem ok_l_words (D : DefAt K mg "_law_words" s_l_words) (fr : Fr mg) (c_l_word : Cal P w K mg base 2 "_law_word" spWord2) : Cal P w K mg base 3 "_law_words" spNames := by
  refine cal_of D sc_l_words (fun _ _ _ _ _ _ us hl => match us, hl with | [_, _], _ => rfl) (fun vs H Q E h => by obtain ⟨p, m, rfl, _⟩ := h; rfl) fun f cd A out s H vs Q E room gd h => ?_
  obtain ⟨p, m, rfl, pot, m0, m1, q⟩ := h
  refine ⟨_, (pss_cons (ys_set 2 sc_l_words.nd (ye_lst pa_nil))
    (pss_cons (ps_for PassesOwn.never rfl (yi_range1 (by rfl) fr.range_ (pa_cons (yv 1) pa_nil)) (yg_name 3 sc_l_words.nd) (pss_one (ps_expr (ye_append (pe_bm PySem.F.plainAttrs_list PySem.F.slot_list_append PySem.F.type_list_append mt_append (PE.cl (yv 2)) (pa_cons (PE.cl (ye_call c_l_word room gd (by rfl) (pa_cons (yv 0) (pa_cons (yv 2) pa_nil)))) pa_nil))))))
    (pss_one (ps_ret (yv 2))))), ?_⟩
  intro l hl
  have npl : p ≠ l := pot.ne hl
  refine ⟨⟨by omega, by omega⟩, ?_⟩
  refine for_it walk_range (fun i σ H' => ∃ (ns : List Str) (y3 : Option V), σ = [some (.ref p), some (.int m), some (.ref l), y3] ∧ Kp (At p) H H' ∧ Pot H' p ∧ H' l = some (.lst (ns.map V.str)) ∧ ns.length = i ∧ (∀ z ∈ ns, Nm z) ∧ ns.Nodup)
    ⟨[], none, rfl, Kp.new hl, pot.upd_ npl, upd_same, rfl, fun z hz => (nomatch hz), List.nodup_nil⟩ (fun _ _ _ _ _ => trivial) ?_ ?_
  · rintro i x σ Ha Hb hi ⟨ns, y3, rfl, ka, pa, la, hn, hN, hd⟩ ⟨rfl, rfl⟩
    refine ⟨⟨_, la⟩, p, l, ns, rfl, pa, la, by omega, fun e => npl e.symm, fun z H1 k1 p1 hz hzn => ?_⟩
    have l1 := k1.all l _ la fun e => npl e.symm
    have hset : Kp (At l) H1 (upd H1 l (.lst (ns.map V.str ++ [.str z]))) := Kp.set rfl l1
    refine ⟨_, l1, by rw [List.length_map, hn]; exact Nat.lt_of_lt_of_le (show i < 1000 by omega) (by decide), ns ++ [z], _, rfl, (ka.trans k1).put hl l1, p1.keep hset npl, by rw [upd_same]; simp, by simp [hn], ?_, ?_⟩
    · intro c hc
      rcases List.mem_append.mp hc with hc | hc
      · exact hN c hc
      · rw [List.mem_singleton.mp hc]; exact hz
    · rw [List.nodup_append]
      refine ⟨hd, by simp, ?_⟩
      intro a ha b hb e
      rw [List.mem_singleton.mp hb] at e
      exact hzn (e ▸ ha)
  · rintro σ H' ⟨ns, y3, rfl, ka, pa, la, hn, hN, hd⟩
    exact q l ns H' hl ka pa la (by omega) hN hd
def spAmount [Tb] : Sp := fun vs H Q _ => ∃ (p : Addr), vs = [.ref p] ∧ Pot H p ∧ ∀ (n : Int) H', Kp (At p) H H' → Pot H' p → 1 ≤ n → n ≤ 10 ^ 59 → Q (.int n) H'
theorem ok_l_amount (D : DefAt K mg "_law_amount" s_l_amount) (fr : Fr mg) (c_l_take : Cal P w K mg base 1 "_law_take" spTake) : Cal P w K mg base 2 "_law_amount" spAmount := by
  refine cal_of D sc_l_amount (fun _ _ _ _ _ _ us hl => match us, hl with | [_], _ => rfl) (fun vs H Q E h => by obtain ⟨p, rfl, _⟩ := h; rfl) fun f cd A out s H vs Q E room gd h => ?_
  obtain ⟨p, rfl, pot, q⟩ := h
  refine ⟨_, (pss_one (ps_ret (pe_op (kAdd (K := K) (by rfl)) pe_int (ye_call c_l_take room gd (by rfl) (pa_cons (yv 0) (pa_cons (kIx (K := K) (by rfl) (ye_lst (pa_cons pe_int (pa_cons pe_int (pa_cons pe_int (pa_cons (pe_op oPow pe_int pe_int) pa_nil))))) (ye_call c_l_take room gd (by rfl) (pa_cons (yv 0) (pa_cons pe_int pa_nil)))) pa_nil)))))), ?_⟩
  refine ⟨⟨by decide, by decide, by decide⟩, fun l hl => ?_⟩
  have kl : Kp (At p) H (upd H l (.lst [.int 3, .int 3, .int 9, .int (10 ^ 59)])) := Kp.new hl
  have npl := pot.ne hl
  refine ⟨p, 4, rfl, pot.upd_ npl, by decide, by decide, fun d H1 k1 p1 d0 d1 => ?_⟩
  have l1 := k1.all l _ upd_same fun e => npl e.symm
  obtain ⟨m, hm1, hm2, hm3⟩ : ∃ m : Int, atI [V.int 3, .int 3, .int 9, .int (10 ^ 59)] d = some (.int m) ∧ 0 < m ∧ m ≤ 10 ^ 59 := by
    have c : d = 0 ∨ d = 1 ∨ d = 2 ∨ d = 3 := by omega
    rcases c with rfl | rfl | rfl | rfl
    · exact ⟨3, at_of (j := 0) rfl rfl, by decide, by decide⟩
    · exact ⟨3, at_of (j := 1) rfl rfl, by decide, by decide⟩
    · exact ⟨9, at_of (j := 2) rfl rfl, by decide, by decide⟩
    · exact ⟨10 ^ 59, at_of (j := 3) rfl rfl, by decide, by decide⟩
  exact ⟨_, _, .inl (.inl (.inl l1)), hm1, p, m, rfl, p1, hm2, by omega, fun e H2 k2 p2 e0 e1 => q _ _ ((kl.trans k1).trans k2) p2 (by omega) (by omega)⟩
def spInks [Tb] (K : PySem.W.Frag) : Sp := fun vs H Q _ => ∃ (p : Addr) (m : Int), vs = [.ref p, .int m] ∧ Pot H p ∧ 1 ≤ m ∧ m ≤ 8 ∧ ∀ (l : Addr) (ys : List V) (ks : List Ink) H', H l = none → Kp (At p) H H' → Pot H' p → H' l = some (.lst ys) → (∀ (j : Nat) (a : Addr) (k : Ink), ys[j]? = some (.ref a) → ks[j]? = some k → H' a = some (.tup [.str k.1, .int k.2])) → ImAll K H' ys (ks.map inkD) → InkOk ks → (∀ k ∈ ks, k.2 < 10 ^ 30) → Q (.ref l) H'
theorem ok_l_inks (D : DefAt K mg "_law_inks" s_l_inks) (fr : Fr mg) (c_l_take : Cal P w K mg base 1 "_law_take" spTake) (c_l_words : Cal P w K mg base 3 "_law_words" spNames) : Cal P w K mg base 4 "_law_inks" (spInks K) := by
  refine cal_of D sc_l_inks (fun _ _ _ _ _ _ us hl => match us, hl with | [_, _], _ => rfl) (fun vs H Q E h => by obtain ⟨p, m, rfl, _⟩ := h; rfl) fun f cd A out s H vs Q E room gd h => ?_
  obtain ⟨p, m, rfl, pot, m1, m8, q⟩ := h
  refine ⟨_, (pss_cons (ys_set 2 sc_l_inks.nd (ye_call c_l_words room gd (by rfl) (pa_cons (yv 0) (pa_cons (pe_op (kAdd (K := K) (by rfl)) pe_int (ye_call c_l_take room gd (by rfl) (pa_cons (yv 0) (pa_cons (yv 1) pa_nil)))) pa_nil))))
    (pss_cons (ys_set 3 sc_l_inks.nd (ye_lst pa_nil))
    (pss_cons (ps_for PassesOwn.never rfl (kiList (K := K) (by rfl) (yv 2)) (yg_name 4 sc_l_inks.nd) (pss_one (ps_expr (ye_append (pe_bm PySem.F.plainAttrs_list PySem.F.slot_list_append PySem.F.type_list_append mt_append (PE.cl (yv 3)) (pa_cons (PE.cl (ye_tup (pa_cons (yv 4) (pa_cons (kIx (K := K) (by rfl) (ye_lst (pa_cons pe_int (pa_cons pe_int (pa_cons (ye_call c_l_take room gd (by rfl) (pa_cons (yv 0) (pa_cons pe_int pa_nil))) (pa_cons (ye_call c_l_take room gd (by rfl) (pa_cons (yv 0) (pa_cons (pe_op oPow pe_int pe_int) pa_nil))) pa_nil))))) (ye_call c_l_take room gd (by rfl) (pa_cons (yv 0) (pa_cons pe_int pa_nil)))) pa_nil)))) pa_nil))))))
    (pss_one (ps_ret (yv 3)))))), ?_⟩
  refine ⟨p, m, rfl, pot, by omega, by omega, fun d H1 k1 p1 d0 d1 => ⟨p, _, rfl, p1, by omega, by omega, fun l ns H2 hl k2 p2 l2 hn hN hd => ?_⟩⟩
  have k02 := k1.trans k2
  have nlp : l ≠ p := fun e => (p1.ne hl) e.symm
  intro fo hfo
  have kf : Kp No H2 (upd H2 fo (.lst [])) := Kp.new hfo
  have lf := kf.all l _ l2 id
  have hfoH : H fo = none := k02.dom fo hfo
  have nfp : fo ≠ p := fun e => (pot.ne hfoH) e.symm
  have nlf : l ≠ fo := ne_of_none l2 hfo
  refine ⟨⟨_, .inl (.inl lf)⟩, ?_⟩
  have en : (ns.map V.str).length = ns.length := List.length_map ..
  have wl : Walk (Itl K l) ns.length (fun H => SqL K H l (ns.map V.str)) (YAt (ns.map V.str)) := en ▸ walk_list
  refine for_it wl (fun i σ H' => ∃ (ys : List V) (ks : List Ink) (y4 : Option V), σ = [some (.ref p), some (.int m), some (.ref l), some (.ref fo), y4] ∧ Kp (At p) H H' ∧ Pot H' p ∧ H' l = some (.lst (ns.map V.str)) ∧ H' fo = some (.lst ys) ∧ ImAll K H' ys (ks.map inkD) ∧ ks.map (·.1) = ns.take i ∧ (∀ k ∈ ks, 0 ≤ k.2 ∧ k.2 < 10 ^ 30) ∧ (∀ (j : Nat) (a : Addr) (k : Ink), ys[j]? = some (.ref a) → ks[j]? = some k → H' a = some (.tup [.str k.1, .int k.2])))
    ⟨[], [], none, rfl, k02.trans kf.no, p2.keep kf id, lf, upd_same, .nil, rfl, fun k hk => (nomatch hk), fun j a k h => by simp at h⟩ (fun i σ H' _ ⟨_, _, _, _, _, _, h, _⟩ => .inl (.inl h)) ?_ ?_
  · rintro i x σ Ha Hb hi ⟨ys, ks, y4, rfl, ka, pa, la, fa, im, ek, hk, inh⟩ ⟨rfl, hx⟩
    rw [List.getElem?_map, List.getElem?_eq_getElem hi] at hx
    obtain rfl := Option.some.inj hx
    refine ⟨⟨_, fa⟩, p, 5, rfl, pa, by decide, by decide, fun c2 H4 k4 p4 a2 b2 => ⟨⟨by decide, by decide, by decide⟩, p, _, rfl, p4, by decide, by decide, fun c3 H5 k5 p5 a3 b3 => fun u hu => ?_⟩⟩
    have b3' : c3 < 10 ^ 30 := b3
    have ku : Kp (At p) H5 (upd H5 u (.lst [.int 0, .int 1, .int c2, .int c3])) := Kp.new hu
    have nup : u ≠ p := fun e => (p5.ne hu) e.symm
    refine ⟨p, 4, rfl, p5.upd_ (p5.ne hu), by decide, by decide, fun c4 H6 k6 p6 a4 b4 => ?_⟩
    have u6 := k6.all u _ upd_same nup
    obtain ⟨n, hn1, hn2, hn3⟩ : ∃ n : Int, atI [V.int 0, .int 1, .int c2, .int c3] c4 = some (.int n) ∧ 0 ≤ n ∧ n < 10 ^ 30 := by
      have c : c4 = 0 ∨ c4 = 1 ∨ c4 = 2 ∨ c4 = 3 := by omega
      rcases c with rfl | rfl | rfl | rfl
      · exact ⟨0, at_of (j := 0) rfl rfl, by decide, by decide⟩
      · exact ⟨1, at_of (j := 1) rfl rfl, by decide, by decide⟩
      · exact ⟨c2, at_of (j := 2) rfl rfl, a2, by omega⟩
      · exact ⟨c3, at_of (j := 3) rfl rfl, a3, by omega⟩
    refine ⟨_, _, .inl (.inl (.inl u6)), hn1, fun w hw => ?_⟩
    have kw : Kp (At p) H6 (upd H6 w (.tup [.str ns[i], .int n])) := Kp.new hw
    have k46 := ((k4.trans k5).trans (ku.trans k6)).trans kw
    have f8 := k46.all fo _ fa nfp
    have ey : ys.length = i := by
      rw [im.length, List.length_map, ← List.length_map (f := fun k : Ink => k.1) (as := ks), ek, List.length_take]
      omega
    have kS : Kp (At fo) _ (upd (upd H6 w (.tup [.str ns[i], .int n])) fo (.lst (ys ++ [.ref w]))) := Kp.set rfl f8
    refine ⟨ys, f8, by rw [ey]; exact Nat.lt_of_lt_of_le (show i < 1000 by omega) (by decide), ys ++ [.ref w], ks ++ [(ns[i], n)], _, rfl, (ka.trans k46).put hfoH f8, (p6.upd_ (p6.ne hw)).keep kS fun e => nfp e.symm, kS.all l _ (k46.all l _ la nlp) nlf, upd_same, ?_, ?_, ?_, ?_⟩
    · rw [List.map_append]
      exact (ImAll.up kS _ _ (ImAll.up k46 _ _ im)).snoc (Im.mk (kS.tup _ _ upd_same) (.cons (.str _) (.cons (.int _) .nil)))
    · rw [List.map_append, ek, List.take_add_one, List.getElem?_eq_getElem hi]
      rfl
    · intro k hk2
      rcases List.mem_append.mp hk2 with z | z
      · exact hk k z
      · rw [List.mem_singleton.mp z]; exact ⟨hn2, hn3⟩
    · intro j a k h1 h2
      have eyk : ys.length = ks.length := by rw [im.length, List.length_map]
      by_cases hj : j < ys.length
      · rw [List.getElem?_append_left hj] at h1
        rw [List.getElem?_append_left (by omega)] at h2
        exact kS.tup _ _ (k46.tup _ _ (inh j a k h1 h2))
      · have hj2 : j = ys.length := by
          have := (List.getElem?_eq_some_iff.mp h1).1
          rw [List.length_append] at this
          simp at this
          omega
        subst hj2
        rw [List.getElem?_append_right (Nat.le_refl _), Nat.sub_self] at h1
        rw [eyk, List.getElem?_append_right (Nat.le_refl _), Nat.sub_self] at h2
        cases h1
        cases h2
        exact kS.tup _ _ upd_same
  · rintro σ H' ⟨ys, ks, y4, rfl, ka, pa, la, fa, im, ek, hk, inh⟩
    rw [List.take_length] at ek
    have el : ks.length = ns.length := by rw [← ek, List.length_map]
    refine q fo ys ks H' hfoH ka pa fa inh im ⟨by omega, by omega, fun k hk2 => ⟨hN _ (ek ▸ List.mem_map_of_mem hk2), (hk k hk2).1, by have := (hk k hk2).2; omega⟩, by rw [ek]; exact hd⟩ fun k hk2 => (hk k hk2).2

def spIsInk [Tb] (K : PySem.W.Frag) : Sp := fun vs H Q _ => ∃ (v : V) (p : Ink), vs = [v] ∧ Im K H v (inkD p) ∧ Nm p.1 ∧ 0 ≤ p.2 ∧ ∀ H', Kp No H H' → Q (.bl true) H'
theorem ok_is_ink (D : DefAt K mg "is_ink" s_is_ink) (fr : Fr mg) (c_is_name : Cal P w K mg base 1 "is_name" (spIsName K)) (c_is_whole : Cal P w K mg base 1 "is_whole" (spIsWhole K)) : Cal P w K mg base 2 "is_ink" (spIsInk K) := by
  refine cal_of D sc_is_ink (fun _ _ _ _ _ _ us hl => match us, hl with | [_], _ => rfl) (fun vs H Q E h => by obtain ⟨v, p, rfl, _⟩ := h; rfl) fun f cd A out s H vs Q E room gd h => ?_
  obtain ⟨v, p, rfl, im, nm, p0, q⟩ := h
  obtain ⟨a, rfl, ta⟩ := im.inkInv
  refine ⟨_, (pss_cons (ps_if (PW.pt (pw_or (pt_not (yt_val (pe_callB (kIsi (K := K) (by rfl)) (by rfl) fr.isinstance_ (by decide +kernel) (pa_cons (yv 0) (pa_cons (ye_ty (n := "tuple") (by rfl) fr.tuple_ (by decide +kernel)) pa_nil))))) (pw_or (yt_cmp (kNe (K := K) (by rfl) room.units) (pe_callB (kLen (K := K) (by rfl)) (by rfl) fr.len_ (by decide +kernel) (pa_cons (yv 0) pa_nil)) pe_int (nomark _)) (pw_or1 (pt_not (yt_val (ye_call c_is_name room gd (by rfl) (pa_cons (kIx (K := K) (by rfl) (yv 0) pe_int) pa_nil)))))))) (pss_one (ps_ret pe_bl)) pss_nil)
    (pss_one (ps_ret (ye_and (ye_call c_is_whole room gd (by rfl) (pa_cons (kIx (K := K) (by rfl) (yv 0) pe_int) pa_nil)) (pe_one (pe_cmpR oGe (kIx (K := K) (by rfl) (yv 0) pe_int) pe_int (nomark _))))))), ?_⟩
  have e2 : decide (((([V.str p.1, V.int p.2] : List V).length : Nat) : Int) = 2) = true := decide_eq_true rfl
  refine ⟨"tuple", true, tp_ty ta, by decide +kernel, iteNb rfl ⟨_, .inr ta.sq, _, _, .inr ta.sq, at_of (j := 0) rfl rfl, .str p.1, rfl, .str _ (Nat.le_trans nm.eight (by decide)) (nm_fine nm), fun H1 k1 => ?_⟩⟩
  refine iteNb (nm_nmB nm) ⟨_, _, .inr (ta.up k1).sq, at_of (j := 1) rfl rfl, .int p.2, rfl, .int _, ?_⟩
  refine ⟨_, _, .inr (ta.up k1).sq, at_of (j := 1) rfl rfl, ?_⟩
  have e : decide (0 ≤ p.2) = true := decide_eq_true p0
  show Q (.bl (decide (0 ≤ p.2))) H1
  rw [e]
  exact q _ k1
def spFirstWrong [Tb] (K : PySem.W.Frag) : Sp := fun vs H Q _ => ∃ (a : Addr) (xs : List V) (ks : List Ink), vs = [.ref a] ∧ SqL K H a xs ∧ ImAll K H xs (ks.map inkD) ∧ InkOk ks ∧ ∀ H', Kp No H H' → Q .non H'
theorem ok_first_wrong (D : DefAt K mg "first_wrong" s_first_wrong) (fr : Fr mg) (c_is_ink : Cal P w K mg base 2 "is_ink" (spIsInk K)) : Cal P w K mg base 3 "first_wrong" (spFirstWrong K) := by
  refine cal_of D sc_first_wrong (fun _ _ _ _ _ _ us hl => match us, hl with | [_], _ => rfl) (fun vs H Q E h => by obtain ⟨a, xs, ks, rfl, _⟩ := h; rfl) fun f cd A out s H vs Q E room gd h => ?_
  obtain ⟨a, xs, ks, rfl, hS, im, ok, q⟩ := h
  have el : xs.length = ks.length := by rw [im.length, List.length_map]
  refine ⟨_, (pss_cons (ys_set 1 sc_first_wrong.nd (ye_lst pa_nil))
    (pss_cons (ps_for PassesOwn.never rfl (pi_enum (by rfl) fr.enumerate_ (pa_cons (yv 0) pa_nil)) (kgTup (K := K) (n := 2) (by rfl) rfl (yg_cons (yg_name 2 sc_first_wrong.nd) (yg_cons (yg_name 3 sc_first_wrong.nd) yg_nil))) (pss_cons (ps_if (PW.pt (pw_or (pt_not (yt_val (ye_call c_is_ink room gd (by rfl) (pa_cons (yv 3) pa_nil)))) (pw_or1 (yt_cmp (kIn (K := K) (by rfl)) (kIx (K := K) (by rfl) (yv 3) pe_int) (yv 1) (by rfl))))) (pss_one (ps_ret (yv 2))) pss_nil)
    (pss_one (ps_expr (ye_append (pe_bm PySem.F.plainAttrs_list PySem.F.slot_list_append PySem.F.type_list_append mt_append (PE.cl (yv 1)) (pa_cons (PE.cl (kIx (K := K) (by rfl) (yv 3) pe_int)) pa_nil)))))))
    (pss_one (ps_ret pe_non)))), ?_⟩
  intro l hl
  have kl : Kp No H (upd H l (.lst [])) := Kp.new hl
  refine ⟨a, xs, rfl, kl.seq hS, ?_⟩
  refine for_it (el ▸ walk_enum (xs := xs)) (fun i σ H' => ∃ y2 y3, σ = [some (.ref a), some (.ref l), y2, y3] ∧ Kp No H H' ∧ H' l = some (.lst (((ks.take i).map (·.1)).map V.str)))
    ⟨none, none, rfl, kl, upd_same⟩ (fun i σ H' _ ⟨_, _, _, k, _⟩ => k.seq hS) ?_ ?_
  · rintro i x σ Ha Hb hi ⟨y2, y3, rfl, ka, la⟩ ⟨T, x1, x2, rfl, hT, rfl, h1, h2⟩
    obtain rfl : .int (i : Int) = x1 := Option.some.inj h1
    obtain ⟨d, e1, imx⟩ := im.get h2
    rw [List.getElem?_map, List.getElem?_eq_getElem hi] at e1
    obtain rfl := Option.some.inj e1
    have okp := ok.nm _ (List.getElem_mem hi)
    have kT : Kp No Ha (upd Ha T (.tup [.int (i : Int), x2])) := Kp.new hT
    have kb := ka.trans kT
    have imb := Im.up kb _ _ imx
    refine ⟨_, .inl (.inl upd_same), rfl, _, _, rfl, imb, okp.1, okp.2.1, fun H1 k1 => iteNb rfl ?_⟩
    obtain ⟨b, rfl, tb⟩ := (Im.up k1 _ _ imb).inkInv
    have l1 := (kT.trans k1).all l _ la id
    refine ⟨_, _, .inr tb.sq, at_of (j := 0) rfl rfl, l, _, rfl, .inl (.inl (.inl l1)), rfl, flat_strs _, ?_⟩
    have ni : inV (.str ks[i].1) (((ks.take i).map (·.1)).map V.str) = false := by
      rw [Bool.eq_false_iff]
      intro z
      unfold inV at z
      rw [List.any_map, List.any_eq_true] at z
      obtain ⟨y, hy, e⟩ := z
      have : y = ks[i].1 := eq_of_beq e
      obtain ⟨pj, hpj, e2⟩ := List.mem_map.mp hy
      obtain ⟨j, hj, e3⟩ := List.mem_iff_getElem.mp hpj
      rw [List.length_take] at hj
      have hji : j < i := by omega
      have := ok.ne hji hi
      rw [List.getElem_take] at e3
      rw [e3, e2] at this
      exact this (by assumption)
    show if (inV (.str ks[i].1) (((ks.take i).map (·.1)).map V.str)) = true then _ else _
    rw [ni]
    refine ⟨⟨_, l1⟩, _, _, .inr tb.sq, at_of (j := 0) rfl rfl, _, l1, ?_, _, _, rfl, (kb.trans k1).put hl l1, ?_⟩
    · rw [List.length_map, List.length_map, List.length_take]
      exact Nat.lt_of_le_of_lt (show min i ks.length ≤ 1000 by have := ok.len8; omega) (by decide)
    · rw [upd_same, List.take_add_one, List.getElem?_eq_getElem hi, List.map_append, List.map_append]
      rfl
  · rintro σ H' ⟨y2, y3, rfl, ka, la⟩
    exact q _ ka
def spPalInit [Tb] (K : PySem.W.Frag) (CPalette : Addr) : Sp := fun vs H Q _ => ∃ (x dx a : Addr) (xs : List V) (ks : List Ink), vs = [.ref x, .ref a] ∧ H x = some (.ins CPalette dx []) ∧ SqL K H a xs ∧ H a = some (.lst xs) ∧ ImAll K H xs (ks.map inkD) ∧ InkOk ks ∧ ∀ d H', H d = none → Kp (At x) H H' → PalAt CPalette H' x dx d ks → Q .non H'
theorem ok_Palette___init__ (D : IniAt K mg "Palette" CPalette "Palette.__init__" s_Palette___init__ []) (fr : Fr mg) (cf : Cf K mg CPalette) (c_first_wrong : Cal P w K mg base 3 "first_wrong" (spFirstWrong K)) : CalI P w K mg base 4 "Palette" CPalette (spPalInit K CPalette) := by
  refine calI_of D sc_Palette___init__ (fun _ _ _ _ _ _ us hl => match us, hl with | [_, _], _ => rfl) (fun vs H Q E h => by obtain ⟨x, dx, a, xs, ks, rfl, _⟩ := h; rfl) fun f cd A out s H vs Q E room gd h => ?_
  obtain ⟨x, dx, a, xs, ks, rfl, hx, hS, hL, im, ok, q⟩ := h
  have el : xs.length = ks.length := by rw [im.length, List.length_map]
  have l1 := ok.len1
  have l8 := ok.len8
  refine ⟨_, (pss_cons (ps_if (PW.pt (pw_or (pt_not (yt_val (pe_callB (kIsi (K := K) (by rfl)) (by rfl) fr.isinstance_ (by decide +kernel) (pa_cons (yv 1) (pa_cons (ye_ty (n := "list") (by rfl) fr.list_ (by decide +kernel)) pa_nil))))) (pw_or1 (pt_not (pt_chain oLe oLe pe_int (pe_callB (kLen (K := K) (by rfl)) (by rfl) fr.len_ (by decide +kernel) (pa_cons (yv 1) pa_nil)) (ye_gint fr.MOST_INKS_ (by rfl))))))) (pss_one ps_never) pss_nil)
    (pss_cons (ys_set 2 sc_Palette___init__.nd (ye_call c_first_wrong room gd (by rfl) (pa_cons (yv 1) pa_nil)))
    (pss_cons (ps_if (yt_cmp oIsNot (yv 2) pe_non (nomark _)) (pss_one ps_never) pss_nil)
    (pss_one (ys_fld cf.cls_Palette cf.na_Palette_fades (yv 0) (pe_callTy (kDict (K := K) (by rfl) rfl) (by rfl) fr.dict_ (by decide +kernel) (pa_cons (yv 1) pa_nil))))))), ?_⟩
  refine ⟨"list", true, .base (.lst hL), by decide +kernel, iteNb rfl ⟨_, .inl hS, _, rfl, ?_⟩⟩
  have e1 : decide ((1 : Int) ≤ ((xs.length : Nat) : Int)) = true := decide_eq_true (by omega)
  have e2 : decide (((xs.length : Nat) : Int) ≤ 8) = true := decide_eq_true (by omega)
  refine iteB e1 ⟨_, rfl, iteNb e2 ⟨a, xs, ks, rfl, hS, im, ok, fun H1 k1 => ?_⟩⟩
  have hx1 := k1.all x _ hx id
  obtain ⟨ps, ep, hp⟩ := inks_paired (ImAll.up k1 _ _ im)
  refine ⟨ps, fadK ks, by rw [← ep]; exact k1.seq hS, hp, fun d hd => ?_⟩
  have kd : Kp No H1 (upd H1 d (.dK (mergeK [] (fadK ks)))) := Kp.new hd
  have em : mergeK [] (fadK ks) = fadK ks := merge_nodup (by rw [List.nil_append]; exact ok.keys)
  have hx2 := kd.all x _ hx1 id
  refine ⟨dx, [], hx2, by decide, ?_⟩
  refine q d _ (k1.dom d hd) ((k1.trans kd).no.trans (Kp.set rfl hx2)) ⟨upd_same, ?_, ok⟩
  rw [upd_ne (fun e => ne_of_none hx1 hd e.symm), upd_same, em]
def spPalNames [Tb] (CPalette : Addr) : Sp := fun vs H Q _ => ∃ (x dx d : Addr) (ks : List Ink), vs = [.ref x] ∧ PalAt CPalette H x dx d ks ∧ ∀ l H', Kp No H H' → H l = none → H' l = some (.lst ((ks.map (·.1)).map V.str)) → Q (.ref l) H'
theorem ok_Palette_names (D : MetAt K CPalette "names" "Palette.names" s_Palette_names) (fr : Fr mg) (cf : Cf K mg CPalette) : CalM P w K mg base 1 CPalette "names" (spPalNames CPalette) := by
  refine calM_of D cf.cls_Palette sc_Palette_names (fun _ _ _ _ _ _ us hl => match us, hl with | [_], _ => rfl) (fun vs H Q E h => by obtain ⟨x, dx, d, ks, rfl, _⟩ := h; rfl) fun f cd A out s H vs Q E room gd h => ?_
  obtain ⟨x, dx, d, ks, rfl, pa, q⟩ := h
  refine ⟨_, (pss_one (ps_ret (pe_callTy (kListD rfl) (by rfl) fr.list_ (by decide +kernel) (pa_cons (ye_fld cf.cls_Palette cf.na_Palette_fades (yv 0)) pa_nil)))), ?_⟩
  refine ⟨dx, _, _, pa.ins, rfl, _, pa.dct, fun l hl => q l _ (Kp.new hl) hl ?_⟩
  rw [upd_same, fadK_keys]
def spPalInks [Tb] (K : PySem.W.Frag) (CPalette : Addr) : Sp := fun vs H Q _ => ∃ (x dx d : Addr) (ks : List Ink), vs = [.ref x] ∧ PalAt CPalette H x dx d ks ∧ ∀ l ys H', Kp No H H' → H l = none → H' l = some (.lst ys) → ImAll K H' ys (ks.map inkD) → Q (.ref l) H'
theorem ok_Palette_inks (D : MetAt K CPalette "inks" "Palette.inks" s_Palette_inks) (fr : Fr mg) (cf : Cf K mg CPalette) : CalM P w K mg base 1 CPalette "inks" (spPalInks K CPalette) := by
  refine calM_of D cf.cls_Palette sc_Palette_inks (fun _ _ _ _ _ _ us hl => match us, hl with | [_], _ => rfl) (fun vs H Q E h => by obtain ⟨x, dx, d, ks, rfl, _⟩ := h; rfl) fun f cd A out s H vs Q E room gd h => ?_
  obtain ⟨x, dx, d, ks, rfl, pa, q⟩ := h
  refine ⟨_, (pss_one (ps_ret (pe_lock (pe_lc (own := [("name", 1), ("fade", 2)]) rfl sc_Palette_inks.nd (pi_items (ye_fld cf.cls_Palette cf.na_Palette_fades (yv 0))) (blkOk_by (own := [("name", 1), ("fade", 2)]) (N := n_Palette_inks) (sc := defScope s_Palette_inks) (by decide +kernel)) (fun _ _ _ _ _ => (kgTup (K := K) (n := 2) (by rfl) rfl (yg_cons (yg_name 1 sc_Palette_inks.nd) (yg_cons (yg_name 2 sc_Palette_inks.nd) yg_nil)))) (fun _ _ _ _ _ => pts_nil) (fun _ _ _ _ _ => (ye_tup (pa_cons (yv 1) (pa_cons (yv 2) pa_nil)))))))), ?_⟩
  have nxd : x ≠ d := ne_of pa.ins pa.dct (by intro z; cases z)
  have ok := pa.ok
  refine ⟨d, _, pa.dct, trivial, fun od => ?_⟩
  refine ⟨dx, _, _, by rw [upd_ne nxd]; exact pa.ins, rfl, d, od, _, rfl, upd_same, fun Dd hD => ?_⟩
  have nDd : d ≠ Dd := fun e => by rw [← e, upd_same] at hD; cases hD
  have hDH : H Dd = none := by rw [upd_ne (fun e => nDd e.symm)] at hD; exact hD
  refine lc_it walk_items (fun i H' => ∃ ys, H' Dd = some (.lst ys) ∧ Kp (At d) H H' ∧ H' d = some (.frz od (.dK (fadK ks))) ∧ ImAll K H' ys ((ks.take i).map inkD)) ⟨[], upd_same, (Kp.set (S := At d) rfl pa.dct).trans (Kp.new hD), by rw [upd_ne nDd, upd_same], .nil⟩ (fun i H' _ ⟨_, _, _, h, _⟩ => h) ?_ ?_
  · rintro i z Ha Hb hi ⟨ys, h1, h2, h3, h4⟩ ⟨T, x1, x2, rfl, hT, rfl, g1, g2⟩
    have hi' : i < ks.length := by rw [fadK, List.length_map] at hi; exact hi
    have f1 : x1 = .str ks[i].1 := by
      have : ((fadK ks)[i]?.map fun kv => kV kv.1) = some x1 := g1
      unfold fadK at this
      rw [List.getElem?_map, List.getElem?_eq_getElem hi'] at this
      exact (Option.some.inj this).symm
    have f2 : x2 = .int ks[i].2 := by
      have : ((fadK ks)[i]?.map Prod.snd) = some x2 := g2
      unfold fadK at this
      rw [List.getElem?_map, List.getElem?_eq_getElem hi'] at this
      exact (Option.some.inj this).symm
    subst f1
    subst f2
    have kT : Kp No Ha (upd Ha T (.tup [.str ks[i].1, .int ks[i].2])) := Kp.new hT
    refine ⟨_, .inl (.inl upd_same), rfl, rfl, fun u hu => ?_⟩
    have ku : Kp No _ (upd (upd Ha T (.tup [.str ks[i].1, .int ks[i].2])) u (.tup [.str ks[i].1, .int ks[i].2])) := Kp.new hu
    have kk := kT.trans ku
    have h1' := kk.all Dd _ h1 id
    have kS : Kp (At Dd) _ (upd (upd (upd Ha T (.tup [.str ks[i].1, .int ks[i].2])) u (.tup [.str ks[i].1, .int ks[i].2])) Dd (.lst (ys ++ [.ref u]))) := Kp.set rfl h1'
    have ey : ys.length = min i ks.length := by rw [h4.length, List.length_map, List.length_take]
    refine ⟨ys, h1', Nat.lt_of_le_of_lt (show ys.length ≤ 1000 by have := ok.len8; omega) (by decide), ys ++ [.ref u], upd_same, (h2.trans kk.no).put hDH h1', kS.all d _ (kk.all d _ h3 id) nDd, ?_⟩
    rw [List.take_add_one, List.getElem?_eq_getElem hi', List.map_append]
    exact (ImAll.up kS _ _ (ImAll.up kk _ _ h4)).snoc (Im.mk (kS.tup _ _ upd_same) (.cons (.str _) (.cons (.int _) .nil)))
  · rintro H' ⟨ys, h1, h2, h3, h4⟩
    have e0 : (fadK ks).length = ks.length := by rw [fadK, List.length_map]
    rw [e0, List.take_length] at h4
    refine ⟨h3, q Dd ys _ ?_ hDH ?_ ?_⟩
    · exact ⟨fun b o e _ nt => by
        by_cases hb : b = d
        · rw [hb, upd_same, ← pa.dct, ← hb]; exact e
        · rw [upd_ne hb]; exact h2.all b o e hb nt, fun b xs e => by
        rw [upd_ne (fun z => by rw [z, pa.dct] at e; cases e)]; exact h2.tup b xs e, fun b e => by
        by_cases hb : b = d
        · rw [hb, upd_same] at e; cases e
        · rw [upd_ne hb] at e; exact h2.dom b e, fun t => tab_upd (o := .dK (fadK ks)) h3 trivial (h2.tab t)⟩
    · rw [upd_ne (fun e => nDd e.symm)]; exact h1
    · exact ImAll.up (Kp.set (S := At d) rfl h3) _ _ h4
def spPalHas [Tb] (CPalette : Addr) : Sp := fun vs H Q _ => ∃ (x dx d : Addr) (ks : List Ink) (v : V), vs = [.ref x, v] ∧ PalAt CPalette H x dx d ks ∧ Kd H v ∧ Q (.bl (hasV ks v)) H
theorem ok_Palette_has (D : MetAt K CPalette "has" "Palette.has" s_Palette_has) (fr : Fr mg) (cf : Cf K mg CPalette) : CalM P w K mg base 1 CPalette "has" (spPalHas CPalette) := by
  refine calM_of D cf.cls_Palette sc_Palette_has (fun _ _ _ _ _ _ us hl => match us, hl with | [_, _], _ => rfl) (fun vs H Q E h => by obtain ⟨x, dx, d, ks, v, rfl, _⟩ := h; rfl) fun f cd A out s H vs Q E room gd h => ?_
  obtain ⟨x, dx, d, ks, v, rfl, pa, kd, q⟩ := h
  refine ⟨_, (pss_one (ps_ret (ye_and (pe_callB (kIsi (K := K) (by rfl)) (by rfl) fr.isinstance_ (by decide +kernel) (pa_cons (yv 1) (pa_cons (ye_ty (n := "str") (by rfl) fr.str_ (by decide +kernel)) pa_nil))) (pe_one (ye_din room (yv 1) (ye_fld cf.cls_Palette cf.na_Palette_fades (yv 0))))))), ?_⟩
  cases kd with
  | str z hz hf =>
    refine ⟨"str", true, .base (.str _), by decide +kernel, dx, _, _, pa.ins, rfl, _, pa.dct, ?_⟩
    rw [has_is] at q
    exact q
  | int i => exact ⟨"int", false, .base (.int _), by decide +kernel, q⟩
  | bl b => exact ⟨"bool", false, .base (.bl _), by decide +kernel, q⟩
  | non => exact ⟨"NoneType", false, .base .non, by decide +kernel, q⟩
  | ref h e => exact ⟨_, false, Kd.ty h e, (tyO_str e).1, q⟩

--SPLIT
theorem iteF0 {A B : Prop} {b : Bool} (h : b = false) (hB : B) : if b = true then A else B := by
  rw [h]; exact hB
def isDeedV (ks : List Ink) : List V → Bool
  | [.str w] => decide (w = "scrape")
  | [.str w, n] => (decide (w = "wait") || decide (w = "rub")) && amV n
  | [.str w, i, n] => (decide (w = "wash") || decide (w = "warm")) && (hasV ks i && amV n)
  | [.str w, i, t, n] => decide (w = "lay") && (hasV ks i && (nmV t && amV n))
  | _ => false
theorem isDeedV_no {ks : List Ink} {w : Str} {r : List V} (h : w ∉ sizesL.map (·.1)) : isDeedV ks (.str w :: r) = false := by
  have h1 : w ≠ "lay" := fun e => h (by rw [e]; decide +kernel)
  have h2 : w ≠ "wait" := fun e => h (by rw [e]; decide +kernel)
  have h3 : w ≠ "wash" := fun e => h (by rw [e]; decide +kernel)
  have h4 : w ≠ "warm" := fun e => h (by rw [e]; decide +kernel)
  have h5 : w ≠ "scrape" := fun e => h (by rw [e]; decide +kernel)
  have h6 : w ≠ "rub" := fun e => h (by rw [e]; decide +kernel)
  rcases r with _ | ⟨a, _ | ⟨b, _ | ⟨c, _ | ⟨d, r⟩⟩⟩⟩ <;> simp [isDeedV, h1, h2, h3, h4, h5, h6]
theorem isDeedV_ns {ks : List Ink} {x : V} {r : List V} (h : ∀ w, x ≠ .str w) : isDeedV ks (x :: r) = false := by
  cases x <;> first | exact absurd rfl (h _) | (rcases r with _ | ⟨a, _ | ⟨b, _ | ⟨c, _ | ⟨d, r⟩⟩⟩⟩ <;> rfl)
theorem words_of {z : Str} (h : z ∈ sizesL.map (·.1)) : z = "lay" ∨ z = "wait" ∨ z = "wash" ∨ z = "warm" ∨ z = "scrape" ∨ z = "rub" := by simpa [sizesL] using h
theorem shape1 {r : List V} (h : r.length + 1 = 2) : ∃ a, r = [a] := by
  rcases r with _ | ⟨a, _ | ⟨b, r⟩⟩ <;> simp at h
  exact ⟨a, rfl⟩
theorem shape2 {r : List V} (h : r.length + 1 = 3) : ∃ a b, r = [a, b] := by
  rcases r with _ | ⟨a, _ | ⟨b, _ | ⟨c, r⟩⟩⟩ <;> simp at h
  exact ⟨a, b, rfl⟩
theorem shape3 {r : List V} (h : r.length + 1 = 4) : ∃ a b c, r = [a, b, c] := by
  rcases r with _ | ⟨a, _ | ⟨b, _ | ⟨c, _ | ⟨d, r⟩⟩⟩⟩ <;> simp at h
  exact ⟨a, b, c, rfl⟩
theorem isDeedV_len {ks : List Ink} {w : Str} {r : List V} {n : Nat} (h : (w, (n : Int)) ∈ sizesL) (hn : r.length + 1 ≠ n) : isDeedV ks (.str w :: r) = false := by
  simp only [sizesL, List.mem_cons, Prod.mk.injEq, List.not_mem_nil, or_false] at h
  rcases h with ⟨rfl, h⟩ | ⟨rfl, h⟩ | ⟨rfl, h⟩ | ⟨rfl, h⟩ | ⟨rfl, h⟩ | ⟨rfl, h⟩ <;>
  (rcases r with _ | ⟨a, _ | ⟨b, _ | ⟨c, _ | ⟨d, r⟩⟩⟩⟩ <;> first | rfl | (simp at hn; omega))
/-- anything, two levels deep -/
def Th (H : Hp) (v : V) : Prop := Kd H v ∧ ∀ a xs, v = .ref a → H a = some (.tup xs) → xs.length ≤ 1000 ∧ ∀ x ∈ xs, Kd H x
/-- whether a thing is a deed -/
def fitO (ks : List Ink) : Option HO → Bool
  | some (.tup xs) => isDeedV ks xs
  | _ => false
def fitV (ks : List Ink) (H : Hp) : V → Bool
  | .ref a => fitO ks (H a)
  | _ => false
theorem fitV_no {ks : List Ink} {H : Hp} {v : V} (h : ∀ a xs, v = .ref a → H a ≠ some (.tup xs)) : fitV ks H v = false := by
  cases v with
  | ref a =>
    show fitO ks (H a) = false
    cases e : H a with
    | none => rfl
    | some o =>
      cases o with
      | tup xs => exact absurd e (h a xs rfl)
      | _ => rfl
  | _ => rfl
theorem fitV_tup {ks : List Ink} {H : Hp} {a : Addr} {xs : List V} (h : H a = some (.tup xs)) : fitV ks H (.ref a) = isDeedV ks xs := by
  show fitO ks (H a) = _
  rw [h]
  rfl
theorem fitV_word {ks : List Ink} {H : Hp} {v : V} (h : fitV ks H v = true) : ∃ a w r, v = .ref a ∧ H a = some (.tup (.str w :: r)) := by
  cases v with
  | ref a =>
    have h : fitO ks (H a) = true := h
    cases e : H a with
    | none => rw [e] at h; cases h
    | some o =>
      rw [e] at h
      cases o with
      | tup xs =>
        have h : isDeedV ks xs = true := h
        cases xs with
        | nil => cases h
        | cons x r =>
          cases x with
          | str w => exact ⟨a, w, r, rfl, e⟩
          | _ => rw [isDeedV_ns (fun w e => by cases e)] at h; cases h
      | _ => cases h
  | _ => cases h
theorem fitV_up [Tb] {ks : List Ink} {H H' : Hp} {v : V} {S : Addr → Prop} (kd : Kd H v) (k : Kp S H H') (n : ∀ a, v = .ref a → ¬ S a) : fitV ks H' v = fitV ks H v := by
  cases kd with
  | @ref a o m h e =>
    show fitO ks (H' a) = fitO ks (H a)
    rw [h]
    rw [k.all a o h (n a rfl) (by cases o <;> first | exact True.intro | cases e)]
  | _ => rfl
def spIsDeedA [Tb] (K : PySem.W.Frag) (CPalette : Addr) : Sp := fun vs H Q _ => ∃ (v : V) (pl pdx pd : Addr) (ks : List Ink) (b : Bool), vs = [v, .ref pl] ∧ Th H v ∧ PalAt CPalette H pl pdx pd ks ∧ fitV ks H v = b ∧ ∀ H', Kp No H H' → Q (.bl b) H'
theorem fit_split [Tb] {H : Hp} {v : V} {ks : List Ink} {b : Bool} {Q : VK} (th : Th H v) (eb : fitV ks H v = b) (q : ∀ H', Kp No H H' → Q (.bl b) H') : ((∀ a xs, v = .ref a → H a ≠ some (.tup xs)) → ∀ H', Kp No H H' → Q (.bl false) H') ∧ (∀ a xs, v = .ref a → H a = some (.tup xs) → xs.length ≤ 1000 ∧ (∀ x ∈ xs, Kd H x) ∧ ∀ H', Kp No H H' → Q (.bl (isDeedV ks xs)) H') := by
  subst eb
  exact ⟨fun n H' k => by have := q H' k; rw [fitV_no n] at this; exact this, fun a xs e h => ⟨(th.2 a xs e h).1, (th.2 a xs e h).2, fun H' k => by have := q H' k; rw [e, fitV_tup h] at this; exact this⟩⟩
theorem ok_is_deed (D : DefAt K mg "is_deed" s_is_deed) (fr : Fr mg) (cf : Cf K mg CPalette) (wt : Wt K w mg aS aI) (wn : WtN K aS) (m_Palette_has : CalM P w K mg base 1 CPalette "has" (spPalHas CPalette)) (c_is_name : Cal P w K mg base 1 "is_name" (spIsName K)) (c_is_amount : Cal P w K mg base 2 "is_amount" (spIsAmount K)) : Cal P w K mg base 3 "is_deed" (spIsDeedA K CPalette) := by
  refine cal_of D sc_is_deed (fun _ _ _ _ _ _ us hl => match us, hl with | [_, _], _ => rfl) (fun vs H Q E h => by obtain ⟨v, pl, pdx, pd, ks, b, rfl, _⟩ := h; rfl) fun f cd A out s H vs Q E room gd h => ?_
  obtain ⟨v, pl, pdx, pd, ks, b, rfl, th, pa, eb, q⟩ := h
  obtain ⟨q0, q1⟩ := fit_split th eb q
  have q0 := fun n => q0 n H (Kp.refl _)
  have kd := th.1
  clear q eb
  refine ⟨_, (pss_cons (ps_if (PW.pt (pw_or (pt_not (yt_val (pe_callB (kIsi (K := K) (by rfl)) (by rfl) fr.isinstance_ (by decide +kernel) (pa_cons (yv 0) (pa_cons (ye_ty (n := "tuple") (by rfl) fr.tuple_ (by decide +kernel)) pa_nil))))) (pw_or (yt_cmp (kEqE (K := K) (by rfl) room.units) (yv 0) (ye_tup pa_nil) (nomark _)) (pw_or1 (pt_not (yt_val (pe_callB (kIsi (K := K) (by rfl)) (by rfl) fr.isinstance_ (by decide +kernel) (pa_cons (kIx (K := K) (by rfl) (yv 0) pe_int) (pa_cons (ye_ty (n := "str") (by rfl) fr.str_ (by decide +kernel)) pa_nil))))))))) (pss_one (ps_ret pe_bl)) pss_nil)
    (pss_cons (ps_asg (yv 0) (kgStar (K := K) (by rfl) rfl (yg_cons (yg_name 2 sc_is_deed.nd) (yg_cons (yg_name 3 sc_is_deed.nd) yg_nil))))
    (pss_cons (ps_if (PW.pt (pw_or (yt_cmp (kNotInA (by rfl) wt wn) (yv 2) (ye_cls wt.mgS (by rfl)) (by rfl)) (pw_or1 (yt_cmp (kNe (K := K) (by rfl) room.units) (pe_callB (kLen (K := K) (by rfl)) (by rfl) fr.len_ (by decide +kernel) (pa_cons (yv 0) pa_nil)) (kIxS (by rfl) wt (ye_cls wt.mgS (by rfl)) (yv 2)) (nomark _))))) (pss_one (ps_ret pe_bl)) pss_nil)
    (pss_cons (ps_if (PW.pt (pw_and (yt_cmp (kIn (K := K) (by rfl)) (yv 2) (ye_cls wt.mgI (by rfl)) (by rfl)) (pw_and1 (pt_not (yt_val (ye_meth m_Palette_has room gd (yv 1) (pa_cons (kIx (K := K) (by rfl) (yv 3) pe_int) pa_nil))))))) (pss_one (ps_ret pe_bl)) pss_nil)
    (pss_cons (ps_if (PW.pt (pw_and (yt_cmp (kEq (K := K) (by rfl) room.units) (yv 2) pe_str (nomark _)) (pw_and1 (pt_not (yt_val (ye_call c_is_name room gd (by rfl) (pa_cons (kIx (K := K) (by rfl) (yv 3) pe_int) pa_nil))))))) (pss_one (ps_ret pe_bl)) pss_nil)
    (pss_one (ps_ret (ye_or (pe_cmpR (kEqE (K := K) (by rfl) room.units) (yv 3) (ye_lst pa_nil) (nomark _)) (pe_one (ye_call c_is_amount room gd (by rfl) (pa_cons (kIx (K := K) (by rfl) (yv 3) (pe_un oNeg pe_int)) pa_nil))))))))))), ?_⟩
  cases kd with
  | str z hz hf => exact ⟨"str", false, .base (.str _), by decide +kernel, q0 fun a xs e => (nomatch e)⟩
  | int i => exact ⟨"int", false, .base (.int _), by decide +kernel, q0 fun a xs e => (nomatch e)⟩
  | bl b => exact ⟨"bool", false, .base (.bl _), by decide +kernel, q0 fun a xs e => (nomatch e)⟩
  | non => exact ⟨"NoneType", false, .base .non, by decide +kernel, q0 fun a xs e => (nomatch e)⟩
  | @ref t o m h e =>
    cases o with
    | lst xs => cases e; exact ⟨"list", false, .base (.lst h), by decide +kernel, q0 fun a xs e2 h2 => by cases e2; rw [h] at h2; cases h2⟩
    | dK kvs => cases e; exact ⟨"dict", false, .base (.dK h), by decide +kernel, q0 fun a xs e2 h2 => by cases e2; rw [h] at h2; cases h2⟩
    | tup xs =>
      cases e
      obtain ⟨hl, hk, q⟩ := q1 t xs rfl h
      refine ⟨"tuple", true, .base (.tup h), by decide +kernel, iteNb rfl fun u hu => ?_⟩
      have ku : Kp No H (upd H u (.tup [])) := Kp.new hu
      have h1 := ku.tup _ _ h
      cases xs with
      | nil => exact .inl ⟨[], .inl (.inl h1), .inl (.inl upd_same), q _ ku⟩
      | cons x0 r =>
        have h0 := hk x0 List.mem_cons_self
        have hr : ∀ x ∈ r, Kd H x := fun x hx => hk x (List.mem_cons_of_mem _ hx)
        have hl : r.length + 1 ≤ 1000 := hl
        refine .inl ⟨_, .inl (.inl h1), .inl (.inl upd_same), ?_⟩
        refine ⟨_, _, .inr (.inl (.inl h1)), at_of (j := 0) rfl rfl, ?_⟩
        have ns : (∀ w, x0 ≠ .str w) → ∀ H', Kp No H H' → Q (.bl false) H' := fun e H' k => by
          have := q H' k
          rw [isDeedV_ns e] at this
          exact this
        cases h0 with
        | int i => exact ⟨"int", false, .base (.int _), by decide +kernel, ns (fun w e => nomatch e) _ ku⟩
        | bl b => exact ⟨"bool", false, .base (.bl _), by decide +kernel, ns (fun w e => nomatch e) _ ku⟩
        | non => exact ⟨"NoneType", false, .base .non, by decide +kernel, ns (fun w e => nomatch e) _ ku⟩
        | @ref a0 o0 m0 g0 e0 => exact ⟨_, false, Kd.ty (ku.all _ _ g0 id (by cases o0 <;> first | exact True.intro | cases e0)) e0, (tyO_str e0).1, ns (fun w e => nomatch e) _ ku⟩
        | str z hz hf =>
          refine ⟨"str", true, .base (.str _), by decide +kernel, iteNb rfl ⟨_, _, .inl (.inl h1), Nat.le_trans (Nat.le_of_lt (show r.length < 1000 by omega)) (by decide), fun Dd hD => ?_⟩⟩
          have kD : Kp No _ (upd (upd H u (.tup [])) Dd (.lst r)) := Kp.new hD
          have k2 := ku.trans kD
          have h2 := kD.tup _ _ h1
          have pa2 := pa.up k2 id id
          have hD0 : upd (upd H u (.tup [])) Dd (.lst r) Dd = some (.lst r) := upd_same
          generalize upd (upd H u (.tup [])) Dd (.lst r) = H2 at k2 h2 pa2 hD0 ⊢
          by_cases hw : z ∈ sizesL.map (·.1)
          · refine ⟨rfl, iteF0 (by rw [decide_eq_true hw]; rfl) ?_⟩
            rcases words_of hw with rfl | rfl | rfl | rfl | rfl | rfl
            · refine ⟨_, .inr (.inl (.inl h2)), rfl, 4, by decide +kernel, ?_⟩
              by_cases hlen : r.length + 1 = 4
              · obtain ⟨a, b, c, rfl⟩ := shape3 hlen
                have ka : Kd H a := hr a (by simp)
                have kb : Kd H b := hr b (by simp)
                have kc : Kd H c := hr c (by simp)
                refine ⟨aI, _, rfl, .inr (wt.ink _), rfl, rfl, ?_⟩
                have eI : inV (.str "lay") [.str "lay", .str "wash", .str "warm"] = true := by decide +kernel
                by_cases e1 : hasV ks a = true
                case neg =>
                  refine iteB eI ⟨pdx, _, pa2.ins, rfl, _, _, .inl (.inl (.inl hD0)), at_of (j := 0) rfl rfl, pl, pdx, pd, ks, a, rfl, pa2, ka.up k2 fun _ _ => id, iteN0 (by simpa using e1) ?_⟩
                  have := q H2 k2
                  rw [show isDeedV ks [.str "lay", a, b, c] = false from by simp [isDeedV, e1]] at this
                  exact this
                refine iteB eI ⟨pdx, _, pa2.ins, rfl, _, _, .inl (.inl (.inl hD0)), at_of (j := 0) rfl rfl, pl, pdx, pd, ks, a, rfl, pa2, ka.up k2 fun _ _ => id, iteNb e1 ?_⟩
                refine ⟨_, _, .inl (.inl (.inl hD0)), at_of (j := 1) rfl rfl, b, rfl, kb.up k2 fun _ _ => id, fun HN kN => ?_⟩
                have k3 := k2.trans kN
                by_cases e2 : nmV b = true
                case neg =>
                  refine iteN0 (by simpa using e2) ?_
                  have := q HN k3
                  rw [show isDeedV ks [.str "lay", a, b, c] = false from by simp [isDeedV, e2]] at this
                  exact this
                refine iteNb e2 ?_
                have hD0 := kN.all Dd _ hD0 id
                intro u2 hu2
                have ku2 : Kp No HN (upd HN u2 (.lst [])) := Kp.new hu2
                have hD2 := ku2.all Dd _ hD0 id
                refine .inr ⟨_, .inl (.inl hD2), .inl (.inl upd_same), ?_⟩
                refine ⟨_, _, .inl (.inl (.inl hD2)), atI_last ([a, b] : List V) c, c, rfl, kc.up (k3.trans ku2) fun _ _ => id, ?_⟩
                have := q _ (k3.trans ku2)
                rw [show isDeedV ks [.str "lay", a, b, c] = amV c from by simp [isDeedV, e1, e2]] at this
                exact this
              · refine iteB ?_ ?_
                · show (!decide _) = true
                  rw [decide_eq_false (by simp; omega)]; rfl
                · have := q H2 k2
                  rw [show isDeedV ks (.str "lay" :: r) = false from isDeedV_len (n := 4) (by decide +kernel) hlen] at this
                  exact this
            · refine ⟨_, .inr (.inl (.inl h2)), rfl, 2, by decide +kernel, ?_⟩
              by_cases hlen : r.length + 1 = 2
              · obtain ⟨a, rfl⟩ := shape1 hlen
                have ka : Kd H a := hr a (by simp)
                refine ⟨aI, _, rfl, .inr (wt.ink _), rfl, rfl, ?_⟩
                have eI : inV (.str "wait") [.str "lay", .str "wash", .str "warm"] = false := by decide +kernel
                refine iteF0 eI ?_
                refine iteF0 (show decide (("wait" : Str) = "lay") = false by decide +kernel) ?_
                intro u2 hu2
                have ku2 : Kp No H2 (upd H2 u2 (.lst [])) := Kp.new hu2
                have hD2 := ku2.all Dd _ hD0 id
                refine .inr ⟨_, .inl (.inl hD2), .inl (.inl upd_same), ?_⟩
                refine ⟨_, _, .inl (.inl (.inl hD2)), atI_last ([] : List V) a, a, rfl, ka.up (k2.trans ku2) fun _ _ => id, ?_⟩
                have := q _ (k2.trans ku2)
                rw [show isDeedV ks [.str "wait", a] = amV a from by simp [isDeedV]] at this
                exact this
              · refine iteB ?_ ?_
                · show (!decide _) = true
                  rw [decide_eq_false (by simp; omega)]; rfl
                · have := q H2 k2
                  rw [show isDeedV ks (.str "wait" :: r) = false from isDeedV_len (n := 2) (by decide +kernel) hlen] at this
                  exact this
            · refine ⟨_, .inr (.inl (.inl h2)), rfl, 3, by decide +kernel, ?_⟩
              by_cases hlen : r.length + 1 = 3
              · obtain ⟨a, b, rfl⟩ := shape2 hlen
                have ka : Kd H a := hr a (by simp)
                have kb : Kd H b := hr b (by simp)
                refine ⟨aI, _, rfl, .inr (wt.ink _), rfl, rfl, ?_⟩
                have eI : inV (.str "wash") [.str "lay", .str "wash", .str "warm"] = true := by decide +kernel
                by_cases e1 : hasV ks a = true
                case neg =>
                  refine iteB eI ⟨pdx, _, pa2.ins, rfl, _, _, .inl (.inl (.inl hD0)), at_of (j := 0) rfl rfl, pl, pdx, pd, ks, a, rfl, pa2, ka.up k2 fun _ _ => id, iteN0 (by simpa using e1) ?_⟩
                  have := q H2 k2
                  rw [show isDeedV ks [.str "wash", a, b] = false from by simp [isDeedV, e1]] at this
                  exact this
                refine iteB eI ⟨pdx, _, pa2.ins, rfl, _, _, .inl (.inl (.inl hD0)), at_of (j := 0) rfl rfl, pl, pdx, pd, ks, a, rfl, pa2, ka.up k2 fun _ _ => id, iteNb e1 ?_⟩
                intro u2 hu2
                have ku2 : Kp No H2 (upd H2 u2 (.lst [])) := Kp.new hu2
                have hD2 := ku2.all Dd _ hD0 id
                refine .inr ⟨_, .inl (.inl hD2), .inl (.inl upd_same), ?_⟩
                refine ⟨_, _, .inl (.inl (.inl hD2)), atI_last ([a] : List V) b, b, rfl, kb.up (k2.trans ku2) fun _ _ => id, ?_⟩
                have := q _ (k2.trans ku2)
                rw [show isDeedV ks [.str "wash", a, b] = amV b from by simp [isDeedV, e1]] at this
                exact this
              · refine iteB ?_ ?_
                · show (!decide _) = true
                  rw [decide_eq_false (by simp; omega)]; rfl
                · have := q H2 k2
                  rw [show isDeedV ks (.str "wash" :: r) = false from isDeedV_len (n := 3) (by decide +kernel) hlen] at this
                  exact this
            · refine ⟨_, .inr (.inl (.inl h2)), rfl, 3, by decide +kernel, ?_⟩
              by_cases hlen : r.length + 1 = 3
              · obtain ⟨a, b, rfl⟩ := shape2 hlen
                have ka : Kd H a := hr a (by simp)
                have kb : Kd H b := hr b (by simp)
                refine ⟨aI, _, rfl, .inr (wt.ink _), rfl, rfl, ?_⟩
                have eI : inV (.str "warm") [.str "lay", .str "wash", .str "warm"] = true := by decide +kernel
                by_cases e1 : hasV ks a = true
                case neg =>
                  refine iteB eI ⟨pdx, _, pa2.ins, rfl, _, _, .inl (.inl (.inl hD0)), at_of (j := 0) rfl rfl, pl, pdx, pd, ks, a, rfl, pa2, ka.up k2 fun _ _ => id, iteN0 (by simpa using e1) ?_⟩
                  have := q H2 k2
                  rw [show isDeedV ks [.str "warm", a, b] = false from by simp [isDeedV, e1]] at this
                  exact this
                refine iteB eI ⟨pdx, _, pa2.ins, rfl, _, _, .inl (.inl (.inl hD0)), at_of (j := 0) rfl rfl, pl, pdx, pd, ks, a, rfl, pa2, ka.up k2 fun _ _ => id, iteNb e1 ?_⟩
                intro u2 hu2
                have ku2 : Kp No H2 (upd H2 u2 (.lst [])) := Kp.new hu2
                have hD2 := ku2.all Dd _ hD0 id
                refine .inr ⟨_, .inl (.inl hD2), .inl (.inl upd_same), ?_⟩
                refine ⟨_, _, .inl (.inl (.inl hD2)), atI_last ([a] : List V) b, b, rfl, kb.up (k2.trans ku2) fun _ _ => id, ?_⟩
                have := q _ (k2.trans ku2)
                rw [show isDeedV ks [.str "warm", a, b] = amV b from by simp [isDeedV, e1]] at this
                exact this
              · refine iteB ?_ ?_
                · show (!decide _) = true
                  rw [decide_eq_false (by simp; omega)]; rfl
                · have := q H2 k2
                  rw [show isDeedV ks (.str "warm" :: r) = false from isDeedV_len (n := 3) (by decide +kernel) hlen] at this
                  exact this
            · refine ⟨_, .inr (.inl (.inl h2)), rfl, 1, by decide +kernel, ?_⟩
              by_cases hlen : r.length + 1 = 1
              · obtain rfl : r = [] := List.eq_nil_of_length_eq_zero (by omega)
                refine ⟨aI, _, rfl, .inr (wt.ink _), rfl, rfl, ?_⟩
                have eI : inV (.str "scrape") [.str "lay", .str "wash", .str "warm"] = false := by decide +kernel
                refine iteF0 eI ?_
                refine iteF0 (show decide (("scrape" : Str) = "lay") = false by decide +kernel) ?_
                intro u2 hu2
                have ku2 : Kp No H2 (upd H2 u2 (.lst [])) := Kp.new hu2
                have hD2 := ku2.all Dd _ hD0 id
                refine .inr ⟨_, .inl (.inl hD2), .inl (.inl upd_same), ?_⟩
                exact q _ (k2.trans ku2)
              · refine iteB ?_ ?_
                · show (!decide _) = true
                  rw [decide_eq_false (by simp; omega)]; rfl
                · have := q H2 k2
                  rw [show isDeedV ks (.str "scrape" :: r) = false from isDeedV_len (n := 1) (by decide +kernel) hlen] at this
                  exact this
            · refine ⟨_, .inr (.inl (.inl h2)), rfl, 2, by decide +kernel, ?_⟩
              by_cases hlen : r.length + 1 = 2
              · obtain ⟨a, rfl⟩ := shape1 hlen
                have ka : Kd H a := hr a (by simp)
                refine ⟨aI, _, rfl, .inr (wt.ink _), rfl, rfl, ?_⟩
                have eI : inV (.str "rub") [.str "lay", .str "wash", .str "warm"] = false := by decide +kernel
                refine iteF0 eI ?_
                refine iteF0 (show decide (("rub" : Str) = "lay") = false by decide +kernel) ?_
                intro u2 hu2
                have ku2 : Kp No H2 (upd H2 u2 (.lst [])) := Kp.new hu2
                have hD2 := ku2.all Dd _ hD0 id
                refine .inr ⟨_, .inl (.inl hD2), .inl (.inl upd_same), ?_⟩
                refine ⟨_, _, .inl (.inl (.inl hD2)), atI_last ([] : List V) a, a, rfl, ka.up (k2.trans ku2) fun _ _ => id, ?_⟩
                have := q _ (k2.trans ku2)
                rw [show isDeedV ks [.str "rub", a] = amV a from by simp [isDeedV]] at this
                exact this
              · refine iteB ?_ ?_
                · show (!decide _) = true
                  rw [decide_eq_false (by simp; omega)]; rfl
                · have := q H2 k2
                  rw [show isDeedV ks (.str "rub" :: r) = false from isDeedV_len (n := 2) (by decide +kernel) hlen] at this
                  exact this
          · refine ⟨rfl, iteB (by rw [decide_eq_false hw]; rfl) ?_⟩
            have := q H2 k2
            rw [isDeedV_no hw] at this
            exact this
    | _ => cases e
theorem okp_is_deed__palette_thing (D : DefAt K mg "is_deed" s_is_deed) (fr : Fr mg) (cf : Cf K mg CPalette) (wt : Wt K w mg aS aI) (wn : WtN K aS) (m_Palette_has : CalM P w K mg base 1 CPalette "has" (spPalHas CPalette)) (c_is_name : Cal P w K mg base 1 "is_name" (spIsName K)) (c_is_amount : Cal P w K mg base 2 "is_amount" (spIsAmount K)) : CalP P w K mg base 3 "is_deed" ["palette", "thing"] [1, 0] (spIsDeedA K CPalette) := by
  refine calP_of D sc_is_deed ["palette", "thing"] [1, 0] (by decide) (fun _ _ _ _ _ _ ws hl => match ws, hl with | [_, _], _ => rfl) (fun vs H Q E h => by obtain ⟨v, pl, pdx, pd, ks, b, rfl, _⟩ := h; rfl) fun f cd A out s H vs Q E room gd h => ?_
  obtain ⟨v, pl, pdx, pd, ks, b, rfl, th, pa, eb, q⟩ := h
  obtain ⟨q0, q1⟩ := fit_split th eb q
  have q0 := fun n => q0 n H (Kp.refl _)
  have kd := th.1
  clear q eb
  refine ⟨_, (pss_cons (ps_if (PW.pt (pw_or (pt_not (yt_val (pe_callB (kIsi (K := K) (by rfl)) (by rfl) fr.isinstance_ (by decide +kernel) (pa_cons (yv 0) (pa_cons (ye_ty (n := "tuple") (by rfl) fr.tuple_ (by decide +kernel)) pa_nil))))) (pw_or (yt_cmp (kEqE (K := K) (by rfl) room.units) (yv 0) (ye_tup pa_nil) (nomark _)) (pw_or1 (pt_not (yt_val (pe_callB (kIsi (K := K) (by rfl)) (by rfl) fr.isinstance_ (by decide +kernel) (pa_cons (kIx (K := K) (by rfl) (yv 0) pe_int) (pa_cons (ye_ty (n := "str") (by rfl) fr.str_ (by decide +kernel)) pa_nil))))))))) (pss_one (ps_ret pe_bl)) pss_nil)
    (pss_cons (ps_asg (yv 0) (kgStar (K := K) (by rfl) rfl (yg_cons (yg_name 2 sc_is_deed.nd) (yg_cons (yg_name 3 sc_is_deed.nd) yg_nil))))
    (pss_cons (ps_if (PW.pt (pw_or (yt_cmp (kNotInA (by rfl) wt wn) (yv 2) (ye_cls wt.mgS (by rfl)) (by rfl)) (pw_or1 (yt_cmp (kNe (K := K) (by rfl) room.units) (pe_callB (kLen (K := K) (by rfl)) (by rfl) fr.len_ (by decide +kernel) (pa_cons (yv 0) pa_nil)) (kIxS (by rfl) wt (ye_cls wt.mgS (by rfl)) (yv 2)) (nomark _))))) (pss_one (ps_ret pe_bl)) pss_nil)
    (pss_cons (ps_if (PW.pt (pw_and (yt_cmp (kIn (K := K) (by rfl)) (yv 2) (ye_cls wt.mgI (by rfl)) (by rfl)) (pw_and1 (pt_not (yt_val (ye_meth m_Palette_has room gd (yv 1) (pa_cons (kIx (K := K) (by rfl) (yv 3) pe_int) pa_nil))))))) (pss_one (ps_ret pe_bl)) pss_nil)
    (pss_cons (ps_if (PW.pt (pw_and (yt_cmp (kEq (K := K) (by rfl) room.units) (yv 2) pe_str (nomark _)) (pw_and1 (pt_not (yt_val (ye_call c_is_name room gd (by rfl) (pa_cons (kIx (K := K) (by rfl) (yv 3) pe_int) pa_nil))))))) (pss_one (ps_ret pe_bl)) pss_nil)
    (pss_one (ps_ret (ye_or (pe_cmpR (kEqE (K := K) (by rfl) room.units) (yv 3) (ye_lst pa_nil) (nomark _)) (pe_one (ye_call c_is_amount room gd (by rfl) (pa_cons (kIx (K := K) (by rfl) (yv 3) (pe_un oNeg pe_int)) pa_nil))))))))))), ?_⟩
  cases kd with
  | str z hz hf => exact ⟨"str", false, .base (.str _), by decide +kernel, q0 fun a xs e => (nomatch e)⟩
  | int i => exact ⟨"int", false, .base (.int _), by decide +kernel, q0 fun a xs e => (nomatch e)⟩
  | bl b => exact ⟨"bool", false, .base (.bl _), by decide +kernel, q0 fun a xs e => (nomatch e)⟩
  | non => exact ⟨"NoneType", false, .base .non, by decide +kernel, q0 fun a xs e => (nomatch e)⟩
  | @ref t o m h e =>
    cases o with
    | lst xs => cases e; exact ⟨"list", false, .base (.lst h), by decide +kernel, q0 fun a xs e2 h2 => by cases e2; rw [h] at h2; cases h2⟩
    | dK kvs => cases e; exact ⟨"dict", false, .base (.dK h), by decide +kernel, q0 fun a xs e2 h2 => by cases e2; rw [h] at h2; cases h2⟩
    | tup xs =>
      cases e
      obtain ⟨hl, hk, q⟩ := q1 t xs rfl h
      refine ⟨"tuple", true, .base (.tup h), by decide +kernel, iteNb rfl fun u hu => ?_⟩
      have ku : Kp No H (upd H u (.tup [])) := Kp.new hu
      have h1 := ku.tup _ _ h
      cases xs with
      | nil => exact .inl ⟨[], .inl (.inl h1), .inl (.inl upd_same), q _ ku⟩
      | cons x0 r =>
        have h0 := hk x0 List.mem_cons_self
        have hr : ∀ x ∈ r, Kd H x := fun x hx => hk x (List.mem_cons_of_mem _ hx)
        have hl : r.length + 1 ≤ 1000 := hl
        refine .inl ⟨_, .inl (.inl h1), .inl (.inl upd_same), ?_⟩
        refine ⟨_, _, .inr (.inl (.inl h1)), at_of (j := 0) rfl rfl, ?_⟩
        have ns : (∀ w, x0 ≠ .str w) → ∀ H', Kp No H H' → Q (.bl false) H' := fun e H' k => by
          have := q H' k
          rw [isDeedV_ns e] at this
          exact this
        cases h0 with
        | int i => exact ⟨"int", false, .base (.int _), by decide +kernel, ns (fun w e => nomatch e) _ ku⟩
        | bl b => exact ⟨"bool", false, .base (.bl _), by decide +kernel, ns (fun w e => nomatch e) _ ku⟩
        | non => exact ⟨"NoneType", false, .base .non, by decide +kernel, ns (fun w e => nomatch e) _ ku⟩
        | @ref a0 o0 m0 g0 e0 => exact ⟨_, false, Kd.ty (ku.all _ _ g0 id (by cases o0 <;> first | exact True.intro | cases e0)) e0, (tyO_str e0).1, ns (fun w e => nomatch e) _ ku⟩
        | str z hz hf =>
          refine ⟨"str", true, .base (.str _), by decide +kernel, iteNb rfl ⟨_, _, .inl (.inl h1), Nat.le_trans (Nat.le_of_lt (show r.length < 1000 by omega)) (by decide), fun Dd hD => ?_⟩⟩
          have kD : Kp No _ (upd (upd H u (.tup [])) Dd (.lst r)) := Kp.new hD
          have k2 := ku.trans kD
          have h2 := kD.tup _ _ h1
          have pa2 := pa.up k2 id id
          have hD0 : upd (upd H u (.tup [])) Dd (.lst r) Dd = some (.lst r) := upd_same
          generalize upd (upd H u (.tup [])) Dd (.lst r) = H2 at k2 h2 pa2 hD0 ⊢
          by_cases hw : z ∈ sizesL.map (·.1)
          · refine ⟨rfl, iteF0 (by rw [decide_eq_true hw]; rfl) ?_⟩
            rcases words_of hw with rfl | rfl | rfl | rfl | rfl | rfl
            · refine ⟨_, .inr (.inl (.inl h2)), rfl, 4, by decide +kernel, ?_⟩
              by_cases hlen : r.length + 1 = 4
              · obtain ⟨a, b, c, rfl⟩ := shape3 hlen
                have ka : Kd H a := hr a (by simp)
                have kb : Kd H b := hr b (by simp)
                have kc : Kd H c := hr c (by simp)
                refine ⟨aI, _, rfl, .inr (wt.ink _), rfl, rfl, ?_⟩
                have eI : inV (.str "lay") [.str "lay", .str "wash", .str "warm"] = true := by decide +kernel
                by_cases e1 : hasV ks a = true
                case neg =>
                  refine iteB eI ⟨pdx, _, pa2.ins, rfl, _, _, .inl (.inl (.inl hD0)), at_of (j := 0) rfl rfl, pl, pdx, pd, ks, a, rfl, pa2, ka.up k2 fun _ _ => id, iteN0 (by simpa using e1) ?_⟩
                  have := q H2 k2
                  rw [show isDeedV ks [.str "lay", a, b, c] = false from by simp [isDeedV, e1]] at this
                  exact this
                refine iteB eI ⟨pdx, _, pa2.ins, rfl, _, _, .inl (.inl (.inl hD0)), at_of (j := 0) rfl rfl, pl, pdx, pd, ks, a, rfl, pa2, ka.up k2 fun _ _ => id, iteNb e1 ?_⟩
                refine ⟨_, _, .inl (.inl (.inl hD0)), at_of (j := 1) rfl rfl, b, rfl, kb.up k2 fun _ _ => id, fun HN kN => ?_⟩
                have k3 := k2.trans kN
                by_cases e2 : nmV b = true
                case neg =>
                  refine iteN0 (by simpa using e2) ?_
                  have := q HN k3
                  rw [show isDeedV ks [.str "lay", a, b, c] = false from by simp [isDeedV, e2]] at this
                  exact this
                refine iteNb e2 ?_
                have hD0 := kN.all Dd _ hD0 id
                intro u2 hu2
                have ku2 : Kp No HN (upd HN u2 (.lst [])) := Kp.new hu2
                have hD2 := ku2.all Dd _ hD0 id
                refine .inr ⟨_, .inl (.inl hD2), .inl (.inl upd_same), ?_⟩
                refine ⟨_, _, .inl (.inl (.inl hD2)), atI_last ([a, b] : List V) c, c, rfl, kc.up (k3.trans ku2) fun _ _ => id, ?_⟩
                have := q _ (k3.trans ku2)
                rw [show isDeedV ks [.str "lay", a, b, c] = amV c from by simp [isDeedV, e1, e2]] at this
                exact this
              · refine iteB ?_ ?_
                · show (!decide _) = true
                  rw [decide_eq_false (by simp; omega)]; rfl
                · have := q H2 k2
                  rw [show isDeedV ks (.str "lay" :: r) = false from isDeedV_len (n := 4) (by decide +kernel) hlen] at this
                  exact this
            · refine ⟨_, .inr (.inl (.inl h2)), rfl, 2, by decide +kernel, ?_⟩
              by_cases hlen : r.length + 1 = 2
              · obtain ⟨a, rfl⟩ := shape1 hlen
                have ka : Kd H a := hr a (by simp)
                refine ⟨aI, _, rfl, .inr (wt.ink _), rfl, rfl, ?_⟩
                have eI : inV (.str "wait") [.str "lay", .str "wash", .str "warm"] = false := by decide +kernel
                refine iteF0 eI ?_
                refine iteF0 (show decide (("wait" : Str) = "lay") = false by decide +kernel) ?_
                intro u2 hu2
                have ku2 : Kp No H2 (upd H2 u2 (.lst [])) := Kp.new hu2
                have hD2 := ku2.all Dd _ hD0 id
                refine .inr ⟨_, .inl (.inl hD2), .inl (.inl upd_same), ?_⟩
                refine ⟨_, _, .inl (.inl (.inl hD2)), atI_last ([] : List V) a, a, rfl, ka.up (k2.trans ku2) fun _ _ => id, ?_⟩
                have := q _ (k2.trans ku2)
                rw [show isDeedV ks [.str "wait", a] = amV a from by simp [isDeedV]] at this
                exact this
              · refine iteB ?_ ?_
                · show (!decide _) = true
                  rw [decide_eq_false (by simp; omega)]; rfl
                · have := q H2 k2
                  rw [show isDeedV ks (.str "wait" :: r) = false from isDeedV_len (n := 2) (by decide +kernel) hlen] at this
                  exact this
            · refine ⟨_, .inr (.inl (.inl h2)), rfl, 3, by decide +kernel, ?_⟩
              by_cases hlen : r.length + 1 = 3
              · obtain ⟨a, b, rfl⟩ := shape2 hlen
                have ka : Kd H a := hr a (by simp)
                have kb : Kd H b := hr b (by simp)
                refine ⟨aI, _, rfl, .inr (wt.ink _), rfl, rfl, ?_⟩
                have eI : inV (.str "wash") [.str "lay", .str "wash", .str "warm"] = true := by decide +kernel
                by_cases e1 : hasV ks a = true
                case neg =>
                  refine iteB eI ⟨pdx, _, pa2.ins, rfl, _, _, .inl (.inl (.inl hD0)), at_of (j := 0) rfl rfl, pl, pdx, pd, ks, a, rfl, pa2, ka.up k2 fun _ _ => id, iteN0 (by simpa using e1) ?_⟩
                  have := q H2 k2
                  rw [show isDeedV ks [.str "wash", a, b] = false from by simp [isDeedV, e1]] at this
                  exact this
                refine iteB eI ⟨pdx, _, pa2.ins, rfl, _, _, .inl (.inl (.inl hD0)), at_of (j := 0) rfl rfl, pl, pdx, pd, ks, a, rfl, pa2, ka.up k2 fun _ _ => id, iteNb e1 ?_⟩
                intro u2 hu2
                have ku2 : Kp No H2 (upd H2 u2 (.lst [])) := Kp.new hu2
                have hD2 := ku2.all Dd _ hD0 id
                refine .inr ⟨_, .inl (.inl hD2), .inl (.inl upd_same), ?_⟩
                refine ⟨_, _, .inl (.inl (.inl hD2)), atI_last ([a] : List V) b, b, rfl, kb.up (k2.trans ku2) fun _ _ => id, ?_⟩
                have := q _ (k2.trans ku2)
                rw [show isDeedV ks [.str "wash", a, b] = amV b from by simp [isDeedV, e1]] at this
                exact this
              · refine iteB ?_ ?_
                · show (!decide _) = true
                  rw [decide_eq_false (by simp; omega)]; rfl
                · have := q H2 k2
                  rw [show isDeedV ks (.str "wash" :: r) = false from isDeedV_len (n := 3) (by decide +kernel) hlen] at this
                  exact this
            · refine ⟨_, .inr (.inl (.inl h2)), rfl, 3, by decide +kernel, ?_⟩
              by_cases hlen : r.length + 1 = 3
              · obtain ⟨a, b, rfl⟩ := shape2 hlen
                have ka : Kd H a := hr a (by simp)
                have kb : Kd H b := hr b (by simp)
                refine ⟨aI, _, rfl, .inr (wt.ink _), rfl, rfl, ?_⟩
                have eI : inV (.str "warm") [.str "lay", .str "wash", .str "warm"] = true := by decide +kernel
                by_cases e1 : hasV ks a = true
                case neg =>
                  refine iteB eI ⟨pdx, _, pa2.ins, rfl, _, _, .inl (.inl (.inl hD0)), at_of (j := 0) rfl rfl, pl, pdx, pd, ks, a, rfl, pa2, ka.up k2 fun _ _ => id, iteN0 (by simpa using e1) ?_⟩
                  have := q H2 k2
                  rw [show isDeedV ks [.str "warm", a, b] = false from by simp [isDeedV, e1]] at this
                  exact this
                refine iteB eI ⟨pdx, _, pa2.ins, rfl, _, _, .inl (.inl (.inl hD0)), at_of (j := 0) rfl rfl, pl, pdx, pd, ks, a, rfl, pa2, ka.up k2 fun _ _ => id, iteNb e1 ?_⟩
                intro u2 hu2
                have ku2 : Kp No H2 (upd H2 u2 (.lst [])) := Kp.new hu2
                have hD2 := ku2.all Dd _ hD0 id
                refine .inr ⟨_, .inl (.inl hD2), .inl (.inl upd_same), ?_⟩
                refine ⟨_, _, .inl (.inl (.inl hD2)), atI_last ([a] : List V) b, b, rfl, kb.up (k2.trans ku2) fun _ _ => id, ?_⟩
                have := q _ (k2.trans ku2)
                rw [show isDeedV ks [.str "warm", a, b] = amV b from by simp [isDeedV, e1]] at this
                exact this
              · refine iteB ?_ ?_
                · show (!decide _) = true
                  rw [decide_eq_false (by simp; omega)]; rfl
                · have := q H2 k2
                  rw [show isDeedV ks (.str "warm" :: r) = false from isDeedV_len (n := 3) (by decide +kernel) hlen] at this
                  exact this
            · refine ⟨_, .inr (.inl (.inl h2)), rfl, 1, by decide +kernel, ?_⟩
              by_cases hlen : r.length + 1 = 1
              · obtain rfl : r = [] := List.eq_nil_of_length_eq_zero (by omega)
                refine ⟨aI, _, rfl, .inr (wt.ink _), rfl, rfl, ?_⟩
                have eI : inV (.str "scrape") [.str "lay", .str "wash", .str "warm"] = false := by decide +kernel
                refine iteF0 eI ?_
                refine iteF0 (show decide (("scrape" : Str) = "lay") = false by decide +kernel) ?_
                intro u2 hu2
                have ku2 : Kp No H2 (upd H2 u2 (.lst [])) := Kp.new hu2
                have hD2 := ku2.all Dd _ hD0 id
                refine .inr ⟨_, .inl (.inl hD2), .inl (.inl upd_same), ?_⟩
                exact q _ (k2.trans ku2)
              · refine iteB ?_ ?_
                · show (!decide _) = true
                  rw [decide_eq_false (by simp; omega)]; rfl
                · have := q H2 k2
                  rw [show isDeedV ks (.str "scrape" :: r) = false from isDeedV_len (n := 1) (by decide +kernel) hlen] at this
                  exact this
            · refine ⟨_, .inr (.inl (.inl h2)), rfl, 2, by decide +kernel, ?_⟩
              by_cases hlen : r.length + 1 = 2
              · obtain ⟨a, rfl⟩ := shape1 hlen
                have ka : Kd H a := hr a (by simp)
                refine ⟨aI, _, rfl, .inr (wt.ink _), rfl, rfl, ?_⟩
                have eI : inV (.str "rub") [.str "lay", .str "wash", .str "warm"] = false := by decide +kernel
                refine iteF0 eI ?_
                refine iteF0 (show decide (("rub" : Str) = "lay") = false by decide +kernel) ?_
                intro u2 hu2
                have ku2 : Kp No H2 (upd H2 u2 (.lst [])) := Kp.new hu2
                have hD2 := ku2.all Dd _ hD0 id
                refine .inr ⟨_, .inl (.inl hD2), .inl (.inl upd_same), ?_⟩
                refine ⟨_, _, .inl (.inl (.inl hD2)), atI_last ([] : List V) a, a, rfl, ka.up (k2.trans ku2) fun _ _ => id, ?_⟩
                have := q _ (k2.trans ku2)
                rw [show isDeedV ks [.str "rub", a] = amV a from by simp [isDeedV]] at this
                exact this
              · refine iteB ?_ ?_
                · show (!decide _) = true
                  rw [decide_eq_false (by simp; omega)]; rfl
                · have := q H2 k2
                  rw [show isDeedV ks (.str "rub" :: r) = false from isDeedV_len (n := 2) (by decide +kernel) hlen] at this
                  exact this
          · refine ⟨rfl, iteB (by rw [decide_eq_false hw]; rfl) ?_⟩
            have := q H2 k2
            rw [isDeedV_no hw] at this
            exact this
    | _ => cases e

--SPLIT
theorem ok_l_is_name (D : DefAt K mg "_law_is_name" s_l_is_name) (fr : Fr mg) : Cal P w K mg base 1 "_law_is_name" (spIsName K) := by
  refine cal_of D sc_l_is_name (fun _ _ _ _ _ _ us hl => match us, hl with | [_], _ => rfl) (fun vs H Q E h => by obtain ⟨v, rfl, _⟩ := h; rfl) fun f cd A out s H vs Q E room gd h => ?_
  obtain ⟨v, rfl, kd, q⟩ := h
  refine ⟨_, (pss_cons (ps_if (PW.pt (pw_or (pt_not (yt_val (pe_callB (kIsi (K := K) (by rfl)) (by rfl) fr.isinstance_ (by decide +kernel) (pa_cons (yv 0) (pa_cons (ye_ty (n := "str") (by rfl) fr.str_ (by decide +kernel)) pa_nil))))) (pw_or (yt_cmp oLt (pe_callB (kLen (K := K) (by rfl)) (by rfl) fr.len_ (by decide +kernel) (pa_cons (yv 0) pa_nil)) pe_int (nomark _)) (pw_or1 (yt_cmp oGt (pe_callB (kLen (K := K) (by rfl)) (by rfl) fr.len_ (by decide +kernel) (pa_cons (yv 0) pa_nil)) pe_int (nomark _)))))) (pss_one (ps_ret pe_bl)) pss_nil)
    (pss_one (ps_ret (pe_callB (kAll (K := K) (by rfl) rfl) (by rfl) fr.all_ (by decide +kernel) (pa_cons (pe_lc (own := [("_law_sign", 1)]) rfl sc_l_is_name.nd (yi_str (yv 0)) (blkOk_by (own := [("_law_sign", 1)]) (N := n_l_is_name) (sc := defScope s_l_is_name) (by decide +kernel)) (fun _ _ _ _ _ => (yg_name 1 sc_l_is_name.nd)) (fun _ _ _ _ _ => pts_nil) (fun _ _ _ _ _ => (pe_cmpR (kIn (K := K) (by rfl)) (yv 1) pe_str (by rfl)))) pa_nil))))), ?_⟩
  cases kd with
  | str z hz hf =>
    have hzl : z.length ≤ sizeLine := Nat.le_trans hz (by decide)
    have qf : nmB z = false → ∀ H', Kp No H H' → Q (.bl false) H' := fun e H' k => by
      have := q H' k
      rw [show nmV (.str z) = nmB z from rfl, e] at this
      exact this
    refine ⟨"str", true, .base (.str _), by decide +kernel, iteNb rfl ⟨hzl, ?_⟩⟩
    refine iteD (fun h1 => qf (nmB_no (.inl (by omega))) _ (Kp.refl _)) fun h1 => ⟨hzl, ?_⟩
    refine iteD (fun h2 => qf (nmB_no (.inr (by omega))) _ (Kp.refl _)) fun h2 => ?_
    intro Dd hD
    refine lc_mapS (K := K) PyData.bool (fun c => some (decide (c ∈ abc.cps.toList))) hD (by have := len_tl z; omega) (fun c Hc k kn hc kc hk hkn => ?_) (fun ys H2 h2 k2 im => ?_)
    · exact ⟨rfl, c, rfl, hk _ (decide (c ∈ abc.cps.toList)) _ rfl (Kp.refl _) (.bl _)⟩
    · have e2 := ImAll.bools im
      subst e2
      refine ⟨_, .inl (.inl h2), ?_⟩
      have := q H2 k2
      rw [show nmV (.str z) = nmB z from rfl, nmB_yes (by omega) (by omega)] at this
      rw [List.filterMap_eq_map' (f := fun c : Nat => decide (c ∈ abc.cps.toList))]
      exact this
  | int i => exact ⟨"int", false, .base (.int _), by decide +kernel, q _ (Kp.refl _)⟩
  | bl b => exact ⟨"bool", false, .base (.bl _), by decide +kernel, q _ (Kp.refl _)⟩
  | non => exact ⟨"NoneType", false, .base .non, by decide +kernel, q _ (Kp.refl _)⟩
  | ref h e => exact ⟨_, false, Kd.ty h e, (tyO_str e).1, q _ (Kp.refl _)⟩
theorem ok_l_is_amount (D : DefAt K mg "_law_is_amount" s_l_is_amount) (fr : Fr mg) : Cal P w K mg base 1 "_law_is_amount" (spIsAmount K) := by
  refine cal_of D sc_l_is_amount (fun _ _ _ _ _ _ us hl => match us, hl with | [_], _ => rfl) (fun vs H Q E h => by obtain ⟨v, rfl, _⟩ := h; rfl) fun f cd A out s H vs Q E room gd h => ?_
  obtain ⟨v, rfl, kd, q⟩ := h
  refine ⟨_, (pss_one (ps_ret (ye_and (pe_callB (kIsi (K := K) (by rfl)) (by rfl) fr.isinstance_ (by decide +kernel) (pa_cons (yv 0) (pa_cons (ye_ty (n := "int") (by rfl) fr.int_ (by decide +kernel)) pa_nil))) (ye_and (ye_not (pe_callB (kIsi (K := K) (by rfl)) (by rfl) fr.isinstance_ (by decide +kernel) (pa_cons (yv 0) (pa_cons (ye_ty (n := "bool") (by rfl) fr.bool_ (by decide +kernel)) pa_nil)))) (pe_one (pe_cmpR oGe (yv 0) pe_int (nomark _))))))), ?_⟩
  cases kd with
  | str z hz hf => exact ⟨"str", false, .base (.str _), by decide +kernel, q⟩
  | int i => exact ⟨"int", true, .base (.int _), by decide +kernel, "int", false, .base (.int _), by decide +kernel, q⟩
  | bl b => exact ⟨"bool", true, .base (.bl _), by decide +kernel, "bool", true, .base (.bl _), by decide +kernel, q⟩
  | non => exact ⟨"NoneType", false, .base .non, by decide +kernel, q⟩
  | ref h e => exact ⟨_, false, Kd.ty h e, (tyO_str e).2.1, q⟩
theorem eqv_s (a z : Str) : eqV (V.str a) (V.str z) = decide (z = a) := by
  show (a == z) = _
  rw [Bool.eq_iff_iff, beq_iff_eq, decide_eq_true_eq]
  exact ⟨Eq.symm, Eq.symm⟩
theorem in_names {ks : List Ink} {z : Str} : inV (.str z) (ks.map fun k => V.str k.1) = decide (z ∈ ks.map (·.1)) := by
  unfold inV
  rw [Bool.eq_iff_iff, List.any_eq_true, decide_eq_true_eq, List.mem_map]
  constructor
  · rintro ⟨y, hy, e⟩
    obtain ⟨k, hk, rfl⟩ := List.mem_map.mp hy
    have e : eqV (V.str k.1) (V.str z) = true := e
    rw [eqv_s] at e
    exact ⟨k, hk, (of_decide_eq_true e).symm⟩
  · rintro ⟨k, hk, rfl⟩
    refine ⟨.str k.1, List.mem_map.mpr ⟨k, hk, rfl⟩, ?_⟩
    show eqV (V.str k.1) (V.str k.1) = true
    rw [eqv_s]
    exact decide_eq_true rfl
theorem flat_names (ks : List Ink) : (ks.map fun k => V.str k.1).all flatV = true := by
  rw [List.all_map]
  exact List.all_eq_true.mpr fun _ _ => rfl
theorem isDeedV_long {ks : List Ink} {xs : List V} (h : 4 < xs.length) : isDeedV ks xs = false := by
  rcases xs with _ | ⟨a, _ | ⟨b, _ | ⟨c, _ | ⟨d, _ | ⟨e, r⟩⟩⟩⟩⟩ <;> simp at h
  cases a <;> rfl
def spFits [Tb] (K : PySem.W.Frag) : Sp := fun vs H Q _ => ∃ (v : V) (nl : Addr) (ks : List Ink) (b : Bool), vs = [v, .ref nl] ∧ Th H v ∧ H nl = some (.lst (ks.map fun k => V.str k.1)) ∧ ks.length ≤ 8 ∧ fitV ks H v = b ∧ ∀ H', Kp No H H' → Q (.bl b) H'
theorem ok_l_fits (D : DefAt K mg "_law_fits" s_l_fits) (fr : Fr mg) (c_l_is_name : Cal P w K mg base 1 "_law_is_name" (spIsName K)) (c_l_is_amount : Cal P w K mg base 1 "_law_is_amount" (spIsAmount K)) : Cal P w K mg base 2 "_law_fits" (spFits K) := by
  refine cal_of D sc_l_fits (fun _ _ _ _ _ _ us hl => match us, hl with | [_, _], _ => rfl) (fun vs H Q E h => by obtain ⟨v, nl, ks, b, rfl, _⟩ := h; rfl) fun f cd A out s H vs Q E room gd h => ?_
  obtain ⟨v, nl, ks, b, rfl, th, hnl, k8, eb, q⟩ := h
  obtain ⟨q0, q1⟩ := fit_split th eb q
  have kd := th.1
  clear q eb
  refine ⟨_, (pss_cons (ps_if (PW.pt (pw_or (pt_not (yt_val (pe_callB (kIsi (K := K) (by rfl)) (by rfl) fr.isinstance_ (by decide +kernel) (pa_cons (yv 0) (pa_cons (ye_ty (n := "tuple") (by rfl) fr.tuple_ (by decide +kernel)) pa_nil))))) (pw_or (yt_cmp oLt (pe_callB (kLen (K := K) (by rfl)) (by rfl) fr.len_ (by decide +kernel) (pa_cons (yv 0) pa_nil)) pe_int (nomark _)) (pw_or (yt_cmp oGt (pe_callB (kLen (K := K) (by rfl)) (by rfl) fr.len_ (by decide +kernel) (pa_cons (yv 0) pa_nil)) pe_int (nomark _)) (pw_or1 (pt_not (yt_val (pe_callB (kIsi (K := K) (by rfl)) (by rfl) fr.isinstance_ (by decide +kernel) (pa_cons (kIx (K := K) (by rfl) (yv 0) pe_int) (pa_cons (ye_ty (n := "str") (by rfl) fr.str_ (by decide +kernel)) pa_nil)))))))))) (pss_one (ps_ret pe_bl)) pss_nil)
    (pss_cons (ps_if (yt_cmp (kNotIn (K := K) (by rfl)) (kIx (K := K) (by rfl) (yv 0) pe_int) (kIx (K := K) (by rfl) (ye_lst (pa_cons (ye_lst pa_nil) (pa_cons (ye_lst (pa_cons pe_str pa_nil)) (pa_cons (ye_lst (pa_cons pe_str (pa_cons pe_str pa_nil))) (pa_cons (ye_lst (pa_cons pe_str (pa_cons pe_str pa_nil))) (pa_cons (ye_lst (pa_cons pe_str pa_nil)) pa_nil)))))) (pe_callB (kLen (K := K) (by rfl)) (by rfl) fr.len_ (by decide +kernel) (pa_cons (yv 0) pa_nil))) (by rfl)) (pss_one (ps_ret pe_bl)) pss_nil)
    (pss_cons (ps_if (PW.pt (pw_and (yt_cmp oGt (pe_callB (kLen (K := K) (by rfl)) (by rfl) fr.len_ (by decide +kernel) (pa_cons (yv 0) pa_nil)) pe_int (nomark _)) (pw_and1 (pt_not (yt_val (ye_call c_l_is_amount room gd (by rfl) (pa_cons (kIx (K := K) (by rfl) (yv 0) (pe_un oNeg pe_int)) pa_nil))))))) (pss_one (ps_ret pe_bl)) pss_nil)
    (pss_cons (ps_if (PW.pt (pw_and (yt_cmp oGt (pe_callB (kLen (K := K) (by rfl)) (by rfl) fr.len_ (by decide +kernel) (pa_cons (yv 0) pa_nil)) pe_int (nomark _)) (pw_and1 (PW.pt (pw_or (pt_not (yt_val (pe_callB (kIsi (K := K) (by rfl)) (by rfl) fr.isinstance_ (by decide +kernel) (pa_cons (kIx (K := K) (by rfl) (yv 0) pe_int) (pa_cons (ye_ty (n := "str") (by rfl) fr.str_ (by decide +kernel)) pa_nil))))) (pw_or1 (yt_cmp (kNotIn (K := K) (by rfl)) (kIx (K := K) (by rfl) (yv 0) pe_int) (yv 1) (by rfl)))))))) (pss_one (ps_ret pe_bl)) pss_nil)
    (pss_one (ps_ret (ye_or (pe_cmpR oLt (pe_callB (kLen (K := K) (by rfl)) (by rfl) fr.len_ (by decide +kernel) (pa_cons (yv 0) pa_nil)) pe_int (nomark _)) (pe_one (ye_call c_l_is_name room gd (by rfl) (pa_cons (kIx (K := K) (by rfl) (yv 0) pe_int) pa_nil)))))))))), ?_⟩
  have nt : ∀ {v : V}, (∀ a xs, v = .ref a → H a ≠ some (.tup xs)) → True := fun _ => trivial
  cases kd with
  | str z hz hf => exact ⟨"str", false, .base (.str _), by decide +kernel, q0 (fun a xs e => (nomatch e)) _ (Kp.refl _)⟩
  | int i => exact ⟨"int", false, .base (.int _), by decide +kernel, q0 (fun a xs e => (nomatch e)) _ (Kp.refl _)⟩
  | bl b => exact ⟨"bool", false, .base (.bl _), by decide +kernel, q0 (fun a xs e => (nomatch e)) _ (Kp.refl _)⟩
  | non => exact ⟨"NoneType", false, .base .non, by decide +kernel, q0 (fun a xs e => (nomatch e)) _ (Kp.refl _)⟩
  | @ref t o m h e =>
    cases o with
    | lst xs => cases e; exact ⟨"list", false, .base (.lst h), by decide +kernel, q0 (fun a xs e2 h2 => by cases e2; rw [h] at h2; cases h2) _ (Kp.refl _)⟩
    | dK kvs => cases e; exact ⟨"dict", false, .base (.dK h), by decide +kernel, q0 (fun a xs e2 h2 => by cases e2; rw [h] at h2; cases h2) _ (Kp.refl _)⟩
    | tup xs =>
      cases e
      obtain ⟨hl, hk, q⟩ := q1 t xs rfl h
      refine ⟨"tuple", true, .base (.tup h), by decide +kernel, iteNb rfl ⟨_, .inr (.inl (.inl h)), ?_⟩⟩
      have qn : isDeedV ks xs = false → ∀ H', Kp No H H' → Q (.bl false) H' := fun e H' k => by
        have := q H' k
        rw [e] at this
        exact this
      refine iteD (fun e1 => qn (by obtain rfl : xs = [] := List.eq_nil_of_length_eq_zero (by omega); rfl) _ (Kp.refl _)) fun e1 => ⟨_, .inr (.inl (.inl h)), ?_⟩
      refine iteD (fun e4 => qn (isDeedV_long (by omega)) _ (Kp.refl _)) fun e4 => ?_
      rcases xs with _ | ⟨x0, r⟩
      · exact absurd (show ((0 : Nat) : Int) < 1 by decide) e1
      have hx0 := hk x0 List.mem_cons_self
      have hr : ∀ x ∈ r, Kd H x := fun x hx => hk x (List.mem_cons_of_mem _ hx)
      have r3 : r.length ≤ 3 := by simp at e4; omega
      refine ⟨_, _, .inr (.inl (.inl h)), at_of (j := 0) rfl rfl, ?_⟩
      cases hx0 with
      | int i => exact ⟨"int", false, .base (.int _), by decide +kernel, qn (isDeedV_ns fun w e => nomatch e) _ (Kp.refl _)⟩
      | bl b => exact ⟨"bool", false, .base (.bl _), by decide +kernel, qn (isDeedV_ns fun w e => nomatch e) _ (Kp.refl _)⟩
      | non => exact ⟨"NoneType", false, .base .non, by decide +kernel, qn (isDeedV_ns fun w e => nomatch e) _ (Kp.refl _)⟩
      | @ref a0 o0 m0 g0 e0 => exact ⟨_, false, Kd.ty g0 e0, (tyO_str e0).1, qn (isDeedV_ns fun w e => nomatch e) _ (Kp.refl _)⟩
      | str z hz hf =>
        refine ⟨"str", true, .base (.str _), by decide +kernel, iteNb rfl ?_⟩
        refine ⟨_, _, .inr (.inl (.inl h)), at_of (j := 0) rfl rfl, fun l0 g0 l1 g1 l2 g2 l3 g3 l4 g4 L gL => ?_⟩
        have k0 : Kp No H (upd H l0 (.lst [])) := Kp.new g0
        generalize eh0 : upd H l0 (.lst []) = H0 at k0 g1 g2 g3 g4 gL ⊢
        have a0 : H0 l0 = some (.lst []) := by rw [← eh0]; exact upd_same
        have k1 : Kp No H0 (upd H0 l1 (.lst [.str "scrape"])) := Kp.new g1
        generalize eh1 : upd H0 l1 (.lst [.str "scrape"]) = H1 at k1 g2 g3 g4 gL ⊢
        have a1 : H1 l1 = some (.lst [.str "scrape"]) := by rw [← eh1]; exact upd_same
        have k2 : Kp No H1 (upd H1 l2 (.lst [.str "wait", .str "rub"])) := Kp.new g2
        generalize eh2 : upd H1 l2 (.lst [.str "wait", .str "rub"]) = H2 at k2 g3 g4 gL ⊢
        have a2 : H2 l2 = some (.lst [.str "wait", .str "rub"]) := by rw [← eh2]; exact upd_same
        have k3 : Kp No H2 (upd H2 l3 (.lst [.str "wash", .str "warm"])) := Kp.new g3
        generalize eh3 : upd H2 l3 (.lst [.str "wash", .str "warm"]) = H3 at k3 g4 gL ⊢
        have a3 : H3 l3 = some (.lst [.str "wash", .str "warm"]) := by rw [← eh3]; exact upd_same
        have k4 : Kp No H3 (upd H3 l4 (.lst [.str "lay"])) := Kp.new g4
        generalize eh4 : upd H3 l4 (.lst [.str "lay"]) = H4 at k4 gL ⊢
        have a4 : H4 l4 = some (.lst [.str "lay"]) := by rw [← eh4]; exact upd_same
        have kL : Kp No H4 (upd H4 L (.lst [.ref l0, .ref l1, .ref l2, .ref l3, .ref l4])) := Kp.new gL
        generalize ehL : upd H4 L (.lst [.ref l0, .ref l1, .ref l2, .ref l3, .ref l4]) = HL at kL ⊢
        have aL : HL L = some (.lst [.ref l0, .ref l1, .ref l2, .ref l3, .ref l4]) := by rw [← ehL]; exact upd_same
        have kA : Kp No H HL := k0.trans (k1.trans (k2.trans (k3.trans (k4.trans kL))))
        have b1 := kL.all l1 _ (k4.all l1 _ (k3.all l1 _ (k2.all l1 _ a1 id) id) id) id
        have b2 := kL.all l2 _ (k4.all l2 _ (k3.all l2 _ a2 id) id) id
        have b3 := kL.all l3 _ (k4.all l3 _ a3 id) id
        have b4 := kL.all l4 _ a4 id
        have hL := kA.tup _ _ h
        have nlL := kA.all nl _ hnl id
        rcases r with _ | ⟨xa, _ | ⟨xb, _ | ⟨xc, _ | ⟨xd, r⟩⟩⟩⟩
        · -- 1
          refine ⟨_, .inr (.inl (.inl hL)), _, _, .inl (.inl (.inl aL)), at_of (j := 1) rfl rfl, l1, _, rfl, .inl (.inl (.inl b1)), rfl, rfl, ?_⟩
          have ein : inV (.str z) [.str "scrape"] = (decide (z = "scrape")) := by unfold inV; simp [eqv_s]
          have eall : isDeedV ks [.str z] = (inV (.str z) [.str "scrape"] && true) := by rw [ein]; simp [isDeedV]
          by_cases hm : inV (.str z) [.str "scrape"] = true
          case neg =>
            refine iteB (show (!inV (.str z) [.str "scrape"]) = true by simp [hm]) (qn (by rw [eall]; simp [hm]) _ kA)
          refine iteF0 (show (!inV (.str z) [.str "scrape"]) = false by simp [hm]) ?_
          rw [hm, Bool.true_and] at eall
          refine ⟨_, .inr (.inl (.inl hL)), _, .inr (.inl (.inl hL)), _, .inr (.inl (.inl hL)), ?_⟩
          have := q _ kA
          rw [eall] at this
          exact this
        · -- 2
          refine ⟨_, .inr (.inl (.inl hL)), _, _, .inl (.inl (.inl aL)), at_of (j := 2) rfl rfl, l2, _, rfl, .inl (.inl (.inl b2)), rfl, rfl, ?_⟩
          have ein : inV (.str z) [.str "wait", .str "rub"] = (decide (z = "wait") || decide (z = "rub")) := by unfold inV; simp [eqv_s]
          have eall : isDeedV ks [.str z, xa] = (inV (.str z) [.str "wait", .str "rub"] && amV xa) := by rw [ein]; simp [isDeedV]
          by_cases hm : inV (.str z) [.str "wait", .str "rub"] = true
          case neg =>
            refine iteB (show (!inV (.str z) [.str "wait", .str "rub"]) = true by simp [hm]) (qn (by rw [eall]; simp [hm]) _ kA)
          refine iteF0 (show (!inV (.str z) [.str "wait", .str "rub"]) = false by simp [hm]) ?_
          rw [hm, Bool.true_and] at eall
          have k_xa : Kd HL xa := (hr xa (by simp)).up kA fun _ _ => id
          refine ⟨_, .inr (.inl (.inl hL)), _, _, .inr (.inl (.inl hL)), atI_last ([.str z] : List V) xa, xa, rfl, k_xa, ?_⟩
          by_cases el : amV xa = true
          case neg => exact iteN0 (by simpa using el) (qn (by rw [eall]; simp [el]) _ kA)
          refine iteNb el ?_
          refine ⟨_, .inr (.inl (.inl hL)), _, .inr (.inl (.inl hL)), ?_⟩
          have := q _ kA
          rw [eall, el] at this
          exact this
        · -- 3
          refine ⟨_, .inr (.inl (.inl hL)), _, _, .inl (.inl (.inl aL)), at_of (j := 3) rfl rfl, l3, _, rfl, .inl (.inl (.inl b3)), rfl, rfl, ?_⟩
          have ein : inV (.str z) [.str "wash", .str "warm"] = (decide (z = "wash") || decide (z = "warm")) := by unfold inV; simp [eqv_s]
          have eall : isDeedV ks [.str z, xa, xb] = (inV (.str z) [.str "wash", .str "warm"] && (hasV ks xa && amV xb)) := by rw [ein]; simp [isDeedV]
          by_cases hm : inV (.str z) [.str "wash", .str "warm"] = true
          case neg =>
            refine iteB (show (!inV (.str z) [.str "wash", .str "warm"]) = true by simp [hm]) (qn (by rw [eall]; simp [hm]) _ kA)
          refine iteF0 (show (!inV (.str z) [.str "wash", .str "warm"]) = false by simp [hm]) ?_
          rw [hm, Bool.true_and] at eall
          have k_xa : Kd HL xa := (hr xa (by simp)).up kA fun _ _ => id
          have k_xb : Kd HL xb := (hr xb (by simp)).up kA fun _ _ => id
          refine ⟨_, .inr (.inl (.inl hL)), _, _, .inr (.inl (.inl hL)), atI_last ([.str z, xa] : List V) xb, xb, rfl, k_xb, ?_⟩
          by_cases el : amV xb = true
          case neg => exact iteN0 (by simpa using el) (qn (by rw [eall]; simp [el]) _ kA)
          refine iteNb el ?_
          refine ⟨_, .inr (.inl (.inl hL)), _, _, .inr (.inl (.inl hL)), at_of (j := 1) rfl rfl, ?_⟩
          cases k_xa with
          | int i => exact ⟨"int", false, .base (.int _), by decide +kernel, (qn (by rw [eall]; simp [hasV]) _ kA)⟩
          | bl b => exact ⟨"bool", false, .base (.bl _), by decide +kernel, (qn (by rw [eall]; simp [hasV]) _ kA)⟩
          | non => exact ⟨"NoneType", false, .base (.non), by decide +kernel, (qn (by rw [eall]; simp [hasV]) _ kA)⟩
          | @ref a1 o1 m1 g1' e1' => exact ⟨_, false, Kd.ty g1' e1', (tyO_str e1').1, (qn (by rw [eall]; simp [hasV]) _ kA)⟩
          | str za hza hfa =>
            refine ⟨"str", true, .base (.str _), by decide +kernel, iteNb rfl ⟨_, _, .inr (.inl (.inl hL)), at_of (j := 1) rfl rfl, nl, _, rfl, .inl (.inl (.inl nlL)), rfl, flat_names ks, ?_⟩⟩
            have eh : inV (.str za) (ks.map fun k => V.str k.1) = hasV ks (.str za) := in_names
            by_cases eb : hasV ks (.str za) = true
            case neg => exact iteB (show (!inV (.str za) (ks.map fun k => V.str k.1)) = true by rw [eh]; simpa using eb) (qn (by rw [eall]; simp [eb]) _ kA)
            refine iteF0 (show (!inV (.str za) (ks.map fun k => V.str k.1)) = false by rw [eh, eb]; rfl) ?_
            refine ⟨_, .inr (.inl (.inl hL)), ?_⟩
            have := q _ kA
            rw [eall, eb, el] at this
            exact this
        · -- 4
          refine ⟨_, .inr (.inl (.inl hL)), _, _, .inl (.inl (.inl aL)), at_of (j := 4) rfl rfl, l4, _, rfl, .inl (.inl (.inl b4)), rfl, rfl, ?_⟩
          have ein : inV (.str z) [.str "lay"] = (decide (z = "lay")) := by unfold inV; simp [eqv_s]
          have eall : isDeedV ks [.str z, xa, xb, xc] = (inV (.str z) [.str "lay"] && (hasV ks xa && (nmV xb && amV xc))) := by rw [ein]; simp [isDeedV]
          by_cases hm : inV (.str z) [.str "lay"] = true
          case neg =>
            refine iteB (show (!inV (.str z) [.str "lay"]) = true by simp [hm]) (qn (by rw [eall]; simp [hm]) _ kA)
          refine iteF0 (show (!inV (.str z) [.str "lay"]) = false by simp [hm]) ?_
          rw [hm, Bool.true_and] at eall
          have k_xa : Kd HL xa := (hr xa (by simp)).up kA fun _ _ => id
          have k_xb : Kd HL xb := (hr xb (by simp)).up kA fun _ _ => id
          have k_xc : Kd HL xc := (hr xc (by simp)).up kA fun _ _ => id
          refine ⟨_, .inr (.inl (.inl hL)), _, _, .inr (.inl (.inl hL)), atI_last ([.str z, xa, xb] : List V) xc, xc, rfl, k_xc, ?_⟩
          by_cases el : amV xc = true
          case neg => exact iteN0 (by simpa using el) (qn (by rw [eall]; simp [el]) _ kA)
          refine iteNb el ?_
          refine ⟨_, .inr (.inl (.inl hL)), _, _, .inr (.inl (.inl hL)), at_of (j := 1) rfl rfl, ?_⟩
          cases k_xa with
          | int i => exact ⟨"int", false, .base (.int _), by decide +kernel, (qn (by rw [eall]; simp [hasV]) _ kA)⟩
          | bl b => exact ⟨"bool", false, .base (.bl _), by decide +kernel, (qn (by rw [eall]; simp [hasV]) _ kA)⟩
          | non => exact ⟨"NoneType", false, .base (.non), by decide +kernel, (qn (by rw [eall]; simp [hasV]) _ kA)⟩
          | @ref a1 o1 m1 g1' e1' => exact ⟨_, false, Kd.ty g1' e1', (tyO_str e1').1, (qn (by rw [eall]; simp [hasV]) _ kA)⟩
          | str za hza hfa =>
            refine ⟨"str", true, .base (.str _), by decide +kernel, iteNb rfl ⟨_, _, .inr (.inl (.inl hL)), at_of (j := 1) rfl rfl, nl, _, rfl, .inl (.inl (.inl nlL)), rfl, flat_names ks, ?_⟩⟩
            have eh : inV (.str za) (ks.map fun k => V.str k.1) = hasV ks (.str za) := in_names
            by_cases eb : hasV ks (.str za) = true
            case neg => exact iteB (show (!inV (.str za) (ks.map fun k => V.str k.1)) = true by rw [eh]; simpa using eb) (qn (by rw [eall]; simp [eb]) _ kA)
            refine iteF0 (show (!inV (.str za) (ks.map fun k => V.str k.1)) = false by rw [eh, eb]; rfl) ?_
            refine ⟨_, .inr (.inl (.inl hL)), ?_⟩
            refine ⟨_, _, .inr (.inl (.inl hL)), at_of (j := 2) rfl rfl, xb, rfl, k_xb, fun HM kM => ?_⟩
            have := q _ (kA.trans kM)
            rw [eall, eb, el, Bool.true_and, Bool.and_true] at this
            exact this
        · exact absurd r3 (by simp)
    | _ => cases e

--SPLIT
def spDeed21 [Tb] (K : PySem.W.Frag) : Sp := fun vs H Q _ => ∃ (p il tl : Addr) (ks : List Ink) (ys : List V) (ts : List Str), vs = [.ref p, .ref il, .ref tl] ∧ Pot H p ∧ H il = some (.lst ys) ∧ ImAll K H ys (ks.map inkD) ∧ InkOk ks ∧ il ≠ p ∧ H tl = some (.lst (ts.map V.str)) ∧ tl ≠ p ∧ ts.length = 2 ∧ (∀ z ∈ ts, Nm z) ∧
  ∀ (a : Addr) (w : Str) (r : List V) H', Kp (At p) H H' → Pot H' p → H a = none → H' a = some (.tup (.str w :: r)) → r.length ≤ 3 → (∀ H2, Kd H2 (.str w)) → (∀ x ∈ r, ∀ H2, Kd H2 x) → Q (.ref a) H'
theorem ok_l_deed (D : DefAt K mg "_law_deed" s_l_deed) (fr : Fr mg) (c_l_take : Cal P w K mg base 1 "_law_take" spTake) (c_l_amount : Cal P w K mg base 2 "_law_amount" spAmount) : Cal P w K mg base 3 "_law_deed" (spDeed21 K) := by
  refine cal_of D sc_l_deed (fun _ _ _ _ _ _ us hl => match us, hl with | [_, _, _], _ => rfl) (fun vs H Q E h => by obtain ⟨p, il, tl, ks, ys, ts, rfl, _⟩ := h; rfl) fun f cd A out s H vs Q E room gd h => ?_
  obtain ⟨p, il, tl, ks, ys, ts, rfl, pot, hil, im, iok, nip, htl, ntp, tl2, tn, q⟩ := h
  refine ⟨_, (pss_cons (ys_set 3 sc_l_deed.nd (kIx (K := K) (by rfl) (ye_lst (pa_cons pe_str (pa_cons pe_str (pa_cons pe_str (pa_cons pe_str (pa_cons pe_str (pa_cons pe_str (pa_cons pe_str (pa_cons pe_str pa_nil))))))))) (ye_call c_l_take room gd (by rfl) (pa_cons (yv 0) (pa_cons pe_int pa_nil)))))
    (pss_cons (ys_set 4 sc_l_deed.nd (kIx (K := K) (by rfl) (kIx (K := K) (by rfl) (yv 1) (ye_call c_l_take room gd (by rfl) (pa_cons (yv 0) (pa_cons (pe_callB (kLen (K := K) (by rfl)) (by rfl) fr.len_ (by decide +kernel) (pa_cons (yv 1) pa_nil)) pa_nil)))) pe_int))
    (pss_cons (ps_if (yt_cmp (kEq (K := K) (by rfl) room.units) (yv 3) pe_str (nomark _)) (pss_one (ps_ret (ye_tup (pa_cons (yv 3) (pa_cons (yv 4) (pa_cons (kIx (K := K) (by rfl) (yv 2) (ye_call c_l_take room gd (by rfl) (pa_cons (yv 0) (pa_cons (pe_callB (kLen (K := K) (by rfl)) (by rfl) fr.len_ (by decide +kernel) (pa_cons (yv 2) pa_nil)) pa_nil)))) (pa_cons (ye_call c_l_amount room gd (by rfl) (pa_cons (yv 0) pa_nil)) pa_nil))))))) pss_nil)
    (pss_cons (ps_if (yt_cmp (kIn (K := K) (by rfl)) (yv 3) (ye_tup (pa_cons pe_str (pa_cons pe_str pa_nil))) (by rfl)) (pss_one (ps_ret (ye_tup (pa_cons (yv 3) (pa_cons (yv 4) (pa_cons (ye_call c_l_amount room gd (by rfl) (pa_cons (yv 0) pa_nil)) pa_nil)))))) pss_nil)
    (pss_cons (ps_if (yt_cmp (kEq (K := K) (by rfl) room.units) (yv 3) pe_str (nomark _)) (pss_one (ps_ret (ye_tup (pa_cons (yv 3) pa_nil)))) pss_nil)
    (pss_one (ps_ret (ye_tup (pa_cons (yv 3) (pa_cons (ye_call c_l_amount room gd (by rfl) (pa_cons (yv 0) pa_nil)) pa_nil)))))))))), ?_⟩
  intro L gL
  have kL : Kp No H (upd H L (.lst [.str "lay", .str "lay", .str "lay", .str "wait", .str "wash", .str "warm", .str "scrape", .str "rub"])) := Kp.new gL
  have aL : upd H L (.lst [.str "lay", .str "lay", .str "lay", .str "wait", .str "wash", .str "warm", .str "scrape", .str "rub"]) L = some (.lst [.str "lay", .str "lay", .str "lay", .str "wait", .str "wash", .str "warm", .str "scrape", .str "rub"]) := upd_same
  generalize upd H L (.lst [.str "lay", .str "lay", .str "lay", .str "wait", .str "wash", .str "warm", .str "scrape", .str "rub"]) = H1 at kL aL ⊢
  have nLp : L ≠ p := fun e => by
    obtain ⟨a, b, h, _⟩ := pot
    rw [e, h] at gL
    cases gL
  have pot1 := pot.keep kL id
  refine ⟨p, 8, rfl, pot1, by decide, by decide, fun d H2 k2 pot2 d0 d8 => ?_⟩
  have aL2 := k2.all L _ aL nLp
  obtain ⟨w, hw, wl, wf⟩ : ∃ w : Str, ([.str "lay", .str "lay", .str "lay", .str "wait", .str "wash", .str "warm", .str "scrape", .str "rub"] : List V)[d.toNat]? = some (.str w) ∧ w.length ≤ 1000 ∧ fine (.str w) = true := by
    have : d.toNat = 0 ∨ d.toNat = 1 ∨ d.toNat = 2 ∨ d.toNat = 3 ∨ d.toNat = 4 ∨ d.toNat = 5 ∨ d.toNat = 6 ∨ d.toNat = 7 := by omega
    rcases this with e | e | e | e | e | e | e | e <;> rw [e] <;> exact ⟨_, rfl, by decide +kernel, by decide +kernel⟩
  refine ⟨_, _, .inl (.inl (.inl aL2)), at_of (j := d.toNat) (by omega) hw, ?_⟩
  have k02 : Kp (At p) H H2 := kL.no.trans k2
  have hil2 := k02.all il _ hil nip
  have el : ys.length = ks.length := by rw [im.length, List.length_map]
  have l8 := iok.len8
  have l1 := iok.len1
  refine ⟨_, .inl (.inl (.inl hil2)), p, _, rfl, pot2, by omega, by omega, fun e H3 k3 pot3 e0 e1 => ?_⟩
  have hil3 := k3.all il _ hil2 nip
  have k03 := k02.trans k3
  have he : e.toNat < ys.length := by omega
  have hek : e.toNat < ks.length := by omega
  have hy := List.getElem?_eq_getElem he
  obtain ⟨dd, g1, g2⟩ := im.get hy
  rw [List.getElem?_map, List.getElem?_eq_getElem hek] at g1
  obtain rfl : inkD ks[e.toNat] = dd := Option.some.inj g1
  obtain ⟨ia, ey, ta⟩ := (Im.up k03 _ _ g2).inkInv
  rw [ey] at hy
  refine ⟨_, _, .inl (.inl (.inl hil3)), at_of (j := e.toNat) (by omega) hy, ?_⟩
  refine ⟨_, _, .inr ta.sq, at_of (j := 0) rfl rfl, ?_⟩
  have nm := (iok.nm _ (List.getElem_mem hek)).1
  have ki : ∀ H', Kd H' (.str ks[e.toNat].1) := fun H' => .str _ (Nat.le_trans nm.eight (by decide)) (nm_fine nm)
  have kw : ∀ H', Kd H' (.str w) := fun H' => .str _ wl wf
  refine iteD (fun e1 => ?_) fun e1 => ?_
  · have htl3 := k03.all tl _ htl ntp
    refine ⟨_, .inl (.inl (.inl htl3)), p, _, rfl, pot3, by simp [tl2], by simp [tl2], fun g H4 k4 pot4 g0 g1 => ?_⟩
    have htl4 := k4.all tl _ htl3 ntp
    have hg : g.toNat < ts.length := by simp at g1; omega
    have ht : (ts.map V.str)[g.toNat]? = some (.str ts[g.toNat]) := by rw [List.getElem?_map, List.getElem?_eq_getElem hg]; rfl
    refine ⟨_, _, .inl (.inl (.inl htl4)), at_of (j := g.toNat) (by omega) ht, p, rfl, pot4, fun n H5 k5 pot5 n1 n59 => fun u hu => ?_⟩
    have k05 := (k03.trans k4).trans k5
    have ku : Kp No H5 (upd H5 u (.tup [.str w, .str ks[e.toNat].1, .str ts[g.toNat], .int n])) := Kp.new hu
    have nt := tn _ (List.getElem_mem hg)
    exact q u w [.str ks[e.toNat].1, .str ts[g.toNat], .int n] _ (k05.trans ku.no) (pot5.keep ku id) (k05.dom u hu) upd_same (Nat.le_refl 3) kw fun x hx H2 => by
      rcases List.mem_cons.mp hx with rfl | hx
      · exact ki _
      · rcases List.mem_cons.mp hx with rfl | hx
        · exact .str _ (Nat.le_trans nt.eight (by decide)) (nm_fine nt)
        · rw [List.mem_singleton.mp hx]; exact .int n
  · intro u1 hu1
    have ku1 : Kp No H3 (upd H3 u1 (.tup [.str "wash", .str "warm"])) := Kp.new hu1
    have a1 : upd H3 u1 (.tup [.str "wash", .str "warm"]) u1 = some (.tup [.str "wash", .str "warm"]) := upd_same
    have pot3' := pot3.keep ku1 id
    have k04 := k03.trans ku1.no
    generalize upd H3 u1 (.tup [.str "wash", .str "warm"]) = H4 at a1 pot3' k04 ⊢
    refine ⟨u1, _, rfl, .inr (.inl (.inl a1)), rfl, rfl, ?_⟩
    refine ite2 (fun hm => ?_) fun hm => ?_
    · refine ⟨p, rfl, pot3', fun n H5 k5 pot5 n1 n59 => fun u hu => ?_⟩
      have k05 := k04.trans k5
      have ku : Kp No H5 (upd H5 u (.tup [.str w, .str ks[e.toNat].1, .int n])) := Kp.new hu
      exact q u w [.str ks[e.toNat].1, .int n] _ (k05.trans ku.no) (pot5.keep ku id) (k05.dom u hu) upd_same (show 2 ≤ 3 by decide) kw fun x hx H2 => by
        rcases List.mem_cons.mp hx with rfl | hx
        · exact ki _
        · rw [List.mem_singleton.mp hx]; exact .int n
    · refine iteD (fun e2 => ?_) fun e2 => ?_
      · intro u hu
        have ku : Kp No H4 (upd H4 u (.tup [.str w])) := Kp.new hu
        exact q u w [] _ (k04.trans ku.no) (pot3'.keep ku id) (k04.dom u hu) upd_same (show 0 ≤ 3 by decide) kw fun x hx H2 => nomatch hx
      · refine ⟨p, rfl, pot3', fun n H5 k5 pot5 n1 n59 => fun u hu => ?_⟩
        have k05 := k04.trans k5
        have ku : Kp No H5 (upd H5 u (.tup [.str w, .int n])) := Kp.new hu
        exact q u w [.int n] _ (k05.trans ku.no) (pot5.keep ku id) (k05.dom u hu) upd_same (show 1 ≤ 3 by decide) kw fun x hx H2 => by rw [List.mem_singleton.mp hx]; exact .int n
theorem fine_app {a b : Str} (ha : fine (.str a) = true) (hb : fine (.str b) = true) : fine (.str (a ++ b)) = true := by
  show ((a ++ b).cps.toList.all fun c => decide (c < 0x110000)) = true
  rw [Str.cps_append, Array.toList_append, List.all_append]
  exact Bool.and_eq_true_iff.mpr ⟨ha, hb⟩
theorem fine_cut {z : Str} (h : fine (.str z) = true) (lo hi : Option Int) : fine (.str (cutS z lo hi)) = true := by
  show ((cutS z lo hi).cps.toList.all fun c => decide (c < 0x110000)) = true
  unfold cutS
  rw [List.all_eq_true]
  intro c hc
  have h2 : (z.cps.toList.all fun c => decide (c < 0x110000)) = true := h
  exact List.all_eq_true.mp h2 c (List.drop_subset _ _ (List.take_subset _ _ hc))
theorem cut_len (z : Str) (lo hi : Option Int) : (cutS z lo hi).length ≤ z.length := by
  show (cutS z lo hi).cps.size ≤ z.cps.size
  unfold cutS
  simp only [List.size_toArray, List.length_take, List.length_drop, Array.length_toList]
  omega
theorem app_len (a b : Str) : (a ++ b).length = a.length + b.length := by
  show (a ++ b).cps.size = a.cps.size + b.cps.size
  rw [Str.cps_append, Array.size_append]
abbrev signs21 : Str := "ABCDEFGHIJKLMNOPQRSTUVWXYZ0123456789 _-.,:;!?'()[]{}<>=+*/&#@|~^`\"\n"
theorem signs21_lt : (signs21.cps.toList.all fun c => decide (c < 128)) = true := by decide +kernel
def spNoName [Tb] : Sp := fun vs H Q _ => ∃ (p : Addr), vs = [.ref p] ∧ Pot H p ∧ ∀ (z : Str) H', Kp (At p) H H' → Pot H' p → Kd H' (.str z) → Q (.str z) H'
theorem ok_l_no_name (D : DefAt K mg "_law_no_name" s_l_no_name) (fr : Fr mg) (c_l_take : Cal P w K mg base 1 "_law_take" spTake) (c_l_word : Cal P w K mg base 2 "_law_word" spWord2) : Cal P w K mg base 3 "_law_no_name" spNoName := by
  refine cal_of D sc_l_no_name (fun _ _ _ _ _ _ us hl => match us, hl with | [_], _ => rfl) (fun vs H Q E h => by obtain ⟨p, rfl, _⟩ := h; rfl) fun f cd A out s H vs Q E room gd h => ?_
  obtain ⟨p, rfl, pot, q⟩ := h
  refine ⟨_, (pss_cons (ys_set 1 sc_l_no_name.nd pe_str)
    (pss_cons (ys_set 2 sc_l_no_name.nd pe_str)
    (pss_cons (ys_set 3 sc_l_no_name.nd (ye_call c_l_word room gd (by rfl) (pa_cons (yv 0) (pa_cons (ye_lst pa_nil) pa_nil))))
    (pss_cons (ys_set 4 sc_l_no_name.nd (ye_call c_l_take room gd (by rfl) (pa_cons (yv 0) (pa_cons (pe_op (kAdd (K := K) (by rfl)) (pe_callB (kLen (K := K) (by rfl)) (by rfl) fr.len_ (by decide +kernel) (pa_cons (yv 3) pa_nil)) pe_int) pa_nil))))
    (pss_cons (ys_set 5 sc_l_no_name.nd (pe_op (kAdd (K := K) (by rfl)) (pe_op (kAdd (K := K) (by rfl)) (kSl (K := K) (by rfl) (yv 3) po_none (yo_some (yv 4))) (kIx (K := K) (by rfl) (yv 2) (ye_call c_l_take room gd (by rfl) (pa_cons (yv 0) (pa_cons (pe_callB (kLen (K := K) (by rfl)) (by rfl) fr.len_ (by decide +kernel) (pa_cons (yv 2) pa_nil)) pa_nil))))) (kSl (K := K) (by rfl) (yv 3) (yo_some (yv 4)) po_none)))
    (pss_one (ps_ret (kIx (K := K) (by rfl) (ye_lst (pa_cons pe_str (pa_cons (yv 5) (pa_cons (yv 5) (pa_cons (pe_op (kAdd (K := K) (by rfl)) (yv 3) (kSl (K := K) (by rfl) (yv 1) po_none (yo_some pe_int))) pa_nil))))) (ye_call c_l_take room gd (by rfl) (pa_cons (yv 0) (pa_cons pe_int pa_nil))))))))))), ?_⟩
  intro f0 hf0
  have kf : Kp No H (upd H f0 (.lst [])) := Kp.new hf0
  have af : upd H f0 (.lst []) f0 = some (.lst (([] : List Str).map V.str)) := upd_same
  have potf := pot.keep kf id
  have nfp : f0 ≠ p := fun e => by
    obtain ⟨a, b, h, _⟩ := pot
    rw [e, h] at hf0
    cases hf0
  generalize upd H f0 (.lst []) = H1 at kf af potf ⊢
  refine ⟨p, f0, [], rfl, potf, af, by decide, nfp, fun z H2 k2 pot2 nm _ => ?_⟩
  have z8 := nm.eight
  have z1 : 1 ≤ z.length := nm.1
  refine ⟨Nat.le_trans z8 (by decide), p, _, rfl, pot2, by omega, by omega, fun d H3 k3 pot3 d0 d1 => ?_⟩
  have zl : z.length ≤ sizeLine := Nat.le_trans z8 (by decide)
  have zf := nm_fine nm
  refine ⟨zl, by decide, p, _, rfl, pot3, by decide, by decide, fun e H4 k4 pot4 e0 e1 => ⟨by decide, ?_⟩⟩
  have he : e.toNat < signs21.cps.toList.length := by
    have e1 : e < ((signs21.length : Nat) : Int) := e1
    rw [len_tl] at e1
    omega
  refine ⟨signs21.cps.toList[e.toNat], ?_, ?_⟩
  · have z : atI signs21.cps.toList ((e.toNat : Nat) : Int) = some signs21.cps.toList[e.toNat] := atI_nat (by simp [he])
    rw [show ((e.toNat : Nat) : Int) = e by omega] at z
    exact z
  have cs : signs21.cps.toList[e.toNat] < 128 := of_decide_eq_true (List.all_eq_true.mp signs21_lt _ (List.getElem_mem he))
  generalize signs21.cps.toList[e.toNat] = c at cs ⊢
  have cf : fine (.str ⟨#[c]⟩) = true := by
    show ([c].all fun c => decide (c < 0x110000)) = true
    simpa using (show c < 1114112 by omega)
  have la := cut_len z none (some d)
  have lb := cut_len z (some d) none
  have sl9 : 1000 ≤ sizeLine := by decide
  have l1 : (⟨#[c]⟩ : Str).length = 1 := rfl
  have l2 := app_len (cutS z none (some d)) ⟨#[c]⟩
  have l3 := app_len (cutS z none (some d) ++ ⟨#[c]⟩) (cutS z (some d) none)
  refine ⟨by omega, zl, by omega, ?_⟩
  have k04 : Kp (At p) H H4 := ((kf.no.trans k2).trans k3).trans k4
  have xf := fine_app (fine_app (fine_cut zf none (some d)) cf) (fine_cut zf (some d) none)
  have xl : (cutS z none (some d) ++ ⟨#[c]⟩ ++ cutS z (some d) none).length ≤ 1000 := by omega
  generalize cutS z none (some d) ++ ⟨#[c]⟩ ++ cutS z (some d) none = x at xf xl ⊢
  have al : (cutS "abcdefghijklmnopqrstuvwxyz" none (some 9)).length ≤ 26 := cut_len _ _ _
  have af : fine (.str (cutS "abcdefghijklmnopqrstuvwxyz" none (some 9))) = true := fine_cut (by decide +kernel) _ _
  refine ⟨by decide, ?_⟩
  generalize cutS "abcdefghijklmnopqrstuvwxyz" none (some 9) = y at al af ⊢
  refine ⟨by omega, fun L gL => ?_⟩
  have yl := app_len z y
  have yf := fine_app zf af
  generalize z ++ y = y2 at yl yf gL ⊢
  have kL : Kp No H4 (upd H4 L (.lst [.str "", .str x, .str x, .str y2])) := Kp.new gL
  have aL : upd H4 L (.lst [.str "", .str x, .str x, .str y2]) L = some (.lst [.str "", .str x, .str x, .str y2]) := upd_same
  have nLp : L ≠ p := fun e => pot4.ne gL e.symm
  have potL := pot4.keep kL id
  have k0L := k04.trans kL.no
  generalize upd H4 L (.lst [.str "", .str x, .str x, .str y2]) = H5 at kL aL potL k0L ⊢
  refine ⟨p, 4, rfl, potL, by decide, by decide, fun g H6 k6 pot6 g0 g4 => ?_⟩
  have aL6 := k6.all L _ aL nLp
  have kd : ∀ {u : Str}, u.length ≤ 1000 → fine (.str u) = true → Kd H6 (.str u) := fun h1 h2 => .str _ h1 h2
  have : g.toNat = 0 ∨ g.toNat = 1 ∨ g.toNat = 2 ∨ g.toNat = 3 := by omega
  rcases this with e | e | e | e
  · exact ⟨_, _, .inl (.inl (.inl aL6)), at_of (j := 0) (by omega) rfl, q _ _ (k0L.trans k6) pot6 (kd (by decide) (by decide +kernel))⟩
  · exact ⟨_, _, .inl (.inl (.inl aL6)), at_of (j := 1) (by omega) rfl, q _ _ (k0L.trans k6) pot6 (kd xl xf)⟩
  · exact ⟨_, _, .inl (.inl (.inl aL6)), at_of (j := 2) (by omega) rfl, q _ _ (k0L.trans k6) pot6 (kd xl xf)⟩
  · exact ⟨_, _, .inl (.inl (.inl aL6)), at_of (j := 3) (by omega) rfl, q _ _ (k0L.trans k6) pot6 (kd (by omega) yf)⟩
def spOdd21 [Tb] (K : PySem.W.Frag) : Sp := fun vs H Q _ => ∃ (p il : Addr) (ks : List Ink) (ys : List V), vs = [.ref p, .ref il] ∧ Pot H p ∧ H il = some (.lst ys) ∧ ImAll K H ys (ks.map inkD) ∧ InkOk ks ∧ il ≠ p ∧ (∀ a k, ys[0]? = some (.ref a) → ks[0]? = some k → H a = some (.tup [.str k.1, .int k.2])) ∧ ∀ (v : V) H', Kp (At p) H H' → Pot H' p → Th H' v → Q v H'
theorem ok_l_odd (D : DefAt K mg "_law_odd" s_l_odd) (fr : Fr mg) (c_l_take : Cal P w K mg base 1 "_law_take" spTake) (c_l_word : Cal P w K mg base 2 "_law_word" spWord2) (c_l_no_name : Cal P w K mg base 3 "_law_no_name" spNoName) : Cal P w K mg base 4 "_law_odd" (spOdd21 K) := by
  refine cal_of D sc_l_odd (fun _ _ _ _ _ _ us hl => match us, hl with | [_, _], _ => rfl) (fun vs H Q E h => by obtain ⟨p, il, ks, ys, rfl, _⟩ := h; rfl) fun f cd A out s H vs Q E room gd h => ?_
  obtain ⟨p, il, ks, ys, rfl, pot, hil, im, iok, nip, hin, q⟩ := h
  refine ⟨_, (pss_cons (ys_set 2 sc_l_odd.nd (ye_lst (pa_cons pe_non (pa_cons pe_bl (pa_cons pe_bl (pa_cons pe_int (pa_cons (pe_op oSub (pe_un oNeg pe_int) (ye_call c_l_take room gd (by rfl) (pa_cons (yv 0) (pa_cons (pe_op oPow pe_int pe_int) pa_nil)))) (pa_cons (pe_op (kAdd (K := K) (by rfl)) pe_int (ye_call c_l_take room gd (by rfl) (pa_cons (yv 0) (pa_cons (pe_op oPow pe_int pe_int) pa_nil)))) (pa_cons (ye_call c_l_no_name room gd (by rfl) (pa_cons (yv 0) pa_nil)) pa_nil)))))))))
    (pss_cons (ys_set 2 sc_l_odd.nd (pe_op (kAdd (K := K) (by rfl)) (yv 2) (ye_lst (pa_cons (ye_lst (pa_cons (kIx (K := K) (by rfl) (kIx (K := K) (by rfl) (yv 1) pe_int) pe_int) pa_nil)) (pa_cons (ye_tup (pa_cons (kIx (K := K) (by rfl) (kIx (K := K) (by rfl) (yv 1) pe_int) pe_int) pa_nil)) (pa_cons pe_dnewK (pa_cons (ye_lst pa_nil) (pa_cons (ye_tup pa_nil) (pa_cons (kIx (K := K) (by rfl) (yv 1) pe_int) (pa_cons (kIx (K := K) (by rfl) (kIx (K := K) (by rfl) (yv 1) pe_int) pe_int) (pa_cons (ye_call c_l_word room gd (by rfl) (pa_cons (yv 0) (pa_cons (ye_lst pa_nil) pa_nil))) pa_nil)))))))))))
    (pss_one (ps_ret (kIx (K := K) (by rfl) (yv 2) (ye_call c_l_take room gd (by rfl) (pa_cons (yv 0) (pa_cons (pe_callB (kLen (K := K) (by rfl)) (by rfl) fr.len_ (by decide +kernel) (pa_cons (yv 2) pa_nil)) pa_nil)))))))), ?_⟩
  refine ⟨⟨by decide, by decide, by decide⟩, p, _, rfl, pot, by decide, by decide, fun d1 H1 k1 pot1 a1 b1 => ?_⟩
  refine ⟨⟨by decide, by decide, by decide⟩, p, _, rfl, pot1, by decide, by decide, fun d2 H2 k2 pot2 a2 b2 => ?_⟩
  refine ⟨p, rfl, pot2, fun z H3 k3 pot3 kz => fun L gL => ?_⟩
  have k03 := (k1.trans k2).trans k3
  have aL : upd H3 L (.lst [.non, .bl true, .bl false, .int 0, .int (-1 - d1), .int (1 + d2), .str z]) L = some (.lst [.non, .bl true, .bl false, .int 0, .int (-1 - d1), .int (1 + d2), .str z]) := upd_same
  have kL : Kp No H3 (upd H3 L (.lst [.non, .bl true, .bl false, .int 0, .int (-1 - d1), .int (1 + d2), .str z])) := Kp.new gL
  have nLp : L ≠ p := fun e => pot3.ne gL e.symm
  have pot4 := pot3.keep kL id
  have k04 := k03.trans kL.no
  generalize upd H3 L (.lst [.non, .bl true, .bl false, .int 0, .int (-1 - d1), .int (1 + d2), .str z]) = H4 at aL pot4 k04 ⊢
  have hil4 := k04.all il _ hil nip
  have el : ys.length = ks.length := by rw [im.length, List.length_map]
  have l1 := iok.len1
  obtain ⟨y0, hy0⟩ : ∃ y, ys[0]? = some y := ⟨_, List.getElem?_eq_getElem (show 0 < ys.length by omega)⟩
  obtain ⟨dd, g1, g2⟩ := im.get hy0
  obtain ⟨k0, hk0⟩ : ∃ k, ks[0]? = some k := ⟨_, List.getElem?_eq_getElem (show 0 < ks.length by omega)⟩
  rw [List.getElem?_map, hk0] at g1
  obtain rfl : inkD k0 = dd := Option.some.inj g1
  obtain ⟨ia, rfl, ta4⟩ := (Im.up k04 _ _ g2).inkInv
  have nm0 := (iok.nm _ (List.mem_of_getElem? hk0)).1
  have rd4 : Kp No H4 H4 := Kp.refl _
  refine ⟨_, _, .inl (.inl (.inl hil4)), at_of (j := 0) rfl hy0, _, _, .inr ta4.sq, at_of (j := 0) rfl rfl, fun l1 e1 => ?_⟩
  have q1 : Kp No H4 (upd H4 l1 (.lst [.str k0.1])) := Kp.new e1
  have c1 : upd H4 l1 (.lst [.str k0.1]) l1 = some (.lst [.str k0.1]) := upd_same
  generalize upd H4 l1 (.lst [.str k0.1]) = H5 at q1 c1 ⊢
  have hil5 := q1.all il _ hil4 id
  have ta5 := ta4.up q1
  refine ⟨_, _, .inl (.inl (.inl hil5)), at_of (j := 0) rfl hy0, _, _, .inr ta5.sq, at_of (j := 0) rfl rfl, fun l2 e2 => fun l3 e3 => fun l4 e4 => fun l5 e5 => ?_⟩
  have q2 : Kp No H5 (upd H5 l2 (.tup [.str k0.1])) := Kp.new e2
  have c2 : upd H5 l2 (.tup [.str k0.1]) l2 = some (.tup [.str k0.1]) := upd_same
  generalize upd H5 l2 (.tup [.str k0.1]) = H6 at q2 c2 e3 e4 e5 ⊢
  have q3 : Kp No H6 (upd H6 l3 (.dK [])) := Kp.new e3
  have c3 : upd H6 l3 (.dK []) l3 = some (.dK []) := upd_same
  generalize upd H6 l3 (.dK []) = H7 at q3 c3 e4 e5 ⊢
  have q4 : Kp No H7 (upd H7 l4 (.lst [])) := Kp.new e4
  have c4 : upd H7 l4 (.lst []) l4 = some (.lst []) := upd_same
  generalize upd H7 l4 (.lst []) = H8 at q4 c4 e5 ⊢
  have q5 : Kp No H8 (upd H8 l5 (.tup [])) := Kp.new e5
  have c5 : upd H8 l5 (.tup []) l5 = some (.tup []) := upd_same
  generalize upd H8 l5 (.tup []) = H9 at q5 c5 ⊢
  have q59 := q2.trans (q3.trans (q4.trans q5))
  have hil9 := q59.all il _ hil5 id
  have ta9 := ta5.up q59
  refine ⟨_, _, .inl (.inl (.inl hil9)), at_of (j := 0) rfl hy0, _, _, .inl (.inl (.inl hil9)), at_of (j := 0) rfl hy0, _, _, .inr ta9.sq, at_of (j := 0) rfl rfl, fun f0 e6 => ?_⟩
  have q6 : Kp No H9 (upd H9 f0 (.lst [])) := Kp.new e6
  have c6 : upd H9 f0 (.lst []) f0 = some (.lst (([] : List Str).map V.str)) := upd_same
  have k49 := q1.trans q59
  have pot9 := pot4.keep k49 id
  have nfp : f0 ≠ p := fun e => pot9.ne e6 e.symm
  have pot10 := pot9.keep q6 id
  generalize upd H9 f0 (.lst []) = H10 at q6 c6 pot10 ⊢
  refine ⟨p, f0, [], rfl, pot10, c6, by decide, nfp, fun z2 H11 k11 pot11 nm2 _ => fun B gB => ?_⟩
  have k4B : Kp (At p) H4 H11 := ((k49.trans q6).no).trans k11
  have nn : ∀ {x : Addr} {o : HO}, H4 x = none ∨ H4 x = some o → True := fun _ => trivial
  have ne_ : ∀ {x : Addr} {Hx : Hp}, Hx x = none → Kp No H4 Hx → x ≠ p := fun h k e => (pot4.keep k id).ne h e.symm
  have n1 := ne_ e1 (Kp.refl _)
  have n3 : l3 ≠ p := ne_ e3 (q1.trans q2)
  have n4 : l4 ≠ p := ne_ e4 (q1.trans (q2.trans q3))
  have B1 := k11.all l1 _ (q6.all l1 _ (q59.all l1 _ c1 id) id) n1
  have B2 := k11.tup l2 _ (q6.tup l2 _ (q5.tup l2 _ (q4.tup l2 _ (q3.tup l2 _ c2))))
  have B3 := k11.all l3 _ (q6.all l3 _ (q5.all l3 _ (q4.all l3 _ c3 id) id) id) n3
  have B4 := k11.all l4 _ (q6.all l4 _ (q5.all l4 _ c4 id) id) n4
  have B5 := k11.tup l5 _ (q6.tup l5 _ c5)
  have B6 := (ta9.up q6).up k11
  have kB : Kp No H11 (upd H11 B (.lst [.ref l1, .ref l2, .ref l3, .ref l4, .ref l5, .ref ia, .str k0.1, .str z2])) := Kp.new gB
  have aB : upd H11 B (.lst [.ref l1, .ref l2, .ref l3, .ref l4, .ref l5, .ref ia, .str k0.1, .str z2]) B = some (.lst [.ref l1, .ref l2, .ref l3, .ref l4, .ref l5, .ref ia, .str k0.1, .str z2]) := upd_same
  have potB := pot11.keep kB id
  have aL11 := k4B.all L _ aL nLp
  have kAll := k04.trans (k4B.trans kB.no)
  have B1 := kB.all l1 _ B1 id
  have B2 := kB.tup l2 _ B2
  have B3 := kB.all l3 _ B3 id
  have B4 := kB.all l4 _ B4 id
  have B5 := kB.tup l5 _ B5
  have B6 := B6.up kB
  have aLB := kB.all L _ aL11 id
  generalize upd H11 B (.lst [.ref l1, .ref l2, .ref l3, .ref l4, .ref l5, .ref ia, .str k0.1, .str z2]) = H12 at aB potB kAll B1 B2 B3 B4 B5 B6 aLB ⊢
  refine .inl ⟨L, B, _, _, rfl, rfl, aLB, aB, show 7 + 8 ≤ sizeLine by decide, fun C gC => ?_⟩
  have kC : Kp No H12 (upd H12 C (.lst ([.non, .bl true, .bl false, .int 0, .int (-1 - d1), .int (1 + d2), .str z] ++ [.ref l1, .ref l2, .ref l3, .ref l4, .ref l5, .ref ia, .str k0.1, .str z2]))) := Kp.new gC
  have aC : upd H12 C (.lst ([.non, .bl true, .bl false, .int 0, .int (-1 - d1), .int (1 + d2), .str z] ++ [.ref l1, .ref l2, .ref l3, .ref l4, .ref l5, .ref ia, .str k0.1, .str z2])) C = some (.lst ([.non, .bl true, .bl false, .int 0, .int (-1 - d1), .int (1 + d2), .str z] ++ [.ref l1, .ref l2, .ref l3, .ref l4, .ref l5, .ref ia, .str k0.1, .str z2])) := upd_same
  have nCp : C ≠ p := fun e => potB.ne gC e.symm
  have potC := potB.keep kC id
  have kAC := kAll.trans kC.no
  have B1 := kC.all l1 _ B1 id
  have B2 := kC.tup l2 _ B2
  have B3 := kC.all l3 _ B3 id
  have B4 := kC.all l4 _ B4 id
  have B5 := kC.tup l5 _ B5
  have B6 := B6.up kC
  generalize upd H12 C (.lst ([.non, .bl true, .bl false, .int 0, .int (-1 - d1), .int (1 + d2), .str z] ++ [.ref l1, .ref l2, .ref l3, .ref l4, .ref l5, .ref ia, .str k0.1, .str z2])) = H13 at aC potC kAC B1 B2 B3 B4 B5 B6 ⊢
  refine ⟨_, .inl (.inl (.inl aC)), p, _, rfl, potC, show (0 : Int) < 15 by decide, show (15 : Int) < 10 ^ 70 by decide, fun g H14 k14 pot14 g0 g1 => ?_⟩
  have g1 : g < 15 := g1
  have kF := kAC.trans k14
  have aC := k14.all C _ aC nCp
  have hia := kF.tup ia _ (hin ia k0 hy0 hk0)
  have m1 : l1 ≠ p := n1
  have B1 := k14.all l1 _ B1 n1
  have B2 := k14.tup l2 _ B2
  have B3 := k14.all l3 _ B3 n3
  have B4 := k14.all l4 _ B4 n4
  have B5 := k14.tup l5 _ B5
  have kn : Kd H14 (.str k0.1) := .str _ (Nat.le_trans nm0.eight (by decide)) (nm_fine nm0)
  have kz : Kd H14 (.str z) := by cases kz with | str _ h1 h2 => exact .str _ h1 h2
  have kz2 : Kd H14 (.str z2) := .str _ (Nat.le_trans nm2.eight (by decide)) (nm_fine nm2)
  have t0 : ∀ {v : V}, Kd H14 v → (∀ a, v ≠ .ref a) → Th H14 v := fun k n => ⟨k, fun a xs e => absurd e (n a)⟩
  have fin : ∀ {v : V} (j : Nat), g = (j : Int) → ([.non, .bl true, .bl false, .int 0, .int (-1 - d1), .int (1 + d2), .str z] ++ [.ref l1, .ref l2, .ref l3, .ref l4, .ref l5, .ref ia, .str k0.1, .str z2] : List V)[j]? = some v → Th H14 v → yIx K (.ref C) (.int g) H14 Q := fun j ej hj th => ⟨_, _, .inl (.inl (.inl aC)), at_of ej hj, q _ H14 kF pot14 th⟩
  show yIx K (.ref C) (.int g) H14 Q
  have : g.toNat = 0 ∨ g.toNat = 1 ∨ g.toNat = 2 ∨ g.toNat = 3 ∨ g.toNat = 4 ∨ g.toNat = 5 ∨ g.toNat = 6 ∨ g.toNat = 7 ∨ g.toNat = 8 ∨ g.toNat = 9 ∨ g.toNat = 10 ∨ g.toNat = 11 ∨ g.toNat = 12 ∨ g.toNat = 13 ∨ g.toNat = 14 := by omega
  rcases this with e | e | e | e | e | e | e | e | e | e | e | e | e | e | e
  · exact fin 0 (by omega) rfl (t0 .non fun a e => nomatch e)
  · exact fin 1 (by omega) rfl (t0 (.bl _) fun a e => nomatch e)
  · exact fin 2 (by omega) rfl (t0 (.bl _) fun a e => nomatch e)
  · exact fin 3 (by omega) rfl (t0 (.int _) fun a e => nomatch e)
  · exact fin 4 (by omega) rfl (t0 (.int _) fun a e => nomatch e)
  · exact fin 5 (by omega) rfl (t0 (.int _) fun a e => nomatch e)
  · exact fin 6 (by omega) rfl (t0 kz fun a e => nomatch e)
  · exact fin 7 (by omega) rfl ⟨.ref B1 rfl, fun a xs e h => by cases e; rw [B1] at h; cases h⟩
  · exact fin 8 (by omega) rfl ⟨.ref B2 rfl, fun a xs e h => by cases e; rw [B2] at h; cases h; exact ⟨show 1 ≤ 1000 by decide, fun x hx => by rw [List.mem_singleton.mp hx]; exact kn⟩⟩
  · exact fin 9 (by omega) rfl ⟨.ref B3 rfl, fun a xs e h => by cases e; rw [B3] at h; cases h⟩
  · exact fin 10 (by omega) rfl ⟨.ref B4 rfl, fun a xs e h => by cases e; rw [B4] at h; cases h⟩
  · exact fin 11 (by omega) rfl ⟨.ref B5 rfl, fun a xs e h => by cases e; rw [B5] at h; cases h; exact ⟨show 0 ≤ 1000 by decide, fun x hx => nomatch hx⟩⟩
  · exact fin 12 (by omega) rfl ⟨.ref hia rfl, fun a xs e h => by
      cases e; rw [hia] at h; cases h
      exact ⟨show 2 ≤ 1000 by decide, fun x hx => by
        rcases List.mem_cons.mp hx with rfl | hx
        · exact kn
        · rw [List.mem_singleton.mp hx]; exact .int _⟩⟩
  · exact fin 13 (by omega) rfl (t0 kn fun a e => nomatch e)
  · exact fin 14 (by omega) rfl (t0 kz2 fun a e => nomatch e)

--SPLIT
theorem slT [Tb] {H : Hp} {a : Addr} {xs : List V} {lo hi : Option Int} {Q : VK} (h : H a = some (.tup xs)) (q : ∀ b zs H', Kp No H H' → H' b = some (.tup zs) → zs.length ≤ xs.length → (∀ z ∈ zs, z ∈ xs) → Q (.ref b) H') : ySl K (.ref a) lo hi H Q := by
  refine .inr ⟨a, xs, rfl, .inl (.inl h), fun _ => q a xs H (Kp.refl _) h (Nat.le_refl _) fun z hz => hz, fun _ b hb => ?_⟩
  refine q b (cutV xs lo hi) _ (Kp.new hb) upd_same (cutV_length xs lo hi) fun z hz => ?_
  unfold cutV at hz
  exact List.drop_subset _ _ (List.take_subset _ _ hz)
theorem catT [Tb] {H : Hp} {a b : Addr} {xs ys : List V} {Q : VK} (ha : H a = some (.tup xs)) (hb : H b = some (.tup ys)) (hl : xs.length + ys.length ≤ 1000) (q : ∀ c H', Kp No H H' → H' c = some (.tup (xs ++ ys)) → Q (.ref c) H') : yAdd K (.ref a) (.ref b) H Q := by
  refine .inr ⟨a, b, xs, ys, rfl, rfl, .inl (.inl ha), .inl (.inl hb), Nat.le_trans hl (by decide), fun e => ?_, fun _ e => ?_, fun _ _ c hc => q c _ (Kp.new hc) upd_same⟩
  · subst e; exact q b H (Kp.refl _) hb
  · subst e; exact q a H (Kp.refl _) (by rw [List.append_nil]; exact ha)
theorem Kd.upP [Tb] {H H' : Hp} {v : V} {p : Addr} (h : Kd H v) (k : Kp (At p) H H') (pot : Pot H' p) : Kd H' v := by
  by_cases e : v = .ref p
  · subst e
    obtain ⟨x, y, hp, _⟩ := pot
    exact .ref hp rfl
  · exact h.up k fun a e2 z => e (by rw [e2, show a = p from z])
theorem Th.upP [Tb] {H H' : Hp} {v : V} {p : Addr} (h : Th H v) (k : Kp (At p) H H') (pot : Pot H' p) : Th H' v := by
  refine ⟨Kd.upP h.1 k pot, fun a xs e h2 => ?_⟩
  subst e
  have h1 := h.1
  cases h1 with
  | @ref t o m g e =>
    by_cases hp : a = p
    · subst hp
      obtain ⟨x, y, hp, _⟩ := pot
      rw [hp] at h2
      cases h2
    · cases o with
      | tup zs =>
        obtain ⟨g1, g2⟩ := h.2 a zs rfl g
        have := k.tup a _ g
        rw [h2] at this
        cases this
        exact ⟨g1, fun x hx => Kd.upP (g2 x hx) k pot⟩
      | lst zs =>
        have := k.all a _ g hp
        rw [h2] at this
        cases this
      | dK zs =>
        have := k.all a _ g hp
        rw [h2] at this
        cases this
      | _ => cases e
def spDrawn21 [Tb] (K : PySem.W.Frag) : Sp := fun vs H Q _ => ∃ (p il : Addr) (ks : List Ink) (ys : List V), vs = [.ref p, .ref il] ∧ Pot H p ∧ H il = some (.lst ys) ∧ ImAll K H ys (ks.map inkD) ∧ InkOk ks ∧ il ≠ p ∧ (∀ a k, ys[0]? = some (.ref a) → ks[0]? = some k → H a = some (.tup [.str k.1, .int k.2])) ∧ ∀ (v : V) H', Kp (At p) H H' → Pot H' p → Th H' v → Q v H'
/-- tuple[:d] + (v,) + tuple[e:] -/
theorem retA [Tb] {te tl tr tv : TE} {D : Ends} {σ : L2.St} {H : Hp} {a p : Addr} {xs : List V} {d e : Int} (h2 : ∀ H Q, Q (.ref a) H → te σ H Q) (hl : ∀ H Q, Q (.int d) H → tl σ H Q) (hr : ∀ H Q, Q (.int e) H → tr σ H Q) (ha : H a = some (.tup xs)) (h4 : xs.length ≤ 4) (pot : Pot H p)
    (hv : ∀ H1, Kp No H H1 → ∀ Qv : VK, (∀ v H2, Kp (At p) H1 H2 → Pot H2 p → Kd H2 v → Qv v H2) → tv σ H1 Qv)
    (q : ∀ c v zs ws H', Kp (At p) H H' → Pot H' p → H' c = some (.tup (zs ++ [v] ++ ws)) → zs.length ≤ 4 → ws.length ≤ 4 → (∀ z ∈ zs, z ∈ xs) → (∀ z ∈ ws, z ∈ xs) → Kd H' v → D.rt (.ref c) H') :
    tRet (tOp (yAdd K) (tOp (yAdd K) (tSl (ySl K) te tNoPart (yPart tl)) (yTup (tCons tv tNil))) (tSl (ySl K) te (yPart tr) tNoPart)) D σ H := by
  refine h2 _ _ (hl _ _ ?_)
  refine slT ha fun b1 z1 H5 k5 h5 l5 m5 => ?_
  refine hv H5 k5 _ fun v H6 k6 pot6 kd => fun u hu => ?_
  have ku : Kp No H6 (upd H6 u (.tup [v])) := Kp.new hu
  have h7 : upd H6 u (.tup [v]) u = some (.tup [v]) := upd_same
  have pot7 := pot6.keep ku id
  have kv7 := Kd.up kd ku fun _ _ => id
  generalize upd H6 u (.tup [v]) = H7 at ku h7 pot7 kv7 ⊢
  refine catT (ku.tup b1 _ (k6.tup b1 _ h5)) h7 (show z1.length + 1 ≤ 1000 by omega) fun c H8 k8 h8 => ?_
  have ha8 := k8.tup a _ (ku.tup a _ (k6.tup a _ (k5.tup a _ ha)))
  refine h2 _ _ (hr _ _ ?_)
  show ySl K (.ref a) (some e) none H8 (fun y H2 => yAdd K (.ref c) y H2 D.rt)
  refine slT ha8 fun b2 z2 H9 k9 h9 l9 m9 => ?_
  refine catT (k9.tup c _ h8) h9 (by rw [List.length_append]; show z1.length + 1 + z2.length ≤ 1000; omega) fun c2 HA kA hA => ?_
  have kk := k8.trans (k9.trans kA)
  exact q c2 v z1 z2 HA (k5.no.trans (k6.trans (ku.trans kk).no)) (pot7.keep kk id) hA (by omega) (by omega) m5 m9 (Kd.up kv7 kk fun _ _ => id)
/-- tuple[:d] + tuple[e:] -/
theorem retB [Tb] {te tl tr : TE} {D : Ends} {σ : L2.St} {H : Hp} {a : Addr} {xs : List V} {d e : Int} (h2 : ∀ H Q, Q (.ref a) H → te σ H Q) (hl : ∀ H Q, Q (.int d) H → tl σ H Q) (hr : ∀ H Q, Q (.int e) H → tr σ H Q) (ha : H a = some (.tup xs)) (h4 : xs.length ≤ 4)
    (q : ∀ c zs ws H', Kp No H H' → H' c = some (.tup (zs ++ ws)) → zs.length ≤ 4 → ws.length ≤ 4 → (∀ z ∈ zs, z ∈ xs) → (∀ z ∈ ws, z ∈ xs) → D.rt (.ref c) H') :
    tRet (tOp (yAdd K) (tSl (ySl K) te tNoPart (yPart tl)) (tSl (ySl K) te (yPart tr) tNoPart)) D σ H := by
  refine h2 _ _ (hl _ _ ?_)
  refine slT ha fun b1 z1 H5 k5 h5 l5 m5 => ?_
  refine h2 _ _ (hr _ _ ?_)
  show ySl K (.ref a) (some e) none H5 (fun y H2 => yAdd K (.ref b1) y H2 D.rt)
  refine slT (k5.tup a _ ha) fun b2 z2 H9 k9 h9 l9 m9 => ?_
  refine catT (k9.tup b1 _ h5) h9 (by omega) fun c2 HA kA hA => ?_
  exact q c2 z1 z2 HA (k5.trans (k9.trans kA)) hA (by omega) (by omega) m5 m9
theorem ok_l_drawn (D : DefAt K mg "_law_drawn" s_l_drawn) (fr : Fr mg) (c_l_take : Cal P w K mg base 1 "_law_take" spTake) (c_l_words : Cal P w K mg base 3 "_law_words" spNames) (c_l_deed : Cal P w K mg base 3 "_law_deed" (spDeed21 K)) (c_l_odd : Cal P w K mg base 4 "_law_odd" (spOdd21 K)) : Cal P w K mg base 5 "_law_drawn" (spDrawn21 K) := by
  refine cal_of D sc_l_drawn (fun _ _ _ _ _ _ us hl => match us, hl with | [_, _], _ => rfl) (fun vs H Q E h => by obtain ⟨p, il, ks, ys, rfl, _⟩ := h; rfl) fun f cd A out s H vs Q E room gd h => ?_
  obtain ⟨p, il, ks, ys, rfl, pot, hil, im, iok, nip, hin, q⟩ := h
  refine ⟨_, (pss_cons (ys_set 2 sc_l_drawn.nd (ye_call c_l_deed room gd (by rfl) (pa_cons (yv 0) (pa_cons (yv 1) (pa_cons (ye_call c_l_words room gd (by rfl) (pa_cons (yv 0) (pa_cons pe_int pa_nil))) pa_nil)))))
    (pss_cons (ps_par (i := 3) (j := 4) (by rfl) sc_l_drawn.nd rfl rfl (by decide) rfl rfl (pa_cons (ye_call c_l_take room gd (by rfl) (pa_cons (yv 0) (pa_cons pe_int pa_nil))) (pa_cons (ye_call c_l_take room gd (by rfl) (pa_cons (yv 0) (pa_cons (pe_callB (kLen (K := K) (by rfl)) (by rfl) fr.len_ (by decide +kernel) (pa_cons (yv 2) pa_nil)) pa_nil))) pa_nil)) (by rfl))
    (pss_cons (ps_if (yt_cmp oLt (yv 3) pe_int (nomark _)) (pss_one (ps_ret (yv 2))) pss_nil)
    (pss_cons (ps_if (yt_cmp oLt (yv 3) pe_int (nomark _)) (pss_one (ps_ret (pe_op (kAdd (K := K) (by rfl)) (pe_op (kAdd (K := K) (by rfl)) (kSl (K := K) (by rfl) (yv 2) po_none (yo_some (yv 4))) (ye_tup (pa_cons (ye_call c_l_odd room gd (by rfl) (pa_cons (yv 0) (pa_cons (yv 1) pa_nil))) pa_nil))) (kSl (K := K) (by rfl) (yv 2) (yo_some (pe_op (kAdd (K := K) (by rfl)) (yv 4) pe_int)) po_none)))) pss_nil)
    (pss_cons (ps_if (yt_cmp (kEq (K := K) (by rfl) room.units) (yv 3) pe_int (nomark _)) (pss_one (ps_ret (pe_op (kAdd (K := K) (by rfl)) (kSl (K := K) (by rfl) (yv 2) po_none (yo_some (yv 4))) (kSl (K := K) (by rfl) (yv 2) (yo_some (pe_op (kAdd (K := K) (by rfl)) (yv 4) pe_int)) po_none)))) pss_nil)
    (pss_cons (ps_if (yt_cmp (kEq (K := K) (by rfl) room.units) (yv 3) pe_int (nomark _)) (pss_cons (ys_set 4 sc_l_drawn.nd (ye_call c_l_take room gd (by rfl) (pa_cons (yv 0) (pa_cons (pe_op (kAdd (K := K) (by rfl)) (pe_callB (kLen (K := K) (by rfl)) (by rfl) fr.len_ (by decide +kernel) (pa_cons (yv 2) pa_nil)) pe_int) pa_nil))))
    (pss_one (ps_ret (pe_op (kAdd (K := K) (by rfl)) (pe_op (kAdd (K := K) (by rfl)) (kSl (K := K) (by rfl) (yv 2) po_none (yo_some (yv 4))) (ye_tup (pa_cons (ye_call c_l_odd room gd (by rfl) (pa_cons (yv 0) (pa_cons (yv 1) pa_nil))) pa_nil))) (kSl (K := K) (by rfl) (yv 2) (yo_some (yv 4)) po_none))))) pss_nil)
    (pss_cons (ys_set 5 sc_l_drawn.nd (ye_lst (pa_cons (pe_callTy (kList (K := K) (by rfl)) (by rfl) fr.list_ (by decide +kernel) (pa_cons (yv 2) pa_nil)) (pa_cons (ye_tup (pa_cons (yv 2) pa_nil)) (pa_cons (ye_lst (pa_cons (yv 2) pa_nil)) (pa_cons (kIx (K := K) (by rfl) (yv 2) pe_int) (pa_cons pe_str (pa_cons (ye_call c_l_odd room gd (by rfl) (pa_cons (yv 0) (pa_cons (yv 1) pa_nil))) (pa_cons (pe_op (kAdd (K := K) (by rfl)) (yv 2) (yv 2)) (pa_cons (pe_callTy (kDict (K := K) (by rfl) rfl) (by rfl) fr.dict_ (by decide +kernel) (pa_cons (ye_lst (pa_cons (ye_tup (pa_cons pe_int (pa_cons (kIx (K := K) (by rfl) (yv 2) pe_int) pa_nil))) pa_nil)) pa_nil)) pa_nil))))))))))
    (pss_one (ps_ret (kIx (K := K) (by rfl) (yv 5) (ye_call c_l_take room gd (by rfl) (pa_cons (yv 0) (pa_cons (pe_callB (kLen (K := K) (by rfl)) (by rfl) fr.len_ (by decide +kernel) (pa_cons (yv 5) pa_nil)) pa_nil))))))))))))), ?_⟩
  refine ⟨p, 2, rfl, pot, by decide, by decide, fun tl ts H1 htl k1 pot1 l1 tlen tn tnd => ?_⟩
  have ntp : tl ≠ p := fun e => pot.ne htl e.symm
  have hil1 := k1.all il _ hil nip
  refine ⟨p, il, tl, ks, ys, ts, rfl, pot1, hil1, ImAll.up k1 _ _ im, iok, nip, l1, ntp, by omega, tn, fun a w r H2 k2 pot2 haN ha r3 kw kr => ?_⟩
  have kT : ∀ {z : V}, z ∈ (.str w :: r : List V) → ∀ H, Kd H z := fun hz H => by
    rcases List.mem_cons.mp hz with rfl | hz
    · exact kw H
    · exact kr _ hz H
  have lT : (.str w :: r : List V).length ≤ 4 := by show r.length + 1 ≤ 4; omega
  have l0 : 0 < (.str w :: r : List V).length := Nat.succ_pos _
  have x0 : (.str w :: r : List V)[0]? = some (.str w) := rfl
  generalize (.str w :: r : List V) = xs at ha kT lT l0 x0
  refine ⟨p, 8, rfl, pot2, by decide, by decide, fun wy H3 k3 pot3 w0 w8 => ?_⟩
  have ha3 := k3.tup a _ ha
  refine ⟨_, .inr (.inl (.inl ha3)), p, _, rfl, pot3, by omega, by omega, fun d H4 k4 pot4 d0 d1 => ⟨_, _, rfl, ?_⟩⟩
  have ha4 := k4.tup a _ ha3
  have k04 : Kp (At p) H H4 := ((k1.trans k2).trans k3).trans k4
  have hil4 := k04.all il _ hil nip
  have imx := ImAll.up k04 _ _ im
  have hin4 : ∀ a k, ys[0]? = some (.ref a) → ks[0]? = some k → H4 a = some (.tup [.str k.1, .int k.2]) := fun a k h1 h2 => k04.tup _ _ (hin a k h1 h2)
  have ok : ∀ {b : Addr} {zs : List V} {H' : Hp}, H' b = some (.tup zs) → zs.length ≤ 100 → (∀ z ∈ zs, Kd H' z) → Th H' (.ref b) := fun h1 h2 h3 => ⟨.ref h1 rfl, fun a xs e h => by cases e; rw [h1] at h; cases h; exact ⟨by omega, h3⟩⟩
  refine iteD (fun e1 => q _ _ k04 pot4 (ok ha4 (by omega) fun z hz => kT hz _)) fun e1 => ?_
  -- another thing in its place, a thing less, a thing more
  refine iteD (fun e2 => ?_) fun e2 => ?_
  · refine retA (a := a) (p := p) (d := d) (e := d + 1) (xs := xs) (fun H Q q => q) (fun H Q q => q) (fun H Q q => q) ha4 (by omega) pot4 (fun H5 k5 Qv qv => ?_) (fun c v zs ws H' k' p' hc l1 l2 m1 m2 kd => ?_)
    · have k45 : Kp (At p) H4 H5 := k5.no
      have pot5 := pot4.keep k5 id
      exact ⟨p, il, ks, ys, rfl, pot5, k45.all il _ hil4 nip, ImAll.up k45 _ _ imx, iok, nip, fun a k h1 h2 => k45.tup _ _ (hin4 a k h1 h2), fun v H6 k6 pot6 th => qv v H6 k6 pot6 th.1⟩
    · refine q _ _ (k04.trans (k')) p' (ok hc (by rw [List.length_append, List.length_append]; show zs.length + 1 + ws.length ≤ 100; omega) fun z hz => ?_)
      rcases List.mem_append.mp hz with hz | hz
      · rcases List.mem_append.mp hz with hz | hz
        · exact kT (m1 z hz) _
        · rw [List.mem_singleton.mp hz]; exact kd
      · exact kT (m2 z hz) _
  refine iteD (fun e3 => ?_) fun e3 => ?_
  · refine retB (a := a) (d := d) (e := d + 1) (xs := xs) (fun H Q q => q) (fun H Q q => q) (fun H Q q => q) ha4 (by omega) (fun c zs ws H' k' hc l1 l2 m1 m2 => ?_)
    refine q _ _ (k04.trans k'.no) (pot4.keep k' id) (ok hc (by rw [List.length_append]; omega) fun z hz => ?_)
    rcases List.mem_append.mp hz with hz | hz
    · exact kT (m1 z hz) _
    · exact kT (m2 z hz) _
  refine iteD (fun e4 => ?_) fun e4 => ?_
  · refine ⟨_, .inr (.inl (.inl ha4)), p, _, rfl, pot4, by omega, by omega, fun g H4b k4b pot4b g0 g1 => ?_⟩
    have ha4b := k4b.tup a _ ha4
    unfold gName
    dsimp only
    refine retA (a := a) (p := p) (d := g) (e := g) (xs := xs) (fun H Q q => q) (fun H Q q => q) (fun H Q q => q) ha4b (by omega) pot4b (fun H5 k5 Qv qv => ?_) (fun c v zs ws H' k' p' hc l1 l2 m1 m2 kd => ?_)
    · have k45 := k4b.trans k5.no
      have pot5 := pot4b.keep k5 id
      exact ⟨p, il, ks, ys, rfl, pot5, k45.all il _ hil4 nip, ImAll.up k45 _ _ imx, iok, nip, fun a k h1 h2 => k45.tup _ _ (hin4 a k h1 h2), fun v H6 k6 pot6 th => qv v H6 k6 pot6 th.1⟩
    · refine q _ _ (k04.trans (k4b.trans k')) p' (ok hc (by rw [List.length_append, List.length_append]; show zs.length + 1 + ws.length ≤ 100; omega) fun z hz => ?_)
      rcases List.mem_append.mp hz with hz | hz
      · rcases List.mem_append.mp hz with hz | hz
        · exact kT (m1 z hz) _
        · rw [List.mem_singleton.mp hz]; exact kd
      · exact kT (m2 z hz) _
  -- things of other kinds
  refine ⟨_, .inr (.inl (.inl ha4)), fun o1 e5 => ?_⟩
  have j1 : Kp No H4 (upd H4 o1 (.lst xs)) := Kp.new e5
  have g1 : upd H4 o1 (.lst xs) o1 = some (.lst xs) := upd_same
  generalize upd H4 o1 (.lst xs) = A1 at j1 g1 ⊢
  refine fun o2 e6 => fun o3 e7 => ?_
  have j2 : Kp No A1 (upd A1 o2 (.tup [.ref a])) := Kp.new e6
  have g2 : upd A1 o2 (.tup [.ref a]) o2 = some (.tup [.ref a]) := upd_same
  generalize upd A1 o2 (.tup [.ref a]) = A2 at j2 g2 e7 ⊢
  have j3 : Kp No A2 (upd A2 o3 (.lst [.ref a])) := Kp.new e7
  have g3 : upd A2 o3 (.lst [.ref a]) o3 = some (.lst [.ref a]) := upd_same
  generalize upd A2 o3 (.lst [.ref a]) = A3 at j3 g3 ⊢
  have j43 := j1.trans (j2.trans j3)
  have pa3 := pot4.keep j43 id
  have haA3 := j43.tup a _ ha4
  refine ⟨_, _, .inr (.inl (.inl haA3)), at_of (j := 0) rfl x0, ?_⟩
  refine ⟨p, il, ks, ys, rfl, pa3, j43.all il _ hil4 id, ImAll.up j43 _ _ imx, iok, nip, fun a k h1 h2 => j43.tup _ _ (hin4 a k h1 h2), fun v A4 j4 pa4 th => ?_⟩
  have haA4 := j4.tup a _ haA3
  have n1 : o1 ≠ p := fun e => pot4.ne e5 e.symm
  have n3 : o3 ≠ p := fun e => (pot4.keep (j1.trans j2) id).ne e7 e.symm
  have g1 := j4.all o1 _ (j3.all o1 _ (j2.all o1 _ g1 id) id) n1
  have g2 := j4.tup o2 _ (j3.tup o2 _ g2)
  have g3 := j4.all o3 _ g3 n3
  have nn : xs ≠ [] := fun e => by rw [e] at x0; cases x0
  refine .inr ⟨a, a, xs, xs, rfl, rfl, .inl (.inl haA4), .inl (.inl haA4), Nat.le_trans (show xs.length + xs.length ≤ 1000 by omega) (by decide), fun e => absurd e nn, fun _ e => absurd e nn, fun _ _ c hc => ?_⟩
  have j5 : Kp No A4 (upd A4 c (.tup (xs ++ xs))) := Kp.new hc
  have g5 : upd A4 c (.tup (xs ++ xs)) c = some (.tup (xs ++ xs)) := upd_same
  generalize upd A4 c (.tup (xs ++ xs)) = A5 at j5 g5 ⊢
  refine ⟨_, _, .inr (.inl (.inl (j5.tup a _ haA4))), at_of (j := 0) rfl x0, ?_⟩
  refine fun u hu => fun L hL => ?_
  have j6 : Kp No A5 (upd A5 u (.tup [.int 0, .str w])) := Kp.new hu
  have g6 : upd A5 u (.tup [.int 0, .str w]) u = some (.tup [.int 0, .str w]) := upd_same
  generalize upd A5 u (.tup [.int 0, .str w]) = A6 at j6 g6 hL ⊢
  have j7 : Kp No A6 (upd A6 L (.lst [.ref u])) := Kp.new hL
  have g7 : upd A6 L (.lst [.ref u]) L = some (.lst ([u].map V.ref)) := upd_same
  generalize upd A6 L (.lst [.ref u]) = A7 at j7 g7 ⊢
  refine ⟨[u], [(.inl 0, .str w)], .inl (.inl g7), .cons (.inl (.inl (j7.tup u _ g6))) .nil, fun dd hd => ?_⟩
  have j8 : Kp No A7 (upd A7 dd (.dK (mergeK [] [(.inl 0, .str w)]))) := Kp.new hd
  have g8 : upd A7 dd (.dK (mergeK [] [(.inl 0, .str w)])) dd = some (.dK (mergeK [] [(.inl 0, .str w)])) := upd_same
  generalize upd A7 dd (.dK (mergeK [] [(.inl 0, .str w)])) = A8 at j8 g8 ⊢
  intro B hB
  have j9 : Kp No A8 (upd A8 B (.lst [.ref o1, .ref o2, .ref o3, .str w, .str "scrape", v, .ref c, .ref dd])) := Kp.new hB
  have g9 : upd A8 B (.lst [.ref o1, .ref o2, .ref o3, .str w, .str "scrape", v, .ref c, .ref dd]) B = some (.lst [.ref o1, .ref o2, .ref o3, .str w, .str "scrape", v, .ref c, .ref dd]) := upd_same
  generalize upd A8 B (.lst [.ref o1, .ref o2, .ref o3, .str w, .str "scrape", v, .ref c, .ref dd]) = A9 at j9 g9 ⊢
  have j58 := j5.trans (j6.trans (j7.trans j8))
  have j59 := j58.trans j9
  have pa8 := pa4.keep j58 id
  have pa9 := pa4.keep j59 id
  have nB : B ≠ p := fun e => pa8.ne hB e.symm
  have nd : dd ≠ p := fun e => (pa4.keep (j5.trans (j6.trans j7)) id).ne hd e.symm
  refine ⟨_, .inl (.inl (.inl g9)), p, _, rfl, pa9, show (0 : Int) < 8 by decide, show (8 : Int) < 10 ^ 70 by decide, fun g A10 j10 pa10 g0 g8' => ?_⟩
  have g8' : g < 8 := g8'
  have jF := j59.no.trans j10
  have kF := (k04.trans j43.no).trans (j4.trans jF)
  have gB := j10.all B _ g9 nB
  have f1 := jF.all o1 _ g1 n1
  have f2 := jF.tup o2 _ g2
  have f3 := jF.all o3 _ g3 n3
  have fa := jF.tup a _ haA4
  have fc := j10.tup c _ (((j6.trans j7).trans (j8.trans j9)).tup c _ g5)
  have fd := j10.all dd _ (j9.all dd _ g8 id) nd
  have th10 := th.upP jF pa10
  have ka10 : Kd A10 (.ref a) := .ref fa rfl
  have kw10 : Kd A10 (.str w) := kT (List.mem_of_getElem? x0) _
  have t0 : ∀ {v : V}, Kd A10 v → (∀ a, v ≠ .ref a) → Th A10 v := fun k n => ⟨k, fun a xs e => absurd e (n a)⟩
  have fin : ∀ {v' : V} (j : Nat), g = (j : Int) → ([.ref o1, .ref o2, .ref o3, .str w, .str "scrape", v, .ref c, .ref dd] : List V)[j]? = some v' → Th A10 v' → yIx K (.ref B) (.int g) A10 Q := fun j ej hj th => ⟨_, _, .inl (.inl (.inl gB)), at_of ej hj, q _ A10 kF pa10 th⟩
  show yIx K (.ref B) (.int g) A10 Q
  have : g.toNat = 0 ∨ g.toNat = 1 ∨ g.toNat = 2 ∨ g.toNat = 3 ∨ g.toNat = 4 ∨ g.toNat = 5 ∨ g.toNat = 6 ∨ g.toNat = 7 := by omega
  rcases this with e | e | e | e | e | e | e | e
  · exact fin 0 (by omega) rfl ⟨.ref f1 rfl, fun a xs e h => by cases e; rw [f1] at h; cases h⟩
  · exact fin 1 (by omega) rfl (ok f2 (show 1 ≤ 100 by decide) fun x hx => by rw [List.mem_singleton.mp hx]; exact ka10)
  · exact fin 2 (by omega) rfl ⟨.ref f3 rfl, fun a xs e h => by cases e; rw [f3] at h; cases h⟩
  · exact fin 3 (by omega) rfl (t0 kw10 fun a e => nomatch e)
  · exact fin 4 (by omega) rfl (t0 (.str _ (by decide) (by decide +kernel)) fun a e => nomatch e)
  · exact fin 5 (by omega) rfl th10
  · exact fin 6 (by omega) rfl (ok fc (by rw [List.length_append]; omega) fun z hz => (List.mem_append.mp hz).elim (fun h => kT h _) fun h => kT h _)
  · exact fin 7 (by omega) rfl ⟨.ref fd rfl, fun a xs e h => by cases e; rw [fd] at h; cases h⟩

/-- the words that wear a place down -/
structure WtW (K : PySem.W.Frag) (mg : Str → Option Value) (aW : Addr) : Prop where
  mgW : mg "WEARING" = some (.ref aW)
  wear : ∀ H, SqT K H aW [.str "scrape", .str "rub"]
def spWears [Tb] : Sp := fun vs H Q _ => ∃ (a : Addr) (w : Str) (r : List V), vs = [.ref a] ∧ H a = some (.tup (.str w :: r)) ∧ Q (.bl (inV (.str w) [.str "scrape", .str "rub"])) H
theorem ok_wears (D : DefAt K mg "wears" s_wears) (fr : Fr mg) (ww : WtW K mg aW) : Cal P w K mg base 1 "wears" spWears := by
  refine cal_of D sc_wears (fun _ _ _ _ _ _ us hl => match us, hl with | [_], _ => rfl) (fun vs H Q E h => by obtain ⟨a, w, r, rfl, _⟩ := h; rfl) fun f cd A out s H vs Q E room gd h => ?_
  obtain ⟨a, w, r, rfl, ha, q⟩ := h
  refine ⟨_, (pss_one (ps_ret (pe_cmpR (kIn (K := K) (by rfl)) (kIx (K := K) (by rfl) (yv 0) pe_int) (ye_cls ww.mgW (by rfl)) (by rfl)))), ?_⟩
  exact ⟨_, _, .inr (.inl (.inl ha)), at_of (j := 0) rfl rfl, aW, _, rfl, .inr (ww.wear _), rfl, rfl, q⟩

--SPLIT
def boolsL (l : List Bool) : PyData := .list (l.map PyData.bool)
theorem bools_sh2 (a b : Bool) : Sh (boolsL [a, b]) := by
  cases a <;> cases b <;> exact ⟨by decide, by decide, by decide⟩
theorem bool_sh (a : Bool) : Sh (.bool a) := by
  cases a <;> exact ⟨by decide, by decide, by decide⟩
theorem Th.up0 [Tb] {H H' : Hp} {v : V} (h : Th H v) (k : Kp No H H') : Th H' v := by
  refine ⟨h.1.up k fun _ _ => id, fun a xs e h2 => ?_⟩
  have h1 := h.1
  subst e
  cases h1 with
  | @ref t o m g e =>
    have := k.all a o g id (by cases o <;> first | exact True.intro | cases e)
    rw [h2] at this
    cases this
    exact ⟨(h.2 a xs rfl g).1, fun x hx => ((h.2 a xs rfl g).2 x hx).up k fun _ _ => id⟩
def spLaw [Tb] (K : PySem.W.Frag) : Sp := fun vs H Q _ => ∃ (a : Addr) (ns : List Int), vs = [.ref a] ∧ SqL K H a (ns.map V.int) ∧ ns.length ≤ 63 ∧ ∀ H', Q (.bl true) H'
theorem ok_law {f : Addr} {fd : FuncData} (F : FunD K "law" "law" (defArgs s_law) (defBody s_law) (defScope s_law) [] [] f fd) (fr : Fr mg) (cf : Cf K mg CPalette) (c_l_at : Cal P w K mg base 1 "_law_at" (spCell K)) (c_l_pot : Cal P w K mg base 1 "_law_pot" spPot) (c_l_inks : Cal P w K mg base 4 "_law_inks" (spInks K)) (i_Palette : CalI P w K mg base 4 "Palette" CPalette (spPalInit K CPalette)) (c_l_drawn : Cal P w K mg base 5 "_law_drawn" (spDrawn21 K)) (c_l_fits : Cal P w K mg base 2 "_law_fits" (spFits K)) (c_is_deed : Cal P w K mg base 3 "is_deed" (spIsDeedA K CPalette)) (cp_is_deed__palette_thing : CalP P w K mg base 3 "is_deed" ["palette", "thing"] [1, 0] (spIsDeedA K CPalette)) (c_wears : Cal P w K mg base 1 "wears" spWears) (m_Palette_inks : CalM P w K mg base 1 CPalette "inks" (spPalInks K CPalette)) : FnG P w K mg base CX0 6 f fd ["_law_script"] (spLaw K) := by
  refine fnG_of F sc_law (fun vs H Q E h => by obtain ⟨p, t, rfl, _⟩ := h; rfl) fun f cd A out s H vs Q E room gd h => ?_
  obtain ⟨sc, ns, rfl, hS, hlen, q⟩ := h
  refine ⟨_, (pss_cons (ps_for PassesOwn.never rfl (yi_range1 (by rfl) fr.range_ (pa_cons (pe_callB (cMax2 rfl) (by rfl) fr.max_ (by decide +kernel) (pa_cons pe_int (pa_cons (pe_callB (cMin2 rfl) (by rfl) fr.min_ (by decide +kernel) (pa_cons (pe_callB (kLen (K := K) (by rfl)) (by rfl) fr.len_ (by decide +kernel) (pa_cons (yv 0) pa_nil)) (pa_cons pe_int pa_nil))) pa_nil))) pa_nil)) (yg_name 1 sc_law.nd) (pss_cons (ys_set 2 sc_law.nd (ye_call c_l_pot room gd (by rfl) (pa_cons (pe_op (kAdd (K := K) (by rfl)) (ye_call c_l_at room gd (by rfl) (pa_cons (yv 0) (pa_cons (yv 1) pa_nil))) (pe_op oMul pe_int (yv 1))) pa_nil)))
    (pss_cons (ys_set 3 sc_law.nd (ye_call c_l_inks room gd (by rfl) (pa_cons (yv 2) (pa_cons pe_int pa_nil))))
    (pss_cons (ps_par (i := 4) (j := 5) (by rfl) sc_law.nd rfl rfl (by decide) rfl rfl (pa_cons (ye_make i_Palette room gd (by rfl) (pa_cons (pe_callTy (kList (K := K) (by rfl)) (by rfl) fr.list_ (by decide +kernel) (pa_cons (yv 3) pa_nil)) pa_nil)) (pa_cons (ye_call c_l_drawn room gd (by rfl) (pa_cons (yv 2) (pa_cons (yv 3) pa_nil))) pa_nil)) (by rfl))
    (pss_cons (ys_set 6 sc_law.nd (ye_call c_l_fits room gd (by rfl) (pa_cons (yv 5) (pa_cons (pe_lc (own := [("_law_ink", 7), ("_law_fade", 8)]) rfl sc_law.nd (kiList (K := K) (by rfl) (yv 3)) (blkOk_by (own := [("_law_ink", 7), ("_law_fade", 8)]) (N := n_law) (sc := defScope s_law) (by decide +kernel)) (fun _ _ _ _ _ => (kgTup (K := K) (n := 2) (by rfl) rfl (yg_cons (yg_name 7 sc_law.nd) (yg_cons (yg_name 8 sc_law.nd) yg_nil)))) (fun _ _ _ _ _ => pts_nil) (fun _ _ _ _ _ => (yv 7))) pa_nil))))
    (pss_cons (ps_if (yt_cmp (kNe (K := K) (by rfl) room.units) (pe_callB (kRepr (K := K) (by rfl) room.units gd) (by rfl) fr.repr_ (by decide +kernel) (pa_cons (ye_lst (pa_cons (ye_call c_is_deed room gd (by rfl) (pa_cons (yv 5) (pa_cons (yv 4) pa_nil))) (pa_cons (ye_callP cp_is_deed__palette_thing room gd (by rfl) (pk_cons (yv 4) (pk_cons (yv 5) pk_nil))) pa_nil))) pa_nil)) (pe_callB (kRepr (K := K) (by rfl) room.units gd) (by rfl) fr.repr_ (by decide +kernel) (pa_cons (ye_lst (pa_cons (yv 6) (pa_cons (yv 6) pa_nil))) pa_nil)) (nomark _)) (pss_one (ps_ret pe_bl)) pss_nil)
    (pss_cons (ps_if (PW.pt (pw_and (yt_val (yv 6)) (pw_and1 (yt_cmp (kNe (K := K) (by rfl) room.units) (pe_callB (kRepr (K := K) (by rfl) room.units gd) (by rfl) fr.repr_ (by decide +kernel) (pa_cons (ye_call c_wears room gd (by rfl) (pa_cons (yv 5) pa_nil)) pa_nil)) (pe_callB (kRepr (K := K) (by rfl) room.units gd) (by rfl) fr.repr_ (by decide +kernel) (pa_cons (pe_cmpR (kIn (K := K) (by rfl)) (kIx (K := K) (by rfl) (yv 5) pe_int) (ye_tup (pa_cons pe_str (pa_cons pe_str pa_nil))) (by rfl)) pa_nil)) (nomark _))))) (pss_one (ps_ret pe_bl)) pss_nil)
    (pss_one (ps_if (yt_cmp (kNe (K := K) (by rfl) room.units) (ye_meth0 m_Palette_inks room gd (yv 4)) (yv 3) (nomark _)) (pss_one (ps_ret pe_bl)) pss_nil)))))))))
    (pss_one (ps_ret pe_bl))), ?_⟩
  refine ⟨_, .inl hS, ⟨by omega, by omega⟩, ?_⟩
  refine for_it walk_range (fun i σ H' => ∃ y1 y2 y3 y4 y5 y6 y7 y8, σ = [some (.ref sc), y1, y2, y3, y4, y5, y6, y7, y8] ∧ Kp No H H')
    ⟨none, none, none, none, none, none, none, none, rfl, Kp.refl _⟩ (fun _ _ _ _ _ => trivial) ?_ ?_
  · rintro i x σ Ha Hb hi ⟨y1, y2, y3, y4, y5, y6, y7, y8, rfl, ka⟩ ⟨rfl, rfl⟩
    have hi60 : i ≤ 60 := by omega
    refine ⟨sc, ns, _, rfl, ka.seq hS, by omega, fun c => ⟨mid64 (by decide) (by decide), mid64 (by omega) (by omega), _, rfl, fun p H1 hp k1 p1 => ?_⟩⟩
    refine ⟨p, 8, rfl, p1, by decide, by decide, fun il ys ks H2 hil k2 p2 h2 hin im2 ok fd30 => ?_⟩
    have hpH : H p = none := ka.dom p hp
    have nip : il ≠ p := fun e => (p1.ne hil) e.symm
    have el : ys.length = ks.length := by rw [im2.length, List.length_map]
    have l8 := ok.len8
    -- the palette
    refine ⟨ys, .inl (.inl (.inl h2)), fun l1 hl1 x dx hx hdx ndx => ?_⟩
    have kl1 : Kp No H2 (upd H2 l1 (.lst ys)) := Kp.new hl1
    have kn1 := new_pl (C := CPalette) hx hdx ndx
    have k4n := kl1.trans kn1
    refine ⟨x, dx, l1, ys, ks, rfl, upd_same, .inl (.inl (kn1.all l1 _ upd_same id)), kn1.all l1 _ upd_same id, ImAll.up k4n _ _ im2, ok, fun d H5 hd k5 pa5 => ⟨rfl, ?_⟩⟩
    have k25 : Kp No H2 H5 := k4n.drop (kl1.dom x hx) k5
    have hxH : H2 x = none := kl1.dom x hx
    have hdH : H2 d = none := k4n.dom d hd
    have p5 := p2.keep k25 id
    have nxp : x ≠ p := fun e => p2.ne hxH e.symm
    have ndp : d ≠ p := fun e => p2.ne hdH e.symm
    refine ⟨p, il, ks, ys, rfl, p5, k25.all il _ h2 id, ImAll.up k25 _ _ im2, ok, nip, fun a k g1 g2 => k25.tup _ _ (hin 0 a k g1 g2), fun v H6 k6 p6 th => ⟨_, _, rfl, ?_⟩⟩
    have k26 : Kp (At p) H2 H6 := k25.no.trans k6
    have h26 := k26.all il _ h2 nip
    have im6 := ImAll.up k26 _ _ im2
    have pa6 := pa5.up k6 nxp ndp
    -- the names
    refine ⟨⟨ys, .inl (.inl h26)⟩, fun Dd hD => ?_⟩
    refine lc_it (el ▸ walk_list (xs := ys)) (fun i H' => Kp No H6 H' ∧ H' Dd = some (.lst ((ks.take i).map fun k => V.str k.1))) ⟨Kp.new hD, upd_same⟩ (fun i H' _ ⟨k, _⟩ => .inl (.inl (k.all il _ h26 id))) ?_ ?_
    · rintro j y Hc Hd hj ⟨kc, da⟩ ⟨rfl, hy⟩
      obtain ⟨dd, g1, g2⟩ := im6.get hy
      rw [List.getElem?_map, List.getElem?_eq_getElem hj] at g1
      obtain rfl : inkD ks[j] = dd := Option.some.inj g1
      obtain ⟨ia, rfl, ta⟩ := (Im.up kc _ _ g2).inkInv
      refine ⟨_, ta.sq, rfl, rfl, ?_⟩
      refine ⟨_, da, Nat.lt_of_le_of_lt (show _ ≤ 8 by rw [List.length_map, List.length_take]; omega) (by decide), kc.put hD da, ?_⟩
      rw [upd_same, List.take_add_one, List.getElem?_eq_getElem hj, List.map_append]
      rfl
    rintro H7 ⟨k7, d7⟩
    rw [List.take_length] at d7
    have th7 := th.up0 k7
    obtain ⟨b0, eb0⟩ : ∃ b0, fitV ks H7 v = b0 := ⟨_, rfl⟩
    refine ⟨v, Dd, ks, b0, rfl, th7, d7, l8, eb0, fun H8 k8 => ?_⟩
    have e78 : fitV ks H8 v = fitV ks H7 v := fitV_up th7.1 k8 fun _ _ => id
    have th8 := th7.up0 k8
    have pa8 := (pa6.up k7 id id).up k8 id id
    have eb := e78.trans eb0
    refine ⟨v, x, dx, d, ks, b0, rfl, th8, pa8, eb, fun H9 k9 => ?_⟩
    generalize b0 = b at eb eb0 ⊢
    have th9 := th8.up0 k9
    have pa9 := pa8.up k9 id id
    refine ⟨rfl, ?_⟩
    refine ⟨v, x, dx, d, ks, b, rfl, th9, pa9, (fitV_up th8.1 k9 fun _ _ => id).trans eb, fun HA kA => ?_⟩
    refine fun l hl => ?_
    have kl : Kp No HA (upd HA l (.lst [.bl b, .bl b])) := Kp.new hl
    refine ⟨_, .lst (.inl (.inl upd_same)) (.cons (.bl _) (.cons (.bl _) .nil)), bools_sh2 _ _, fun l2 hl2 => ?_⟩
    have kl2 := Kp.new (S := No) (o := .lst [.bl b, .bl b]) hl2
    refine ⟨_, .lst (.inl (.inl upd_same)) (.cons (.bl _) (.cons (.bl _) .nil)), bools_sh2 _ _, iteNS rfl ?_⟩
    have kB := k9.trans (kA.trans (kl.trans kl2))
    have k8B := k8.trans kB
    have k7B := k7.trans k8B
    have k0B : Kp No H _ := ((ka.trans k1).drop hpH (k2.trans k26)).trans k7B
    have paB := pa6.up k7B id id
    have thB := th7.up0 k8B
    have eB := (fitV_up (ks := ks) th7.1 k8B fun _ _ => id).trans (e78.symm.trans eb)
    have hB := k7B.all il _ h26 id
    have imB := ImAll.up k7B _ _ im6
    generalize upd (upd HA l (.lst [.bl b, .bl b])) l2 (.lst [.bl b, .bl b]) = HB at k0B paB thB eB hB imB ⊢
    have kr : Kp No HB HB := Kp.refl _
    cases b with
    | false =>
      refine ⟨dx, _, (paB.up kr id id).ins, rfl, x, dx, d, ks, rfl, paB.up kr id id, fun l ys1 HD kD hl1 h1 im1 => ?_⟩
      have kBD := kr.trans kD
      refine ⟨.list (ks.map inkD), .list (ks.map inkD), .lst (.inl (.inl h1)) (ImAll.dp _ _ im1), .lst (.inl (.inl (kBD.all il _ hB id))) (ImAll.dp _ _ (ImAll.up kBD _ _ imB)), inks_shaped ok, inks_shaped ok, iteF0 (by rw [SeqAt.eqv_refl _ (fine_lay _ (inks_fine ok))]; rfl) ?_⟩
      exact ⟨_, _, _, _, _, _, _, _, rfl, k0B.trans kBD⟩
    | true =>
      obtain ⟨va, w, r, rfl, hv⟩ := fitV_word eB
      refine ⟨va, w, r, rfl, hv, ?_⟩
      refine ⟨_, .bl _, bool_sh _, ?_⟩
      refine ⟨_, _, .inr (.inl (.inl hv)), at_of (j := 0) rfl rfl, fun u hu => ?_⟩
      have ku : Kp No HB (upd HB u (.tup [.str "scrape", .str "rub"])) := Kp.new hu
      refine ⟨u, _, rfl, .inr (.inl (.inl upd_same)), rfl, rfl, ?_⟩
      refine ⟨_, .bl _, bool_sh _, iteNS rfl ?_⟩
      refine ⟨dx, _, (paB.up ku id id).ins, rfl, x, dx, d, ks, rfl, paB.up ku id id, fun l ys1 HD kD hl1 h1 im1 => ?_⟩
      have kBD := ku.trans kD
      refine ⟨.list (ks.map inkD), .list (ks.map inkD), .lst (.inl (.inl h1)) (ImAll.dp _ _ im1), .lst (.inl (.inl (kBD.all il _ hB id))) (ImAll.dp _ _ (ImAll.up kBD _ _ imB)), inks_shaped ok, inks_shaped ok, iteF0 (by rw [SeqAt.eqv_refl _ (fine_lay _ (inks_fine ok))]; rfl) ?_⟩
      exact ⟨_, _, _, _, _, _, _, _, rfl, k0B.trans kBD⟩
  · rintro σ H' ⟨y1, y2, y3, y4, y5, y6, y7, y8, rfl, ka⟩
    exact q _

end
theorem facts {l : PySem.W.OpenLaw} {w : World} {K : PySem.W.Frag} {h : Heap} {mg : Str → Option Value} {f : Addr} (X : K.In h) (G : h.Ns mainGlobals mg) (hfa : mg ("law" : Str) = some (.ref f)) (cx : He.SaysX faL fnL tsL tfL exL w h K) :
    LawIs l w K CX0 6 63 "_law_script" mg f h := by
  have c := cx.t.d
  obtain ⟨CPalette, eCPalette⟩ : ∃ t : Addr, t = He.ga K "Palette" := ⟨_, rfl⟩
  obtain ⟨aS, eaS⟩ : ∃ t : Addr, t = He.ga K "SIZES" := ⟨_, rfl⟩
  obtain ⟨aI, eaI⟩ : ∃ t : Addr, t = He.ga K "WITH_INK" := ⟨_, rfl⟩
  obtain ⟨aW, eaW⟩ : ∃ t : Addr, t = He.ga K "WEARING" := ⟨_, rfl⟩
  have hx : exL K = true := cx.more
  obtain ⟨hx, hx3⟩ := He.ba hx
  have hw3 := hx3
  obtain ⟨hx, hx2⟩ := He.ba hx
  have hw2 := hx2
  obtain ⟨hx, hx1⟩ := He.ba hx
  have hw1 := hx1
  have hw0 := hx
  letI tb : Tb := ⟨([] : List (Addr × Str))⟩
  have D_is_whole : DefAt K mg "is_whole" s_is_whole := let ⟨fd, F⟩ := c.def_ 0 (d := d_is_whole) rfl; ⟨_, fd, F, He.glo_ok X G (c.fact 0 (f := .glo "is_whole") rfl)⟩
  have D_is_name : DefAt K mg "is_name" s_is_name := let ⟨fd, F⟩ := c.def_ 1 (d := d_is_name) rfl; ⟨_, fd, F, He.glo_ok X G (c.fact 1 (f := .glo "is_name") rfl)⟩
  have D_is_amount : DefAt K mg "is_amount" s_is_amount := let ⟨fd, F⟩ := c.def_ 2 (d := d_is_amount) rfl; ⟨_, fd, F, He.glo_ok X G (c.fact 2 (f := .glo "is_amount") rfl)⟩
  have D_is_ink : DefAt K mg "is_ink" s_is_ink := let ⟨fd, F⟩ := c.def_ 3 (d := d_is_ink) rfl; ⟨_, fd, F, He.glo_ok X G (c.fact 3 (f := .glo "is_ink") rfl)⟩
  have D_first_wrong : DefAt K mg "first_wrong" s_first_wrong := let ⟨fd, F⟩ := c.def_ 4 (d := d_first_wrong) rfl; ⟨_, fd, F, He.glo_ok X G (c.fact 4 (f := .glo "first_wrong") rfl)⟩
  have D_Palette___init__ : IniAt K mg "Palette" CPalette "Palette.__init__" s_Palette___init__ [] := let ⟨fd, F⟩ := c.def_ 5 (d := d_Palette___init__) rfl; eCPalette ▸ ⟨_, fd, F, He.mkr_ok (c.fact 44 (f := .mkr "Palette") rfl), He.glo_ok X G (c.fact 41 (f := .glo "Palette") rfl)⟩
  have D_Palette_inks : MetAt K CPalette "inks" "Palette.inks" s_Palette_inks := let ⟨fd, F⟩ := c.def_ 6 (d := d_Palette_inks) rfl; eCPalette ▸ ⟨_, fd, F, He.meth_ok (c.fact 45 (f := .meth "Palette" "inks") rfl)⟩
  have D_Palette_names : MetAt K CPalette "names" "Palette.names" s_Palette_names := let ⟨fd, F⟩ := c.def_ 7 (d := d_Palette_names) rfl; eCPalette ▸ ⟨_, fd, F, He.meth_ok (c.fact 46 (f := .meth "Palette" "names") rfl)⟩
  have D_Palette_has : MetAt K CPalette "has" "Palette.has" s_Palette_has := let ⟨fd, F⟩ := c.def_ 8 (d := d_Palette_has) rfl; eCPalette ▸ ⟨_, fd, F, He.meth_ok (c.fact 47 (f := .meth "Palette" "has") rfl)⟩
  have D_is_deed : DefAt K mg "is_deed" s_is_deed := let ⟨fd, F⟩ := c.def_ 9 (d := d_is_deed) rfl; ⟨_, fd, F, He.glo_ok X G (c.fact 5 (f := .glo "is_deed") rfl)⟩
  have D_wears : DefAt K mg "wears" s_wears := let ⟨fd, F⟩ := c.def_ 10 (d := d_wears) rfl; ⟨_, fd, F, He.glo_ok X G (c.fact 6 (f := .glo "wears") rfl)⟩
  have D_l_at : DefAt K mg "_law_at" s_l_at := let ⟨fd, F⟩ := c.def_ 11 (d := d_l_at) rfl; ⟨_, fd, F, He.glo_ok X G (c.fact 7 (f := .glo "_law_at") rfl)⟩
  have D_l_pot : DefAt K mg "_law_pot" s_l_pot := let ⟨fd, F⟩ := c.def_ 12 (d := d_l_pot) rfl; ⟨_, fd, F, He.glo_ok X G (c.fact 8 (f := .glo "_law_pot") rfl)⟩
  have D_l_take : DefAt K mg "_law_take" s_l_take := let ⟨fd, F⟩ := c.def_ 13 (d := d_l_take) rfl; ⟨_, fd, F, He.glo_ok X G (c.fact 9 (f := .glo "_law_take") rfl)⟩
  have D_l_word : DefAt K mg "_law_word" s_l_word := let ⟨fd, F⟩ := c.def_ 14 (d := d_l_word) rfl; ⟨_, fd, F, He.glo_ok X G (c.fact 10 (f := .glo "_law_word") rfl)⟩
  have D_l_words : DefAt K mg "_law_words" s_l_words := let ⟨fd, F⟩ := c.def_ 15 (d := d_l_words) rfl; ⟨_, fd, F, He.glo_ok X G (c.fact 11 (f := .glo "_law_words") rfl)⟩
  have D_l_amount : DefAt K mg "_law_amount" s_l_amount := let ⟨fd, F⟩ := c.def_ 16 (d := d_l_amount) rfl; ⟨_, fd, F, He.glo_ok X G (c.fact 12 (f := .glo "_law_amount") rfl)⟩
  have D_l_inks : DefAt K mg "_law_inks" s_l_inks := let ⟨fd, F⟩ := c.def_ 17 (d := d_l_inks) rfl; ⟨_, fd, F, He.glo_ok X G (c.fact 13 (f := .glo "_law_inks") rfl)⟩
  have D_l_deed : DefAt K mg "_law_deed" s_l_deed := let ⟨fd, F⟩ := c.def_ 18 (d := d_l_deed) rfl; ⟨_, fd, F, He.glo_ok X G (c.fact 14 (f := .glo "_law_deed") rfl)⟩
  have D_l_no_name : DefAt K mg "_law_no_name" s_l_no_name := let ⟨fd, F⟩ := c.def_ 19 (d := d_l_no_name) rfl; ⟨_, fd, F, He.glo_ok X G (c.fact 15 (f := .glo "_law_no_name") rfl)⟩
  have D_l_odd : DefAt K mg "_law_odd" s_l_odd := let ⟨fd, F⟩ := c.def_ 20 (d := d_l_odd) rfl; ⟨_, fd, F, He.glo_ok X G (c.fact 16 (f := .glo "_law_odd") rfl)⟩
  have D_l_drawn : DefAt K mg "_law_drawn" s_l_drawn := let ⟨fd, F⟩ := c.def_ 21 (d := d_l_drawn) rfl; ⟨_, fd, F, He.glo_ok X G (c.fact 17 (f := .glo "_law_drawn") rfl)⟩
  have D_l_is_name : DefAt K mg "_law_is_name" s_l_is_name := let ⟨fd, F⟩ := c.def_ 22 (d := d_l_is_name) rfl; ⟨_, fd, F, He.glo_ok X G (c.fact 18 (f := .glo "_law_is_name") rfl)⟩
  have D_l_is_amount : DefAt K mg "_law_is_amount" s_l_is_amount := let ⟨fd, F⟩ := c.def_ 23 (d := d_l_is_amount) rfl; ⟨_, fd, F, He.glo_ok X G (c.fact 19 (f := .glo "_law_is_amount") rfl)⟩
  have D_l_fits : DefAt K mg "_law_fits" s_l_fits := let ⟨fd, F⟩ := c.def_ 24 (d := d_l_fits) rfl; ⟨_, fd, F, He.glo_ok X G (c.fact 20 (f := .glo "_law_fits") rfl)⟩
  obtain ⟨fdL, FL⟩ := c.def_ 25 (d := d_law) rfl
  have eL := hfa.symm.trans (He.glo_ok X G (c.fact 21 (f := .glo "law") rfl))
  cases eL
  have fr : Fr mg := ⟨He.free_ok X G (c.fact 22 (f := .free "abs") rfl), He.free_ok X G (c.fact 23 (f := .free "all") rfl), He.free_ok X G (c.fact 24 (f := .free "bool") rfl), He.free_ok X G (c.fact 25 (f := .free "dict") rfl), He.free_ok X G (c.fact 26 (f := .free "divmod") rfl), He.free_ok X G (c.fact 27 (f := .free "enumerate") rfl), He.free_ok X G (c.fact 28 (f := .free "int") rfl), He.free_ok X G (c.fact 29 (f := .free "isinstance") rfl), He.free_ok X G (c.fact 30 (f := .free "len") rfl), He.free_ok X G (c.fact 31 (f := .free "list") rfl), He.free_ok X G (c.fact 32 (f := .free "max") rfl), He.free_ok X G (c.fact 33 (f := .free "min") rfl), He.free_ok X G (c.fact 34 (f := .free "range") rfl), He.free_ok X G (c.fact 35 (f := .free "repr") rfl), He.free_ok X G (c.fact 36 (f := .free "str") rfl), He.free_ok X G (c.fact 37 (f := .free "tuple") rfl), He.str_ok X G (c.fact 38 (f := .str "LETTERS" "abcdefghijklmnopqrstuvwxyz") rfl), He.int_ok X G (c.fact 39 (f := .int "MOST_INKS" (8)) rfl), He.int_ok X G (c.fact 40 (f := .int "MOST_LETTERS" (8)) rfl)⟩
  have cf : Cf K mg CPalette := ⟨eCPalette ▸ He.cls_ok (c.fact 42 (f := .cls "Palette") rfl), eCPalette ▸ He.glo_ok X G (c.fact 41 (f := .glo "Palette") rfl), eCPalette ▸ He.noat_ok (c.fact 43 (f := .noat "Palette" "fades") rfl)⟩
  have wt : Wt K w mg aS aI := ⟨eaS ▸ He.glo_ok X G (c.fact 48 (f := .glo "SIZES") rfl), eaI ▸ He.glo_ok X G (c.fact 49 (f := .glo "WITH_INK") rfl), eaS ▸ cx.t.tab 0 (t := (fun K => He.ga K "SIZES", ["lay", "wait", "wash", "warm", "scrape", "rub"])) rfl, eaS ▸ sizB_ok hw0, fun H => eaI ▸ tupB_ok hw1 H⟩
  have wn : WtN K aS := ⟨eaS ▸ noB_ok hw2⟩
  have ww : WtW K mg aW := ⟨eaW ▸ He.glo_ok X G (c.fact 50 (f := .glo "WEARING") rfl), fun H => eaW ▸ tupB_ok hw3 H⟩
  have b := FunD.bindsA (ps := ["_law_script"]) FL fun _ _ _ _ _ _ us hl => match us, hl with | [_], _ => rfl
  refine ⟨fdL, tfL.map (He.cT K), spLaw K, fun p hp => ?_, fun p hp => ?_, fun p hp => ?_, fun s v => b s [v] rfl, fun H a ns hl hTb hS => ⟨a, ns, rfl, hS, hl, fun _ => rfl⟩, fun base _ _ hTB => ?_⟩
  · obtain ⟨q, hq, rfl⟩ := List.mem_map.mp hp
    exact cx.empty q hq
  · obtain ⟨q, hq, rfl⟩ := List.mem_map.mp hp
    exact cx.out q hq
  · obtain ⟨q, hq, rfl⟩ := List.mem_map.mp hp
    exact PySem.W.codeHd_of_K X (cx.hd q hq)
  have c_is_whole := ok_is_whole (P := l.prog) (w := w) (base := base) D_is_whole fr 
  have c_is_name := ok_is_name (P := l.prog) (w := w) (base := base) D_is_name fr 
  have c_is_amount := ok_is_amount (P := l.prog) (w := w) (base := base) D_is_amount fr c_is_whole
  have c_l_at := ok_l_at (P := l.prog) (w := w) (base := base) D_l_at fr 
  have c_l_pot := ok_l_pot (P := l.prog) (w := w) (base := base) D_l_pot fr 
  have c_l_take := ok_l_take (P := l.prog) (w := w) (base := base) D_l_take fr 
  have c_l_word := ok_l_word (P := l.prog) (w := w) (base := base) D_l_word fr c_l_take
  have c_l_words := ok_l_words (P := l.prog) (w := w) (base := base) D_l_words fr c_l_word
  have c_l_amount := ok_l_amount (P := l.prog) (w := w) (base := base) D_l_amount fr c_l_take
  have c_l_inks := ok_l_inks (P := l.prog) (w := w) (base := base) D_l_inks fr c_l_take c_l_words
  have c_is_ink := ok_is_ink (P := l.prog) (w := w) (base := base) D_is_ink fr c_is_name c_is_whole
  have c_first_wrong := ok_first_wrong (P := l.prog) (w := w) (base := base) D_first_wrong fr c_is_ink
  have i_Palette := ok_Palette___init__ (P := l.prog) (w := w) (base := base) D_Palette___init__ fr cf c_first_wrong
  have m_Palette_names := ok_Palette_names (P := l.prog) (w := w) (base := base) D_Palette_names fr cf
  have m_Palette_inks := ok_Palette_inks (P := l.prog) (w := w) (base := base) D_Palette_inks fr cf
  have m_Palette_has := ok_Palette_has (P := l.prog) (w := w) (base := base) D_Palette_has fr cf
  have c_is_deed := ok_is_deed (P := l.prog) (w := w) (base := base) D_is_deed fr cf wt wn m_Palette_has c_is_name c_is_amount
  have cp_is_deed__palette_thing := okp_is_deed__palette_thing (P := l.prog) (w := w) (base := base) D_is_deed fr cf wt wn m_Palette_has c_is_name c_is_amount
  have c_l_is_name := ok_l_is_name (P := l.prog) (w := w) (base := base) D_l_is_name fr 
  have c_l_is_amount := ok_l_is_amount (P := l.prog) (w := w) (base := base) D_l_is_amount fr 
  have c_l_fits := ok_l_fits (P := l.prog) (w := w) (base := base) D_l_fits fr c_l_is_name c_l_is_amount
  have c_l_deed := ok_l_deed (P := l.prog) (w := w) (base := base) D_l_deed fr c_l_take c_l_amount
  have c_l_no_name := ok_l_no_name (P := l.prog) (w := w) (base := base) D_l_no_name fr c_l_take c_l_word
  have c_l_odd := ok_l_odd (P := l.prog) (w := w) (base := base) D_l_odd fr c_l_take c_l_word c_l_no_name
  have c_l_drawn := ok_l_drawn (P := l.prog) (w := w) (base := base) D_l_drawn fr c_l_take c_l_words c_l_deed c_l_odd
  have c_wears := ok_wears (P := l.prog) (w := w) (base := base) D_wears fr ww
  exact ok_law FL fr cf c_l_at c_l_pot c_l_inks i_Palette c_l_drawn c_l_fits c_is_deed cp_is_deed__palette_thing c_wears m_Palette_inks
end K21
open PySem PySem.W PySem.Calls PyProof.Rows
theorem PySem.Challenge.cw_fadeleaf_k21_deeds_that_fit_holds : PySem.Challenge.rw_fadeleaf_k21_deeds_that_fit.Holds := by
  w_on; o_law
  refine HandSHeadRun.head_any (r := OpenLaw.row PySem.Challenge.rw_fadeleaf_k21_deeds_that_fit) (q := view (OpenLaw.row PySem.Challenge.rw_fadeleaf_k21_deeds_that_fit).prog [35]) (H := K21.hk) (ob := K21.ob) (M := 6000) (loose := K21.namesL) (d := HandSHeadRun.topDef (OpenLaw.row PySem.Challenge.rw_fadeleaf_k21_deeds_that_fit).prog 35) (kwd := []) K21.ob_eq
    (by kernel_rfl) (fun s => by kernel_rfl) K21.run (by kernel_rfl) (by kernel_rfl) (by kernel_rfl) (by rfl) (by first | assumption | decide +kernel) (by decide +kernel) ⟨rfl, rfl, rfl, rfl, rfl, by decide +kernel⟩ ?hw ?hc
  case hw => w_witness2
  case hc =>
    refine Y.walk_G (l := PySem.Challenge.rw_fadeleaf_k21_deeds_that_fit) (n := 63) (k := 6) (x := "_law_script") (CX := L2.CX0) rfl (by decide) (by kernel_rfl) ⟨rfl, by decide, by decide⟩ ?F (fun _ _ _ _ z => z)
    intro w mg fa h Yh G hmg0
    obtain ⟨K, KX, c⟩ := Yh
    have en : (HandSHeadRun.topDef (OpenLaw.row PySem.Challenge.rw_fadeleaf_k21_deeds_that_fit).prog 35).name = ("law" : PySem.Str) := by kernel_rfl
    rw [en] at hmg0
    exact ⟨K, KX, K21.facts KX G hmg0 c⟩
