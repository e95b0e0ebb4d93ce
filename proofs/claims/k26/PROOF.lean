import PyProof.Rows.All
import Wide.All
import OpenK.AllK
import Wide.FinOn
import HandS.ForMost
import HandS.Exc
import HandS.TryOnly
import HandS.ExcOwn
import HandS.WordsExc
import HandS.Defaults
import HandS.Flow
import HandS.WideBits
import HandS.Lambda
import HandS.EndTab
import HandS.TupAny
import HandS.IsInst
import HandS.Walk
import HandS.Conv
import HandS.Deep
import HandS.SortInts
import HandS.Small
import HandS.Style
import KE.KStateDown
import HandS.More
import HandS.Head0
import HandS.Head1
import HandS.Head2
import HandS.HeadEnd
import HandS.HeadHook1
import HandS.HeadHook2
import HandS.Codes
import HandS.SortKw
import HandS.Nested
import HandS.HeadHook4
import HandS.HeadHook3
import HandS.Zip
import KE.GoesMore
import KE.SortData
import HandS.Dict
import HandS.Iter
import KE.KDictWalk
import HandS.DictComp
import HandS.MakeKwOnly
import KE.KUnpackStar
import HandS.ExcInit
import HandS.ExcField
import HandS.ExcIs
import HandS.HotCalls
import KE.KExcInit
import KE.KExcIs
import HandS.TryMany
import PySem.Challenge.RW_fadeleaf_k26_grafted
set_option Elab.async false
set_option linter.all false
set_option maxRecDepth 100000
set_option maxHeartbeats 2000000
/-! G0: promises of defs that know that no repr is under way (A.guards = some []): repr of data can be asked inside them. -/
namespace Y
open PySem PySem.Spec PyProof.Rows L2

/-- a def's promise, kept wherever no repr is under way -/
structure FnG (P : Program) (w : World) (K : PySem.W.Frag) (mg : Str → Option Value) (base : Heap) (CX : CXT) (k : Nat) (f : Addr) (fd : FuncData) (ps : List Str) (sp : Sp) : Prop where
  arity : ∀ vs H Q E, sp vs H Q E → vs.length = ps.length
  goes : ∀ (A : Around) (outer : List Env) (s : Shared) (H : Hp) (args : Args) (us : List Value) (vs : List V) (Q : VK) (E : XK),
    Room k A → A.guards = some [] → Env0 P w K mg base A outer s H → BindsTo s fd args (ps.zip us) → Vals vs us → sp vs H Q E →
    codeAny (model P w) A (.call (.ref f) args) (CR CX outer P w H s Q E) s

section
variable {P : Program} {w : World} {K : PySem.W.Frag} {mg : Str → Option Value} {base : Heap} {CX : CXT} {k j : Nat} {f : Addr} {fd : FuncData} {ps : List Str} {sp sp' : Sp}
theorem FnG.of (F : FnOk P w K mg base CX k f fd ps sp) : FnG P w K mg base CX k f fd ps sp :=
  ⟨F.len, fun A o s H a us vs Q E hr _ => F.run A o s H a us vs Q E hr⟩
theorem FnG.up (F : FnG P w K mg base CX j f fd ps sp) (h : j ≤ k) : FnG P w K mg base CX k f fd ps sp :=
  ⟨F.arity, fun A o s H a us vs Q E hr => F.goes A o s H a us vs Q E (hr.mono h)⟩
theorem FnG.weak (F : FnG P w K mg base CX k f fd ps sp) (h : ∀ vs H Q E, sp' vs H Q E → sp vs H Q E) : FnG P w K mg base CX k f fd ps sp' :=
  ⟨fun vs H Q E q => F.arity vs H Q E (h _ _ _ _ q), fun A o s H a us vs Q E r1 r2 r3 r4 r5 r6 => F.goes A o s H a us vs Q E r1 r2 r3 r4 r5 (h _ _ _ _ r6)⟩

/-- a def of the text keeps its promise, by its body, the guards known -/
theorem goes_of {nm qu : Str} {pa : Arguments} {bd : List Stmt} {sco : Scope} {v1 v2 v3 v4 v5 v6 v7 : Value} {a1 a2 : Option Addr}
    {sl : Array (Option Value)} {N : List Str} (look : K.lookup f = some ⟨v7, a2, .func (PySem.W.fnOf nm qu pa bd sco v1 v2 v3 v4 a1 v5 v6), sl⟩)
    (code : PySem.W.codeIn K v5 qu = true) (S : FnScope N ps sco) (ar : ∀ vs H Q E, sp vs H Q E → vs.length = ps.length)
    (body : ∀ (A : Around) (out : List Env) (s : Shared) (H : Hp) (vs : List V) (Q : VK) (E : XK), Room k (A.deeper (envOfC qu sco s.heap.objs.size f v5)) → A.guards = some [] → sp vs H Q E →
      ∃ t, PSs (cxOf CX P w K mg base N qu sco f v5 A out s H E) bd t ∧ t { nx := fun _ H' => Q .non H', rt := Q } (start N vs) H) :
    FnG P w K mg base CX (k + 1) f (PySem.W.fnOf nm qu pa bd sco v1 v2 v3 v4 a1 v5 v6) ps sp := by
  refine ⟨ar, fun A out s H args us vs Q E room gd env bnd rel want => ?_⟩
  have inK : K.In s.heap := env.mod.kin.keeps fun b o e => (env.bs b o e).1
  have noLim : s.heap.NoLimit := env.mod.nolimit.keeps fun b o e => (env.bs b o e).1
  have kinds : ∀ y ∈ ps.zip us, sco.names.lookup y.1 = some .local ∨ (sco.names.lookup y.1 = some .cell ∧ ((cellsFrom (s.heap.objs.size + 1) sco.names []).lookup y.1).isSome = true) := by
    rintro ⟨n, v⟩ hy
    cases S.par n (List.of_mem_zip hy).1 with
    | inl q => exact .inl q
    | inr q => exact .inr ⟨q, PySem.W.cellsFrom_some _ _ _ (.inl q)⟩
  refine codeAny_call_function room.depth (inK _ _ look) rfl S.co S.gen rfl (PySem.W.codeRec_of inK code) (bnd _ _ _ _ ?_)
  refine wpAny_newFunctionEnv_cells S.kind kinds fun env' he s1 x => ?_
  subst he
  refine ⟨noLim.keeps x.toInCall.keep, codeAny_func ?_⟩
  obtain ⟨t, ht, hq⟩ := body A out s H vs Q E (room.deeper _) gd want
  have I0 := inv_start (CX := CX) (E := E) S room.hd env (ar _ _ _ _ want) rel x
  refine wpAny_mono (ht.run [] s1 (start N vs) H _ I0 hq) (fun fl s' hs => ?_) fun _ _ hs => hs
  cases fl with
  | ret u =>
    obtain ⟨v, σ', H', J, rv, q⟩ := hs
    exact ⟨v, H', J.os, J.bare, J.base, J.hok, rv, q⟩
  | next =>
    obtain ⟨σ', H', J, q⟩ := hs
    exact ⟨V.non, H', J.os, J.bare, J.base, J.hok, rfl, q⟩
  | brk =>
    obtain ⟨_, _, _, q⟩ := hs
    exact q.elim
  | cont =>
    obtain ⟨_, _, _, q⟩ := hs
    exact q.elim
theorem funD_goes {x qual : Str} {params : Arguments} {body : List Stmt} {scope : Scope} {dvs : List V} {kws : List (Str × V)} {N : List Str} (F : FunD K x qual params body scope dvs kws f fd)
    (S : FnScope N ps scope) (ar : ∀ vs H Q E, sp vs H Q E → vs.length = ps.length)
    (hb : ∀ (cd : Value) (A : Around) (out : List Env) (s : Shared) (H : Hp) (vs : List V) (Q : VK) (E : XK), Room k (A.deeper (envOfC qual scope s.heap.objs.size f cd)) → A.guards = some [] → sp vs H Q E →
      ∃ t, PSs (cxOf CX P w K mg base N qual scope f cd A out s H E) body t ∧ t { nx := fun _ H' => Q .non H', rt := Q } (start N vs) H) : FnG P w K mg base CX (k + 1) f fd ps sp := by
  obtain ⟨_, _, _, _, _, _, _, cd, _, _, rfl, lk, hcd, _, _⟩ := F.ex
  exact goes_of lk hcd S ar fun A out s H vs Q E => hb cd A out s H vs Q E
end

/-! ### calls -/
section
variable {X : Cx} {CX : CXT} {k : Nat} {f : Addr} {fd : FuncData} {ps : List Str} {sp : Sp} {dvs : List V} {ds : List Value} {E : XK} {x : Str} {p pos : Pos} {e : Expr} {es : List Expr} {t : TA}
theorem goes_fn {pins : List (Addr × Obj)} {σ : L2.St} {H : Hp} {s : Shared} {Q : VK} {us : List Value} {vs : List V} (F : FnG X.prog X.w X.K X.mg X.base CX k f fd ps sp) (room : Room k X.A) (gd : X.A.guards = some [])
    (hb : Binds X.K fd ps ds) (hd : Vals dvs ds) (hx : Passes CX X E) (I : Inv X pins σ H s) (rel : Vals vs us) (want : sp (vs ++ dvs) H Q E) :
    wpAny (model X.prog X.w) X.A (call (.ref f) us) (EP X pins σ Q) X.xe s := by
  have r2 := rel.append hd
  have ln : (us ++ ds).length = ps.length := r2.length ▸ F.arity _ _ _ _ want
  refine wpAny_call (codeAny_mono (F.goes X.A X.stack s H ⟨us, []⟩ (us ++ ds) (vs ++ dvs) Q E room gd I.env0 (hb s us I.kIn ln) r2 want) ?_)
  intro r s' hq
  cases r with
  | error er => exact hx pins σ H s er s' I hq
  | ok fl =>
    cases fl with
    | ret u => exact I.after hq
    | next => exact hq.elim
    | brk => exact hq.elim
    | cont => exact hq.elim
/-- f(e, ..) -/
theorem pe_callG (F : FnG X.prog X.w X.K X.mg X.base CX k f fd ps sp) (room : Room k X.A) (gd : X.A.guards = some []) (hg : Gl X x) (hm : X.mg x = some (.ref f)) (hk : PySem.W.keepIn X.K (.ref f) = true)
    (hb : Binds X.K fd ps ds) (hd : Vals dvs ds) (hx : Passes CX X E) (ha : PA X (e :: es) t) (hdb : (x == ("__debug__" : Str)) = false := by decide)
    (h1 : starEach (e :: es) X.env = (false, eval e X.env) :: starEach es X.env := by rfl) (h2 : (backTo pos (starEach es X.env)).any (·.1) = false := by rfl) :
    PE X (.Call (.Name x p) (e :: es) [] pos) (tCall sp dvs E t) := by
  constructor
  intro pins s σ H Q I h
  refine wpAny_Call_Name_kw (ld_glob I hg hm ?_ hdb)
  refine PySem.W.callWith_K (h₀ := X.base) I.ok.mod.kin hk (thn (ha.run pos pins s σ H _ I h) ?_) h1 h2
  rintro us s1 ⟨vs, H1, I1, r, q⟩
  exact ⟨I1.kIn, goes_fn F room gd hb hd hx I1 r q⟩
end

/-! ### the end of a law: its promise at the heap behind the top, with tables of code objects -/
section
variable {P : Program} {w : World} {K : PySem.W.Frag} {mg mb : Str → Option Value} {CX : CXT} {k : Nat} {fa a : Addr} {cs : List (Addr × Addr)} {fd : FuncData} {x : Str} {sp : Sp} {s1 : Shared} {vs : List Value} {ns : List Int}
abbrev emptyTab : Obj := { cls := .none, data := .fields #[] }
abbrev scriptObj (vs : List Value) : Obj := { cls := .type "list", data := .seq vs.toArray }
/-- what a law's run must come to -/
abbrev LawEnd (s1 : Shared) (r : Result) (s' : Shared) : Prop := r = .ok (.ret (.bool true)) ∧ OldK s1.heap s'.heap ∧ s'.os = s1.os ∧ AllBare s'.gens
/-- the frames, the module, the tables at the entry -/
structure AtTop (K : PySem.W.Frag) (mg mb : Str → Option Value) (cs : List (Addr × Addr)) (s1 : Shared) : Prop where
  kin : K.In s1.heap
  glob : s1.heap.Ns mainGlobals mg
  blt : s1.heap.Ns builtinsNs mb
  blts : ∀ x : Str, x ≠ "__name__" → mb x = bootBuiltins x
  lim : s1.heap.NoLimit
  gens : s1.gens = #[]
  tabs : ∀ p ∈ cs, s1.heap.get? p.2 = some emptyTab
  tabK : ∀ p ∈ cs, K.lookup p.2 = none
  hds : ∀ p ∈ cs, PySem.W.CodeHd s1.heap p.1 p.2
  bmod : ∃ (bm : Addr) (ob : Obj), mg "__builtins__" = some (.ref bm) ∧ bm ≠ builtinsNs ∧ s1.heap.get? bm = some ob ∧ ob.cls = .type "module" ∧ ob.dict = some builtinsNs ∧ ob.data = .plain
/-- the abstract heap at the entry: the script and the tables alone -/
structure Entry (P : Program) (w : World) (K : PySem.W.Frag) (cs : List (Addr × Addr)) (s1 : Shared) (a : Addr) (H : Hp) : Prop where
  tbl : ∀ p ∈ cs, H p.2 = some (.tbl #[])
  form : ∀ b, H b = none ∨ b ∈ cs.map (·.2) ∨ ∃ o xs, H b = some (.frz o (.lst xs))
  held : HOk P w H s1.heap
  only : ∀ b, H b ≠ none → b = a ∨ b ∈ cs.map (·.2)
  noK : H a ≠ none → K.lookup a = none
theorem AtTop.tabAt (T : AtTop K mg mb cs s1) {b : Addr} (hb : b ∈ cs.map (·.2)) : s1.heap.get? b = some emptyTab := by
  obtain ⟨p, hp, rfl⟩ := List.mem_map.mp hb
  exact T.tabs p hp
/-- what is neither a sequence nor an empty table is not tracked -/
theorem Entry.free {H : Hp} (En : Entry P w K cs s1 a H) (T : AtTop K mg mb cs s1) (ha : s1.heap.get? a = some (scriptObj vs)) {b : Addr} {o : Obj} (e : s1.heap.get? b = some o)
    (n1 : ∀ us n, o.data ≠ .seq us n) (n2 : o.data ≠ .fields #[]) : H b = none := by
  cases q : H b with
  | none => rfl
  | some u =>
    rcases En.only b (by rw [q]; simp) with z | z
    · subst z
      rw [ha] at e
      exact (n1 _ _ (congrArg Obj.data (Option.some.inj e)).symm).elim
    · rw [T.tabAt z] at e
      exact (n2 (congrArg Obj.data (Option.some.inj e)).symm).elim
theorem Entry.run {H : Hp} (En : Entry P w K cs s1 a H) (T : AtTop K mg mb cs s1) (ha : s1.heap.get? a = some (scriptObj vs)) (room : Room k callerA)
    (F : ∀ base : Heap, K.In base → base.Ns mainGlobals mg → (∀ p ∈ cs, LamX.TabB base mg p.1 p.2) → FnG P w K mg base CX k fa fd [x] sp) (bnd : ∀ (s : Shared) (u : Value), BindsTo s fd ⟨[u], []⟩ [(x, u)])
    (want : sp [.ref a] H (fun v _ => v = .bl true) fun _ _ _ => False) (noX : ∀ H e s', CX [] H s1 (fun _ _ _ => False) e s' → False) :
    codeAny (model P w) callerA (.call (.ref fa) ⟨[.ref a], []⟩) (LawEnd s1) s1 := by
  have seen : ∀ {b : Addr} {o : Obj}, s1.heap.get? b = some o → H b = none → (hidT s1.heap H).get? b = some o := fun e n => hidT_get e n
  have nsK : ∀ {b : Addr} {m : Str → Option Value}, s1.heap.Ns b m → (hidT s1.heap H).Ns b m := by
    rintro b m ⟨o, es, ep, e, d, r⟩
    exact ⟨o, es, ep, seen e (En.free T ha e (fun _ _ z => by rw [d] at z; cases z) fun z => by rw [d] at z; cases z), d, r⟩
  have kb : K.In (hidT s1.heap H) := by
    intro b o e
    refine seen (T.kin b o e) ?_
    cases q : H b with
    | none => rfl
    | some u =>
      rcases En.only b (by rw [q]; simp) with z | z
      · subst z
        rw [En.noK (by rw [q]; simp)] at e
        cases e
      · obtain ⟨p, hp, rfl⟩ := List.mem_map.mp z
        rw [T.tabK p hp] at e
        cases e
  have md : L2.Mod K mg (hidT s1.heap H) := ⟨kb, nsK T.glob, ⟨mb, nsK T.blt, T.blts⟩, let ⟨mc, h1, h2⟩ := T.lim; ⟨mc, nsK h1, h2⟩⟩
  have tb : ∀ p ∈ cs, LamX.TabB (hidT s1.heap H) mg p.1 p.2 := by
    intro p hp
    have tp := T.tabs p hp
    refine ⟨?_, ?_, fun z => ?_⟩
    · obtain ⟨o, us, file, tf, flags, tg, inF, text, tt, e1, r1, r2, r3, more⟩ := T.hds p hp
      refine ⟨o, us, file, tf, flags, tg, inF, text, tt, seen e1 (En.free T ha e1 (fun _ _ z => ?_) fun z => ?_), r1, r2, r3, more⟩
      · rw [r2] at z
        cases z
      · rw [r2] at z
        cases z
        simp at r3
    · obtain ⟨bm, ob, b1, b2, b3, b4, b5, b6⟩ := T.bmod
      refine ⟨bm, ob, b1, b2, fun q => ?_, fun q => ?_, seen b3 (En.free T ha b3 (fun _ _ z => ?_) fun z => ?_), b4, b5, b6⟩
      · obtain ⟨o, es, ep, e, hd, _⟩ := T.glob
        rw [q, e] at b3
        cases b3
        rw [hd] at b6
        cases b6
      · rw [q, tp] at b3
        cases b3
        cases b6
      · rw [b6] at z
        cases z
      · rw [b6] at z
        cases z
    · obtain ⟨o, es, ep, e, hd, _⟩ := T.glob
      rw [z, tp] at e
      cases e
      cases hd
  have env : Env0 P w K mg (hidT s1.heap H) callerA [] s1 H :=
    ⟨rfl, md, fun _ _ e => of_hidT e, Nat.le_of_eq (hidT_size _ _), trivial, fun b hb => absurd (show b ∈ ([] : List Addr) from hb) (by simp), En.held, .of_eq T.gens⟩
  refine codeAny_mono ((F _ kb (nsK T.glob) tb).goes callerA [] s1 H ⟨[.ref a], []⟩ [.ref a] [.ref a] _ _ room rfl env (bnd s1 (.ref a)) (.cons rfl .nil) want) ?_
  intro r s' h
  match r, h with
  | .error e, h => exact (noX H e s' h).elim
  | .ok .next, h => exact h.elim
  | .ok .brk, h => exact h.elim
  | .ok .cont, h => exact h.elim
  | .ok (.ret u), h =>
    obtain ⟨v, H', os, bare, un, held', r', q⟩ := h
    have q' : v = .bl true := q
    subst q'
    obtain rfl : u = Value.bool true := r'
    have stay : ∀ b o, b ∉ cs.map (·.2) → s1.heap.get? b = some o → s'.heap.get? b = some o := by
      intro b o nb e
      cases q : H b with
      | none => exact un.keep b o e q (fun z => absurd (show b ∈ ([] : List Addr) from z) (by simp)) (by simp)
      | some u =>
        rcases En.form b with z | z | ⟨ob, xs, z⟩
        · rw [q] at z
          cases z
        · exact absurd z nb
        · obtain ⟨e1, _⟩ := En.held b _ z
          obtain ⟨e2, _⟩ := held' b _ (un.frzs b ob _ z)
          rw [e] at e1
          cases e1
          exact e2
    have grown : ∀ p ∈ cs, ∃ more : Array Value, s'.heap.get? p.2 = some { cls := .none, data := .fields more } := by
      intro p hp
      obtain ⟨more, z⟩ := un.tbls p.2 #[] (En.tbl p hp)
      exact ⟨_, held' p.2 _ z⟩
    refine ⟨rfl, ⟨fun b o e => ?_, fun b o e => ?_⟩, os, bare⟩
    · by_cases hb : b ∈ cs.map (·.2)
      · obtain ⟨p, hp, rfl⟩ := List.mem_map.mp hb
        obtain ⟨more, hm⟩ := grown p hp
        rw [T.tabs p hp] at e
        cases e
        exact .inr (.inl ⟨((T.hds p hp).tab (T.tabs p hp)).isCodeTable, rfl, #[], more, rfl, by rw [Array.empty_append]; exact hm⟩)
      · exact .inl (stay b o hb e)
    · by_cases hb : b ∈ cs.map (·.2)
      · obtain ⟨p, hp, rfl⟩ := List.mem_map.mp hb
        obtain ⟨more, hm⟩ := grown p hp
        exact ⟨_, hm⟩
      · exact ⟨o, stay b o hb e⟩
theorem law_goes (T : AtTop K mg mb cs s1) (ha : s1.heap.get? a = some (scriptObj vs)) (hi : IntsAre vs ns) (hl : ns.length ≤ sizeLine) (room : Room k callerA)
    (F : ∀ base : Heap, K.In base → base.Ns mainGlobals mg → (∀ p ∈ cs, LamX.TabB base mg p.1 p.2) → FnG P w K mg base CX k fa fd [x] sp) (bnd : ∀ (s : Shared) (u : Value), BindsTo s fd ⟨[u], []⟩ [(x, u)])
    (want : ∀ H : Hp, (∀ p ∈ cs, H p.2 = some (.tbl #[])) → SqL K H a (ns.map V.int) → sp [.ref a] H (fun v _ => v = .bl true) fun _ _ _ => False) (noX : ∀ H e s', CX [] H s1 (fun _ _ _ => False) e s' → False) :
    codeAny (model P w) callerA (.call (.ref fa) ⟨[.ref a], []⟩) (LawEnd s1) s1 := by
  have rv := vals_ints hi
  have lenV := hi.length
  have aT : a ∉ cs.map (·.2) := fun z => by
    have q := T.tabAt z
    rw [ha] at q
    have z' : Data.seq vs.toArray _ = Data.fields #[] := congrArg Obj.data (Option.some.inj q)
    cases z'
  cases hk : K.lookup a with
  | some o =>
    have e := T.kin a o hk
    rw [ha] at e
    cases e
    let H : Hp := fun b => if b ∈ cs.map (·.2) then some (.tbl #[]) else none
    have En : Entry P w K cs s1 a H := by
      refine ⟨fun p hp => if_pos (List.mem_map.mpr ⟨p, hp, rfl⟩), fun b => ?_, fun b u z => ?_, fun b z => ?_, fun z => absurd (show H a = none from if_neg aT) z⟩
      · by_cases hb : b ∈ cs.map (·.2)
        · exact .inr (.inl hb)
        · exact .inl (if_neg hb)
      · by_cases hb : b ∈ cs.map (·.2)
        · cases (if_pos hb).symm.trans z
          exact T.tabAt hb
        · cases (if_neg hb).symm.trans z
      · by_cases hb : b ∈ cs.map (·.2)
        · exact .inr hb
        · exact absurd (if_neg hb) z
    exact En.run T ha room F bnd (want H En.tbl (.inr ⟨_, vs.toArray, _, hk, rfl, rfl, rfl, by rw [List.size_toArray, lenV]; exact hl, by simpa using rv⟩)) noX
  | none =>
    let H : Hp := fun b => if b = a then some (.frz (scriptObj vs) (.lst (ns.map V.int))) else if b ∈ cs.map (·.2) then some (.tbl #[]) else none
    have En : Entry P w K cs s1 a H := by
      refine ⟨fun p hp => ?_, fun b => ?_, fun b u z => ?_, fun b z => ?_, fun _ => hk⟩
      · have m : p.2 ∈ cs.map (·.2) := List.mem_map.mpr ⟨p, hp, rfl⟩
        exact (if_neg (show ¬ p.2 = a from fun z => aT (z ▸ m))).trans (if_pos m)
      · by_cases hb : b = a
        · exact .inr (.inr ⟨_, _, if_pos hb⟩)
        · by_cases hb2 : b ∈ cs.map (·.2)
          · exact .inr (.inl hb2)
          · exact .inl ((if_neg hb).trans (if_neg hb2))
      · by_cases hb : b = a
        · cases (if_pos hb).symm.trans z
          rw [hb]
          exact ⟨ha, by rw [List.length_map]; exact hl, vs, _, rv, ha⟩
        · have z1 := (if_neg hb).symm.trans z
          by_cases hb2 : b ∈ cs.map (·.2)
          · cases (if_pos hb2).symm.trans z1
            exact T.tabAt hb2
          · cases (if_neg hb2).symm.trans z1
      · by_cases hb : b = a
        · exact .inl hb
        · by_cases hb2 : b ∈ cs.map (·.2)
          · exact .inr hb2
          · exact absurd ((if_neg hb).trans (if_neg hb2)) z
    exact En.run T ha room F bnd (want H En.tbl (.inl (.inr ⟨scriptObj vs, if_pos rfl⟩))) noX
end
/-- the promise of the law's def, at the head's heap h -/
def LawIs (l : PySem.W.OpenLaw) (w : World) (K : PySem.W.Frag) (CX : CXT) (k n : Nat) (x : Str) (mg : Str → Option Value) (fa : Addr) (h : Heap) : Prop :=
  ∃ (fd : FuncData) (cs : List (Addr × Addr)) (sp : Sp), (∀ p ∈ cs, h.get? p.2 = some emptyTab) ∧ (∀ p ∈ cs, K.lookup p.2 = none) ∧ (∀ p ∈ cs, PySem.W.CodeHd h p.1 p.2) ∧
    (∀ (s : Shared) (u : Value), BindsTo s fd ⟨[u], []⟩ [(x, u)]) ∧
    (∀ (H : Hp) (a : Addr) (ns : List Int), ns.length ≤ n → (∀ p ∈ cs, H p.2 = some (.tbl #[])) → SqL K H a (ns.map V.int) → sp [.ref a] H (fun v _ => v = .bl true) fun _ _ _ => False) ∧
    ∀ base : Heap, K.In base → base.Ns mainGlobals mg → (∀ p ∈ cs, LamX.TabB base mg p.1 p.2) → FnG l.prog w K mg base CX k fa fd [x] sp
theorem walk_G {l : PySem.W.OpenLaw} {n k : Nat} {q : Program} {loose : List Str} {XP : (Str → Option Value) → Heap → Prop} {YP : World → Heap → Prop} {d : DefRec} {CX : CXT} {x : Str}
    (hn : l.most = some n) (hn2 : n ≤ sizeLine) (hdf : d.params.defaults = []) (room : Room k callerA)
    (F : ∀ (w : World) (mg : Str → Option Value) (fa : Addr) (h : Heap), YP w h → h.Ns mainGlobals mg → mg d.name = some (.ref fa) → ∃ K : PySem.W.Frag, K.In h ∧ LawIs l w K CX k n x mg fa h)
    (noX : ∀ (H : Hp) (s : Shared) (e : Value) (s' : Shared), CX [] H s (fun _ _ _ => False) e s' → False) :
    PySem.W.WalkO q loose XP YP l.row.toRowW d [] (fun f vs => PySem.call f vs) := by
  refine Att.attach_call hn hdf ?_
  intro w s0 s1 mg mb fa o pm cd doc a vs ns G Yh ho hd hcd hmg hobj hints hlen hgens
  obtain ⟨K, inK, fd, cs, sp, h1, h2, h3, hb, hsp, hF⟩ := F w mg fa _ Yh G.T.g hmg
  exact law_goes ⟨inK, G.T.g, G.T.b, G.T.builtins, G.T.nolimit, hgens, h1, h2, h3, G.T.bmain⟩ hobj hints (Nat.le_trans hlen hn2) room hF hb (fun H hT hS => hsp H a ns hlen hT hS) fun H => noX H s1
end Y

set_option Elab.async false
set_option linter.all false
set_option maxRecDepth 100000
set_option maxHeartbeats 2000000
/-! Y1: readings that compute: where the values are known by their form, the reading goes on by itself. -/
namespace Y
open PySem PySem.Spec PyProof.Rows L2

section
variable {X : Cx}
theorem PE.imp {e : Expr} {t t' : TE} (h : PE X e t) (f : ∀ σ H Q, t' σ H Q → t σ H Q) : PE X e t' := ⟨fun pins s σ H Q I h' => h.run pins s σ H Q I (f σ H Q h')⟩
theorem PT.imp {e : Expr} {t t' : TT} (h : PT X e t) (f : ∀ σ H Q, t' σ H Q → t σ H Q) : PT X e t' := ⟨fun pins s σ H Q I h' => h.run pins s σ H Q I (f σ H Q h')⟩
theorem PS.imp {st : Stmt} {t t' : TS} (h : PS X st t) (f : ∀ D σ H, t' D σ H → t D σ H) : PS X st t' := ⟨fun pins s σ H D I h' => h.run pins s σ H D I (f D σ H h')⟩
theorem PG.imp {e : Expr} {t t' : TG} (h : PG X e t) (f : ∀ v σ H Q, t' v σ H Q → t v σ H Q) : PG X e t' := ⟨fun pins s σ H v u Q I r h' => h.run pins s σ H v u Q I r (f v σ H Q h')⟩
theorem PGs.imp {es : List Expr} {t t' : TGs} (h : PGs X es t) (f : ∀ v σ H Q, t' v σ H Q → t v σ H Q) : PGs X es t' := ⟨fun pins s σ H v u Q I r h' => h.run pins s σ H v u Q I r (f v σ H Q h')⟩
theorem PI.imp {tg e : Expr} {t t' : TI} (h : PI X tg e t) (f : ∀ σ H R, t' σ H R → t σ H R) : PI X tg e t' := ⟨fun pins s σ H R I h' => h.run pins s σ H R I (f σ H R h')⟩
theorem OpR.imp {g : Value → Value → Sem Value} {r r' : R2} (h : OpR X g r) (f : ∀ x y H Q, r' x y H Q → r x y H Q) : OpR X g r' := fun pins s σ H x y v u Q I rx ry h' => h pins s σ H x y v u Q I rx ry (f _ _ _ _ h')
theorem CallR.imp {g : Value} {r r' : List V → Hp → VK → Prop} (h : CallR X g r) (f : ∀ xs H Q, r' xs H Q → r xs H Q) : CallR X g r' := fun pins s σ H xs us Q I rx h' => h pins s σ H xs us Q I rx (f _ _ _ h')
theorem MtR.imp {id : String} {r r' : V → List V → Hp → VK → Prop} (h : MtR X id r) (f : ∀ x xs H Q, r' x xs H Q → r x xs H Q) : MtR X id r' := fun pins s σ H x xs v us Q I r1 r2 h' => h pins s σ H x xs v us Q I r1 r2 (f _ _ _ _ h')
theorem IxR.imp {r r' : R2} (h : IxR X r) (f : ∀ x y H Q, r' x y H Q → r x y H Q) : IxR X r' := fun a b pins s σ H x y v u Q I r1 r2 h' z => h a b pins s σ H x y v u Q I r1 r2 (f _ _ _ _ h') z
theorem PSet.imp {r r' : TSet} (h : PSet X r) (f : ∀ o i v H Q, r' o i v H Q → r o i v H Q) : PSet X r' := fun pins s σ H o i v a b c Q I r1 r2 r3 h' => h pins s σ H o i v a b c Q I r1 r2 r3 (f _ _ _ _ _ h')

/-! ### names -/
def yVar (i : Nat) : TE := fun σ H Q => match σ[i]? with
  | some (some v) => Q v H
  | _ => False
theorem yv (i : Nat) {x : Str} {pos : Pos} (hN : X.N[i]? = some x := by rfl) (hv : Vis X.env.scope x := by first | exact Or.inl rfl | exact Or.inr (Or.inl rfl) | exact Or.inr (Or.inr rfl)) (hd : (x == ("__debug__" : Str)) = false := by decide)
    (hcd : (x == ("__classdict__" : Str)) = false := by decide) : PE X (.Name x pos) (yVar i) :=
  PE.imp (pe_var hN hv hd hcd) fun σ H Q h => by
    unfold yVar at h
    unfold tVar
    split at h
    · rename_i v e
      exact ⟨v, e, h⟩
    · exact h.elim

/-! ### operators -/
def yAdd (K : PySem.W.Frag) : R2 := fun x y H Q => match x, y with
  | .int i, .int j => Q (.int (i + j)) H
  | .str a, .str b => a.length + b.length ≤ sizeLine ∧ Q (.str (a ++ b)) H
  | .ref a, .ref b => rCat (.ref a) (.ref b) H Q ∨ rCatA K (.ref a) (.ref b) H Q
  | _, _ => False
theorem oAdd : OpR X (binaryOp .Add) (yAdd X.K) := by
  intro pins s σ H x y v u Q I rx ry h
  unfold yAdd at h
  split at h
  · exact op_add pins s σ H _ _ v u Q I rx ry ⟨_, _, rfl, rfl, h⟩
  · exact op_add_str pins s σ H _ _ v u Q I rx ry ⟨_, _, rfl, rfl, h⟩
  · rcases h with h | h
    · exact op_cat pins s σ H _ _ v u Q I rx ry h
    · exact op_catA pins s σ H _ _ v u Q I rx ry h
  · exact h.elim
def ySub : R2 := fun x y H Q => match x, y with
  | .int i, .int j => Q (.int (i - j)) H
  | _, _ => False
theorem oSub : OpR X (binaryOp .Sub) ySub := by
  intro pins s σ H x y v u Q I rx ry h
  unfold ySub at h
  split at h
  · exact op_sub pins s σ H _ _ v u Q I rx ry ⟨_, _, rfl, rfl, h⟩
  · exact h.elim
/-- below 2 ^ 4000 in size -/
abbrev Mid (i : Int) : Prop := i.natAbs < 2 ^ 4000
def yMul : R2 := fun x y H Q => match x, y with
  | .int i, .int j => Mid i ∧ Mid j ∧ Q (.int (i * j)) H
  | .ref l, .int k => rRep (.ref l) (.int k) H Q
  | _, _ => False
theorem oMul : OpR X (binaryOp .Mult) yMul := by
  intro pins s σ H x y v u Q I rx ry h
  unfold yMul at h
  split at h
  · exact op_mulX pins s σ H _ _ v u Q I rx ry ⟨_, _, rfl, rfl, mulx_ok h.1 h.2.1 (by decide), h.2.2⟩
  · exact op_rep pins s σ H _ _ v u Q I rx ry h
  · exact h.elim
def yMod : R2 := fun x y H Q => match x, y with
  | .int i, .int j => 0 < j ∧ Q (.int (i % j)) H
  | _, _ => False
theorem oMod : OpR X (binaryOp .Mod) yMod := by
  intro pins s σ H x y v u Q I rx ry h
  unfold yMod at h
  split at h
  · exact op_mod pins s σ H _ _ v u Q I rx ry ⟨_, _, rfl, rfl, h⟩
  · exact h.elim
def yFdv : R2 := fun x y H Q => match x, y with
  | .int i, .int j => 0 < j ∧ j < 10 ^ 70 ∧ Q (.int (i / j)) H
  | _, _ => False
theorem small_div {j : Int} (h : 0 < j) (h2 : j < 10 ^ 70) : j.natAbs < 2 ^ 240 := by
  have e : (10 : Int) ^ 70 < 2 ^ 240 := by decide
  have e2 : ((2 : Nat) ^ 240 : Nat) = (2 : Int) ^ 240 := by norm_cast
  omega
theorem oFdv : OpR X (binaryOp .FloorDiv) yFdv := by
  intro pins s σ H x y v u Q I rx ry h
  unfold yFdv at h
  split at h
  · exact op_fdivW pins s σ H _ _ v u Q I rx ry ⟨_, _, rfl, rfl, wide_div h.1 (small_div h.1 h.2.1) (by decide) (by decide), h.2.2⟩
  · exact h.elim
def yPow : R2 := fun x y H Q => match x, y with
  | .int i, .int j => (0 ≤ j ∧ j ≤ 1000 ∧ i.natAbs < 2 ^ 64) ∧ Q (.int (i ^ j.toNat)) H
  | _, _ => False
theorem oPow : OpR X (binaryOp .Pow) yPow := by
  intro pins s σ H x y v u Q I rx ry h
  unfold yPow at h
  split at h
  · exact op_pow pins s σ H _ _ v u Q I rx ry ⟨_, _, rfl, rfl, ⟨h.1.1, by have := h.1.2.1; omega, h.1.2.2⟩, h.2⟩
  · exact h.elim
def yNeg : V → Hp → VK → Prop := fun x H Q => match x with
  | .int i => Q (.int (-i)) H
  | _ => False
theorem oNeg : UnR X (unaryOp .USub) yNeg := by
  intro pins s σ H x v Q I rx h
  unfold yNeg at h
  split at h
  · exact un_neg pins s σ H _ v Q I rx ⟨_, rfl, h⟩
  · exact h.elim
def yCmpI (p : Int → Int → Bool) : R2 := fun x y H Q => match x, y with
  | .int i, .int j => Q (.bl (p i j)) H
  | _, _ => False
theorem cmpI {op : CmpOp} {p : Int → Int → Bool} (h : OpR X (compareOp op) (rI0 fun i j => .bl (p i j))) : OpR X (compareOp op) (yCmpI p) :=
  OpR.imp h fun x y H Q h => by
    unfold yCmpI at h
    split at h
    · exact ⟨_, _, rfl, rfl, h⟩
    · exact h.elim
theorem oLt : OpR X (compareOp .Lt) (yCmpI fun i j => decide (i < j)) := cmpI op_lt
theorem oLe : OpR X (compareOp .LtE) (yCmpI fun i j => decide (i ≤ j)) := cmpI op_le
theorem oGt : OpR X (compareOp .Gt) (yCmpI fun i j => decide (j < i)) := cmpI op_gt
theorem oGe : OpR X (compareOp .GtE) (yCmpI fun i j => decide (j ≤ i)) := cmpI op_ge
/-- ==: scalars at once, other things as data -/
def yEq (K : PySem.W.Frag) : R2 := fun x y H Q => match x, y with
  | .int i, .int j => Q (.bl (decide (i = j))) H
  | .str a, .str b => Q (.bl (decide (a = b))) H
  | .bl a, .bl b => Q (.bl (decide (a = b))) H
  | .non, .non => Q (.bl true) H
  | .non, .int _ => Q (.bl false) H
  | .int _, .non => Q (.bl false) H
  | .non, .str _ => Q (.bl false) H
  | .str _, .non => Q (.bl false) H
  | x, y => rEqD K x y H Q
def yNe (K : PySem.W.Frag) : R2 := fun x y H Q => match x, y with
  | .int i, .int j => Q (.bl (!decide (i = j))) H
  | .str a, .str b => Q (.bl (!decide (a = b))) H
  | .bl a, .bl b => Q (.bl (!decide (a = b))) H
  | .non, .non => Q (.bl false) H
  | .non, .int _ => Q (.bl true) H
  | .int _, .non => Q (.bl true) H
  | .non, .str _ => Q (.bl true) H
  | .str _, .non => Q (.bl true) H
  | x, y => rNeD K x y H Q
theorem dec_int {i j : Int} : decide (V.int i = V.int j) = decide (i = j) := by simp
theorem dec_str {i j : Str} : decide (V.str i = V.str j) = decide (i = j) := by simp
theorem dec_bl {i j : Bool} : decide (V.bl i = V.bl j) = decide (i = j) := by simp
theorem oEq (hu : X.A.units + 64 < cLine) : OpR X (compareOp .Eq) (yEq X.K) := by
  intro pins s σ H x y v u Q I rx ry h
  unfold yEq at h
  split at h
  · exact op_eq pins s σ H _ _ v u Q I rx ry ⟨rfl, by rw [dec_int]; exact h⟩
  · exact op_eq pins s σ H _ _ v u Q I rx ry ⟨rfl, by rw [dec_str]; exact h⟩
  · exact op_eq pins s σ H _ _ v u Q I rx ry ⟨rfl, by rw [dec_bl]; exact h⟩
  · exact op_eq pins s σ H _ _ v u Q I rx ry ⟨rfl, h⟩
  · exact op_eq pins s σ H _ _ v u Q I rx ry ⟨rfl, h⟩
  · exact op_eq pins s σ H _ _ v u Q I rx ry ⟨rfl, h⟩
  · exact op_eq pins s σ H _ _ v u Q I rx ry ⟨rfl, h⟩
  · exact op_eq pins s σ H _ _ v u Q I rx ry ⟨rfl, h⟩
  · exact op_eqD hu pins s σ H _ _ v u Q I rx ry h
theorem oNe (hu : X.A.units + 64 < cLine) : OpR X (compareOp .NotEq) (yNe X.K) := by
  intro pins s σ H x y v u Q I rx ry h
  unfold yNe at h
  split at h
  · exact op_ne pins s σ H _ _ v u Q I rx ry ⟨rfl, by rw [dec_int]; exact h⟩
  · exact op_ne pins s σ H _ _ v u Q I rx ry ⟨rfl, by rw [dec_str]; exact h⟩
  · exact op_ne pins s σ H _ _ v u Q I rx ry ⟨rfl, by rw [dec_bl]; exact h⟩
  · exact op_ne pins s σ H _ _ v u Q I rx ry ⟨rfl, h⟩
  · exact op_ne pins s σ H _ _ v u Q I rx ry ⟨rfl, h⟩
  · exact op_ne pins s σ H _ _ v u Q I rx ry ⟨rfl, h⟩
  · exact op_ne pins s σ H _ _ v u Q I rx ry ⟨rfl, h⟩
  · exact op_ne pins s σ H _ _ v u Q I rx ry ⟨rfl, h⟩
  · exact op_neD hu pins s σ H _ _ v u Q I rx ry h
def yIsN : R2 := fun x y H Q => match y with
  | .non => Q (.bl (decide (x = .non))) H
  | _ => False
def yNotN : R2 := fun x y H Q => match y with
  | .non => Q (.bl (!decide (x = .non))) H
  | _ => False
theorem oIs : OpR X (compareOp .Is) yIsN := OpR.imp op_isN fun x y H Q h => by
  unfold yIsN at h
  split at h
  · exact ⟨rfl, h⟩
  · exact h.elim
theorem oIsNot : OpR X (compareOp .IsNot) yNotN := OpR.imp op_notN fun x y H Q h => by
  unfold yNotN at h
  split at h
  · exact ⟨rfl, h⟩
  · exact h.elim
/-- in, not in: a sign in a text; a flat thing in a list or a tuple -/
def yIn (K : PySem.W.Frag) (neg : Bool) : R2 := fun x y H Q => match x, y with
  | .str a, .str z => ∃ c : Nat, a = ⟨#[c]⟩ ∧ Q (.bl (if neg then !decide (c ∈ z.cps.toList) else decide (c ∈ z.cps.toList))) H
  | x, .ref p => rIn K neg x (.ref p) H Q
  | _, _ => False
theorem oIn : OpR X (compareOp .In) (yIn X.K false) := by
  intro pins s σ H x y v u Q I rx ry h
  unfold yIn at h
  split at h
  · obtain ⟨c, rfl, h⟩ := h
    exact op_in_sign pins s σ H _ _ v u Q I rx ry ⟨_, _, rfl, rfl, h⟩
  · exact op_in_seq pins s σ H _ _ v u Q I rx ry h
  · exact h.elim
theorem oNotIn : OpR X (compareOp .NotIn) (yIn X.K true) := by
  intro pins s σ H x y v u Q I rx ry h
  unfold yIn at h
  split at h
  · obtain ⟨c, rfl, h⟩ := h
    exact op_notIn_sign pins s σ H _ _ v u Q I rx ry ⟨_, _, rfl, rfl, h⟩
  · exact op_notIn_seq pins s σ H _ _ v u Q I rx ry h
  · exact h.elim

/-! ### tests -/
def yTest (t : TE) : TT := fun σ H Q => t σ H fun x H' => match x with
  | .bl k => Q k H'
  | _ => False
variable {a b c e : Expr} {ta tb tc te : TE} {pos : Pos}
/-- PE is used with weaker ends: the reading's wish may be weakened where it is a test's -/
theorem yt_cmp {op : CmpOp} {r : R2} (ho : OpR X (compareOp op) r) (ha : PE X a ta) (hb : PE X b tb) (hm : behindInMarks op b = false) : PT X (.Compare a [op] [b] pos) (yTest (tOp r ta tb)) := by
  refine ⟨fun pins s σ H Q I h => ?_⟩
  have h2 : PE X (.Compare a [op] [b] pos) (tOp r ta tb) := pe_cmpR ho ha hb hm
  refine wpAny_isTrue_Compare1 (binT ha hb I h fun v u s2 x y H2 I2 rx ry q => thn (ho pins s2 σ H2 x y v u _ I2 rx ry q) fun c s3 ⟨x3, H3, I3, r3, q3⟩ => ?_) hm
  cases x3 with
  | bl k =>
    cases r3
    exact wpAny_truthy_bool ⟨H3, I3, q3⟩
  | _ => exact q3.elim
theorem yt_val {t : TE} (h : PE X e t) (he : ∀ whole, isTrue e X.env whole = (do let v ← whole; standAt e.pos; holding [v] (truthy v)) := by intro _; rfl) : PT X e (yTest t) := by
  refine ⟨fun pins s σ H Q I hw => ?_⟩
  refine isTrue_plain (thn (h.run pins s σ H _ I hw) fun v s1 ⟨x, H1, I1, r1, q1⟩ => ?_) (he _)
  cases x with
  | bl k =>
    cases r1
    exact wpAny_truthy_bool ⟨H1, I1, q1⟩
  | _ => exact q1.elim

/-! ### and, or, not as values -/
def yAndV (ta tb : TE) : TE := fun σ H Q => ta σ H fun x H1 => match x with
  | .bl c => if c = true then tb σ H1 Q else Q (.bl false) H1
  | _ => False
def yOrV (ta tb : TE) : TE := fun σ H Q => ta σ H fun x H1 => match x with
  | .bl c => if c = true then Q (.bl true) H1 else tb σ H1 Q
  | _ => False
def yNotV (ta : TE) : TE := fun σ H Q => ta σ H fun x H1 => match x with
  | .bl c => Q (.bl (!c)) H1
  | _ => False
variable {rest : List Expr}
theorem ye_and (ha : PE X a ta) (hb : PE X (.BoolOp .And (b :: rest) pos) tb) : PE X (.BoolOp .And (a :: b :: rest) pos) (yAndV ta tb) := by
  refine ⟨fun pins s σ H Q I h => ?_⟩
  refine BoolOp_and (thn (ha.run pins s σ H _ I h) fun v s1 ⟨x, H1, I1, r1, q1⟩ => ?_)
  cases x with
  | bl c =>
    cases r1
    refine wpAny_truthy_bool ?_
    cases c with
    | true => exact hb.run pins s1 σ H1 Q I1 q1
    | false => exact ⟨.bl false, H1, I1, rfl, q1⟩
  | _ => exact q1.elim
theorem ye_or (ha : PE X a ta) (hb : PE X (.BoolOp .Or (b :: rest) pos) tb) : PE X (.BoolOp .Or (a :: b :: rest) pos) (yOrV ta tb) := by
  refine ⟨fun pins s σ H Q I h => ?_⟩
  refine BoolOp_or (thn (ha.run pins s σ H _ I h) fun v s1 ⟨x, H1, I1, r1, q1⟩ => ?_)
  cases x with
  | bl c =>
    cases r1
    refine wpAny_truthy_bool ?_
    cases c with
    | false => exact hb.run pins s1 σ H1 Q I1 q1
    | true => exact ⟨.bl true, H1, I1, rfl, q1⟩
  | _ => exact q1.elim
theorem ye_not (ha : PE X a ta) : PE X (.UnaryOp .Not a pos) (yNotV ta) := by
  refine ⟨fun pins s σ H Q I h => ?_⟩
  refine UnaryOp_ (thn (ha.run pins s σ H _ I h) fun v s1 ⟨x, H1, I1, r1, q1⟩ => ?_)
  cases x with
  | bl c =>
    cases r1
    exact not_of (wpAny_truthy_bool ⟨.bl (!c), H1, I1, rfl, q1⟩)
  | _ => exact q1.elim

/-! ### displays -/
def yTup (t : TA) : TE := fun σ H Q => t σ H fun xs H1 => match Nat.ble xs.length 1000 with
  | true => ∀ p, H1 p = none → Q (.ref p) (upd H1 p (.tup xs))
  | false => False
def yLst (t : TA) : TE := fun σ H Q => t σ H fun xs H1 => match Nat.ble xs.length 1000 with
  | true => ∀ p, H1 p = none → Q (.ref p) (upd H1 p (.lst xs))
  | false => False
theorem le_line {n : Nat} (h : Nat.ble n 1000 = true) : n ≤ sizeLine := Nat.le_trans (Nat.le_of_ble_eq_true h) (by decide)
variable {es : List Expr} {t : TA}
theorem ye_tup {x1} (h : PA X es t) : PE X (.Tuple es x1 pos) (yTup t) := by
  refine ⟨fun pins s σ H Q I hq => ?_⟩
  refine wpAny_Tuple_spliced (thn (h.run pos pins s σ H _ I hq) fun us s1 ⟨xs, H1, I1, r, z⟩ => ?_)
  cases hb : Nat.ble xs.length 1000 with
  | false =>
    simp only [hb] at z
  | true =>
    simp only [hb] at z
    have z1 := le_line hb
    have hf : H1 s1.heap.objs.size = none := I1.hok.fresh (Nat.le_refl _)
    refine ⟨by rw [← r.length]; exact z1, .ref s1.heap.objs.size, upd H1 s1.heap.objs.size (.tup xs), I1.laid (t' := s1.toks) (fun b u e => Heap.get?_push_of_some _ e) (Nat.le_refl _) ?_, rfl, z _ hf⟩
    exact ⟨z1, us, r, ⟨_, Heap.get?_push_size _ rfl, rfl, _, rfl⟩⟩
theorem ye_lst (h : PA X es t) : PE X (.List es pos) (yLst t) := by
  refine ⟨fun pins s σ H Q I hq => ?_⟩
  refine wpAny_List_spliced (thn (h.run pos pins s σ H _ I hq) fun us s1 ⟨xs, H1, I1, r, z⟩ => ?_)
  cases hb : Nat.ble xs.length 1000 with
  | false =>
    simp only [hb] at z
  | true =>
    simp only [hb] at z
    have z1 := le_line hb
    have hf : H1 s1.heap.objs.size = none := I1.hok.fresh (Nat.le_refl _)
    refine ⟨by rw [← r.length]; exact z1, .ref s1.heap.objs.size, upd H1 s1.heap.objs.size (.lst xs), I1.laid (t' := s1.toks) (fun b u e => Heap.get?_push_of_some _ e) (Nat.le_refl _) ?_, rfl, z _ hf⟩
    exact ⟨z1, us, 0, r, Heap.get?_push_size _ rfl⟩

/-! ### items, slices -/
def yIx (K : PySem.W.Frag) : R2 := fun x y H Q => match x, y with
  | .str z, .int i => z.length ≤ sizeLine ∧ ∃ c, atI z.cps.toList i = some c ∧ Q (.str ⟨#[c]⟩) H
  | .ref p, .int i => ∃ xs v, (SqL K H p xs ∨ SqT K H p xs) ∧ atI xs i = some v ∧ Q v H
  | _, _ => False
theorem oIx : IxR X (yIx X.K) := IxR.imp ix_seq fun x y H Q h => by
  unfold yIx at h
  split at h
  · obtain ⟨h1, c, h2, h3⟩ := h
    exact .inr (.inr ⟨_, _, c, rfl, rfl, h1, h2, h3⟩)
  · obtain ⟨xs, v, h1, h2, h3⟩ := h
    rcases h1 with h1 | h1
    · exact .inl ⟨_, xs, _, v, rfl, rfl, h1, h2, h3⟩
    · exact .inr (.inl ⟨_, xs, _, v, rfl, rfl, h1, h2, h3⟩)
  · exact h.elim
theorem ye_ix (ha : PE X a ta) (hb : PE X b tb) (hs : PlainIx b := by exact fun _ _ => rfl) : PE X (.Subscript a b pos) (tOp (yIx X.K) ta tb) := pe_ix oIx ha hb hs
def ySetI : TSet := fun o i v H Q => match o, i with
  | .ref p, .int k => ∃ xs j, H p = some (.lst xs) ∧ ixN xs.length k = some j ∧ Q (upd H p (.lst (xs.set j v)))
  | _, _ => False
theorem oSetI : PSet X ySetI := PSet.imp set_list fun o i v H Q h => by
  unfold ySetI at h
  split at h
  · obtain ⟨xs, j, h1, h2, h3⟩ := h
    exact ⟨_, xs, _, j, rfl, rfl, h1, h2, h3⟩
  · exact h.elim

/-! ### built-ins -/
def yLen (K : PySem.W.Frag) : List V → Hp → VK → Prop := fun xs H Q => match xs with
  | [.str z] => z.length ≤ sizeLine ∧ Q (.int z.length) H
  | [.ref p] => ∃ ys, (SqL K H p ys ∨ SqT K H p ys) ∧ Q (.int ys.length) H
  | _ => False
theorem cLen : CallR X (.builtin "len") (yLen X.K) := by
  intro pins s σ H xs us Q I r h
  unfold yLen at h
  split at h
  · exact call_len_str pins s σ H _ us Q I r ⟨_, rfl, h⟩
  · obtain ⟨ys, h1, h2⟩ := h
    exact call_len_seq pins s σ H _ us Q I r ⟨_, ys, rfl, h1, h2⟩
  · exact h.elim
def yAbs : List V → Hp → VK → Prop := fun xs H Q => match xs with
  | [.int i] => Q (.int (i.natAbs : Int)) H
  | _ => False
theorem cAbs : CallR X (.builtin "abs") yAbs := CallR.imp call_abs fun xs H Q h => by
  unfold yAbs at h
  split at h
  · rename_i i
    refine ⟨i, rfl, ?_⟩
    have e : (if i < 0 then -i else i) = (i.natAbs : Int) := by split <;> omega
    rw [e]
    exact h
  · exact h.elim
def yMax2 : List V → Hp → VK → Prop := fun xs H Q => match xs with
  | [.int i, .int j] => Q (.int (max i j)) H
  | _ => False
def yMin2 : List V → Hp → VK → Prop := fun xs H Q => match xs with
  | [.int i, .int j] => Q (.int (min i j)) H
  | _ => False
theorem cMax2 (hc : X.calm = true) : CallR X (.builtin "max") yMax2 := CallR.imp (call_max2 hc) fun xs H Q h => by
  unfold yMax2 at h
  split at h
  · rename_i i j
    refine ⟨i, j, rfl, ?_⟩
    have e : (if j > i then j else i) = max i j := by split <;> omega
    rw [e]
    exact h
  · exact h.elim
theorem cMin2 (hc : X.calm = true) : CallR X (.builtin "min") yMin2 := CallR.imp (call_min2 hc) fun xs H Q h => by
  unfold yMin2 at h
  split at h
  · rename_i i j
    refine ⟨i, j, rfl, ?_⟩
    have e : (if j < i then j else i) = min i j := by split <;> omega
    rw [e]
    exact h
  · exact h.elim
def yDivmod : List V → Hp → VK → Prop := fun xs H Q => match xs with
  | [.int i, .int j] => (0 < j ∧ j < 10 ^ 70) ∧ ∀ p, H p = none → Q (.ref p) (upd H p (.tup [.int (i / j), .int (i % j)]))
  | _ => False
theorem divP {i j : Int} (h : 0 < j) (h2 : j < 10 ^ 70) : CDivP i j := by
  refine ⟨h, ?_⟩
  have hb := small_div h h2
  have hl : j.natAbs.log2 < 240 := by
    by_cases h0 : j.natAbs = 0
    · omega
    · exact (Nat.log2_lt h0).mpr hb
  show (decide ((if j == 0 then 0 else j.natAbs.log2 / 30 + 1) > 300) && _) = false
  rw [decide_eq_false, Bool.false_and]
  split <;> omega
theorem cDivmod : CallR X (.builtin "divmod") yDivmod := CallR.imp call_divmodW fun xs H Q h => by
  unfold yDivmod at h
  split at h
  · exact ⟨_, _, rfl, divP h.1.1 h.1.2, h.2⟩
  · exact h.elim
def yInt1 : List V → Hp → VK → Prop := fun xs H Q => match xs with
  | [.int i] => Q (.int i) H
  | [.bl k] => Q (.int (if k then 1 else 0)) H
  | _ => False
theorem cInt1 : CallR X (.type "int") yInt1 := CallR.imp call_int1 fun xs H Q h => by
  unfold yInt1 at h
  split at h
  · exact .inl ⟨_, rfl, h⟩
  · exact .inr ⟨_, rfl, h⟩
  · exact h.elim
def yTuple (K : PySem.W.Frag) : List V → Hp → VK → Prop := fun xs H Q => match xs with
  | [.ref p] => ∃ ys, (SqL K H p ys ∧ ∀ l, H l = none → Q (.ref l) (upd H l (.tup ys))) ∨ (SqT K H p ys ∧ Q (.ref p) H)
  | _ => False
theorem cTuple : CallR X (.type "tuple") (yTuple X.K) := CallR.imp call_tuple_of fun xs H Q h => by
  unfold yTuple at h
  split at h
  · obtain ⟨ys, h⟩ := h
    exact ⟨_, ys, rfl, h⟩
  · exact h.elim
def yList (K : PySem.W.Frag) : List V → Hp → VK → Prop := fun xs H Q => match xs with
  | [.ref p] => ∃ ys, (SqL K H p ys ∨ SqT K H p ys) ∧ ∀ l, H l = none → Q (.ref l) (upd H l (.lst ys))
  | _ => False
theorem cList : CallR X (.type "list") (yList X.K) := CallR.imp call_list_of fun xs H Q h => by
  unfold yList at h
  split at h
  · obtain ⟨ys, h1, h2⟩ := h
    exact ⟨_, ys, rfl, h1, h2⟩
  · exact h.elim
def ySum (K : PySem.W.Frag) : List V → Hp → VK → Prop := fun xs H Q => match xs with
  | [.ref p] => ∃ ns : List Int, SqL K H p (ns.map V.int) ∧ Q (.int ns.sum) H
  | _ => False
theorem cSum (hc : X.calm = true) : CallR X (.builtin "sum") (ySum X.K) := CallR.imp (cr_sum hc) fun xs H Q h => by
  unfold ySum at h
  split at h
  · obtain ⟨ns, h1, h2⟩ := h
    exact ⟨_, ns, rfl, h1, h2⟩
  · exact h.elim
def yAll (K : PySem.W.Frag) : List V → Hp → VK → Prop := fun xs H Q => match xs with
  | [.ref p] => ∃ bs : List Bool, SqL K H p (bs.map V.bl) ∧ Q (.bl (bs.all id)) H
  | _ => False
theorem cAll (hc : X.calm = true) : CallR X (.builtin "all") (yAll X.K) := CallR.imp (cr_all hc) fun xs H Q h => by
  unfold yAll at h
  split at h
  · obtain ⟨ns, h1, h2⟩ := h
    exact ⟨_, ns, rfl, h1, h2⟩
  · exact h.elim
def yAny (K : PySem.W.Frag) : List V → Hp → VK → Prop := fun xs H Q => match xs with
  | [.ref p] => ∃ bs : List Bool, SqL K H p (bs.map V.bl) ∧ Q (.bl (bs.any id)) H
  | _ => False
theorem cAny (hc : X.calm = true) : CallR X (.builtin "any") (yAny X.K) := CallR.imp (cr_any hc) fun xs H Q h => by
  unfold yAny at h
  split at h
  · obtain ⟨ns, h1, h2⟩ := h
    exact ⟨_, ns, rfl, h1, h2⟩
  · exact h.elim
/-- sorted of a list of whole numbers -/
def ySorted (K : PySem.W.Frag) : List V → Hp → VK → Prop := fun xs H Q => match xs with
  | [.ref p] => ∃ ns : List Int, SqL K H p (ns.map V.int) ∧ ∀ (ns' : List Int) (q : Addr), ns'.Perm ns → ns'.Pairwise (· ≤ ·) → H q = none → Q (.ref q) (upd H q (.lst (ns'.map V.int)))
  | _ => False
theorem cSorted : CallR X (.builtin "sorted") (ySorted X.K) := CallR.imp cr_sortedI fun xs H Q h => by
  unfold ySorted at h
  split at h
  · obtain ⟨ns, h1, h2⟩ := h
    exact ⟨_, ns, rfl, h1, h2⟩
  · exact h.elim

/-! ### methods of lists and texts -/
def yAppend : V → List V → Hp → VK → Prop := fun x vs H Q => match x, vs with
  | .ref l, [y] => ∃ xs, H l = some (.lst xs) ∧ xs.length < sizeLine ∧ Q .non (upd H l (.lst (xs ++ [y])))
  | _, _ => False
theorem mAppend : MtR X "list.append" yAppend := MtR.imp mt_append fun x vs H Q h => by
  unfold yAppend at h
  split at h
  · obtain ⟨xs, h1, h2, h3⟩ := h
    exact ⟨_, xs, _, rfl, rfl, h1, h2, h3⟩
  · exact h.elim
/-- a list's method: the receiver is a list -/
def yBM (K : PySem.W.Frag) (r : V → List V → Hp → VK → Prop) (to : TE) (t : TA) : TE := fun σ H Q => to σ H fun x H1 => t σ H1 fun xs H2 => r x xs H2 Q

/-! ### targets -/
variable {tgE : Expr}
def yNilG : TGs := fun vs σ H Q => match vs with
  | [] => Q σ H
  | _ => False
def yConsG (t : TG) (u : TGs) : TGs := fun vs σ H Q => match vs with
  | v :: r => t v σ H fun σ' H' => u r σ' H' Q
  | [] => False
theorem yg_nil : PGs X [] yNilG := PGs.imp pgs_nil fun vs σ H Q h => by
  unfold yNilG at h
  split at h
  · exact ⟨rfl, h⟩
  · exact h.elim
def yTupG (K : PySem.W.Frag) (n : Nat) (t : TGs) : TG := fun v σ H Q => match v with
  | .ref a => ∃ xs, SqT K H a xs ∧ xs.length = n ∧ t xs σ H Q
  | _ => False

/-! ### walks -/
def ySeqL (K : PySem.W.Frag) (tl : TE) : TI := fun σ H R => tl σ H fun x H1 => match x with
  | .ref a => (∃ xs, SqL K H1 a xs) ∧ R (Itl K a) H1
  | _ => False
def ySeqT (K : PySem.W.Frag) (tl : TE) : TI := fun σ H R => tl σ H fun x H1 => match x with
  | .ref a => (∃ xs, SqT K H1 a xs) ∧ R (Itt K a) H1
  | _ => False
def ySeqS (tl : TE) : TI := fun σ H R => tl σ H fun x H1 => match x with
  | .str z => R (Its z) H1
  | _ => False
def yRng1 (ta : TA) : TI := fun σ H R => ta σ H fun vs H1 => match vs with
  | [.int j] => (-(2 ^ 62) ≤ j ∧ j < 2 ^ 62) ∧ R (Itr 0 j.toNat) H1
  | _ => False
def yRng2 (ta : TA) : TI := fun σ H R => ta σ H fun vs H1 => match vs with
  | [.int i, .int j] => (-(2 ^ 62) ≤ i ∧ i < 2 ^ 62 ∧ -(2 ^ 62) ≤ j ∧ j < 2 ^ 62) ∧ R (Itr i (j - i).toNat) H1
  | _ => False
/-- readings with weaker wishes -/
def cl (t : TE) : TE := fun σ H Q => ∃ Q' : VK, t σ H Q' ∧ ∀ x H1, Q' x H1 → Q x H1
def clA (t : TA) : TA := fun σ H Q => ∃ Q' : List V → Hp → Prop, t σ H Q' ∧ ∀ x H1, Q' x H1 → Q x H1
theorem PE.cl (h : PE X e te) : PE X e (cl te) := ⟨fun pins s σ H Q I ⟨Q', h1, h2⟩ => thn (h.run pins s σ H Q' I h1) fun _ _ ⟨x, H1, I1, r1, q1⟩ => ⟨x, H1, I1, r1, h2 x H1 q1⟩⟩
theorem PA.cl (h : PA X es t) : PA X es (clA t) := ⟨fun pos pins s σ H Q I ⟨Q', h1, h2⟩ => thn (h.run pos pins s σ H Q' I h1) fun _ _ ⟨x, H1, I1, r1, q1⟩ => ⟨x, H1, I1, r1, h2 x H1 q1⟩⟩
theorem yi_list {tg l : Expr} {tl : TE} (hl : PE X l tl) : PI X tg l (ySeqL X.K tl) := PI.imp (pi_list (PE.cl hl)) fun σ H R h => ⟨_, h, fun x H1 q => by
  cases x with
  | ref a => exact ⟨a, rfl, q⟩
  | _ => exact q.elim⟩
theorem yi_tup {tg l : Expr} {tl : TE} (hl : PE X l tl) : PI X tg l (ySeqT X.K tl) := PI.imp (pi_tup (PE.cl hl)) fun σ H R h => ⟨_, h, fun x H1 q => by
  cases x with
  | ref a => exact ⟨a, rfl, q⟩
  | _ => exact q.elim⟩
theorem yi_str {tg l : Expr} {tl : TE} (hl : PE X l tl) : PI X tg l (ySeqS tl) := PI.imp (pi_str (PE.cl hl)) fun σ H R h => ⟨_, h, fun x H1 q => by
  cases x with
  | str a => exact ⟨a, rfl, q⟩
  | _ => exact q.elim⟩
theorem yi_range1 {tg a : Expr} {ta : TA} {p pos : Pos} (hg : Gl X "range") (hm : X.mg "range" = none) (ha : PA X [a] ta) (hs : starEach [a] X.env = [(false, eval a X.env)] := by rfl) : PI X tg (.Call (.Name "range" p) [a] [] pos) (yRng1 ta) :=
  PI.imp (pi_range1 hg hm (PA.cl ha) hs) fun σ H R h => ⟨_, h, fun x H1 q => by
    split at q
    · exact ⟨_, rfl, q.1.1, q.1.2, q.2⟩
    · exact q.elim⟩
theorem yi_range2 {tg a b : Expr} {ta : TA} {p pos : Pos} (hg : Gl X "range") (hm : X.mg "range" = none) (ha : PA X [a, b] ta) (hs : starEach [a, b] X.env = [(false, eval a X.env), (false, eval b X.env)] := by rfl) (hs2 : starEach [b] X.env = [(false, eval b X.env)] := by rfl) :
    PI X tg (.Call (.Name "range" p) [a, b] [] pos) (yRng2 ta) :=
  PI.imp (pi_range2 hg hm (PA.cl ha) hs hs2) fun σ H R h => ⟨_, h, fun x H1 q => by
    split at q
    · exact ⟨_, _, rfl, q.1, q.2⟩
    · exact q.elim⟩
theorem yg_cons {tg : Expr} {tgs : List Expr} {t : TG} {u : TGs} (h1 : PG X tg t) (h2 : PGs X tgs u)
    (hs : (assignEach (tg :: tgs) X.env).map (·.2) = assign tg X.env :: (assignEach tgs X.env).map (·.2) := by rfl) : PGs X (tg :: tgs) (yConsG t u) := PGs.imp (pgs_cons h1 h2 hs) fun vs σ H Q h => by
  unfold yConsG at h
  split at h
  · exact ⟨_, _, rfl, h⟩
  · exact h.elim
theorem yg_tup {tgs : List Expr} {k : Nat} {t : TGs} {n : Nat} (hc : X.calm = true) (h : PGs X tgs t)
    (hn : (assignEach tgs X.env).length = n := by rfl) (hst : (assignEach tgs X.env).findIdx? (·.1) = none := by rfl) : PG X (.Tuple tgs k pos) (yTupG X.K n t) := PG.imp (pg_tup hc h hn hst) fun v σ H Q h => by
  unfold yTupG at h
  split at h
  · obtain ⟨xs, h1, h2, h3⟩ := h
    exact ⟨_, xs, rfl, h1, h2, h3⟩
  · exact h.elim
/-- l.append(e) -/
def yApp (to te : TE) : TE := fun σ H Q => to σ H fun x H1 => match x with
  | .ref l => (∃ xs, H1 l = some (.lst xs)) ∧ te σ H1 fun y H2 => ∃ xs, H2 l = some (.lst xs) ∧ xs.length < sizeLine ∧ Q .non (upd H2 l (.lst (xs ++ [y])))
  | _ => False
variable {o : Expr} {to : TE}
theorem ye_append (h : PE X e (tBM X.K "list" rAppend (cl to) (tCons (cl te) tNil))) : PE X e (yApp to te) :=
  PE.imp h fun σ H Q h => ⟨_, h, fun x H1 q => by
    cases x with
    | ref l =>
      obtain ⟨⟨xs, hx⟩, q⟩ := q
      refine ⟨.inl ⟨rfl, xs, SqL.of hx⟩, _, q, fun y H2 q2 => ?_⟩
      obtain ⟨ys, h1, h2, h3⟩ := q2
      exact ⟨l, ys, y, rfl, rfl, h1, h2, h3⟩
    | _ => exact q.elim⟩
/-- l.extend(e), l.reverse() -/
def yExt (to te : TE) : TE := fun σ H Q => to σ H fun x H1 => match x with
  | .ref l => (∃ xs, H1 l = some (.lst xs)) ∧ te σ H1 fun y H2 => match y with
    | .ref b => ∃ xs ys, H2 l = some (.lst xs) ∧ H2 b = some (.lst ys) ∧ xs.length + ys.length ≤ sizeLine ∧ Q .non (upd H2 l (.lst (xs ++ ys)))
    | _ => False
  | _ => False
theorem ye_extend (h : PE X e (tBM X.K "list" rExtend (cl to) (tCons (cl te) tNil))) : PE X e (yExt to te) :=
  PE.imp h fun σ H Q h => ⟨_, h, fun x H1 q => by
    cases x with
    | ref l =>
      obtain ⟨⟨xs, hx⟩, q⟩ := q
      refine ⟨.inl ⟨rfl, xs, SqL.of hx⟩, _, q, fun y H2 q2 => ?_⟩
      cases y with
      | ref b =>
        obtain ⟨zs, ys, h1, h2, h3, h4⟩ := q2
        exact ⟨l, b, zs, ys, rfl, rfl, h1, h2, h3, h4⟩
      | _ => exact q2.elim
    | _ => exact q.elim⟩
def yRev (to : TE) : TE := fun σ H Q => to σ H fun x H1 => match x with
  | .ref l => ∃ xs, H1 l = some (.lst xs) ∧ Q .non (upd H1 l (.lst xs.reverse))
  | _ => False
theorem ye_reverse (h : PE X e (tBM0 X.K "list" rReverse (cl to))) : PE X e (yRev to) :=
  PE.imp h fun σ H Q h => ⟨_, h, fun x H1 q => by
    cases x with
    | ref l =>
      obtain ⟨xs, hx, q⟩ := q
      exact ⟨.inl ⟨rfl, xs, SqL.of hx⟩, l, xs, rfl, rfl, hx, q⟩
    | _ => exact q.elim⟩
/-- sep.join(e) -/
def yJoin (K : PySem.W.Frag) (to te : TE) : TE := fun σ H Q => to σ H fun x H1 => match x with
  | .str a => te σ H1 fun y H2 => match y with
    | .ref p => ∃ ys : List Str, (SqL K H2 p (ys.map V.str) ∨ SqT K H2 p (ys.map V.str)) ∧ (ys.map (·.length)).sum + ys.length * a.length ≤ 16777216 ∧ Q (.str (Txt.join a ys)) H2
    | _ => False
  | _ => False
theorem ye_join {apos cpos : Pos} (ho : PE X o to) (he : PE X e te) (hs : starEach [e] X.env = [(false, eval e X.env)] := by rfl) (hbase : attributeBase o "join" X.env (eval o X.env) = eval o X.env := by rfl) (hline : (apos.endLine == cpos.line) = true := by rfl) :
    PE X (.Call (.Attribute o "join" apos) [e] [] cpos) (yJoin X.K to te) :=
  PE.imp (pe_join (PE.cl ho) (PE.cl he) hs hbase hline) fun σ H Q h => ⟨_, h, fun x H1 q => by
    cases x with
    | str a =>
      refine ⟨⟨a, rfl⟩, _, q, fun y H2 q2 => ?_⟩
      cases y with
      | ref p =>
        obtain ⟨ys, h1, h2, h3⟩ := q2
        exact ⟨a, p, ys, rfl, rfl, h1, h2, h3⟩
      | _ => exact q2.elim
    | _ => exact q.elim⟩
/-- slices -/
def yPart (t : TE) : TO := fun σ H Q => t σ H fun x H1 => match x with
  | .int i => Q (some i) H1
  | _ => False
theorem yo_some (h : PE X e te) : PO X (some e) (yPart te) := by
  have h2 : PO X (some e) (tPart (Y.cl te)) := po_some (PE.cl h)
  constructor
  intro pins s σ H Q I hw
  refine h2.run pins s σ H Q I ⟨_, hw, fun x H1 q => ?_⟩
  cases x with
  | int i => exact ⟨i, rfl, q⟩
  | _ => exact q.elim
def ySl (K : PySem.W.Frag) : V → Option Int → Option Int → Hp → VK → Prop := fun x lo hi H Q => match x with
  | .str z => z.length ≤ sizeLine ∧ Q (.str (cutS z lo hi)) H
  | .ref a => (∃ xs, SqL K H a xs ∧ ∀ p, H p = none → Q (.ref p) (upd H p (.lst (cutV xs lo hi)))) ∨ rSlA K (.ref a) lo hi H Q
  | _ => False
theorem oSl : SlR X (ySl X.K) := by
  intro pins s σ H x v vl vu lo hi sl Q I rx hs pl pu h
  unfold ySl at h
  split at h
  · exact sl_str pins s σ H _ v vl vu lo hi sl Q I rx hs pl pu ⟨_, rfl, h⟩
  · rcases h with ⟨xs, h1, h2⟩ | h
    · exact sl_list pins s σ H _ v vl vu lo hi sl Q I rx hs pl pu ⟨_, xs, rfl, h1, h2⟩
    · exact sl_tupA pins s σ H _ v vl vu lo hi sl Q I rx hs pl pu h
  · exact h.elim
theorem ye_slice {lo hi : Option Expr} {tl th : TO} {p2 : Pos} (he : PE X e te) (hl : PO X lo tl) (hu : PO X hi th) : PE X (.Subscript e (.Slice lo hi none p2) pos) (tSl (ySl X.K) te tl th) := pe_slice oSl he hl hu
end

/-! ### defs of the text, by name -/
/-- the def st stands at the module's name x -/
def DefAt (K : PySem.W.Frag) (mg : Str → Option Value) (x : Str) (st : Stmt) : Prop :=
  ∃ f fd, FunD K x x (defArgs st) (defBody st) (defScope st) [] [] f fd ∧ mg x = some (.ref f)
/-- a call of the module's name x keeps sp, by at most level k -/
def Cal (P : Program) (w : World) (K : PySem.W.Frag) (mg : Str → Option Value) (base : Heap) (k : Nat) (x : Str) (sp : Sp) : Prop :=
  ∃ f fd ps, FnG P w K mg base CX0 k f fd ps sp ∧ mg x = some (.ref f) ∧ PySem.W.keepIn K (.ref f) = true ∧ Binds K fd ps []
section
variable {P : Program} {w : World} {K : PySem.W.Frag} {mg : Str → Option Value} {base : Heap} {k : Nat} {x : Str} {sp : Sp}
theorem fnG_of {st : Stmt} {N ps : List Str} {f : Addr} {fd : FuncData} (F : FunD K x x (defArgs st) (defBody st) (defScope st) [] [] f fd) (S : FnScope N ps (defScope st))
    (ar : ∀ vs H Q E, sp vs H Q E → vs.length = ps.length)
    (hb : ∀ (f : Addr) (cd : Value) (A : Around) (out : List Env) (s : Shared) (H : Hp) (vs : List V) (Q : VK) (E : XK), Room k (A.deeper (envOfC x (defScope st) s.heap.objs.size f cd)) → (A.deeper (envOfC x (defScope st) s.heap.objs.size f cd)).guards = some [] → sp vs H Q E →
      ∃ t, PSs (cxOf CX0 P w K mg base N x (defScope st) f cd A out s H E).nox (defBody st) t ∧ t { nx := fun _ H' => Q .non H', rt := Q } (start N vs) H) : FnG P w K mg base CX0 (k + 1) f fd ps sp := by
  refine funD_goes F S ar fun cd A out s H vs Q E r g q => ?_
  obtain ⟨t, h1, h2⟩ := hb f cd A out s H vs Q E r g q
  exact ⟨t, h1.nox, h2⟩
theorem cal_of {st : Stmt} {N ps : List Str} (D : DefAt K mg x st) (S : FnScope N ps (defScope st))
    (bnd : ∀ (kV doc pm : Value) (an : Option Addr) (cdv ct : Value) (us : List Value), us.length = ps.length → bindArgs (PySem.W.fnOf x x (defArgs st) (defBody st) (defScope st) .none kV doc pm an cdv ct) ⟨us, []⟩ = pure (ps.zip us))
    (ar : ∀ vs H Q E, sp vs H Q E → vs.length = ps.length)
    (hb : ∀ (f : Addr) (cd : Value) (A : Around) (out : List Env) (s : Shared) (H : Hp) (vs : List V) (Q : VK) (E : XK), Room k (A.deeper (envOfC x (defScope st) s.heap.objs.size f cd)) → (A.deeper (envOfC x (defScope st) s.heap.objs.size f cd)).guards = some [] → sp vs H Q E →
      ∃ t, PSs (cxOf CX0 P w K mg base N x (defScope st) f cd A out s H E).nox (defBody st) t ∧ t { nx := fun _ H' => Q .non H', rt := Q } (start N vs) H) : Cal P w K mg base (k + 1) x sp := by
  obtain ⟨f, fd, F, hm⟩ := D
  refine ⟨f, fd, ps, funD_goes F S ar fun cd A out s H vs Q E r g q => ?_, hm, F.kp, F.bindsN bnd⟩
  obtain ⟨t, h1, h2⟩ := hb f cd A out s H vs Q E r g q
  exact ⟨t, h1.nox, h2⟩
theorem Cal.up {j : Nat} (c : Cal P w K mg base j x sp) (h : j ≤ k) : Cal P w K mg base k x sp := by
  obtain ⟨f, fd, ps, F, r⟩ := c
  exact ⟨f, fd, ps, F.up h, r⟩
theorem Cal.weak {sp' : Sp} (c : Cal P w K mg base k x sp) (h : ∀ vs H Q E, sp' vs H Q E → sp vs H Q E) : Cal P w K mg base k x sp' := by
  obtain ⟨f, fd, ps, F, r⟩ := c
  exact ⟨f, fd, ps, F.weak h, r⟩
end
section
variable {X : Cx} {k j : Nat} {x : Str} {sp : Sp} {p pos : Pos} {e : Expr} {es : List Expr} {t : TA}
def yCall (sp : Sp) (t : TA) : TE := fun σ H Q => t σ H fun vs H1 => sp vs H1 Q E0
theorem ye_call (c : Cal X.prog X.w X.K X.mg X.base k x sp) (room : Room j X.A) (gd : X.A.guards = some []) (hg : Gl X x) (ha : PA X (e :: es) t) (hk : k ≤ j := by decide) (hdb : (x == ("__debug__" : Str)) = false := by decide)
    (h1 : starEach (e :: es) X.env = (false, eval e X.env) :: starEach es X.env := by rfl) (h2 : (backTo pos (starEach es X.env)).any (·.1) = false := by rfl) :
    PE X (.Call (.Name x p) (e :: es) [] pos) (yCall sp t) := by
  obtain ⟨f, fd, ps, F, hm, kp, hb⟩ := c
  refine PE.imp (pe_callG (F.up hk) room gd hg hm kp hb .nil pass0 ha hdb h1 h2) fun σ H Q h => ?_
  have e1 : tCall sp [] E0 t = yCall sp t := by
    unfold tCall yCall
    funext σ H Q
    simp only [List.append_nil]
  rw [e1]
  exact h
end
end Y

set_option Elab.async false
set_option linter.all false
set_option maxRecDepth 100000
set_option maxHeartbeats 2000000
set_option exponentiation.threshold 600
/-! Y2: stores with slots found by themselves; repr of data; what stays; data that never change. -/
namespace Y
open PySem PySem.Spec PyProof.Rows L2

section
variable {X : Cx} {e : Expr} {te : TE} {pos : Pos}
theorem yg_name (i : Nat) {x : Str} (hN : X.N.Nodup) (hi : X.N[i]? = some x := by rfl) (hx : Loc X.env.scope x := by first | exact Or.inl rfl | exact Or.inr rfl)
    (hf : X.fn x = true ∨ X.env.scope.names.lookup x = some .local := by first | exact Or.inl rfl | exact Or.inr rfl) : PG X (.Name x pos) (gName i) := pg_name hN hi hx hf
theorem ys_set (i : Nat) {x : Str} {pos' : Pos} (hN : X.N.Nodup) (he : PE X e te) (hi : X.N[i]? = some x := by rfl) (hx : Loc X.env.scope x := by first | exact Or.inl rfl | exact Or.inr rfl)
    (hs : swapsWith e (some (.Name x pos')) pos.line X.env = pure false := by rfl) (hf : X.fn x = true ∨ X.env.scope.names.lookup x = some .local := by first | exact Or.inl rfl | exact Or.inr rfl) :
    PS X (.Assign [.Name x pos'] e pos) (tAsg te (gName i)) := ps_set hN hi hx he hs hf
def yIAdd : TIp := fun x y H Q => match x, y with
  | .int i, .int j => Q (.int (i + j)) H
  | _, _ => False
theorem oIAdd : PIp X .Add yIAdd := by
  intro pins s σ H x y v u Q I rx ry h
  unfold yIAdd at h
  split at h
  · exact ip_add pins s σ H _ _ v u Q I rx ry ⟨_, _, rfl, rfl, h⟩
  · exact h.elim
def yISub : TIp := fun x y H Q => match x, y with
  | .int i, .int j => Q (.int (i - j)) H
  | _, _ => False
theorem oISub : PIp X .Sub yISub := by
  intro pins s σ H x y v u Q I rx ry h
  unfold yISub at h
  split at h
  · exact ip_sub pins s σ H _ _ v u Q I rx ry ⟨_, _, rfl, rfl, h⟩
  · exact h.elim
theorem ys_aug (i : Nat) {x : Str} {op : Operator} {ti : TIp} {pos' : Pos} (hN : X.N.Nodup) (he : PE X e te) (ho : PIp X op ti) (hi : X.N[i]? = some x := by rfl) (hx : Loc X.env.scope x := by first | exact Or.inl rfl | exact Or.inr rfl)
    (hf : X.fn x = true ∨ X.env.scope.names.lookup x = some .local := by first | exact Or.inl rfl | exact Or.inr rfl) : PS X (.AugAssign (.Name x pos') op e pos) (tAug i te ti) := ps_aug hN hi hx he ho hf
end

/-! ### repr of data -/
mutual
/-- shown by repr within the line: whole numbers below 10 ** 500, texts of code points -/
def fine : PyData → Bool
  | .none | .bool _ => true
  | .int i => decide (i.natAbs < 10 ^ 500)
  | .str x => x.cps.toList.all fun c => decide (c < 0x110000)
  | .list xs | .tuple xs => fineAll xs
  | .dict _ => false
def fineAll : List PyData → Bool
  | [] => true
  | x :: xs => fine x && fineAll xs
end
theorem log_of_fine {i : Int} (h : i.natAbs < 10 ^ 500) : i.natAbs.log2 < 1920 := by
  by_cases h0 : i.natAbs = 0
  · rw [h0]; decide
  · refine (Nat.log2_lt h0).mpr (Nat.lt_trans h ?_)
    decide +kernel
mutual
theorem fine_lay : ∀ d : PyData, fine d = true → d.canLay0 = true
  | .none, _ => rfl
  | .bool _, _ => rfl
  | .int _, _ => rfl
  | .str x, h => by
    show x.cps.all (· < 0x110000) = true
    rw [← Array.all_toList]
    exact h
  | .list xs, h => fineAll_lay xs h
  | .tuple xs, h => fineAll_lay xs h
  | .dict _, h => by cases h
theorem fineAll_lay : ∀ xs : List PyData, fineAll xs = true → PyData.canLayAll0 xs = true
  | [], _ => rfl
  | x :: xs, h => by
    have h' : fine x = true ∧ fineAll xs = true := by simpa [fineAll] using h
    show (x.canLay0 && PyData.canLayAll0 xs) = true
    rw [fine_lay x h'.1, fineAll_lay xs h'.2]; rfl
end
mutual
theorem fine_show : ∀ d : PyData, fine d = true → d.showable = true
  | .none, _ => rfl
  | .bool _, _ => rfl
  | .int i, h => by
    have h' : i.natAbs < 10 ^ 500 := by simpa [fine] using h
    show decide (i.natAbs.log2 < 1920) = true
    exact decide_eq_true (log_of_fine h')
  | .str x, h => rfl
  | .list xs, h => by
    rw [PyData.showable]
    exact fineAll_show xs h
  | .tuple xs, h => by
    rw [PyData.showable]
    exact fineAll_show xs h
  | .dict _, h => by cases h
theorem fineAll_show : ∀ xs : List PyData, fineAll xs = true → PyData.showableAll xs = true
  | [], _ => rfl
  | x :: xs, h => by
    have h' : fine x = true ∧ fineAll xs = true := by simpa [fineAll] using h
    rw [PyData.showableAll, fine_show x h'.1, fineAll_show xs h'.2]; rfl
end
mutual
theorem fine_short : ∀ d : PyData, fine d = true → d.leavesShort 501 = true
  | .none, _ => by simp [PyData.leavesShort]
  | .bool _, _ => by simp [PyData.leavesShort]
  | .int i, h => by
    have h' : i.natAbs < 10 ^ 500 := by simpa [fine] using h
    rw [PyData.leavesShort, decide_eq_true_eq]
    show (Str.ofString (toString i)).length ≤ 501
    have e := int_text_length_le10 (k := 500) (by decide) h'
    rw [PySem.ofString_length]
    exact e
  | .str x, h => by
    have h' : (x.cps.toList.all fun c => decide (c < 0x110000)) = true := h
    rw [PyData.leavesShort]
    rw [List.all_eq_true] at h' ⊢
    intro c hc
    have q := h' c hc
    rw [decide_eq_true_eq] at q ⊢
    exact Nat.lt_trans q (by decide)
  | .list xs, h => by
    rw [PyData.leavesShort]
    exact fineAll_short xs h
  | .tuple xs, h => by
    rw [PyData.leavesShort]
    exact fineAll_short xs h
  | .dict _, h => by cases h
theorem fineAll_short : ∀ xs : List PyData, fineAll xs = true → PyData.leavesShortAll 501 xs = true
  | [], _ => by simp [PyData.leavesShortAll]
  | x :: xs, h => by
    have h' : fine x = true ∧ fineAll xs = true := by simpa [fineAll] using h
    rw [PyData.leavesShortAll, fine_short x h'.1, fineAll_short xs h'.2]; rfl
end
theorem fine_fits {d : PyData} (h : fine d = true) (hb : d.bulk ≤ 33000) : d.shown.length ≤ sizeLine := by
  have h1 := PyData.shown_le_bulk 501 (by decide) d (fine_short d h)
  have e : sizeLine = 16777216 := by decide
  rw [e]
  omega
theorem fine_shaped {d : PyData} (h : fine d = true) (hd : d.depth ≤ 50) : SeqAt.shaped d = true := by
  unfold SeqAt.shaped
  rw [fine_lay d h, decide_eq_true (by omega : d.depth ≤ 64)]; rfl
/-- d can be shown: fine, not deep, not bulky -/
structure Sh (d : PyData) : Prop where
  fine : fine d = true
  deep : d.depth ≤ 50
  bulk : d.bulk ≤ 33000
def yRepr (K : PySem.W.Frag) : List V → Hp → VK → Prop := fun xs H Q => match xs with
  | [v] => ∃ d, Dp K H v d ∧ Sh d ∧ Q (.str d.shown) H
  | _ => False
theorem cRepr {X : Cx} (hu : X.A.units + 64 < cLine) (gd : X.A.guards = some []) : CallR X (.builtin "repr") (yRepr X.K) := by
  intro pins s σ H xs us Q I r h
  unfold yRepr at h
  split at h
  · rename_i v
    obtain ⟨d, hd, hS, q⟩ := h
    obtain ⟨u, rfl, ru⟩ : ∃ u, us = [u] ∧ RelV v u := by
      cases r with
      | cons r1 r2 => cases r2; exact ⟨_, rfl, r1⟩
    obtain ⟨as, rd⟩ := Dp.reads I d v u hd ru
    have sz := fine_fits hS.fine hS.bulk
    have lay := fine_lay d hS.fine
    cases hd with
    | non =>
      cases ru
      exact PySem.P.repr_of_none ⟨.str _, H, I.tok _, ⟨_, rfl⟩, q⟩
    | bl b =>
      cases ru
      exact PySem.P.repr_of_bool ⟨.str _, H, I.tok _, ⟨_, rfl⟩, q⟩
    | int i =>
      obtain ⟨t, rfl⟩ := ru
      have h' : i.natAbs < 10 ^ 500 := by have := hS.fine; simpa [Y.fine] using this
      exact PySem.P.repr_of_int (log_of_fine h') ⟨.str _, H, I.tok _, ⟨_, rfl⟩, q⟩
    | str x =>
      obtain ⟨t, rfl⟩ := ru
      exact PySem.P.repr_of_str ⟨.str _, H, I.tok _, ⟨_, rfl⟩, q⟩ sz
    | lst h1 h2 =>
      cases ru
      exact repr_of_reads' rd (fine_show _ hS.fine) (PyData.noDict_hsm (PyData.hasDict_of_canLay _ lay)) gd (by have := hS.deep; omega) (fun _ _ e => e) (fun h' u tk hk => ⟨.str _, H, I.kept hk, ⟨_, rfl⟩, q⟩) sz
    | tup h1 h2 =>
      cases ru
      exact repr_of_reads' rd (fine_show _ hS.fine) (PyData.noDict_hsm (PyData.hasDict_of_canLay _ lay)) gd (by have := hS.deep; omega) (fun _ _ e => e) (fun h' u tk hk => ⟨.str _, H, I.kept hk, ⟨_, rfl⟩, q⟩) sz
  · exact h.elim

/-! ### the rules whose readings name the written part: K is told, so that they stand within comprehensions, too -/
section
variable {X : Cx} {K : PySem.W.Frag}
theorem kAdd (h : X.K = K) : OpR X (binaryOp .Add) (yAdd K) := h ▸ oAdd
theorem kEq (h : X.K = K) (hu : X.A.units + 64 < cLine) : OpR X (compareOp .Eq) (yEq K) := h ▸ oEq hu
theorem kNe (h : X.K = K) (hu : X.A.units + 64 < cLine) : OpR X (compareOp .NotEq) (yNe K) := h ▸ oNe hu
theorem kIn (h : X.K = K) : OpR X (compareOp .In) (yIn K false) := h ▸ oIn
theorem kNotIn (h : X.K = K) : OpR X (compareOp .NotIn) (yIn K true) := h ▸ oNotIn
theorem kLen (h : X.K = K) : CallR X (.builtin "len") (yLen K) := h ▸ cLen
theorem kTuple (h : X.K = K) : CallR X (.type "tuple") (yTuple K) := h ▸ cTuple
theorem kList (h : X.K = K) : CallR X (.type "list") (yList K) := h ▸ cList
theorem kSum (h : X.K = K) (hc : X.calm = true) : CallR X (.builtin "sum") (ySum K) := h ▸ cSum hc
theorem kAll (h : X.K = K) (hc : X.calm = true) : CallR X (.builtin "all") (yAll K) := h ▸ cAll hc
theorem kAny (h : X.K = K) (hc : X.calm = true) : CallR X (.builtin "any") (yAny K) := h ▸ cAny hc
theorem kSorted (h : X.K = K) : CallR X (.builtin "sorted") (ySorted K) := h ▸ cSorted
theorem kRepr (h : X.K = K) (hu : X.A.units + 64 < cLine) (gd : X.A.guards = some []) : CallR X (.builtin "repr") (yRepr K) := h ▸ cRepr hu gd
theorem kIx {a b : Expr} {ta tb : TE} {pos : Pos} (h : X.K = K) (ha : PE X a ta) (hb : PE X b tb) (hs : PlainIx b := by exact fun _ _ => rfl) : PE X (.Subscript a b pos) (tOp (yIx K) ta tb) := h ▸ ye_ix ha hb hs
theorem kSl {e : Expr} {te : TE} {pos : Pos} {lo hi : Option Expr} {tl th : TO} {p2 : Pos} (h : X.K = K) (he : PE X e te) (hl : PO X lo tl) (hu : PO X hi th) : PE X (.Subscript e (.Slice lo hi none p2) pos) (tSl (ySl K) te tl th) := h ▸ ye_slice he hl hu
theorem kJoin {o e : Expr} {to te : TE} {apos cpos : Pos} (h : X.K = K) (ho : PE X o to) (he : PE X e te) (hs : starEach [e] X.env = [(false, eval e X.env)] := by rfl) (hbase : attributeBase o "join" X.env (eval o X.env) = eval o X.env := by rfl) (hline : (apos.endLine == cpos.line) = true := by rfl) :
    PE X (.Call (.Attribute o "join" apos) [e] [] cpos) (yJoin K to te) := h ▸ ye_join ho he hs hbase hline
theorem kgTup {tgs : List Expr} {k : Nat} {t : TGs} {n : Nat} {pos : Pos} (h0 : X.K = K) (hc : X.calm = true) (h : PGs X tgs t)
    (hn : (assignEach tgs X.env).length = n := by rfl) (hst : (assignEach tgs X.env).findIdx? (·.1) = none := by rfl) : PG X (.Tuple tgs k pos) (yTupG K n t) := h0 ▸ yg_tup hc h hn hst
theorem kiList {tg l : Expr} {tl : TE} (h : X.K = K) (hl : PE X l tl) : PI X tg l (ySeqL K tl) := h ▸ yi_list hl
theorem kiTup {tg l : Expr} {tl : TE} (h : X.K = K) (hl : PE X l tl) : PI X tg l (ySeqT K tl) := h ▸ yi_tup hl
end

/-! ### what stays -/
/-- the tables of code objects that a law's lambdas use: where, and the name of what they tell -/
class Tb where
  tabs : List (Addr × Str)
/-- the tables are as they should be -/
abbrev TbOk [Tb] (H : Hp) : Prop := LamX.Tabs Tb.tabs H
def NT : HO → Prop
  | .tbl _ => False
  | _ => True
def Pl : HO → Prop
  | .tbl _ => False
  | .ext _ => False
  | _ => True
def Pm : HO → Prop
  | .tup _ => False
  | .tbl _ => False
  | .ext _ => False
  | _ => True
/-- but for S all is as it was (tables may grow); tuples are always -/
structure Kp [Tb] (S : Addr → Prop) (H H' : Hp) : Prop where
  all : ∀ b o, H b = some o → ¬ S b → (nt : NT o := by exact True.intro) → H' b = some o
  tup : ∀ b xs, H b = some (.tup xs) → H' b = some (.tup xs)
  dom : ∀ b, H' b = none → H b = none
  tab : TbOk H → TbOk H'
abbrev No : Addr → Prop := fun _ => False
abbrev At (p : Addr) : Addr → Prop := fun b => b = p
section
variable [Tb] {S S' : Addr → Prop} {H H1 H2 : Hp} {p : Addr} {o : HO}
theorem Kp.refl (H : Hp) : Kp S H H := ⟨fun _ _ h _ _ => h, fun _ _ h => h, fun _ h => h, fun h => h⟩
theorem Kp.trans (a : Kp S H H1) (b : Kp S H1 H2) : Kp S H H2 := ⟨fun c o h n nt => b.all c o (a.all c o h n nt) n nt, fun c xs h => b.tup c xs (a.tup c xs h), fun c h => a.dom c (b.dom c h), fun h => b.tab (a.tab h)⟩
theorem Kp.mono (a : Kp S H H1) (h : ∀ b, S b → S' b) : Kp S' H H1 := ⟨fun c o e n nt => a.all c o e (fun z => n (h c z)) nt, a.tup, a.dom, a.tab⟩
theorem Kp.no (a : Kp No H H1) : Kp S H H1 := a.mono fun _ z => z.elim
theorem Kp.seq {K : PySem.W.Frag} {a : Addr} {xs : List V} (k : Kp S H H1) (h : SqL K H a xs) (n : ¬ S a := by exact fun z => z) : SqL K H1 a xs := by
  rcases h with (h | ⟨o, h⟩) | h
  · exact .inl (.inl (k.all a _ h n))
  · exact .inl (.inr ⟨o, k.all a _ h n⟩)
  · exact .inr h
theorem Kp.of (a : Same H H1) : Kp S H H1 := ⟨fun b o h _ _ => a b o h, fun b xs h => a b _ h, fun b h => a.free h, fun h => h.ext a⟩
/-- a new object -/
theorem Kp.new (h : H p = none) : Kp S H (upd H p o) := Kp.of fun b u e => by rw [upd_ne (ne_of_none e h)]; exact e
theorem tab_upd {u : HO} (h : H p = some u) (pl : Pl u) (t : TbOk H) : TbOk (upd H p o) := fun x hx => by
  obtain ⟨ps, h1, h2, h3⟩ := t x hx
  refine ⟨ps, ?_, h2, fun pos cv hc => ?_⟩
  · rw [upd_ne (fun z => by rw [z, h] at h1; rw [Option.some.inj h1] at pl; exact pl)]
    exact h1
  · obtain ⟨c, e1, e2⟩ := h3 pos cv hc
    refine ⟨c, e1, ?_⟩
    rw [upd_ne (fun z => by rw [z, h] at e2; rw [Option.some.inj e2] at pl; exact pl)]
    exact e2
/-- an object that H does not know may change -/
theorem Kp.put {u : HO} (a : Kp S H H1) (h : H p = none) (hu : H1 p = some u) (pl : Pl u := by exact True.intro) : Kp S H (upd H1 p o) := ⟨fun b v e n nt => by rw [upd_ne (ne_of_none e h)]; exact a.all b v e n nt, fun b xs e => by rw [upd_ne (ne_of_none e h)]; exact a.tup b xs e,
  fun b e => by
    by_cases hb : b = p
    · rw [hb]; exact h
    · rw [upd_ne hb] at e; exact a.dom b e, fun t => tab_upd hu pl (a.tab t)⟩
/-- an object of S changes that is no tuple -/
theorem Kp.set {u : HO} (hS : S p) (h : H p = some u) (pm : Pm u := by exact True.intro) : Kp S H (upd H p o) := ⟨fun b v e n _ => by
    rw [upd_ne (fun z => n (by rw [z]; exact hS))]; exact e, fun b xs e => by
    rw [upd_ne (fun z => by rw [z, h] at e; rw [Option.some.inj e] at pm; exact pm)]; exact e, fun b e => by
    by_cases hb : b = p
    · rw [hb, upd_same] at e; cases e
    · rw [upd_ne hb] at e; exact e, fun t => tab_upd h (by cases u <;> first | exact pm | exact pm.elim | exact True.intro) t⟩
end

/-! ### data that never change: none, truths, whole numbers, texts, tuples of such -/
/-- a tuple that is tracked, or one of the module's own text -/
def Tp (K : PySem.W.Frag) (H : Hp) (a : Addr) (xs : List V) : Prop := H a = some (.tup xs) ∨ ∀ H', SqT K H' a xs
mutual
inductive Im (K : PySem.W.Frag) (H : Hp) : V → PyData → Prop
  | non : Im K H .non .none
  | bl (b : Bool) : Im K H (.bl b) (.bool b)
  | int (i : Int) : Im K H (.int i) (.int i)
  | str (x : Str) : Im K H (.str x) (.str x)
  | tup {a : Addr} {xs : List V} {ds : List PyData} : Tp K H a xs → ImAll K H xs ds → Im K H (.ref a) (.tuple ds)
inductive ImAll (K : PySem.W.Frag) (H : Hp) : List V → List PyData → Prop
  | nil : ImAll K H [] []
  | cons {v : V} {vs : List V} {d : PyData} {ds : List PyData} : Im K H v d → ImAll K H vs ds → ImAll K H (v :: vs) (d :: ds)
end
section
variable {K : PySem.W.Frag} {H H' : Hp} {S : Addr → Prop}
theorem Tp.sq {a : Addr} {xs : List V} (h : Tp K H a xs) : SqT K H a xs := by
  rcases h with h | h
  · exact .inl (.inl h)
  · exact h H
theorem Tp.up [Tb] {a : Addr} {xs : List V} (h : Tp K H a xs) (k : Kp S H H') : Tp K H' a xs := by
  rcases h with h | h
  · exact .inl (k.tup a xs h)
  · exact .inr h
mutual
theorem Im.up [Tb] (k : Kp S H H') : ∀ (d : PyData) (v : V), Im K H v d → Im K H' v d
  | .none, _, h => by cases h; exact .non
  | .bool b, _, h => by cases h; exact .bl b
  | .int i, _, h => by cases h; exact .int i
  | .str x, _, h => by cases h; exact .str x
  | .tuple ds, _, h => by
    cases h with
    | tup h1 h2 => exact .tup (h1.up k) (ImAll.up k ds _ h2)
  | .list _, _, h => by cases h
  | .dict _, _, h => by cases h
theorem ImAll.up [Tb] (k : Kp S H H') : ∀ (ds : List PyData) (vs : List V), ImAll K H vs ds → ImAll K H' vs ds
  | [], _, h => by cases h; exact .nil
  | d :: ds, _, h => by
    cases h with
    | cons h1 h2 => exact .cons (Im.up k d _ h1) (ImAll.up k ds _ h2)
end
mutual
theorem Im.dp : ∀ (d : PyData) (v : V), Im K H v d → Dp K H v d
  | .none, _, h => by cases h; exact .non
  | .bool b, _, h => by cases h; exact .bl b
  | .int i, _, h => by cases h; exact .int i
  | .str x, _, h => by cases h; exact .str x
  | .tuple ds, _, h => by
    cases h with
    | tup h1 h2 => exact .tup h1.sq (ImAll.dp ds _ h2)
  | .list _, _, h => by cases h
  | .dict _, _, h => by cases h
theorem ImAll.dp : ∀ (ds : List PyData) (vs : List V), ImAll K H vs ds → DpAll K H vs ds
  | [], _, h => by cases h; exact .nil
  | d :: ds, _, h => by
    cases h with
    | cons h1 h2 => exact .cons (Im.dp d _ h1) (ImAll.dp ds _ h2)
end
theorem ImAll.length : ∀ {vs : List V} {ds : List PyData}, ImAll K H vs ds → vs.length = ds.length
  | [], [], _ => rfl
  | _ :: _, _ :: _, .cons _ h => congrArg Nat.succ h.length
theorem ImAll.get : ∀ {vs : List V} {ds : List PyData} {i : Nat} {v : V}, ImAll K H vs ds → vs[i]? = some v → ∃ d, ds[i]? = some d ∧ Im K H v d
  | [], [], _, _, _, e => by simp at e
  | v :: vs, d :: ds, 0, _, .cons h _, e => by
    simp at e
    subst e
    exact ⟨d, rfl, h⟩
  | v :: vs, d :: ds, i + 1, _, .cons _ h, e => by
    simp at e
    obtain ⟨d', h1, h2⟩ := ImAll.get h e
    exact ⟨d', by simpa using h1, h2⟩
theorem ImAll.at_ : ∀ {vs : List V} {ds : List PyData} {i : Nat} {d : PyData}, ImAll K H vs ds → ds[i]? = some d → ∃ v, vs[i]? = some v ∧ Im K H v d
  | [], [], _, _, _, e => by simp at e
  | v :: vs, d :: ds, 0, _, .cons h _, e => by
    simp at e
    subst e
    exact ⟨v, rfl, h⟩
  | v :: vs, d :: ds, i + 1, _, .cons _ h, e => by
    simp at e
    obtain ⟨d', h1, h2⟩ := ImAll.at_ h e
    exact ⟨d', by simpa using h1, h2⟩
theorem ImAll.app : ∀ {vs ws : List V} {ds es : List PyData}, ImAll K H vs ds → ImAll K H ws es → ImAll K H (vs ++ ws) (ds ++ es)
  | [], _, [], _, _, h => h
  | _ :: _, _, _ :: _, _, .cons h1 h2, h => .cons h1 (h2.app h)
theorem ImAll.snoc {vs : List V} {ds : List PyData} {v : V} {d : PyData} (h : ImAll K H vs ds) (h2 : Im K H v d) : ImAll K H (vs ++ [v]) (ds ++ [d]) := h.app (.cons h2 .nil)
theorem Im.mk {a : Addr} {xs : List V} {ds : List PyData} (h : H a = some (.tup xs)) (h2 : ImAll K H xs ds) : Im K H (.ref a) (.tuple ds) := .tup (.inl h) h2
theorem Im.tupInv {v : V} {ds : List PyData} (h : Im K H v (.tuple ds)) : ∃ a xs, v = .ref a ∧ Tp K H a xs ∧ ImAll K H xs ds := by
  cases h with
  | tup h1 h2 => exact ⟨_, _, rfl, h1, h2⟩
theorem Im.intInv {v : V} {i : Int} (h : Im K H v (.int i)) : v = .int i := by cases h; rfl
theorem Im.strInv {v : V} {x : Str} (h : Im K H v (.str x)) : v = .str x := by cases h; rfl
theorem Im.noneInv {v : V} (h : Im K H v .none) : v = .non := by cases h; rfl
theorem Im.blInv {v : V} {b : Bool} (h : Im K H v (.bool b)) : v = .bl b := by cases h; rfl
end

/-! ### comprehensions over data that never change, whose elements are such -/
section
variable [Tb] {K : PySem.W.Frag} {J : It} {n : Nat} {G : Hp → Prop} {Yy : Nat → Hp → V → Hp → Prop} {g : TG} {tt : TT} {te : TE} {vs : List Nat} {σ : L2.St} {H1 : Hp} {D : Addr} {Qd : Hp → Prop}
/-- what a list comprehension's reading asks behind its walk -/
abbrev LcGoal (J : It) (g : TG) (tt : TT) (te : TE) (vs : List Nat) (σ : L2.St) (H1 : Hp) (D : Addr) (Qd : Hp → Prop) : Prop :=
  ∃ W : Nat → Nat → Hp → Prop, (∃ m, W 0 m (upd H1 D (.lst []))) ∧ ∀ i m H, W i m H →
      (J.stop i H ∧ Qd H) ∨ (J.go i H ∧ ∃ Nx : Hp → Prop, (∀ H', Nx H' → ∃ m', m' < m ∧ W (i + 1) m' H') ∧ ∀ x H', J.yld i H x H' → g x (wipe σ vs) H' fun σ2 H2 => wipe σ2 vs = wipe σ vs ∧ tt σ2 H2 fun b H3 =>
        if b = true then te σ2 H3 fun y H4 => ∃ acc, H4 D = some (.lst acc) ∧ acc.length < sizeLine ∧ Nx (upd H4 D (.lst (acc ++ [y]))) else Nx H3)
/-- a walk over r, each item data that never change; each element, too, or left out -/
theorem lc_map {α β : Type} (dA : α → PyData) (dB : β → PyData) (f : α → Option β) (r : List α) (w : Walk J r.length G Yy) (hD : H1 D = none)
    (hy : ∀ i Ha x Hb (hi : i < r.length), Kp No H1 Ha → Yy i Ha x Hb → Hb = Ha ∧ Im K Ha x (dA r[i])) (hl : r.length ≤ 100000)
    (hG : ∀ H, Kp No H1 H → G H)
    (hs : ∀ x a Ha (k : VK) (kn : Hp → Prop), a ∈ r → Im K Ha x (dA a) → Kp No H1 Ha → (∀ y b H4, f a = some b → Kp No Ha H4 → Im K H4 y (dB b) → k y H4) → (∀ H3, f a = none → Kp No Ha H3 → kn H3) →
      g x (wipe σ vs) Ha fun σ2 H2 => wipe σ2 vs = wipe σ vs ∧ tt σ2 H2 fun b H3 => if b = true then te σ2 H3 k else kn H3)
    (hd : ∀ ys H, H D = some (.lst ys) → Kp No H1 H → ImAll K H ys ((r.filterMap f).map dB) → Qd H) : LcGoal J g tt te vs σ H1 D Qd := by
  refine lc_it w (fun i H => ∃ ys, H D = some (.lst ys) ∧ Kp No H1 H ∧ ImAll K H ys (((r.take i).filterMap f).map dB)) ⟨[], upd_same, Kp.new hD, by simpa using ImAll.nil⟩ (fun i H _ ⟨ys, _, h2, _⟩ => hG H h2) ?_ ?_
  · rintro i x Ha Hb hir ⟨ys, h1, h2, h3⟩ hyy
    obtain ⟨eH, hd2⟩ := hy i Ha x Hb hir h2 hyy
    subst eH
    have et : (r.take (i + 1)).filterMap f = (r.take i).filterMap f ++ (f r[i]).toList := by
      rw [List.take_add_one, List.getElem?_eq_getElem hir, List.filterMap_append]
      cases hf : f r[i] <;> simp [hf]
    have ely : ys.length ≤ i := by
      rw [h3.length, List.length_map]
      exact Nat.le_trans (List.length_filterMap_le _ _) (by rw [List.length_take]; omega)
    refine hs x r[i] _ _ _ (List.getElem_mem hir) hd2 h2 (fun y b H4 e k4 im => ?_) (fun H3 e k3 => ?_)
    · have hD4 := k4.all D _ h1 fun z => z
      refine ⟨ys, hD4, Nat.lt_of_le_of_lt ely (Nat.lt_of_lt_of_le (show i < 1000000 by omega) (by decide)), ys ++ [y], upd_same, (h2.trans k4).put hD hD4, ?_⟩
      rw [et, e, List.map_append]
      have k5 : Kp (At D) _ (upd _ D (.lst (ys ++ [y]))) := Kp.set rfl hD4
      exact (ImAll.up k5 _ _ (ImAll.up k4 _ _ h3)).snoc (Im.up k5 _ _ im)
    · refine ⟨ys, k3.all D _ h1 fun z => z, h2.trans k3, ?_⟩
      rw [et, e]
      simpa using ImAll.up k3 _ _ h3
  · rintro H ⟨ys, h1, h2, h3⟩
    rw [List.take_length] at h3
    exact hd ys H h1 h2 h3
/-- .. over a tuple, a list -/
theorem lc_mapT {α β : Type} (dA : α → PyData) (dB : β → PyData) (f : α → Option β) (r : List α) {a : Addr} {xs : List V} (hD : H1 D = none) (ht : Tp K H1 a xs) (src : ImAll K H1 xs (r.map dA)) (hl : r.length ≤ 100000)
    (hs : ∀ x a Ha (k : VK) (kn : Hp → Prop), a ∈ r → Im K Ha x (dA a) → Kp No H1 Ha → (∀ y b H4, f a = some b → Kp No Ha H4 → Im K H4 y (dB b) → k y H4) → (∀ H3, f a = none → Kp No Ha H3 → kn H3) →
      g x (wipe σ vs) Ha fun σ2 H2 => wipe σ2 vs = wipe σ vs ∧ tt σ2 H2 fun b H3 => if b = true then te σ2 H3 k else kn H3)
    (hd : ∀ ys H, H D = some (.lst ys) → Kp No H1 H → ImAll K H ys ((r.filterMap f).map dB) → Qd H) : LcGoal (Itt K a) g tt te vs σ H1 D Qd := by
  have el : xs.length = r.length := by rw [src.length, List.length_map]
  refine lc_map dA dB f r (el ▸ walk_tup (xs := xs)) hD (fun i Ha x Hb hi k y => ?_) hl (fun H k => (ht.up k).sq) hs hd
  obtain ⟨eH, hx⟩ := y
  obtain ⟨d, h1, h2⟩ := src.get hx
  rw [List.getElem?_map, List.getElem?_eq_getElem hi] at h1
  obtain rfl := Option.some.inj h1
  exact ⟨eH, Im.up k _ _ h2⟩
theorem lc_mapL {α β : Type} (dA : α → PyData) (dB : β → PyData) (f : α → Option β) (r : List α) {a : Addr} {xs : List V} (hD : H1 D = none) (ht : SqL K H1 a xs) (src : ImAll K H1 xs (r.map dA)) (hl : r.length ≤ 100000)
    (hs : ∀ x a Ha (k : VK) (kn : Hp → Prop), a ∈ r → Im K Ha x (dA a) → Kp No H1 Ha → (∀ y b H4, f a = some b → Kp No Ha H4 → Im K H4 y (dB b) → k y H4) → (∀ H3, f a = none → Kp No Ha H3 → kn H3) →
      g x (wipe σ vs) Ha fun σ2 H2 => wipe σ2 vs = wipe σ vs ∧ tt σ2 H2 fun b H3 => if b = true then te σ2 H3 k else kn H3)
    (hd : ∀ ys H, H D = some (.lst ys) → Kp No H1 H → ImAll K H ys ((r.filterMap f).map dB) → Qd H) : LcGoal (Itl K a) g tt te vs σ H1 D Qd := by
  have el : xs.length = r.length := by rw [src.length, List.length_map]
  refine lc_map dA dB f r (el ▸ walk_list (xs := xs)) hD (fun i Ha x Hb hi k y => ?_) hl (fun H k => k.seq ht) hs hd
  obtain ⟨eH, hx⟩ := y
  obtain ⟨d, h1, h2⟩ := src.get hx
  rw [List.getElem?_map, List.getElem?_eq_getElem hi] at h1
  obtain rfl := Option.some.inj h1
  exact ⟨eH, Im.up k _ _ h2⟩
/-- .. over a text's signs -/
theorem lc_mapS {β : Type} (dB : β → PyData) (f : Nat → Option β) {z : Str} (hD : H1 D = none) (hl : z.cps.toList.length ≤ 100000)
    (hs : ∀ (c : Nat) Ha (k : VK) (kn : Hp → Prop), c ∈ z.cps.toList → Kp No H1 Ha → (∀ y b H4, f c = some b → Kp No Ha H4 → Im K H4 y (dB b) → k y H4) → (∀ H3, f c = none → Kp No Ha H3 → kn H3) →
      g (.str ⟨#[c]⟩) (wipe σ vs) Ha fun σ2 H2 => wipe σ2 vs = wipe σ vs ∧ tt σ2 H2 fun b H3 => if b = true then te σ2 H3 k else kn H3)
    (hd : ∀ ys H, H D = some (.lst ys) → Kp No H1 H → ImAll K H ys ((z.cps.toList.filterMap f).map dB) → Qd H) : LcGoal (Its z) g tt te vs σ H1 D Qd := by
  have el : z.cps.size = z.cps.toList.length := by simp
  refine lc_map (fun c : Nat => PyData.str ⟨#[c]⟩) dB f z.cps.toList (el ▸ walk_str) hD (fun i Ha x Hb hi k y => ?_) hl (fun _ _ => trivial) (fun x a Ha k kn ha im kp h1 h2 => ?_) hd
  · obtain ⟨eH, c, hc, rfl⟩ := y
    refine ⟨eH, ?_⟩
    have e : z.cps.toList[i] = c := by
      rw [← Array.getElem?_toList, List.getElem?_eq_getElem hi] at hc
      exact Option.some.inj hc
    rw [e]
    exact .str _
  · have e : x = .str ⟨#[a]⟩ := by cases im; rfl
    subst e
    exact hs a Ha k kn ha kp h1 h2
/-- .. over a range from 0 -/
theorem lc_mapR {β : Type} (dB : β → PyData) (f : Nat → Option β) {n : Nat} (hD : H1 D = none) (hl : n ≤ 100000)
    (hs : ∀ (i : Nat) Ha (k : VK) (kn : Hp → Prop), i < n → Kp No H1 Ha → (∀ y b H4, f i = some b → Kp No Ha H4 → Im K H4 y (dB b) → k y H4) → (∀ H3, f i = none → Kp No Ha H3 → kn H3) →
      g (.int (0 + i)) (wipe σ vs) Ha fun σ2 H2 => wipe σ2 vs = wipe σ vs ∧ tt σ2 H2 fun b H3 => if b = true then te σ2 H3 k else kn H3)
    (hd : ∀ ys H, H D = some (.lst ys) → Kp No H1 H → ImAll K H ys (((List.range n).filterMap f).map dB) → Qd H) : LcGoal (Itr 0 n) g tt te vs σ H1 D Qd := by
  have wr : Walk (Itr 0 n) (List.range n).length (fun _ => True) (YFn fun i => .int (0 + (i : Int))) := by
    rw [List.length_range]
    exact walk_range
  refine lc_map (fun c : Nat => PyData.int (0 + (c : Int))) dB f (List.range n) wr hD (fun i Ha x Hb hi k y => ?_) (by simpa using hl) (fun _ _ => trivial) (fun x a Ha k kn ha im kp h1 h2 => ?_) hd
  · obtain ⟨eH, rfl⟩ := y
    refine ⟨eH, ?_⟩
    rw [List.getElem_range]
    exact .int _
  · have e : x = .int (0 + a) := by cases im; rfl
    subst e
    exact hs a Ha k kn (List.mem_range.mp ha) kp h1 h2

/-! ### the drawing pot -/
def Pot (H : Hp) (p : Addr) : Prop := ∃ a b : Int, H p = some (.lst [.int a, .int b]) ∧ 0 ≤ a ∧ 0 ≤ b ∧ b < 2 ^ 32
theorem Pot.keep [Tb] {S : Addr → Prop} {H H' : Hp} {p : Addr} (h : Pot H p) (k : Kp S H H') (n : ¬ S p) : Pot H' p := by
  obtain ⟨a, b, e, r⟩ := h
  exact ⟨a, b, k.all p _ e n, r⟩
theorem Pot.ne {H : Hp} {p q : Addr} (h : Pot H p) (hq : H q = none) : p ≠ q := by
  obtain ⟨a, b, e, r⟩ := h
  exact ne_of_none e hq
theorem Pot.upd_ {H : Hp} {p q : Addr} {o : HO} (h : Pot H p) (n : p ≠ q) : Pot (upd H q o) p := by
  obtain ⟨a, b, e, r⟩ := h
  exact ⟨a, b, by rw [upd_ne n]; exact e, r⟩
theorem lc_draw {β : Type} (dB : β → PyData) (P : β → Prop) {lo : Int} {p : Addr} (hD : H1 D = none) (pot : Pot H1 p) (hl : n ≤ 100000)
    (hs : ∀ (i : Nat) Ha (k : VK) (kn : Hp → Prop), i < n → Kp (At p) H1 Ha → Pot Ha p → (∀ y b H4, P b → Kp (At p) Ha H4 → Pot H4 p → Im K H4 y (dB b) → k y H4) →
      g (.int (lo + i)) (wipe σ vs) Ha fun σ2 H2 => wipe σ2 vs = wipe σ vs ∧ tt σ2 H2 fun b H3 => if b = true then te σ2 H3 k else kn H3)
    (hd : ∀ (ys : List V) (bs : List β) H, H D = some (.lst ys) → Kp (At p) H1 H → Pot H p → bs.length = n → (∀ b ∈ bs, P b) → ImAll K H ys (bs.map dB) → Qd H) : LcGoal (Itr lo n) g tt te vs σ H1 D Qd := by
  have nD : p ≠ D := pot.ne hD
  refine lc_it walk_range (fun i H => ∃ (ys : List V) (bs : List β), H D = some (.lst ys) ∧ Kp (At p) H1 H ∧ Pot H p ∧ bs.length = i ∧ (∀ b ∈ bs, P b) ∧ ImAll K H ys (bs.map dB)) ⟨[], [], upd_same, Kp.new hD, pot.upd_ nD, rfl, fun b hb => (nomatch hb), ImAll.nil⟩ (fun _ _ _ _ => trivial) ?_ ?_
  · rintro i x Ha Hb hi ⟨ys, bs, h1, h2, h3, h4, h5, h6⟩ ⟨rfl, rfl⟩
    refine hs i _ _ _ hi h2 h3 (fun y b H4 hb k4 p4 im => ?_)
    have hD4 := k4.all D _ h1 fun z => nD z.symm
    have ely : ys.length = i := by rw [h6.length, List.length_map, h4]
    have k5 : Kp (At D) _ (upd _ D (.lst (ys ++ [y]))) := Kp.set rfl hD4
    refine ⟨ys, hD4, by rw [ely]; exact Nat.lt_of_lt_of_le (show i < 1000000 by omega) (by decide), ys ++ [y], bs ++ [b], upd_same, (h2.trans k4).put hD hD4, p4.upd_ nD, by simp [h4], ?_, ?_⟩
    · intro c hc
      rcases List.mem_append.mp hc with hc | hc
      · exact h5 c hc
      · rw [List.mem_singleton.mp hc]; exact hb
    · rw [List.map_append]
      exact (ImAll.up k5 _ _ (ImAll.up k4 _ _ h6)).snoc (Im.up k5 _ _ im)
  · rintro H ⟨ys, bs, h1, h2, h3, h4, h5, h6⟩
    exact hd ys bs H h1 h2 h3 h4 h5 h6
end
end Y

set_option Elab.async false
set_option linter.all false
set_option maxRecDepth 100000
set_option maxHeartbeats 2000000
set_option exponentiation.threshold 600
/-! Y3: names, layers, rows as data; small mathematics. -/
namespace Y
open PySem PySem.Spec PyProof.Rows L2

theorem mid_of {i : Int} {n : Nat} (h : i.natAbs < 2 ^ n) (hn : n ≤ 4000) : Mid i := Nat.lt_of_lt_of_le h (Nat.pow_le_pow_right (by decide) hn)
theorem mid64 {i : Int} (h1 : -18446744073709551616 < i) (h2 : i < 18446744073709551616) : Mid i := mid_of (n := 64) (by omega) (by decide)
theorem mid500 {i : Int} (h : i.natAbs < 10 ^ 500) : Mid i := mid_of (n := 1661) (Nat.lt_of_lt_of_le h (by decide +kernel)) (by decide)

theorem iteNb {A B : Prop} {b : Bool} (h : b = true) (hB : B) : if (!b) = true then A else B := by
  rw [h]
  exact iteF hB
theorem iteD {A B : Prop} {c : Prop} [Decidable c] (h1 : c → A) (h2 : ¬ c → B) : if decide c = true then A else B := by
  by_cases h : c
  · rw [decide_eq_true h]; exact h1 h
  · rw [decide_eq_false h]; exact h2 h
/-- what H does not know may have changed -/
theorem Kp.drop [Tb] {H H1 H2 : Hp} {p : Addr} (a : Kp No H H1) (hp : H p = none) (b : Kp (At p) H1 H2) : Kp No H H2 :=
  ⟨fun c o e n nt => b.all c o (a.all c o e n nt) (fun z => by rw [z, hp] at e; cases e) nt, fun c xs e => b.tup c xs (a.tup c xs e), fun c e => a.dom c (b.dom c e), fun t => b.tab (a.tab t)⟩
theorem eqv_nil (ds : List PyData) : PyData.eqv (.tuple ds) (.tuple []) = ds.isEmpty := by
  cases ds <;> simp [PyData.eqv, PyData.eqvAll]
theorem sh_nil : SeqAt.shaped (.tuple []) = true := by decide
theorem kT {K : PySem.W.Frag} {H : Hp} {a : Addr} (h : H a = some (.tup [])) : Dp K H (.ref a) (.tuple []) := .tup (.inl (.inl h)) .nil

theorem pow_le {m n : Nat} (h : m ≤ n) : (10 : Int) ^ m ≤ 10 ^ n := by
  have e := Nat.pow_le_pow_right (show 0 < 10 by decide) h
  have e2 : ((10 ^ m : Nat) : Int) ≤ ((10 ^ n : Nat) : Int) := by omega
  simpa using e2

/-! ### names -/
/-- a text of one to eight small letters -/
structure Nm (z : Str) : Prop where
  one : 1 ≤ z.length
  eight : z.length ≤ 8
  abc : ∀ c ∈ z.cps.toList, 97 ≤ c ∧ c ≤ 122
abbrev abc : Str := "abcdefghijklmnopqrstuvwxyz"
theorem abc_list : abc.cps.toList = (List.range 26).map (97 + ·) := by decide +kernel
theorem abc_at {d : Int} (h0 : 0 ≤ d) (h1 : d < 26) : atI abc.cps.toList d = some (97 + d.toNat) := by
  obtain ⟨k, rfl⟩ : ∃ k : Nat, d = k := ⟨d.toNat, by omega⟩
  refine atI_nat ?_
  rw [abc_list, List.getElem?_map, List.getElem?_range (by omega)]
  rfl
theorem str_eq {x y : Str} (h : x.cps.toList = y.cps.toList) : x = y := TL.ext_tl h
theorem len_tl (x : Str) : x.length = x.cps.toList.length := by simp [Str.length]
theorem joinL_nil : ∀ ys : List (List Nat), TL.joinL [] ys = ys.flatten
  | [] => rfl
  | [p] => by simp [TL.joinL]
  | p :: q :: r => by
    rw [TL.joinL, joinL_nil (q :: r)]
    simp
theorem flatten_single (cs : List Nat) : (cs.map fun c => [c]).flatten = cs := by induction cs with
  | nil => rfl
  | cons c cs ih => simp [ih]
theorem join_signs (cs : List Nat) : Txt.join "" (cs.map fun c => (⟨#[c]⟩ : Str)) = ⟨cs.toArray⟩ := by
  have e : (cs.map fun c => (⟨#[c]⟩ : Str)) = (cs.map fun c => [c]).map SX.S := by rw [List.map_map]; rfl
  have e2 : ("" : Str) = SX.S [] := by decide +kernel
  rw [e, e2, SX.join_S, joinL_nil, flatten_single]
theorem signs_len (cs : List Nat) : ((cs.map fun c => (⟨#[c]⟩ : Str)).map (·.length)).sum = cs.length := by
  induction cs with
  | nil => rfl
  | cons c cs ih =>
    rw [List.map_cons, List.map_cons, List.sum_cons, ih, List.length_cons]
    show 1 + cs.length = cs.length + 1
    omega
theorem nm_of_codes {cs : List Nat} (h1 : 1 ≤ cs.length) (h8 : cs.length ≤ 8) (h : ∀ c ∈ cs, 97 ≤ c ∧ c ≤ 122) : Nm ⟨cs.toArray⟩ :=
  ⟨by rw [len_tl]; exact h1, by rw [len_tl]; exact h8, h⟩
/-- the first seven signs and a letter -/
def alt (z : Str) (c : Nat) : Str := ⟨(z.cps.toList.take 7 ++ [c]).toArray⟩
theorem cut7 (z : Str) : cutS z none (some 7) = ⟨(z.cps.toList.take 7).toArray⟩ := by
  unfold cutS
  rw [show HT.sIx z.length 0 none = 0 from rfl, show HT.sIx z.length z.length (some 7) = min 7 z.length from HT.sIx_nat _ _ 7, List.drop_zero, Nat.sub_zero]
  have e : z.cps.toList.take (min 7 z.length) = z.cps.toList.take 7 := by
    rw [len_tl]
    by_cases h : z.cps.toList.length ≤ 7
    · rw [Nat.min_eq_right h, List.take_length, List.take_of_length_le h]
    · rw [Nat.min_eq_left (by omega)]
  rw [e]
theorem alt_eq (z : Str) (c : Nat) : cutS z none (some 7) ++ (⟨#[c]⟩ : Str) = alt z c := by
  rw [cut7]
  refine str_eq ?_
  show TL.tl (_ ++ _) = _
  rw [TL.tl_append]
  simp [TL.tl, alt]
theorem alt_nm {z : Str} {c : Nat} (h : Nm z) (h1 : 97 ≤ c) (h2 : c ≤ 122) : Nm (alt z c) := by
  refine nm_of_codes ?_ ?_ ?_
  · simp
  · rw [List.length_append, List.length_take]
    simp
    omega
  · intro d hd
    rcases List.mem_append.mp hd with hd | hd
    · exact h.abc d (List.mem_of_mem_take hd)
    · rw [List.mem_singleton.mp hd]; exact ⟨h1, h2⟩
theorem alt_inj {z : Str} {c d : Nat} (h : alt z c = alt z d) : c = d := by
  have e : (z.cps.toList.take 7 ++ [c]) = (z.cps.toList.take 7 ++ [d]) := congrArg (fun x : Str => x.cps.toList) h
  have e2 := List.append_cancel_left e
  simpa using e2
theorem alt_len (z : Str) (c : Nat) : (cutS z none (some 7)).length ≤ 7 := by
  rw [cut7, len_tl]
  simp
  omega
/-- a list without doubles within another one is no longer -/
theorem nodup_le {α : Type} [DecidableEq α] : ∀ {l m : List α}, l.Nodup → (∀ x ∈ l, x ∈ m) → l.length ≤ m.length
  | [], _, _, _ => Nat.zero_le _
  | x :: l, m, hn, hs => by
    obtain ⟨h1, h2⟩ := List.nodup_cons.mp hn
    have hx : x ∈ m := hs x (List.mem_cons_self ..)
    have ih := nodup_le (l := l) (m := m.erase x) h2 (fun y hy => (List.mem_erase_of_ne (fun e : y = x => h1 (by rw [← e]; exact hy))).mpr (hs y (List.mem_cons_of_mem _ hy)))
    have e := List.length_erase_of_mem hx
    have p := List.length_pos_of_mem hx
    rw [List.length_cons]
    omega
/-- the names to choose of -/
def cands (z : Str) : List Str := z :: (List.range 26).map fun k => alt z (97 + k)
theorem cands_nm {z y : Str} (h : Nm z) (hy : y ∈ cands z) : Nm y := by
  rcases List.mem_cons.mp hy with e | hy
  · rw [e]; exact h
  · obtain ⟨k, hk, rfl⟩ := List.mem_map.mp hy
    have := List.mem_range.mp hk
    exact alt_nm h (by omega) (by omega)
theorem cands_free {z : Str} {found : List Str} (h : found.length < 26) : ∃ y ys, (cands z).filter (fun y => !decide (y ∈ found)) = y :: ys := by
  cases e : (cands z).filter (fun y => !decide (y ∈ found)) with
  | cons y ys => exact ⟨y, ys, rfl⟩
  | nil =>
    exfalso
    have hall : ∀ y ∈ (List.range 26).map (fun k => alt z (97 + k)), y ∈ found := fun y hy => by
      have h2 : y ∉ (cands z).filter (fun y => !decide (y ∈ found)) := by rw [e]; exact List.not_mem_nil
      rw [List.mem_filter] at h2
      by_cases hf : y ∈ found
      · exact hf
      · exact absurd ⟨List.mem_cons_of_mem _ hy, by simp [hf]⟩ h2
    have nd : ((List.range 26).map (fun k => alt z (97 + k))).Nodup := by
      refine List.pairwise_map.mpr ((List.nodup_range (n := 26)).imp fun {a b} hab e => hab ?_)
      have := alt_inj e
      omega
    have := nodup_le nd hall
    rw [List.length_map, List.length_range] at this
    omega

/-! ### layers and rows -/
abbrev Lay := Str × Int
def layD (l : Lay) : PyData := .tuple [.str l.1, .int l.2]
def rowD (r : List Lay) : PyData := .tuple (r.map layD)
/-- a layer that can be shown: a name, a strength above 0 -/
structure LayOk (l : Lay) : Prop where
  nm : Nm l.1
  pos : 0 < l.2
  big : l.2 < 10 ^ 400
theorem nm_fine {z : Str} (h : Nm z) : fine (.str z) = true := by
  show (z.cps.toList.all fun c => decide (c < 0x110000)) = true
  rw [List.all_eq_true]
  intro c hc
  exact decide_eq_true (Nat.lt_of_le_of_lt (h.abc c hc).2 (by decide))
theorem int_fine {i : Int} (h : i.natAbs < 10 ^ 500) : fine (.int i) = true := by
  rw [fine]
  exact decide_eq_true h
theorem pos_fine {i : Int} (h0 : 0 ≤ i) (h : i < 10 ^ 400) : fine (.int i) = true := by
  refine int_fine (Nat.lt_of_lt_of_le (m := 10 ^ 400) ?_ (Nat.pow_le_pow_right (by decide) (by decide)))
  have e : ((10 ^ 400 : Nat) : Int) = 10 ^ 400 := by norm_cast
  omega
theorem fineAll_of : ∀ {ds : List PyData}, (∀ d ∈ ds, fine d = true) → fineAll ds = true
  | [], _ => rfl
  | d :: ds, h => by
    rw [fineAll, h d (List.mem_cons_self ..), fineAll_of fun x hx => h x (List.mem_cons_of_mem _ hx)]; rfl
theorem fine_tuple {ds : List PyData} (h : ∀ d ∈ ds, fine d = true) : fine (.tuple ds) = true := by
  rw [fine]; exact fineAll_of h
theorem fine_list {ds : List PyData} (h : ∀ d ∈ ds, fine d = true) : fine (.list ds) = true := by
  rw [fine]; exact fineAll_of h
theorem layD_fine {l : Lay} (h : LayOk l) : fine (layD l) = true := by
  refine fine_tuple fun d hd => ?_
  rcases List.mem_cons.mp hd with e | hd
  · rw [e]; exact nm_fine h.nm
  · rw [List.mem_singleton.mp hd]; exact pos_fine (Int.le_of_lt h.pos) h.big
theorem depthAll_le {n : Nat} : ∀ {ds : List PyData}, (∀ d ∈ ds, d.depth ≤ n) → PyData.depthAll ds ≤ n
  | [], _ => Nat.zero_le _
  | d :: ds, h => by
    rw [PyData.depthAll]
    exact Nat.max_le.mpr ⟨h d (List.mem_cons_self ..), depthAll_le fun x hx => h x (List.mem_cons_of_mem _ hx)⟩
theorem bulkAll_le {n : Nat} : ∀ {ds : List PyData}, (∀ d ∈ ds, d.bulk ≤ n) → PyData.bulkAll ds ≤ (n + 1) * ds.length
  | [], _ => by rw [PyData.bulkAll]; exact Nat.zero_le _
  | d :: ds, h => by
    have h1 := h d (List.mem_cons_self ..)
    have h2 := bulkAll_le (n := n) fun x hx => h x (List.mem_cons_of_mem _ hx)
    rw [PyData.bulkAll, List.length_cons, Nat.mul_add, Nat.mul_one]
    omega
theorem layD_deep (l : Lay) : (layD l).depth ≤ 1 := by simp [layD, PyData.depth, PyData.depthAll]
theorem layD_bulk {l : Lay} (h : LayOk l) : (layD l).bulk ≤ 10 := by
  have h1 := h.nm.eight
  have e : l.1.length = l.1.cps.size := rfl
  simp only [layD, PyData.bulk, PyData.bulkAll]
  omega
theorem rowD_deep (r : List Lay) : (rowD r).depth ≤ 2 := by
  rw [rowD, PyData.depth]
  have := depthAll_le (n := 1) (ds := r.map layD) fun d hd => by
    obtain ⟨l, _, rfl⟩ := List.mem_map.mp hd
    exact layD_deep l
  omega
theorem rowD_bulk {r : List Lay} (h : ∀ l ∈ r, LayOk l) : (rowD r).bulk ≤ 11 * r.length := by
  rw [rowD, PyData.bulk]
  have := bulkAll_le (n := 10) (ds := r.map layD) fun d hd => by
    obtain ⟨l, hl, rfl⟩ := List.mem_map.mp hd
    exact layD_bulk (h l hl)
  rw [List.length_map] at this
  exact this
theorem rowD_fine {r : List Lay} (h : ∀ l ∈ r, LayOk l) : fine (rowD r) = true := fine_tuple fun d hd => by
  obtain ⟨l, hl, rfl⟩ := List.mem_map.mp hd
  exact layD_fine (h l hl)
theorem rowD_sh {r : List Lay} (h : ∀ l ∈ r, LayOk l) (hl : r.length ≤ 1000) : Sh (rowD r) := ⟨rowD_fine h, Nat.le_trans (rowD_deep r) (by decide), Nat.le_trans (rowD_bulk h) (by omega)⟩
theorem rowD_shaped {r : List Lay} (h : ∀ l ∈ r, LayOk l) : SeqAt.shaped (rowD r) = true := fine_shaped (rowD_fine h) (Nat.le_trans (rowD_deep r) (by decide))
theorem rowD_refl {r : List Lay} (h : ∀ l ∈ r, LayOk l) : PyData.eqv (rowD r) (rowD r) = true := SeqAt.eqv_refl _ (fine_lay _ (rowD_fine h))
theorem layD_inj {a b : Lay} (h : layD a = layD b) : a = b := by
  obtain ⟨a1, a2⟩ := a
  obtain ⟨b1, b2⟩ := b
  simp [layD] at h
  simp [h]
theorem Im.layInv {K : PySem.W.Frag} {H : Hp} {v : V} {l : Lay} (h : Im K H v (layD l)) : ∃ a, v = .ref a ∧ Tp K H a [.str l.1, .int l.2] := by
  obtain ⟨a, xs, rfl, h1, h2⟩ := Im.tupInv h
  cases h2 with
  | cons e1 h2 =>
    cases h2 with
    | cons e2 h3 =>
      cases h3
      rw [Im.strInv e1, Im.intInv e2] at h1
      exact ⟨a, rfl, h1⟩
theorem Im.layMk {K : PySem.W.Frag} {H : Hp} {a : Addr} {l : Lay} (h : H a = some (.tup [.str l.1, .int l.2])) : Im K H (.ref a) (layD l) := Im.mk h (.cons (.str _) (.cons (.int _) .nil))
theorem ImAll.strs {K : PySem.W.Frag} {H : Hp} : ∀ {ys : List V} {ss : List Str}, ImAll K H ys (ss.map PyData.str) → ys = ss.map V.str
  | [], [], _ => rfl
  | _ :: _, _ :: _, .cons h1 h2 => by rw [Im.strInv h1, ImAll.strs h2]; rfl
theorem ImAll.ints {K : PySem.W.Frag} {H : Hp} : ∀ {ys : List V} {ss : List Int}, ImAll K H ys (ss.map PyData.int) → ys = ss.map V.int
  | [], [], _ => rfl
  | _ :: _, _ :: _, .cons h1 h2 => by rw [Im.intInv h1, ImAll.ints h2]; rfl
theorem ImAll.ofStrs {K : PySem.W.Frag} {H : Hp} : ∀ ss : List Str, ImAll K H (ss.map V.str) (ss.map PyData.str)
  | [] => .nil
  | s :: ss => .cons (.str s) (ImAll.ofStrs ss)
theorem ImAll.ofInts {K : PySem.W.Frag} {H : Hp} : ∀ ss : List Int, ImAll K H (ss.map V.int) (ss.map PyData.int)
  | [] => .nil
  | s :: ss => .cons (.int s) (ImAll.ofInts ss)
end Y

set_option Elab.async false
set_option linter.all false
set_option maxRecDepth 100000
set_option maxHeartbeats 4000000
/-! L1: sorted(.., key=lambda ..): the lambda is made, its code object's table grows; the keys are whole numbers or pairs of such. -/
namespace Y
open PySem PySem.Spec PyProof.Rows L2 LamX NdefX

/-! ### an object of ours is tracked from now on -/
section
variable {X : Cx} {pins : List (Addr × Obj)} {σ : L2.St} {H : Hp} {s : Shared}
theorem adopt {h' : Heap} {t' : Nat} {a : Addr} {o : HO} (I : Inv X pins σ H s) (k : ∀ b u, b ≠ a → s.heap.get? b = some u → h'.get? b = some u) (hf : FpOk X pins H a) (new : ObjOk X.prog X.w (upd H a o) h' a o) :
    Inv X pins σ (upd H a o) { s with heap := h', toks := t' } := by
  obtain ⟨hn, f1, f2, f3, f4, f5⟩ := hf
  have ne : ∀ b u, H b = some u → b ≠ a := fun b u e z => by rw [z, hn] at e; cases e
  have out : ∀ {b : Addr}, b ∉ [a] → b ≠ a := fun hc z => hc (by simp [z])
  refine I.step (g' := s.gens) (d' := s.drawn) (ch := [a]) (fun b hb => ?_) (fun b u _ _ hc e _ => k b u (out hc) e) (fun b u _ _ hc e _ => ⟨u.slots, k b u (out hc) e⟩)
    (fun b u hc e n => (upd_ne (out hc)).trans n) (fun b u hc e => ⟨u, k b u (out hc) e⟩) (fun b xs e => (upd_ne (ne b _ e)).trans e) (fun b u v e => (upd_ne (ne b _ e)).trans e) (fun b ps e => ⟨#[], by rw [upd_ne (ne b _ e), e]; simp⟩) (fun m hm => ?_) (fun b u e => ?_) I.bare
  · obtain rfl : b = a := by simpa using hb
    exact ⟨f3, f1, f4, f5⟩
  · obtain ⟨ob, es, ep, ho, r⟩ := hm
    exact ⟨ob, es, ep, k _ ob (Ne.symm f1) ho, r⟩
  · by_cases hb : b = a
    · subst hb
      rw [upd_same] at e
      cases e
      exact new
    · rw [upd_ne hb] at e
      refine (I.hok b u e).stay (fun c v hc q => k c v ?_ q) (fun c q => (upd_ne (ne c _ q)).trans q) fun c xs q => (upd_ne (ne c _ q)).trans q
      rcases hc with z | z
      · rw [z]; exact hb
      · exact ne c _ z
end

/-! ### the lambda's object -/
structure LF where
  qual : Str
  params : Arguments
  body : Expr
  scope : Scope
  cl : List (Str × Addr)
  c : Addr
abbrev LF.nf (F : LF) : NF := ⟨"<lambda>", F.qual, F.params, [], F.scope, F.cl, F.c⟩
def LamO (f : Addr) (F : LF) : HO := .ext fun h => ∃ pm ctv, h.get? f = some (PySem.W.kla_obj "<lambda>" F.qual F.params F.body F.scope F.cl pm F.c ctv)
theorem lamO_ok {P : Program} {w : World} {H : Hp} {h : Heap} {f : Addr} {F : LF} {pm ctv : Value} (e : h.get? f = some (PySem.W.kla_obj "<lambda>" F.qual F.params F.body F.scope F.cl pm F.c ctv)) : ObjOk P w H h f (LamO f F) :=
  ⟨⟨pm, ctv, e⟩, ⟨_, e⟩, fun _ _ ⟨p, t, z⟩ st => ⟨p, t, st _ z⟩⟩
theorem lamO_at {P : Program} {w : World} {H : Hp} {h : Heap} {f : Addr} {F : LF} (hok : HOk P w H h) (e : H f = some (LamO f F)) : ∃ pm ctv, h.get? f = some (PySem.W.kla_obj "<lambda>" F.qual F.params F.body F.scope F.cl pm F.c ctv) := by
  obtain ⟨z, _, _⟩ := hok f _ e
  exact z
section
variable [Tb] {X : Cx} {pins : List (Addr × Obj)} {σ : L2.St} {H : Hp} {s : Shared}
/-- a code object is told by the table at Pt from now on -/
theorem kp_table {Pt c' : Addr} {q : Str} {ps : Array Value} {pos : Pos} (hP : H Pt = some (.tbl ps)) (nC : H c' = none) (hu : ∀ p ∈ Tb.tabs, p.1 = Pt → p.2 = q) :
    Kp No H (upd (upd H Pt (.tbl (ps ++ #[rawInt pos.line, rawInt pos.col, .ref c']))) c' (CodeO c' q)) := by
  have nPc : Pt ≠ c' := ne_of_none hP nC
  have stay : ∀ b o, H b = some o → NT o → upd (upd H Pt (.tbl (ps ++ #[rawInt pos.line, rawInt pos.col, .ref c']))) c' (CodeO c' q) b = some o := fun b o e nt => by
    rw [upd_ne (ne_of_none e nC), upd_ne (fun z => by rw [z, hP] at e; rw [← Option.some.inj e] at nt; exact nt)]
    exact e
  refine ⟨fun b o e _ nt => stay b o e nt, fun b xs e => stay b _ e True.intro, fun b e => upd_none (upd_none e), fun T p hp => ?_⟩
  obtain ⟨ps', a1, a2, a3⟩ := T p hp
  have keep : ∀ {p' : Pos} {cv : Value}, codeAmong p' ps'.toList = some cv → ∃ c, cv = .ref c ∧ upd (upd H Pt (.tbl (ps ++ #[rawInt pos.line, rawInt pos.col, .ref c']))) c' (CodeO c' q) c = some (CodeO c p.2) := fun {p' cv} hc => by
    obtain ⟨c0, e1, e2⟩ := a3 p' cv hc
    exact ⟨c0, e1, stay _ _ e2 True.intro⟩
  by_cases hb : p.1 = Pt
  · have e1 : ps' = ps := by
      rw [hb, hP] at a1
      cases a1
      rfl
    subst e1
    have eL : (ps' ++ #[rawInt pos.line, rawInt pos.col, .ref c']).toList = ps'.toList ++ [rawInt pos.line, rawInt pos.col, .ref c'] := by simp
    refine ⟨_, by rw [hb, upd_ne nPc, upd_same], by rw [eL]; exact PySem.TriplesOk_snoc _ _ _ _ a2, fun p' cv hc => ?_⟩
    rw [eL] at hc
    rcases among_app _ a2 hc with z | z
    · exact keep z
    · exact ⟨c', z, by rw [hu p hp hb]; exact upd_same⟩
  · exact ⟨ps', by rw [upd_ne (ne_of_none a1 nC), upd_ne hb]; exact a1, a2, fun p' cv hc => keep hc⟩
theorem lam_made {c Pt : Addr} {params : Arguments} {body : Expr} {scope : Scope} {pos : Pos} {E : Value → Shared → Prop} {Q : Value → Shared → Prop} (I : Inv X pins σ H s) (TB : TabB X.base X.mg c Pt) (hcode : X.env.code = .ref c)
    (hm : (Pt, X.env.qual ++ "<lambda>") ∈ Tb.tabs) (hu : ∀ p ∈ Tb.tabs, p.1 = Pt → p.2 = X.env.qual ++ "<lambda>") (hT : TbOk H) (hdef : defaultsOf params X.env = ([], [])) (hfree : ∀ y ∈ scope.names, y.2 = .free → ∃ c, X.env.cells.lookup y.1 = some c)
    (h : ∀ (f c' : Addr) (H1 : Hp) (s' : Shared), Inv X pins σ H1 s' → Kp No H H1 → H1 f = some (LamO f ⟨X.env.qual ++ "<lambda>", params, body, scope, cloFrom X.env.cells scope.names [], c'⟩) → H1 c' = some (CodeO c' (X.env.qual ++ "<lambda>")) → Q (.ref f) s') :
    wpAny (model X.prog X.w) X.A (eval (.Lambda params body scope pos) X.env) Q E s := by
  obtain ⟨ps, hP, ht, ha⟩ := hT _ hm
  refine PySem.W.kla_eval hdef ?_
  have bP : s.heap.BuiltinsAt X.mg Pt := TB.bm.keeps I.bk
  have hP' : s.heap.get? Pt = some { cls := .none, data := .fields ps } := I.hok Pt _ hP
  have fin : ∀ (Ha : Hp) (h' : Heap) (tk : Nat) (c' : Addr) (ctv : Value), Inv X pins σ Ha { s with heap := h', toks := tk } → Kp No H Ha → Ha c' = some (CodeO c' (X.env.qual ++ "<lambda>")) →
      Q (.ref h'.objs.size) { s with heap := h'.push (PySem.W.kla_obj "<lambda>" (X.env.qual ++ "<lambda>") params body scope (cloFrom X.env.cells scope.names []) ((X.mg "__name__").getD .none) c' ctv), toks := tk } := by
    intro Ha h' tk c' ctv Ia ka hc
    have nF : Ha h'.objs.size = none := Ia.hok.fresh (Nat.le_refl _)
    refine h h'.objs.size c' (upd Ha h'.objs.size (LamO h'.objs.size ⟨X.env.qual ++ "<lambda>", params, body, scope, cloFrom X.env.cells scope.names [], c'⟩)) _ (Ia.laid (t' := tk) (fun b u e => Heap.get?_push_of_some _ e) (Nat.le_refl _) (lamO_ok (Heap.get?_push_size _ rfl))) (ka.trans (Kp.new nF)) upd_same ((upd_ne (ne_of_none hc nF)).trans hc)
  cases hc : codeAmong pos ps.toList with
  | none =>
    refine PySem.W.kla_makeFunction (mg := X.mg) (c := c) (P := Pt) (ps := ps) (closure_ok hfree) I.ok.glob (I.mod.glob.keeps I.bk) hcode (TB.code.keeps I.bk) hP' ht hc TB.gP bP fun c' ctv h' tk hx hge hlt hrec htb => ?_
    obtain ⟨c2, oc, vs, t, e2, hoc, hd, hv⟩ := hrec
    cases e2
    exact fin _ h' tk c' ctv (inv_table (t' := tk) (more := #[rawInt pos.line, rawInt pos.col, .ref c']) I hP hx htb hge ⟨oc, vs, t, hoc, hd, hv⟩) (kp_table hP (I.hok.fresh hge) hu) upd_same
  | some cv =>
    obtain ⟨c', e, hco⟩ := ha pos cv hc
    subst e
    exact PySem.W.kla_makeFunctionHit (mg := X.mg) (c := c) (P := Pt) (ps := ps) (closure_ok hfree) I.ok.glob (I.mod.glob.keeps I.bk) hcode (TB.code.keeps I.bk) hP' ht hc bP fun ctv h' tk hx hsz => fin H h' tk c' ctv (I.kept hx) (Kp.refl H) hco
end

/-! ### the lambda, called -/
section
variable {X : Cx} {pins : List (Addr × Obj)} {σ : L2.St} {H : Hp} {s : Shared} {N ps fr : List Str} {F : LF} {f : Addr} {k : Nat} {A' : Around} {vs : List V} {ws : List (Option V)} {us : List Value} {tb : TE} {Q : VK}
/-- what is wanted of the lambda's words -/
structure LamW (X : Cx) (k : Nat) (N ps fr : List Str) (f : Addr) (F : LF) (tb : TE) : Prop where
  sc : NScope N ps fr F.scope
  bind : ∀ (pm ctv : Value) (us : List Value), us.length = ps.length → bindArgs (PySem.W.kla_fn "<lambda>" F.qual F.params F.body F.scope F.cl pm (.ref F.c) ctv) ⟨us, []⟩ = pure (ps.zip us)
  body : ∀ (A : Around) (outer : List Env) (s : Shared) (H : Hp) (E : XK), Room k (A.deeper (envF F.nf f s.heap.objs.size)) → PE (ncx CX0 X.prog X.w X.K X.mg X.base N F.nf f A outer s H E) F.body tb
theorem lam_call {E : Value → Shared → Prop} (W : LamW X k N ps fr f F tb) (room : Room (k + 1) A') (e0 : Env0 X.prog X.w X.K X.mg X.base A' X.stack s H) (I : Inv X pins σ H s) (hf : H f = some (LamO f F)) (hc : H F.c = some (CodeO F.c F.qual)) (C : CellsAt F.cl fr ws s.heap H)
    (r : Vals vs us) (hl : vs.length = ps.length) (q : tb (startF N vs ws) H Q) : wpAny (model X.prog X.w) A' (call (.ref f) us) (EP X pins σ Q) E s := by
  obtain ⟨pm, ctv, of1⟩ := lamO_at I.hok hf
  have rc : codeAny (model X.prog X.w) A' (.call (.ref f) ⟨us, []⟩) (CR CX0 X.stack X.prog X.w H s Q fun _ _ _ => False) s := by
    refine PySem.W.kla_callFunE room.depth of1 rfl W.sc.co W.sc.gen rfl (codeO_at I.hok hc) ?_
    rw [W.bind pm ctv us (by rw [← r.length]; exact hl)]
    refine wpAny_pure (wpAny_newFunctionEnv W.sc.nocell (fun ⟨n, _⟩ hy => W.sc.par n (List.of_mem_zip hy).1) (fun h₁ hns hsb => ⟨I.nolimit.fresh _ hsb, ?_⟩) W.sc.kind)
    show codeAny _ _ (.expr F.body (envF F.nf f s.heap.objs.size)) _ _
    have kp : ∀ b o, s.heap.get? b = some o → h₁.get? b = some o := fun b o e => hsb.extBut b o (Nat.ne_of_lt (Heap.lt_size e)) (Heap.get?_push_of_some _ e)
    have J : Inv (ncx CX0 X.prog X.w X.K X.mg X.base N F.nf f A' X.stack s H fun _ _ _ => False) [] (startF N vs ws) H { s with heap := h₁, toks := s.toks + (ps.zip us).length } := inv_startN W.sc room.hd e0 hl r C hns kp
    refine PySem.W.kla_codeExpr (wpAny_mono ((W.body A' X.stack s H _ (room.deeper _)).run [] _ _ H Q J q) (fun v s' hq => ?_) fun e s' hq => hq)
    obtain ⟨w', H', J', rv, q'⟩ := hq
    exact ⟨w', H', J'.os, J'.bare, J'.base, J'.hok, rv, q'⟩
  refine wpAny_call (codeAny_mono rc fun r s' hq => ?_)
  cases r with
  | error e => exact False.elim hq
  | ok fl =>
    cases fl with
    | ret u => exact I.after hq
    | next => exact False.elim hq
    | brk => exact False.elim hq
    | cont => exact False.elim hq
end

/-! ### keys -/
/-- the key k is the pair p (two), or the whole number p.1 -/
def KeyIs (two : Bool) (H : Hp) (k : V) (p : Int × Int) : Prop := match two with
  | true => ∃ t, k = .ref t ∧ H t = some (.tup [.int p.1, .int p.2])
  | false => k = .int p.1 ∧ p.2 = 0
theorem KeyIs.up [Tb] {two : Bool} {S : Addr → Prop} {H H' : Hp} {k : V} {p : Int × Int} (h : KeyIs two H k p) (kp : Kp S H H') : KeyIs two H' k p := by
  cases two with
  | true =>
    obtain ⟨t, e, ht⟩ := h
    exact ⟨t, e, kp.tup t _ ht⟩
  | false => exact h
/-- a key's pair, read off the values -/
def kvOf (H : Hp) : Value → Int × Int
  | .int i _ => (i, 0)
  | .ref t => match H t with
    | some (.tup [.int x, .int y]) => (x, y)
    | _ => (0, 0)
  | _ => (0, 0)
theorem KeyIs.kv {two : Bool} {H : Hp} {k : V} {p : Int × Int} {u : Value} (h : KeyIs two H k p) (r : RelV k u) : kvOf H u = p := by
  cases two with
  | true =>
    obtain ⟨t, rfl, ht⟩ := h
    obtain rfl : u = Value.ref t := r
    simp only [kvOf, ht]
  | false =>
    obtain ⟨rfl, h2⟩ := h
    obtain ⟨t, rfl⟩ := r
    simp only [kvOf]
    rw [← h2]
abbrev Keys (two : Bool) (H : Hp) : List V → List (Int × Int) → Prop := Paired (KeyIs two H)
theorem paired_len {α β : Type} {R : α → β → Prop} : ∀ {l : List α} {m : List β}, Paired R l m → l.length = m.length
  | _, _, .nil => rfl
  | _, _, .cons _ h => congrArg Nat.succ (paired_len h)
theorem paired_imp {α β : Type} {R R' : α → β → Prop} (f : ∀ a b, R a b → R' a b) : ∀ {l : List α} {m : List β}, Paired R l m → Paired R' l m
  | _, _, .nil => .nil
  | _, _, .cons h t => .cons (f _ _ h) (paired_imp f t)
theorem paired_snoc {α β : Type} {R : α → β → Prop} {a : α} {b : β} (h : R a b) : ∀ {l : List α} {m : List β}, Paired R l m → Paired R (l ++ [a]) (m ++ [b])
  | _, _, .nil => .cons h .nil
  | _, _, .cons h1 t => .cons h1 (paired_snoc h t)
/-- a rearrangement on the right is one on the left -/
theorem paired_perm {α β : Type} {R : α → β → Prop} {m m' : List β} (p : m.Perm m') : ∀ {l : List α}, Paired R l m → ∃ l', l'.Perm l ∧ Paired R l' m' := by
  induction p with
  | nil => intro l h; exact ⟨l, .refl _, h⟩
  | cons x _ ih =>
    intro l h
    cases h with
    | cons h t =>
      obtain ⟨l', p', h'⟩ := ih t
      exact ⟨_ :: l', p'.cons _, .cons h h'⟩
  | swap x y r =>
    intro l h
    cases h with
    | cons h1 t =>
      cases t with
      | cons h2 t => exact ⟨_, .swap _ _ _, .cons h2 (.cons h1 t)⟩
  | trans _ _ ih1 ih2 =>
    intro l h
    obtain ⟨l1, p1, h1⟩ := ih1 h
    obtain ⟨l2, p2, h2⟩ := ih2 h1
    exact ⟨l2, p2.trans p1, h2⟩
theorem paired_mem {α β : Type} {R : α → β → Prop} {b : β} : ∀ {l : List α} {m : List β}, Paired R l m → b ∈ m → ∃ a ∈ l, R a b
  | _, _, .nil, h => nomatch h
  | _, _, .cons h t, hb => by
    rcases List.mem_cons.mp hb with e | hb
    · exact ⟨_, List.mem_cons_self, by rw [e]; exact h⟩
    · obtain ⟨a, ha, r⟩ := paired_mem t hb
      exact ⟨a, List.mem_cons_of_mem _ ha, r⟩
theorem paired_pairwise {α β : Type} {R : α → β → Prop} {T : α → α → Prop} {T' : β → β → Prop} (f : ∀ a b a' b', R a b → R a' b' → T' b b' → T a a') : ∀ {l : List α} {m : List β}, Paired R l m → m.Pairwise T' → l.Pairwise T
  | _, _, .nil, _ => .nil
  | _, _, .cons (l₁ := l) (l₂ := m) (a := a) (b := b) h t, hp => by
    obtain ⟨h1, h2⟩ := List.pairwise_cons.mp hp
    refine List.pairwise_cons.mpr ⟨fun a' ha' => ?_, paired_pairwise f t h2⟩
    obtain ⟨b', hb', r'⟩ := (show ∀ {l : List α} {m : List β}, Paired R l m → a' ∈ l → ∃ b' ∈ m, R a' b' from by
      intro l m hh
      induction hh with
      | nil => intro z; cases z
      | cons h _ ih =>
        intro z
        rcases List.mem_cons.mp z with e | z
        · exact ⟨_, List.mem_cons_self, by rw [e]; exact h⟩
        · obtain ⟨b', hb', r⟩ := ih z
          exact ⟨b', List.mem_cons_of_mem _ hb', r⟩) t ha'
    exact f _ _ _ _ h r' (h1 b' hb')

/-! ### list.sort by the key -/
theorem sortable_imp {prog : Program} {w : World} {A : Around} {s : Shared} {a : Addr} {vs : List Value} {l1 l2 : Value → Value → Bool} (h : SrtO.SortableO prog w A s a vs l1) (e : ∀ u ∈ vs, ∀ v ∈ vs, l1 u v = l2 u v) : SrtO.SortableO prog w A s a vs l2 := by
  intro h' k
  obtain ⟨κ, h1, h2⟩ := h h' k
  refine ⟨κ, h1, fun p q hp hq => wpAny_mono (h2 p q hp hq) (fun r s' hr => ⟨hr.1, hr.2.trans (e _ hp _ hq)⟩) fun _ _ z => z⟩
theorem keys_sortable {X : Cx} {pins : List (Addr × Obj)} {σ : L2.St} {H : Hp} {s : Shared} {A : Around} {a : Addr} {n : Nat} {xs : Array Value} {two : Bool} {kvs : List V} {its : List Value} {ks : List (Int × Int)} (I : Inv X pins σ H s) (hk : Keys two H kvs ks) (rv : Vals kvs its)
    (h2 : 2 ≤ its.length) (ha : s.heap.get? a = some (seqObj "list" xs n)) : SrtO.SortableO X.prog X.w A s a its fun u v => SrtO.lexB (kvOf H u) (kvOf H v) := by
  cases two with
  | true =>
    refine SrtO.pairs_sortableO (k := kvOf H) (by omega) (fun v hv => ?_) (fun o e => by
      rw [ha] at e
      cases e
      exact fun z => by
        injection z with z3
        exact absurd z3 (by decide))
    obtain ⟨kk, hm, r⟩ := paired_mem rv hv
    obtain ⟨p, _, hp⟩ : ∃ p ∈ ks, KeyIs true H kk p := by
      clear rv h2 hv
      induction hk with
      | nil => cases hm
      | cons h _ ih =>
        rcases List.mem_cons.mp hm with e | hm
        · exact ⟨_, List.mem_cons_self, by rw [e]; exact h⟩
        · obtain ⟨p, h1, h2⟩ := ih hm
          exact ⟨p, List.mem_cons_of_mem _ h1, h2⟩
    rw [hp.kv r]
    obtain ⟨t, rfl, ht⟩ := hp
    obtain rfl : v = Value.ref t := r
    obtain ⟨_, its2, r2, o, ho, hc, n', hd⟩ := I.hok _ _ ht
    obtain ⟨u1, u2, rfl, ri, rj⟩ := vals2 r2
    obtain ⟨t1, rfl⟩ := ri
    obtain ⟨t2, rfl⟩ := rj
    exact ⟨t, o, t1, t2, n', rfl, ho, hc, hd⟩
  | false =>
    have hi : IntsAre its (ks.map Prod.fst) := by
      clear h2 ha
      induction hk generalizing its with
      | nil => cases rv; exact .nil
      | cons h _ ih =>
        cases rv with
        | cons r1 r2 =>
          obtain ⟨rfl, _⟩ := h
          obtain ⟨t, rfl⟩ := r1
          exact .cons _ _ (ih r2)
    refine sortable_imp (SrtO.ints_sortable hi h2) fun u hu v hv => ?_
    obtain ⟨i, t, rfl⟩ := SrtO.ints_mem hi u hu
    obtain ⟨j, t', rfl⟩ := SrtO.ints_mem hi v hv
    show decide (i < j) = SrtO.lexB (i, 0) (j, 0)
    unfold SrtO.lexB
    by_cases e : i = j
    · rw [if_pos e]; simp [e]
    · rw [if_neg e]
section
variable [Tb] {X : Cx} {pins : List (Addr × Obj)} {σ : L2.St} {H : Hp} {s : Shared} {N fr : List Str} {F : LF} {f a : Addr} {k : Nat} {A' : Around} {js : List Nat} {tb : TE} {xs : List V} {vs : List Value} {ks : List (Int × Int)} {two : Bool}
/-- behind the key store's making: what the sort ends with -/
theorem key_tail {kS e1 : Nat} {its : List Value} {kvs : List V} {st : SortSt} {R : PySem.Fin → Shared → Prop} {E : Value → Shared → Prop} {Hc : Hp}
    (I : Inv X ((a, seqObj "list" #[] e1) :: pins) σ Hc s) (fp : FpOk X pins Hc a) (hS : Hc kS = some (.lst kvs)) (hk : Keys two Hc kvs ks) (hlk : ks.length = xs.length) (ri : Vals kvs its) (rv : Vals xs vs) (hz : vs.length ≤ sizeLine)
    (hs : SrtO.Srtd (SrtO.lt2 fun u v => SrtO.lexB (kvOf Hc u) (kvOf Hc v)) (arrOf st).toList) (hp : (arrOf st).toList.Perm (its.zip vs)) (hfl : failedOf st = none)
    (h : ∀ (ps : List ((Int × Int) × V)) (s' : Shared), ps.Perm (ks.zip xs) → SrtO.Srtd (fun x y => SrtO.lexB x.1 y.1) ps → Inv X pins σ (upd (upd Hc kS (.lst [])) a (.lst (ps.map (·.2)))) s' → R (.done (.ret .none)) s') :
    wpAny (model X.prog X.w) A' (ksk_tail a false e1 (.ref kS) st) R E s := by
  obtain ⟨hzk, its', nk, rk, hob⟩ := I.hok kS _ hS
  have hpin := I.pin (a, seqObj "list" #[] e1) (List.mem_append_right _ List.mem_cons_self)
  have hka : a ≠ kS := fun z => by
    have q := hpin.2.1
    rw [show (a, seqObj "list" #[] e1).1 = a from rfl, z, hS] at q
    cases q
  have hz2 : xs.length ≤ sizeLine := by rw [rv.length]; exact hz
  have pr : Paired (fun (x : (Int × Int) × V) (q : Keyed) => RelV x.2 q.2 ∧ kvOf Hc q.1 = x.1) (ks.zip xs) (its.zip vs) := by
    clear hs hp hz hz2 hS h hzk rk hob
    induction rv generalizing kvs its ks with
    | nil => rw [List.zip_nil_right, List.zip_nil_right]; exact .nil
    | cons r1 _ ih =>
      cases hk with
      | nil => simp at hlk
      | cons k1 k2 =>
        cases ri with
        | cons r2 r3 => exact .cons ⟨r1, k1.kv r2⟩ (ih k2 (by simpa using hlk) r3)
  obtain ⟨ps, py, ry⟩ := paired_perm hp.symm pr
  have hpl : ps.length = xs.length := by rw [py.length_eq, List.length_zip, hlk, Nat.min_self]
  have hlen : (arrOf st).size = vs.length := by
    rw [← Array.length_toList, ← paired_len ry, hpl, rv.length]
  have sy : SrtO.Srtd (fun x y => SrtO.lexB x.1 y.1) ps := paired_pairwise (T' := fun p q => SrtO.lt2 (fun u v => SrtO.lexB (kvOf Hc u) (kvOf Hc v)) q p = false) (fun x p y q r1 r2 z => by
    have z' : SrtO.lexB (kvOf Hc q.1) (kvOf Hc p.1) = false := z
    rw [r1.2, r2.2] at z'
    exact z') ry hs
  have vy : Vals (ps.map (·.2)) ((arrOf st).toList.map (·.2)) := by
    exact (show ∀ {l : List ((Int × Int) × V)} {m : List Keyed}, Paired (fun (x : (Int × Int) × V) (q : Keyed) => RelV x.2 q.2 ∧ kvOf Hc q.1 = x.1) l m → Vals (l.map (·.2)) (m.map (·.2)) from by
      intro l m hh
      induction hh with
      | nil => exact .nil
      | cons r _ ih => exact .cons r.1 ih) ry
  unfold ksk_tail
  try dsimp only
  refine wpAny_bind (listUpdate_at hob rfl ?_ (by rw [List.size_toArray, ← rk.length]; exact hzk) (Nat.zero_le _))
  refine wpAny_bind (wpAny_letGo ?_)
  have get1 : ∀ b u, b ≠ kS → s.heap.get? b = some u → (s.heap.update kS (Obj.mapSeq fun _ => (#[] : Array Value))).get? b = some u := fun b u hb e => (Heap.get?_update_ne _ _ _ _ hb).trans e
  obtain ⟨e2, he2⟩ : ∃ e2, (s.heap.update kS (Obj.mapSeq fun _ => (#[] : Array Value))).get? kS = some (seqObj "list" #[] e2) := ⟨_, get?_update_seq hob fun _ => #[]⟩
  have I1 : Inv X ((a, seqObj "list" #[] e1) :: pins) σ (upd Hc kS (.lst [])) { s with heap := s.heap.update kS (Obj.mapSeq fun _ => (#[] : Array Value)) } :=
    I.write (e := kS) (t' := s.toks) (by rw [hS]; trivial) (.inl rfl) get1 ⟨_, he2⟩ ⟨Nat.zero_le _, [], e2, .nil, he2⟩
  have ga := (I1.pin (a, seqObj "list" #[] e1) (List.mem_append_right _ List.mem_cons_self)).1
  refine wpAny_bind (seqEpoch_at ga rfl ?_)
  refine wpAny_bind (listUpdate_at ga rfl ?_ (Nat.zero_le _) ?_)
  · rw [hfl]
    simp only [bne_self_eq_false, Bool.false_eq_true, if_false]
    obtain ⟨e3, he3⟩ : ∃ e3, ((s.heap.update kS (Obj.mapSeq fun _ => (#[] : Array Value))).update a (Obj.mapSeq fun _ => (arrOf st).map (·.2))).get? a = some (seqObj "list" ((arrOf st).map (·.2)) e3) := ⟨_, get?_update_seq ga fun _ => (arrOf st).map (·.2)⟩
    have I2 : Inv X pins σ (upd Hc kS (.lst [])) { s with heap := s.heap.update kS (Obj.mapSeq fun _ => (#[] : Array Value)) } := I1.pins_of fun p hp => I1.pin p (List.mem_append_right _ (List.mem_cons_of_mem _ hp))
    refine wpAny_pure (h ps _ py sy (adopt (s := { s with heap := s.heap.update kS (Obj.mapSeq fun _ => (#[] : Array Value)) }) (t' := s.toks) I2 (fun b u hb e => (Heap.get?_update_ne _ _ _ _ hb).trans e) ⟨(upd_ne hka).trans fp.1, fp.2⟩ ?_))
    refine ⟨by rw [List.length_map, hpl]; exact hz2, (arrOf st).toList.map (·.2), e3, vy, ?_⟩
    have ea : ((arrOf st).toList.map (·.2)).toArray = (arrOf st).map (·.2) := by
      apply Array.ext'
      simp
    rw [ea]
    exact he3
  · simp only [Bool.false_eq_true, if_false, Array.size_map, hlen]
    omega
theorem key_sort {p0 : Str} {n : Nat} {R : PySem.Fin → Shared → Prop} {E : Value → Shared → Prop} (W : LamW X k N [p0] fr f F tb) (room : Room (k + 1) A') (hA : A'.frames = X.A.frames) (I : Inv X pins σ H s) (hf : H f = some (LamO f F)) (hc : H F.c = some (CodeO F.c F.qual))
    (cp : Caps X F.cl fr js) (rv : Vals xs vs) (hz : vs.length ≤ sizeLine) (ho : s.heap.get? a = some (seqObj "list" vs.toArray n)) (fp : ∀ H', H' a = none → FpOk X pins H' a) (ha0 : H a = none)
    (hlk : ks.length = xs.length) (turn : ∀ (i : Nat) (x : V) (ki : Int × Int), xs[i]? = some x → ks[i]? = some ki → ∀ Hc, Kp No H Hc → tb (startF N [x] (js.map (slotAt σ))) Hc fun kk H3 => Kp No Hc H3 ∧ KeyIs two H3 kk ki)
    (h : ∀ (ps : List ((Int × Int) × V)) (H' : Hp) (s' : Shared), ps.Perm (ks.zip xs) → SrtO.Srtd (fun x y => SrtO.lexB x.1 y.1) ps → Kp No H H' → Inv X pins σ H' s' → H' a = some (.lst (ps.map (·.2))) → R (.done (.ret .none)) s') :
    wpAny (model X.prog X.w) A' (ksk_tree a (.ref f) false) R E s := by
  have ha : a < s.heap.objs.size := Heap.lt_size ho
  unfold ksk_tree
  refine wpAny_bind (listItems_at ho rfl ?_)
  refine wpAny_bind (listUpdate_at ho rfl ?_ (by rw [List.size_toArray]; exact hz) (Nat.zero_le _))
  obtain ⟨e1, ho1⟩ : ∃ e1, (s.heap.update a (Obj.mapSeq fun _ => (#[] : Array Value))).get? a = some (seqObj "list" #[] e1) := ⟨_, get?_update_seq ho fun _ => #[]⟩
  refine wpAny_bind (seqEpoch_at ho1 rfl ?_)
  refine wpAny_bind (wpAny_newTuple ?_ (by show vs.length ≤ _; exact hz))
  refine wpAny_bind (wpAny_newList ?_ (Nat.zero_le _))
  refine wpAny_holding ?_
  have I1 : Inv X pins σ H { s with heap := s.heap.update a (Obj.mapSeq fun _ => (#[] : Array Value)) } := I.turnedL (t' := s.toks) (ch := [a]) (fun b o hb e => (Heap.get?_update_ne _ _ _ _ (fun z => hb (by simp [z]))).trans e) fun b hb => by
    obtain rfl : b = a := by simpa using hb
    exact fp H ha0
  have I2 : Inv X pins σ H { s with heap := (s.heap.update a (Obj.mapSeq fun _ => (#[] : Array Value))).push (seqObj "tuple" vs.toArray 0) } := I1.kept (t' := s.toks) fun b o e => Heap.get?_push_of_some _ e
  generalize hh2 : (s.heap.update a (Obj.mapSeq fun _ => (#[] : Array Value))).push (seqObj "tuple" vs.toArray 0) = h2 at I2 ⊢
  have ho2 : h2.get? a = some (seqObj "list" #[] e1) := by rw [← hh2]; exact Heap.get?_push_of_some _ ho1
  have nS : H h2.objs.size = none := I2.hok.fresh (Nat.le_refl _)
  have I3 : Inv X pins σ (upd H h2.objs.size (.lst [])) { s with heap := h2.push (seqObj "list" #[] 0) } := I2.laid (t' := s.toks) (fun b o e => Heap.get?_push_of_some _ e) (Nat.le_refl _) ⟨Nat.zero_le _, [], 0, .nil, Heap.get?_push_size _ rfl⟩
  have haS : a ≠ h2.objs.size := Nat.ne_of_lt (Heap.lt_size ho2)
  have na3 : upd H h2.objs.size (.lst []) a = none := (upd_ne haS).trans ha0
  have fpa := fp _ na3
  have I4 : Inv X ((a, seqObj "list" #[] e1) :: pins) σ (upd H h2.objs.size (.lst [])) { s with heap := h2.push (seqObj "list" #[] 0) } := I3.pins_of fun p hp => by
    rcases List.mem_cons.mp hp with e | hp
    · rw [e]
      exact ⟨Heap.get?_push_of_some _ ho2, na3, fpa.2.1, fpa.2.2.1, fun v z => by cases z⟩
    · exact I3.pin p (List.mem_append_right _ hp)
  show wpAny (model X.prog X.w) A' (ksk_rest a (.ref f) false vs.toArray e1 (.ref h2.objs.size)) R E { s with heap := h2.push (seqObj "list" #[] 0) }
  generalize h2.objs.size = kS at *
  unfold ksk_rest
  refine wpAny_bind (wpAny_rule ?_)
  first
    | rw [List.forIn_toArray]
    | (rw [← Array.forIn_toList]; simp only [List.toList_toArray])
    | rw [← Array.forIn_toList]
  refine wpAny_bind (ksk_fold (fun i s' => ∃ (Hc : Hp) (kvs : List V), Inv X ((a, seqObj "list" #[] e1) :: pins) σ Hc s' ∧ Kp No H Hc ∧ Hc kS = some (.lst kvs) ∧ Keys two Hc kvs (ks.take i)) vs 0 _
    ⟨_, [], I4, Kp.new nS, upd_same, by simpa using Paired.nil⟩ ?step ?done)
  case step =>
    rintro j u s' hu ⟨Hc, kvs, Ic, kc, hS, hk⟩
    simp only [Nat.zero_add] at hk ⊢
    have hj : j < vs.length := (List.getElem?_eq_some_iff.mp hu).1
    have hjx : j < xs.length := by rw [rv.length]; exact hj
    have ex : xs[j]? = some xs[j] := List.getElem?_eq_getElem hjx
    obtain ⟨u', hu', rx⟩ := rv.get ex
    rw [hu] at hu'
    cases hu'
    have hjk : j < ks.length := by rw [hlk]; exact hjx
    have ek : ks[j]? = some ks[j] := List.getElem?_eq_getElem hjk
    have e0 : Env0 X.prog X.w X.K X.mg X.base A' X.stack s' Hc := { Ic.env0 with frames := hA.trans Ic.env0.frames }
    refine wpAny_bind (wpAny_attempt (wpAny_mono (lam_call (E := fun _ _ => False) W room e0 Ic (kc.all f _ hf id) (kc.all F.c _ hc id) (cells_of Ic cp) (.cons rx .nil) rfl (turn j _ _ ex ek Hc kc)) (fun v s'' he => ?_) fun _ _ hF => hF.elim))
    obtain ⟨kk, H3, I3', rk, k3, key⟩ := he
    have hS3 := k3.all kS _ hS id
    obtain ⟨hzk, its, n3, rk3, hob⟩ := I3'.hok kS _ hS3
    have lk : kvs.length = j := by rw [paired_len hk, List.length_take]; omega
    have li : its.toArray.size = j := by rw [List.size_toArray, ← rk3.length, lk]
    try dsimp only
    obtain ⟨c2, hc2⟩ : ∃ c2, (s''.heap.update kS (Obj.mapSeq (·.push v))).get? kS = some (seqObj "list" (its.toArray.push v) c2) := ⟨_, get?_update_seq hob (·.push v)⟩
    refine wpAny_bind (listUpdate_at hob rfl ?_ (by rw [li]; omega) (Nat.le_trans (Nat.le_of_eq (Array.size_push ..)) (by rw [li]; omega)))
    refine wpAny_pure ⟨rfl, upd H3 kS (.lst (kvs ++ [kk])), kvs ++ [kk], I3'.write (e := kS) (t' := s''.toks) (by rw [hS3]; trivial) (.inl rfl) (fun b o hb e => (Heap.get?_update_ne _ _ _ _ hb).trans e) ⟨_, hc2⟩ ⟨?_, its ++ [v], c2, paired_snoc rk rk3, by
        have ea : (its ++ [v]).toArray = its.toArray.push v := by simp
        rw [ea]
        exact hc2⟩, (kc.trans k3).put nS hS3, upd_same, ?_⟩
    · rw [List.length_append, lk]
      have : j + 1 ≤ vs.length := hj
      simp only [List.length_singleton]
      omega
    · have et : ks.take (j + 1) = ks.take j ++ [ks[j]] := by
        rw [List.take_add_one, ek]
        rfl
      rw [et]
      have kset : Kp (At kS) H3 (upd H3 kS (.lst (kvs ++ [kk]))) := Kp.set rfl hS3
      exact paired_snoc (key.up kset) (paired_imp (fun _ _ z => (z.up k3).up kset) hk)
  case done =>
    rintro s' ⟨Hc, kvs, Ic, kc, hS, hk⟩
    have ef : ks.take (0 + vs.length) = ks := List.take_of_length_le (by rw [hlk, rv.length]; omega)
    rw [ef] at hk
    obtain ⟨hzk, its, n3, rk3, hob⟩ := Ic.hok kS _ hS
    have hpin := Ic.pin (a, seqObj "list" #[] e1) (List.mem_append_right _ List.mem_cons_self)
    have li : its.length = vs.length := by rw [← rk3.length, paired_len hk, hlk, rv.length]
    refine wpAny_bind (listItems_at hob rfl ?_)
    have fin : ∀ st : SortSt, SrtO.Srtd (SrtO.lt2 fun u v => SrtO.lexB (kvOf Hc u) (kvOf Hc v)) (arrOf st).toList → (arrOf st).toList.Perm (its.zip vs) → failedOf st = none → wpAny (model X.prog X.w) A' (ksk_tail a false e1 (.ref kS) st) R E s' := fun st h1 h2 h3 =>
      key_tail (two := two) Ic (fp Hc hpin.2.1) hS hk hlk rk3 rv hz h1 h2 h3 fun ys s2 p1 p2 I5 => h ys _ s2 p1 p2 (by
        have kk1 : Kp No H (upd Hc kS (.lst [])) := kc.put nS hS
        have na : upd Hc kS (.lst []) a = none := (upd_ne haS).trans hpin.2.1
        exact kk1.trans (Kp.new na)) I5 upd_same
    have ez : (its.toArray.zip vs.toArray).toList = its.zip vs := ksk_zip its.toArray vs
    unfold ksk_end
    simp only [Bool.false_eq_true, if_false]
    by_cases h2 : vs.toArray.size < 2
    · rw [if_pos h2, if_pos h2]
      refine wpAny_bind (wpAny_pure ?_)
      rw [StateT.run_pure]
      refine wpAny_bind (wpAny_pure ?_)
      refine fin (SortSt.mk' general' (its.toArray.zip vs.toArray) #[] 7 none) ?_ ?_ rfl
      · show SrtO.Srtd _ (its.toArray.zip vs.toArray).toList
        rw [ez]
        have hs : (its.zip vs).length < 2 := by
          rw [List.length_zip, li]
          rw [List.size_toArray] at h2
          omega
        generalize its.zip vs = l at hs
        match l, hs with
        | [], _ => exact .nil
        | [v], _ => exact List.pairwise_singleton _ _
        | _ :: _ :: l, h => exact absurd h (by rw [List.length_cons, List.length_cons]; omega)
      · show (its.toArray.zip vs.toArray).toList.Perm _
        rw [ez]
    · rw [if_neg h2, if_neg h2]
      rw [List.size_toArray] at h2
      obtain ⟨κ, hkind, hT⟩ := keys_sortable (A := A') Ic hk rk3 (by omega) hpin.1 s'.heap fun _ _ _ e => e
      refine wpAny_bind (hkind _ _ ?_)
      refine wpAny_bind (wpAny_mono (SrtO.wpS_sortO (st0 := SortSt.mk' κ (its.toArray.zip vs.toArray) #[] 7 none)
        (Q := fun _ st' => SrtO.Srtd (SrtO.lt2 fun u v => SrtO.lexB (kvOf Hc u) (kvOf Hc v)) (arrOf st').toList ∧ (arrOf st').toList.Perm (its.zip vs) ∧ failedOf st' = none) (SrtO.swo2 (SrtO.swo_lex (kvOf Hc))) hT rfl (fun p hm => ?_) rfl rfl fun st' a1 a2 a3 => ⟨a1, by
          have q := a2.perm
          rw [show (arrOf (SortSt.mk' κ (its.toArray.zip vs.toArray) #[] 7 none)).toList = its.zip vs from ez] at q
          exact q, a3⟩) ?_ fun _ _ e => e)
      · have hm' : p ∈ (its.toArray.zip vs.toArray).toList := hm
        rw [ez] at hm'
        exact (List.of_mem_zip (a := p.1) (b := p.2) hm').1
      · rintro ⟨⟨⟩, st'⟩ s2 ⟨rfl, hp1, hp2, hf2⟩
        exact fin st' hp1 hp2 hf2
end

/-! ### sorted(.., key=lambda ..) as a rule -/
/-- the items of a list, of a range from 0 -/
def Src (K : PySem.W.Frag) (H : Hp) (v : V) (xs : List V) : Prop := ∃ a, v = .ref a ∧ (SqL K H a xs ∨ ∃ n : Nat, H a = some (.rng 0 n) ∧ n ≤ 100000 ∧ xs = (List.range n).map fun i : Nat => V.int i)
/-- the keys are told one by one; the result as pairs of keys and items -/
def tSortI [Tb] (K : PySem.W.Frag) (N : List Str) (js : List Nat) (tb : TE) (te : TE) : TE := fun σ H Q => te σ H fun v H1 => TbOk H1 ∧ ∃ (xs : List V) (two : Bool) (ks : List (Int × Int)), Src K H1 v xs ∧ ks.length = xs.length ∧
  (∀ (i : Nat) (x : V) (ki : Int × Int), xs[i]? = some x → ks[i]? = some ki → ∀ Hc, Kp No H1 Hc → tb (startF N [x] (js.map (slotAt σ))) Hc fun kk H3 => Kp No Hc H3 ∧ KeyIs two H3 kk ki) ∧
  ∀ (ps : List ((Int × Int) × V)) (p : Addr) (H' : Hp), ps.Perm (ks.zip xs) → SrtO.Srtd (fun x y => SrtO.lexB x.1 y.1) ps → Kp No H1 H' → H1 p = none → H' p = some (.lst (ps.map (·.2))) → Q (.ref p) H'
def tSortL [Tb] (K : PySem.W.Frag) (N : List Str) (js : List Nat) (tb : TE) (te : TE) : TE := fun σ H Q => te σ H fun v H1 => TbOk H1 ∧ ∃ (xs : List V) (two : Bool) (kf : V → Int × Int), Src K H1 v xs ∧
  (∀ x ∈ xs, ∀ Hc, Kp No H1 Hc → tb (startF N [x] (js.map (slotAt σ))) Hc fun kk H3 => Kp No Hc H3 ∧ KeyIs two H3 kk (kf x)) ∧
  ∀ (ys : List V) (p : Addr) (H' : Hp), ys.Perm xs → SrtO.Srtd (fun x y => SrtO.lexB (kf x) (kf y)) ys → Kp No H1 H' → H1 p = none → H' p = some (.lst ys) → Q (.ref p) H'
def tLamb [Tb] (mk : Addr → LF) : TE := fun σ H Q => TbOk H ∧ ∀ f c' H1, Kp No H H1 → H1 f = some (LamO f (mk c')) → H1 c' = some (CodeO c' (mk c').qual) → Q (.ref f) H1
section
variable [Tb] {X : Cx} {c Pt : Addr} {params : Arguments} {body : Expr} {scope : Scope} {lpos kpos pos p : Pos} {e : Expr} {te tb : TE} {N fr : List Str} {js : List Nat} {k : Nat} {p0 : Str}
theorem pe_lamb (TB : TabB X.base X.mg c Pt) (hcode : X.env.code = .ref c) (hm : (Pt, X.env.qual ++ "<lambda>") ∈ Tb.tabs) (hu : ∀ p ∈ Tb.tabs, p.1 = Pt → p.2 = X.env.qual ++ "<lambda>") (hdef : defaultsOf params X.env = ([], []))
    (hfree : ∀ y ∈ scope.names, y.2 = .free → X.env.scope.names.lookup y.1 = some .cell ∨ X.env.scope.names.lookup y.1 = some .free) :
    PE X (.Lambda params body scope lpos) (tLamb fun c' => ⟨X.env.qual ++ "<lambda>", params, body, scope, cloFrom X.env.cells scope.names [], c'⟩) := by
  refine ⟨fun pins s σ H Q I h => ?_⟩
  obtain ⟨hT, h⟩ := h
  exact lam_made I TB hcode hm hu hT hdef (fun y hy e => (hfree y hy e).elim (fun z => I.ok.has _ (.inl z)) fun z => I.ok.has _ (.inr z)) fun f c' H1 s' I1 k1 h1 h2 => ⟨.ref f, H1, I1, rfl, h f c' H1 k1 h1 h2⟩
theorem vals_range {acc : Array Value} {n : Nat} (h : ItemsOf (fun i v => ∃ t, v = Value.int ((0 : Int) + (i : Int) * 1) t) acc n) : Vals ((List.range n).map fun i : Nat => V.int i) acc.toList := by
  have key : ∀ (l : List Value) (j : Nat), (∀ i v, l[i]? = some v → ∃ t, v = Value.int ((j + i : Nat) : Int) t) → Vals ((List.range' j l.length).map fun i : Nat => V.int i) l := by
    intro l
    induction l with
    | nil => intro j _; exact .nil
    | cons v l ih =>
      intro j hj
      rw [List.length_cons, List.range'_succ, List.map_cons]
      refine .cons (hj 0 v rfl) (ih (j + 1) fun i u hu => ?_)
      obtain ⟨t, e⟩ := hj (i + 1) u (by simpa using hu)
      exact ⟨t, by rw [e]; congr 1; omega⟩
  have q := key acc.toList 0 fun i v hv => by
    obtain ⟨t, e⟩ := h.2 i v (by rw [← Array.getElem?_toList]; exact hv)
    exact ⟨t, by rw [e]; congr 1; omega⟩
  rw [Array.length_toList, h.1, ← List.range_eq_range'] at q
  exact q
theorem collect_src {pins : List (Addr × Obj)} {σ : L2.St} {H : Hp} {s : Shared} {v : V} {u : Value} {xs : List V} {A : Around} {R : List Value → Shared → Prop} {E : Value → Shared → Prop} (I : Inv X pins σ H s) (hh : A.handled = none) (hs : Src X.K H v xs) (r : RelV v u)
    (h : ∀ (acc : List Value) (h' : Heap) (tk : Nat), (∀ b o, s.heap.get? b = some o → h'.get? b = some o) → Vals xs acc → acc.length ≤ sizeLine → R acc { s with heap := h', toks := tk }) : wpAny (model X.prog X.w) A (collect u) R E s := by
  obtain ⟨a, rfl, hs⟩ := hs
  obtain rfl : u = Value.ref a := r
  rcases hs with hs | ⟨n, hr, hn, rfl⟩
  · obtain ⟨its, rv, hl, hz⟩ := I.list hs
    refine collect_list hl.isList (h its _ s.toks (fun b o q => ?_) rv (by rw [← rv.length]; exact hz)) (by rw [← rv.length]; exact hz)
    have hlt : b < s.heap.objs.size := Heap.lt_size q
    exact (Heap.get?_update_ne _ _ _ _ (Nat.ne_of_lt hlt)).trans (Heap.get?_push_of_some _ q)
  · obtain ⟨t, u, v, ho⟩ := I.hok a _ hr
    have es : Builtin.Range.rangeSize 0 n 1 = n := by
      unfold Builtin.Range.rangeSize
      split <;> omega
    refine collect_range (a := 0) (b := n) (c := 1) hh ho (small_one (by decide) (by decide) (by omega) (by omega)) es (by omega) fun h' tk acc hk hi => ?_
    have rv := vals_range hi
    refine h acc.toList h' tk hk rv ?_
    rw [← rv.length, List.length_map, List.length_range]
    exact Nat.le_trans hn (by decide)
/-- sorted(e, key=lambda p0: body) -/
theorem ye_sortI (TB : TabB X.base X.mg c Pt) (hcode : X.env.code = .ref c) (hm : (Pt, X.env.qual ++ "<lambda>") ∈ Tb.tabs) (hu : ∀ p ∈ Tb.tabs, p.1 = Pt → p.2 = X.env.qual ++ "<lambda>") (hb : ndefB X.env.scope scope fr = true)
    (hjs : js.map (fun j => X.N[j]?) = fr.map some) (hdef : defaultsOf params X.env = ([], [])) (room : Room (k + 3) X.A) (hg : Gl X "sorted") (hmg : X.mg "sorted" = none)
    (W : ∀ f c', LamW X k N [p0] fr f ⟨X.env.qual ++ "<lambda>", params, body, scope, cloFrom X.env.cells scope.names [], c'⟩ tb) (he : PE X e te)
    (h1 : backTo pos (starEach [e] X.env) = (false, eval e X.env) :: backTo pos (starEach [] X.env) := by rfl) (hpl : (backTo pos (starEach [e] X.env)).any (·.1) = false := by rfl) (hsp : starEach [e] X.env = (false, eval e X.env) :: starEach [] X.env := by rfl) :
    PE X (.Call (.Name "sorted" p) [e] [⟨some "key", .Lambda params body scope lpos, kpos⟩] pos) (tSortI X.K N js tb te) := by
  refine ⟨fun pins s σ H Q I h => ?_⟩
  have hk := pk_cons (nm := some "key") (kpos := kpos) (pe_lamb (lpos := lpos) (body := body) TB hcode hm hu hdef (ndef_free hb)) pk_nil
  refine wpAny_Call_Name_kw (ld_blt I hg hmg boot_sorted ?_ (by decide) (by decide))
  refine PyProof.Rows.callWith_kw (one_arg he I h (fun v s1 x H1 I1 r1 q1 => ?_) hsp) h1 hpl (by rfl) (by rfl)
  obtain ⟨hT, xs, two, ks, src, hlk, turn, q⟩ := q1
  refine thn (hk.run pos pins s1 σ H1 (fun zs H2 => ∃ f c', zs = [.ref f] ∧ Kp No H1 H2 ∧ H2 f = some (LamO f ⟨X.env.qual ++ "<lambda>", params, body, scope, cloFrom X.env.cells scope.names [], c'⟩) ∧ H2 c' = some (CodeO c' (X.env.qual ++ "<lambda>"))) I1 ⟨hT, fun f c' H2 k2 hf hc => ⟨f, c', rfl, k2, hf, hc⟩⟩) fun ws s2 ⟨zs, H2, I2, r2, f, c', ez, k2, hf, hc⟩ => ?_
  subst ez
  obtain rfl := Vals.ref1 r2
  show wpAny _ _ (call (.builtin "sorted") [v] [(Str.ofString "key", .ref f)]) _ _ _
  have src2 : Src X.K H2 x xs := by
    obtain ⟨a, e1, hs⟩ := src
    refine ⟨a, e1, ?_⟩
    rcases hs with hs | ⟨n, h1, h2⟩
    · exact .inl (k2.seq hs)
    · exact .inr ⟨n, k2.all a _ h1 id, h2⟩
  refine call_function_entry_kw kind_sorted plain_sorted entry_sorted (ksk_s1 _ _) ?_
  unfold Builtin.«sorted»
  refine wpAny_bind (m := checkCount "sorted" 1 1 _) (wpAny_pure ?_)
  refine wpAny_bind (collect_src I2 room.in1.hd src2 r1 fun acc h' tk kp rv hz => ?_)
  refine wpAny_bind (wpAny_newList ?_ hz)
  have I3 : Inv X pins σ H2 { s2 with heap := h', toks := tk } := I2.kept kp
  have I4 : Inv X pins σ H2 { s2 with heap := h'.push (seqObj "list" acc.toArray 0), toks := tk } := I3.kept (t' := tk) fun b o e => Heap.get?_push_of_some _ e
  have hoL : (h'.push (seqObj "list" acc.toArray 0)).get? h'.objs.size = some (seqObj "list" acc.toArray 0) := Heap.get?_push_size _ rfl
  have na : H2 h'.objs.size = none := I3.hok.fresh (Nat.le_refl _)
  refine wpAny_bind (wpAny_holding (wpAny_call_entry_kw slot_list_sort ⟨_, hoL, rfl⟩ entry_list_sort ?body (ksk_l1 _ _)))
  case body =>
    rw [ksk_t1]
    refine key_sort (two := two) (ks := ks) (W f c') (room.in1.in1) rfl I4 hf hc (Caps.made I4.ok (ndef_free hb) (ndef_fr hb) hjs) rv hz hoL (fun H' hn => I3.fpOk (Nat.le_refl _) hn) na hlk (fun i x' ki h1 h2 Hc kc => turn i x' ki h1 h2 Hc (k2.trans kc)) fun ys H' s' p1 p2 k3 I5 hp => ⟨_, rfl, ?_⟩
    exact wpAny_pure ⟨_, rfl, ⟨.ref h'.objs.size, H', I5, rfl, q ys _ H' p1 p2 (k2.trans k3) (k2.dom _ na) hp⟩⟩
theorem zip_map_mem {kf : V → Int × Int} : ∀ {xs : List V} {p : (Int × Int) × V}, p ∈ (xs.map kf).zip xs → p.1 = kf p.2
  | x :: xs, p, h => by
    rw [List.map_cons, List.zip_cons_cons] at h
    rcases List.mem_cons.mp h with e | h
    · rw [e]
    · exact zip_map_mem h
theorem ye_sortL {e : Expr} {te : TE} (h : PE X (.Call (.Name "sorted" p) [e] [⟨some "key", .Lambda params body scope lpos, kpos⟩] pos) (tSortI X.K N js tb (cl te))) :
    PE X (.Call (.Name "sorted" p) [e] [⟨some "key", .Lambda params body scope lpos, kpos⟩] pos) (tSortL X.K N js tb te) :=
  PE.imp h fun σ H Q h => ⟨_, h, fun v H1 q => by
    obtain ⟨hT, xs, two, kf, src, turn, q⟩ := q
    refine ⟨hT, xs, two, xs.map kf, src, List.length_map .., fun i x ki h1 h2 Hc kc => ?_, fun ps pa H' p1 p2 k1 n1 h1 => ?_⟩
    · rw [List.getElem?_map, h1] at h2
      obtain rfl := Option.some.inj h2
      exact turn x (List.mem_of_getElem? h1) Hc kc
    · refine q (ps.map (·.2)) pa H' ?_ ?_ k1 n1 h1
      · have z := p1.map (·.2)
        have e2 : ((xs.map kf).zip xs).map (·.2) = xs := List.map_snd_zip (by rw [List.length_map]; exact Nat.le_refl _)
        rw [e2] at z
        exact z
      · refine List.pairwise_map.mpr (p2.imp_of_mem fun {a b} ha hb z => ?_)
        have z' : SrtO.lexB b.1 a.1 = false := z
        rw [zip_map_mem (p1.mem_iff.mp ha), zip_map_mem (p1.mem_iff.mp hb)] at z'
        exact z'⟩
end
end Y

set_option Elab.async false
set_option linter.all false
set_option maxRecDepth 100000
set_option maxHeartbeats 4000000
/-! M1: defs that make lambdas, by name; range as a thing; isinstance. -/
namespace Y
open PySem PySem.Spec PyProof.Rows L2 LamX NdefX

/-! ### a def whose code object and table are known -/
def DefL (K : PySem.W.Frag) (mg : Str → Option Value) (x : Str) (st : Stmt) (c : Addr) : Prop :=
  ∃ f fd, FunD K x x (defArgs st) (defBody st) (defScope st) [] [] f fd ∧ mg x = some (.ref f) ∧ fd.code = .ref c
abbrev lamName (x : Str) : Str := (x ++ ".<locals>.") ++ "<lambda>"
/-- the def st at the module's name x makes lambdas; its table is one of those that are kept -/
def LamAt [Tb] (K : PySem.W.Frag) (mg : Str → Option Value) (base : Heap) (x : Str) (st : Stmt) : Prop :=
  ∃ c Pt, DefL K mg x st c ∧ TabB base mg c Pt ∧ (Pt, lamName x) ∈ Tb.tabs ∧ ∀ p ∈ Tb.tabs, p.1 = Pt → p.2 = lamName x
section
variable {P : Program} {w : World} {K : PySem.W.Frag} {mg : Str → Option Value} {base : Heap} {k : Nat} {x : Str} {sp : Sp}
theorem defL_of {st : Stmt} {p : Str × Option Str} {fd : FuncData} (F : FunD K x x (defArgs st) (defBody st) (defScope st) [] [] (He.fAd K p) fd) (hm : mg x = some (.ref (He.fAd K p))) : DefL K mg x st (He.codeOf K p) := by
  refine ⟨_, fd, F, hm, ?_⟩
  obtain ⟨_, _, _, _, _, _, _, cd, _, _, e, lk, hcd, _, _⟩ := F.ex
  obtain ⟨c, rfl⟩ := He.codeIn_ref hcd
  have e2 : fd.code = .ref c := by rw [e]
  rw [He.codeOf_eq lk e2]
  exact e2
theorem cal_ofL {st : Stmt} {N ps : List Str} {c : Addr} (D : DefL K mg x st c) (S : FnScope N ps (defScope st))
    (bnd : ∀ (kV doc pm : Value) (an : Option Addr) (cdv ct : Value) (us : List Value), us.length = ps.length → bindArgs (PySem.W.fnOf x x (defArgs st) (defBody st) (defScope st) .none kV doc pm an cdv ct) ⟨us, []⟩ = pure (ps.zip us))
    (ar : ∀ vs H Q E, sp vs H Q E → vs.length = ps.length)
    (hb : ∀ (f : Addr) (A : Around) (out : List Env) (s : Shared) (H : Hp) (vs : List V) (Q : VK) (E : XK), Room k (A.deeper (envOfC x (defScope st) s.heap.objs.size f (.ref c))) → (A.deeper (envOfC x (defScope st) s.heap.objs.size f (.ref c))).guards = some [] → sp vs H Q E →
      ∃ t, PSs (cxOf CX0 P w K mg base N x (defScope st) f (.ref c) A out s H E).nox (defBody st) t ∧ t { nx := fun _ H' => Q .non H', rt := Q } (start N vs) H) : Cal P w K mg base (k + 1) x sp := by
  obtain ⟨f, fd, F, hm, hc⟩ := D
  refine ⟨f, fd, ps, ?_, hm, F.kp, F.bindsN bnd⟩
  obtain ⟨_, _, _, _, _, _, _, cd, _, _, rfl, lk, hcd, _, _⟩ := F.ex
  obtain rfl : cd = .ref c := hc
  refine goes_of lk hcd S ar fun A out s H vs Q E r g q => ?_
  obtain ⟨t, h1, h2⟩ := hb f A out s H vs Q E r g q
  exact ⟨t, h1.nox, h2⟩
end

/-! ### range(n) as a thing, types, isinstance -/
section
variable {X : Cx} {K : PySem.W.Frag}
def yRg1 : List V → Hp → VK → Prop := fun vs H Q => match vs with
  | [.int n] => ∀ p, H p = none → Q (.ref p) (upd H p (.rng 0 n))
  | _ => False
theorem cRange1 : CallR X (.type "range") yRg1 := by
  intro pins s σ H vs us Q I r h
  unfold yRg1 at h
  split at h
  · rename_i n
    obtain ⟨u1, rfl, r1⟩ := vals1 r
    obtain ⟨t, rfl⟩ := r1
    refine call_range_1 ⟨.ref s.heap.objs.size, upd H s.heap.objs.size (.rng 0 n), I.laid (t' := s.toks + 1 + 1) (fun b o e => Heap.get?_push_of_some _ e) (Nat.le_refl _) ?_, rfl, h _ (I.hok.fresh (Nat.le_refl _))⟩
    exact ⟨_, _, _, Heap.get?_push_size _ rfl⟩
  · exact h.elim
theorem ye_ty {x : Str} {n : String} {pos : Pos} (hg : Gl X x) (hm : X.mg x = none) (hv : bootBuiltins x = some (.type n)) (hn : x ≠ "__name__" := by decide) (hdb : (x == ("__debug__" : Str)) = false := by decide) : PE X (.Name x pos) (tC (.ty n)) :=
  ⟨fun pins s σ H Q I h => ld_blt I hg hm hv ⟨.ty n, H, I, rfl, h⟩ hn hdb⟩
def yIsi (K : PySem.W.Frag) : List V → Hp → VK → Prop := fun xs H Q => match xs with
  | [x, .ty n] => ∃ m b, TyX K H x (.type m) ∧ kitB m n = some b ∧ Q (.bl b) H
  | _ => False
theorem kIsi (h : X.K = K) : CallR X (.builtin "isinstance") (yIsi K) := by
  subst h
  refine CallR.imp call_isi fun xs H Q h => ?_
  unfold yIsi at h
  split at h
  · obtain ⟨m, b, h1, h2, h3⟩ := h
    exact ⟨_, _, _, _, b, rfl, .ty _, h1, kit_ty h2, h3⟩
  · exact h.elim
end
end Y

set_option Elab.async false
set_option linter.all false
set_option maxRecDepth 100000
set_option maxHeartbeats 4000000
/-! R1: ranks, as mathematics. -/
namespace Y
open PySem PySem.Spec PyProof.Rows L2

theorem perm_uniq {α : Type} {R : α → α → Prop} (anti : ∀ a b, R a b → R b a → a = b) : ∀ {l m : List α}, l.Perm m → l.Pairwise R → m.Pairwise R → l = m
  | [], m, p, _, _ => (List.Perm.eq_nil p.symm).symm
  | a :: l, [], p, _, _ => absurd p.length_eq (by simp)
  | a :: l, b :: m, p, hl, hm => by
    have e : a = b := by
      rcases List.mem_cons.mp (p.mem_iff.mp (List.mem_cons_self (a := a) (l := l))) with e | ha
      · exact e
      · rcases List.mem_cons.mp (p.mem_iff.mpr (List.mem_cons_self (a := b) (l := m))) with e | hb
        · exact e.symm
        · exact anti a b ((List.pairwise_cons.mp hl).1 b hb) ((List.pairwise_cons.mp hm).1 a ha)
    subst e
    rw [perm_uniq anti p.cons_inv (List.pairwise_cons.mp hl).2 (List.pairwise_cons.mp hm).2]

/-- a layer's strength, by its number -/
def stg (r : List Lay) (i : Nat) : Int := (r.getD i (default, 0)).2
theorem stg_at {r : List Lay} {i : Nat} (h : i < r.length) : stg r i = r[i].2 := by
  unfold stg
  rw [List.getD_eq_getElem?_getD, List.getElem?_eq_getElem h]
  rfl
/-- i ranks ahead of j -/
def ahead (r : List Lay) (i j : Nat) : Bool := decide (stg r j < stg r i) || (decide (stg r i = stg r j) && decide (j < i))
theorem ahead_iff {r : List Lay} {i j : Nat} : ahead r i j = true ↔ stg r j < stg r i ∨ (stg r i = stg r j ∧ j < i) := by
  unfold ahead
  simp
theorem ahead_no {r : List Lay} {i j : Nat} : ahead r i j = false ↔ ¬ (stg r j < stg r i ∨ (stg r i = stg r j ∧ j < i)) := by
  rw [← ahead_iff]
  cases ahead r i j <;> simp
theorem ahead_anti (r : List Lay) (i j : Nat) (h1 : ahead r j i = false) (h2 : ahead r i j = false) : i = j := by
  rw [ahead_no] at h1 h2
  omega
def rankM (r : List Lay) : List Nat := (List.range r.length).mergeSort fun i j => !ahead r j i
theorem rankM_perm (r : List Lay) : (rankM r).Perm (List.range r.length) := List.mergeSort_perm _ _
theorem rankM_sorted (r : List Lay) : (rankM r).Pairwise fun i j => ahead r j i = false := by
  have h := List.pairwise_mergeSort (le := fun i j => !ahead r j i) (fun a b c h1 h2 => by
    simp only [Bool.not_eq_true'] at h1 h2 ⊢
    rw [ahead_no] at h1 h2 ⊢
    omega) (fun a b => by
    cases h : ahead r b a with
    | false => rfl
    | true =>
      have := ahead_iff.mp h
      have q : ahead r a b = false := ahead_no.mpr (by omega)
      rw [q]
      rfl) (List.range r.length)
  exact h.imp fun z => by simpa using z
theorem rankM_uniq {r : List Lay} {ys : List Nat} (p : ys.Perm (List.range r.length)) (s : ys.Pairwise fun i j => ahead r j i = false) : ys = rankM r :=
  perm_uniq (ahead_anti r) (p.trans (rankM_perm r).symm) s (rankM_sorted r)
theorem rankM_length (r : List Lay) : (rankM r).length = r.length := by rw [(rankM_perm r).length_eq, List.length_range]
theorem rankM_mem {r : List Lay} {i : Nat} : i ∈ rankM r ↔ i < r.length := by rw [(rankM_perm r).mem_iff, List.mem_range]
theorem rankM_nodup (r : List Lay) : (rankM r).Nodup := (rankM_perm r).nodup_iff.mpr List.nodup_range
theorem rankM_strict (r : List Lay) : (rankM r).Pairwise fun i j => ahead r i j = true := by
  have h := List.Pairwise.and (rankM_sorted r) (rankM_nodup r)
  refine h.imp fun {i j} ⟨h1, h2⟩ => ?_
  rw [ahead_no] at h1
  rw [ahead_iff]
  omega
theorem rankM_nil : rankM [] = [] := List.length_eq_zero_iff.mp (rankM_length [])
/-- how many rank ahead -/
def cntM (r : List Lay) (i : Nat) : Nat := ((List.range r.length).filter fun o => ahead r o i).length
theorem strict_pos (r : List Lay) : ∀ {l : List Nat} {k i : Nat}, (l.Pairwise fun i j => ahead r i j = true) → l[k]? = some i → (l.filter fun o => ahead r o i).length = k
  | [], _, _, _, h => by simp at h
  | x :: l, 0, i, hp, h => by
    obtain rfl : x = i := by simpa using h
    have h1 := (List.pairwise_cons.mp hp).1
    have e : (x :: l).filter (fun o => ahead r o x) = [] := List.filter_eq_nil_iff.mpr fun o ho => by
      rcases List.mem_cons.mp ho with e | ho
      · rw [e, ahead_iff]
        omega
      · have q := ahead_iff.mp (h1 o ho)
        rw [ahead_iff]
        omega
    rw [e]
    rfl
  | x :: l, k + 1, i, hp, h => by
    have h' : l[k]? = some i := by simpa using h
    have hx := (List.pairwise_cons.mp hp).1 i (List.mem_of_getElem? h')
    rw [List.filter_cons_of_pos (p := fun o => ahead r o i) hx, List.length_cons, strict_pos r (List.pairwise_cons.mp hp).2 h']
theorem cntM_pos {r : List Lay} {k i : Nat} (h : (rankM r)[k]? = some i) : cntM r i = k := by
  unfold cntM
  rw [← ((rankM_perm r).filter _).length_eq]
  exact strict_pos r (rankM_strict r) h
theorem rankM_at {r : List Lay} {i : Nat} (h : i < r.length) : (rankM r)[cntM r i]? = some i := by
  obtain ⟨k, hk⟩ := List.mem_iff_getElem?.mp (rankM_mem.mpr h)
  rw [cntM_pos hk]
  exact hk
theorem cntM_lt {r : List Lay} {i : Nat} (h : i < r.length) : cntM r i < r.length := by
  have q := (List.getElem?_eq_some_iff.mp (rankM_at h)).1
  rw [rankM_length] at q
  exact q
/-- the keys by which ranked sorts -/
def rkey (r : List Lay) : V → Int × Int
  | .int i => (0 - stg r i.toNat, 0 - i)
  | _ => (0, 0)
theorem rkey_lex {r : List Lay} {i j : Nat} : SrtO.lexB (rkey r (.int (i : Nat))) (rkey r (.int (j : Nat))) = ahead r i j := by
  have h : SrtO.lexB (0 - stg r i, 0 - (i : Int)) (0 - stg r j, 0 - (j : Int)) = true ↔ ahead r i j = true := by
    rw [SrtO.lexB_iff, ahead_iff]
    simp only
    omega
  show SrtO.lexB (0 - stg r i, 0 - (i : Int)) (0 - stg r j, 0 - (j : Int)) = ahead r i j
  cases e : ahead r i j with
  | true => exact h.mpr e
  | false =>
    cases e2 : SrtO.lexB (0 - stg r i, 0 - (i : Int)) (0 - stg r j, 0 - (j : Int)) with
    | false => rfl
    | true => rw [h.mp e2] at e; cases e
abbrev natV (l : List Nat) : List V := l.map fun i : Nat => V.int (i : Int)
/-- what sorted told is the ranks -/
theorem ranked_is {r : List Lay} {ys : List V} (p : ys.Perm (natV (List.range r.length))) (s : SrtO.Srtd (fun x y => SrtO.lexB (rkey r x) (rkey r y)) ys) : ys = natV (rankM r) := by
  obtain ⟨zs, rfl⟩ : ∃ zs : List Nat, ys = natV zs := by
    have hm : ∀ y ∈ ys, ∃ i : Nat, y = .int i := fun y hy => by
      obtain ⟨i, _, e⟩ := List.mem_map.mp (p.mem_iff.mp hy)
      exact ⟨i, e.symm⟩
    clear p s
    induction ys with
    | nil => exact ⟨[], rfl⟩
    | cons y ys ih =>
      obtain ⟨i, rfl⟩ := hm y List.mem_cons_self
      obtain ⟨zs, rfl⟩ := ih fun z hz => hm z (List.mem_cons_of_mem _ hz)
      exact ⟨i :: zs, rfl⟩
  have inj : ∀ a b : Nat, V.int (a : Int) = V.int (b : Int) → a = b := fun a b h => by
    injection h with h
    omega
  have p2 : zs.Perm (List.range r.length) := by
    have q := p.filterMap (fun v : V => match v with | .int i => some i.toNat | _ => none)
    have e : ∀ l : List Nat, (natV l).filterMap (fun v : V => match v with | .int i => some i.toNat | _ => none) = l := by
      intro l
      induction l with
      | nil => rfl
      | cons a l ih =>
        show (some ((a : Int).toNat)).toList ++ _ = _
        rw [show (natV l).filterMap _ = l from ih]
        rfl
    rw [e, e] at q
    exact q
  have s2 : zs.Pairwise fun i j => ahead r j i = false := (List.pairwise_map.mp s).imp fun {i j} h => by
    have h' : SrtO.lexB (rkey r (.int (j : Nat))) (rkey r (.int (i : Nat))) = false := h
    rw [rkey_lex] at h'
    exact h'
  rw [rankM_uniq p2 s2]

/-! ### lists of small whole numbers, as data -/
def natsD (l : List Nat) : PyData := .list (l.map fun i : Nat => PyData.int (i : Int))
theorem natsD_dp {K : PySem.W.Frag} {H : Hp} {a : Addr} {l : List Nat} (h : H a = some (.lst (natV l))) : Dp K H (.ref a) (natsD l) := by
  refine .lst (.inl (.inl h)) ?_
  clear h
  induction l with
  | nil => exact .nil
  | cons i l ih => exact .cons (.int _) ih
theorem natsD_sh {l : List Nat} (h : ∀ i ∈ l, i < 100000) (hl : l.length ≤ 1000) : Sh (natsD l) := by
  refine ⟨fineAll_of fun d hd => ?_, ?_, ?_⟩
  · obtain ⟨i, hi, rfl⟩ := List.mem_map.mp hd
    have := h i hi
    have e : (100000 : Nat) < 10 ^ 500 := by decide +kernel
    exact decide_eq_true (show (i : Int).natAbs < 10 ^ 500 by omega)
  · rw [natsD, PyData.depth]
    have := depthAll_le (n := 0) (ds := l.map fun i : Nat => PyData.int (i : Int)) fun d hd => by
      obtain ⟨i, _, rfl⟩ := List.mem_map.mp hd
      simp [PyData.depth]
    omega
  · rw [natsD, PyData.bulk]
    have := bulkAll_le (n := 1) (ds := l.map fun i : Nat => PyData.int (i : Int)) fun d hd => by
      obtain ⟨i, _, rfl⟩ := List.mem_map.mp hd
      simp [PyData.bulk]
    rw [List.length_map] at this
    omega
/-- the ranks found so far, by number -/
def foundM (r : List Lay) (k : Nat) : List V := (rankM r).map fun i : Nat => if i < k then V.int (i : Int) else .non
theorem foundM_zero (r : List Lay) : foundM r 0 = List.replicate r.length .non := by
  unfold foundM
  rw [← rankM_length r, List.map_const'.symm]
  exact List.map_congr_left fun i _ => if_neg (Nat.not_lt_zero i)
theorem foundM_length (r : List Lay) (k : Nat) : (foundM r k).length = r.length := by rw [foundM, List.length_map, rankM_length]
theorem foundM_set {r : List Lay} {k : Nat} (h : k < r.length) : (foundM r k).set (cntM r k) (.int (k : Int)) = foundM r (k + 1) := by
  refine List.ext_getElem? fun j => ?_
  rw [List.getElem?_set]
  have e := rankM_at h
  split
  · rename_i hj
    subst hj
    rw [if_pos (by rw [foundM_length]; exact cntM_lt h), foundM, List.getElem?_map, e]
    simp
  · rename_i hj
    unfold foundM
    rw [List.getElem?_map, List.getElem?_map]
    cases q : (rankM r)[j]? with
    | none => rfl
    | some i =>
      have hi : i ≠ k := fun z => by
        subst z
        exact hj (cntM_pos q)
      have e2 : (i < k) = (i < k + 1) := propext ⟨fun _ => by omega, fun _ => by omega⟩
      show some _ = some _
      simp only [e2]
theorem foundM_all (r : List Lay) : foundM r r.length = natV (rankM r) := List.map_congr_left fun i hi => if_pos (rankM_mem.mp hi)
theorem fm_filter {α : Type} (p : α → Bool) (l : List α) : (l.filterMap fun o => if p o = true then some o else none) = l.filter p := by
  induction l with
  | nil => rfl
  | cons a l ih =>
    rw [List.filterMap_cons, List.filter_cons]
    cases p a with
    | true => simp [ih]
    | false => simp [ih]
theorem rgV_nat {n : Nat} : rgV 0 (n : Int) = natV (List.range n) := by
  unfold rgV
  rw [Int.sub_zero, Int.toNat_natCast]
  exact List.map_congr_left fun i _ => by simp
theorem rep_one {α : Type} (n : Nat) (a : α) : (List.replicate n [a]).flatten = List.replicate n a := by
  induction n with
  | zero => rfl
  | succ n ih => rw [List.replicate_succ, List.flatten_cons, ih, List.replicate_succ]; rfl
theorem ImAll.ofNats {K : PySem.W.Frag} {H : Hp} : ∀ l : List Nat, ImAll K H (natV l) (l.map fun i : Nat => PyData.int (i : Int))
  | [] => .nil
  | _ :: l => .cons (.int _) (ImAll.ofNats l)
theorem ixNat {n j : Nat} (hj : j < n) : ixN n (j : Int) = some j := by
  unfold ixN
  rw [if_pos (by omega), if_pos (by omega), Int.toNat_natCast]
/-- the first's number, or None -/
def firstV (r : List Lay) : V := match rankM r with
  | [] => .non
  | i :: _ => .int (i : Nat)
def firstD (r : List Lay) : PyData := match rankM r with
  | [] => .none
  | i :: _ => .int (i : Nat)
theorem firstD_dp {K : PySem.W.Frag} {H : Hp} (r : List Lay) : Dp K H (firstV r) (firstD r) := by
  unfold firstV firstD
  cases rankM r with
  | nil => exact .non
  | cons i l => exact .int _
theorem int_sh {i : Int} (h : i.natAbs < 10 ^ 500) : Sh (.int i) := ⟨decide_eq_true h, by simp [PyData.depth], by simp [PyData.bulk]⟩
theorem none_sh : Sh .none := ⟨rfl, by simp [PyData.depth], by simp [PyData.bulk]⟩
theorem small_fine {i : Nat} (h : i < 100000) : (i : Int).natAbs < 10 ^ 500 := by
  have e : (100000 : Nat) < 10 ^ 500 := by decide +kernel
  omega
theorem firstD_sh {r : List Lay} (h : r.length ≤ 10000) : Sh (firstD r) := by
  unfold firstD
  cases e : rankM r with
  | nil => exact none_sh
  | cons i l =>
    have hi := rankM_mem.mp (show i ∈ rankM r by rw [e]; exact List.mem_cons_self)
    exact int_sh (small_fine (by omega))
theorem firstV_at (r : List Lay) : atI (natV (rankM r) ++ [.non]) 0 = some (firstV r) := by
  unfold firstV
  cases rankM r with
  | nil => rfl
  | cons i l => exact atI_nat (j := 0) rfl
theorem ImAll.bools {K : PySem.W.Frag} {H : Hp} : ∀ {bs : List Bool} {ys : List V}, ImAll K H ys (bs.map PyData.bool) → ys = bs.map V.bl
  | [], [], _ => rfl
  | _ :: _, _ :: _, .cons h1 h2 => by rw [Im.blInv h1, ImAll.bools h2]; rfl
theorem rankD_sh {r : List Lay} (h : r.length ≤ 1000) : Sh (natsD (rankM r)) := natsD_sh (fun i hi => by have := rankM_mem.mp hi; omega) (by rw [rankM_length]; exact h)
theorem yEq_str {K : PySem.W.Frag} {a : Str} {H : Hp} {Q : VK} (h : Q (.bl true) H) : yEq K (.str a) (.str a) H Q := by
  show Q (.bl (decide (a = a))) H
  rw [decide_eq_true rfl]
  exact h
end Y

set_option Elab.async false
set_option linter.all false
set_option maxRecDepth 100000
set_option maxHeartbeats 4000000
/-! T1: thinned rows, as mathematics. -/
namespace Y
open PySem PySem.Spec PyProof.Rows L2

/-- the numbers of the layers of a rank below m -/
def keepI (r : List Lay) (m : Nat) : List Nat := (List.range r.length).filter fun i => decide (cntM r i < m)
def thinM (r : List Lay) (m : Nat) : List Lay := (keepI r m).filterMap fun i => r[i]?
theorem thinM_eq (r : List Lay) (m : Nat) : thinM r m = (List.range r.length).filterMap fun i => if decide (cntM r i < m) = true then r[i]? else none := by
  unfold thinM keepI
  rw [List.filterMap_filter]
theorem thinM_length_le (r : List Lay) (m : Nat) : (thinM r m).length ≤ r.length := by
  rw [thinM_eq]
  exact Nat.le_trans (List.length_filterMap_le _ _) (by rw [List.length_range]; exact Nat.le_refl _)
theorem thinM_mem {r : List Lay} {m : Nat} {l : Lay} (h : l ∈ thinM r m) : l ∈ r := by
  obtain ⟨i, _, e⟩ := List.mem_filterMap.mp h
  exact List.mem_of_getElem? e
/-- sorted beginnings of the ranks -/
theorem take_sorted {r : List Lay} {m : Nat} {zs : List Nat} (p : zs.Perm ((rankM r).take m)) (s : zs.Pairwise (· ≤ ·)) : zs = keepI r m := by
  have nd : ((rankM r).take m).Nodup := (rankM_nodup r).sublist (List.take_sublist _ _)
  refine perm_uniq (R := fun a b : Nat => a ≤ b) (fun a b h1 h2 => Nat.le_antisymm h1 h2) ?_ s ?_
  · refine p.trans ((List.perm_ext_iff_of_nodup nd ?_).mpr fun i => ?_)
    · exact List.nodup_range.filter _
    · unfold keepI
      rw [List.mem_filter, List.mem_range, decide_eq_true_eq]
      constructor
      · intro hi
        obtain ⟨k, hk⟩ := List.mem_iff_getElem?.mp hi
        rw [List.getElem?_take] at hk
        split at hk
        · rename_i hkm
          refine ⟨rankM_mem.mp (List.mem_of_getElem? hk), ?_⟩
          rw [cntM_pos hk]
          exact hkm
        · cases hk
      · rintro ⟨h1, h2⟩
        refine List.mem_iff_getElem?.mpr ⟨cntM r i, ?_⟩
        rw [List.getElem?_take, if_pos h2]
        exact rankM_at h1
  · exact (List.pairwise_lt_range.imp fun h => Nat.le_of_lt h).filter _
/-- who is ahead ranks less -/
theorem ahead_trans {r : List Lay} {i j k : Nat} (h1 : ahead r i j = true) (h2 : ahead r j k = true) : ahead r i k = true := by
  rw [ahead_iff] at *
  omega
theorem ahead_irr (r : List Lay) (i : Nat) : ahead r i i = false := by
  rw [ahead_no]
  omega
theorem cnt_lt_of_ahead {r : List Lay} {i j : Nat} (hj : j < r.length) (hi : i < r.length) (h : ahead r j i = true) : cntM r j < cntM r i := by
  have e1 := rankM_at hi
  have e2 := rankM_at hj
  by_cases hlt : cntM r j < cntM r i
  · exact hlt
  · have hne : cntM r j ≠ cntM r i := fun z => by
      rw [z, e1] at e2
      cases e2
      rw [ahead_irr] at h
      cases h
    have hs := List.pairwise_iff_getElem.mp (rankM_strict r) (cntM r i) (cntM r j) (List.getElem?_eq_some_iff.mp e1).1 (List.getElem?_eq_some_iff.mp e2).1 (by omega)
    rw [(List.getElem?_eq_some_iff.mp e1).2, (List.getElem?_eq_some_iff.mp e2).2] at hs
    rw [ahead_iff] at h hs
    omega
/-! ### parts of a row -/
/-- the layers at the numbers that P takes -/
def partM (r : List Lay) (P : Nat → Bool) : List Lay := ((List.range r.length).filter P).filterMap fun i => r[i]?
theorem thinM_part (r : List Lay) (m : Nat) : thinM r m = partM r fun i => decide (cntM r i < m) := rfl
theorem fm_at {r : List Lay} : ∀ {ix : List Nat}, (∀ i ∈ ix, i < r.length) → ∀ k : Nat, (ix.filterMap fun i : Nat => r[i]?)[k]? = ix[k]?.bind fun i : Nat => r[i]?
  | [], _, k => by simp
  | i :: ix, h, 0 => by
    have hi := h i List.mem_cons_self
    simp [List.getElem?_eq_getElem hi]
  | i :: ix, h, k + 1 => by
    have hi := h i List.mem_cons_self
    rw [List.filterMap_cons]
    simp only [List.getElem?_eq_getElem hi]
    rw [List.getElem?_cons_succ, List.getElem?_cons_succ]
    exact fm_at (fun j hj => h j (List.mem_cons_of_mem _ hj)) k
theorem fm_len {r : List Lay} : ∀ {ix : List Nat}, (∀ i ∈ ix, i < r.length) → (ix.filterMap fun i => r[i]?).length = ix.length
  | [], _ => rfl
  | i :: ix, h => by
    have hi := h i List.mem_cons_self
    rw [List.filterMap_cons]
    simp only [List.getElem?_eq_getElem hi, List.length_cons]
    rw [fm_len fun j hj => h j (List.mem_cons_of_mem _ hj)]
section
variable {r : List Lay} {P : Nat → Bool}
abbrev ixM (r : List Lay) (P : Nat → Bool) : List Nat := (List.range r.length).filter P
theorem ixM_lt : ∀ i ∈ ixM r P, i < r.length := fun i hi => List.mem_range.mp (List.mem_filter.mp hi).1
theorem partM_len : (partM r P).length = (ixM r P).length := fm_len ixM_lt
theorem ixM_inc : (ixM r P).Pairwise (· < ·) := List.pairwise_lt_range.filter _
theorem stg_part {k : Nat} (hk : k < (ixM r P).length) : stg (partM r P) k = stg r (ixM r P)[k] := by
  have h1 : k < (partM r P).length := by rw [partM_len]; exact hk
  have h2 := ixM_lt _ (List.getElem_mem hk)
  rw [stg_at h1, stg_at h2]
  have e := fm_at (r := r) (ix := ixM r P) ixM_lt k
  have e1 : (partM r P)[k]? = some (partM r P)[k] := List.getElem?_eq_getElem h1
  rw [show (partM r P)[k]? = ((ixM r P).filterMap fun i => r[i]?)[k]? from rfl, e, List.getElem?_eq_getElem hk] at e1
  simp only [Option.bind_some, List.getElem?_eq_getElem h2] at e1
  rw [← Option.some.inj e1]
theorem ix_lt_iff {k l : Nat} (hk : k < (ixM r P).length) (hl : l < (ixM r P).length) : (ixM r P)[k] < (ixM r P)[l] ↔ k < l := by
  have hp := List.pairwise_iff_getElem.mp (ixM_inc (r := r) (P := P))
  constructor
  · intro h
    by_cases hlt : k < l
    · exact hlt
    · by_cases e : k = l
      · subst e; omega
      · have := hp l k hl hk (by omega)
        omega
  · intro h
    exact hp k l hk hl h
theorem ahead_part {k l : Nat} (hk : k < (ixM r P).length) (hl : l < (ixM r P).length) : ahead (partM r P) k l = ahead r (ixM r P)[k] (ixM r P)[l] := by
  unfold ahead
  rw [stg_part hk, stg_part hl]
  have e : decide (l < k) = decide ((ixM r P)[l] < (ixM r P)[k]) := by
    have := ix_lt_iff hl hk
    by_cases h : l < k
    · rw [decide_eq_true h, decide_eq_true (this.mpr h)]
    · rw [decide_eq_false h, decide_eq_false (fun z => h (this.mp z))]
  rw [e]
theorem range_map (l : List Nat) (p : Nat → Bool) : ((List.range l.length).filter fun k => match l[k]? with | some i => p i | none => false).length = (l.filter p).length := by
  induction l with
  | nil => rfl
  | cons a l ih =>
    rw [List.length_cons, List.range_succ_eq_map, List.filter_cons, List.filter_cons]
    have e : ((List.map Nat.succ (List.range l.length)).filter fun k => match (a :: l)[k]? with | some i => p i | none => false).length = (l.filter p).length := by
      rw [List.filter_map, List.length_map, ← ih]
      rfl
    simp only [List.getElem?_cons_zero]
    by_cases hp : p a = true
    · rw [if_pos hp, if_pos hp, List.length_cons, List.length_cons, e]
    · rw [if_neg hp, if_neg hp, e]
/-- ranks within a part: those of the part that rank ahead -/
theorem cnt_part {k : Nat} (hk : k < (ixM r P).length) : cntM (partM r P) k = ((ixM r P).filter fun j => ahead r j (ixM r P)[k]).length := by
  unfold cntM
  rw [partM_len, ← range_map (ixM r P) fun j => ahead r j (ixM r P)[k]]
  congr 1
  refine List.filter_congr fun l hl => ?_
  have hl := List.mem_range.mp hl
  rw [ahead_part hl hk, List.getElem?_eq_getElem hl]
/-- .. the same rank, where the part has all that rank ahead -/
theorem cnt_part_same {k : Nat} (hk : k < (ixM r P).length) (h : ∀ j, j < r.length → ahead r j (ixM r P)[k] = true → P j = true) : cntM (partM r P) k = cntM r (ixM r P)[k] := by
  rw [cnt_part hk]
  unfold cntM
  rw [List.filter_filter]
  congr 1
  refine List.filter_congr fun j hj => ?_
  cases e : ahead r j (ixM r P)[k] with
  | false => rfl
  | true => rw [h j (List.mem_range.mp hj) e]; rfl
/-- a part of a part -/
theorem part_part (P' Q' : Nat → Bool) (h : ∀ k (hk : k < (ixM r P).length), P' k = Q' (ixM r P)[k]) : partM (partM r P) P' = partM r fun i => P i && Q' i := by
  unfold partM
  have key : ∀ (ix : List Nat) (_ : ∀ i ∈ ix, i < r.length) (P' : Nat → Bool) (_ : ∀ k (hk : k < ix.length), P' k = Q' ix[k]),
      ((List.range ix.length).filter P').filterMap (fun k => (ix.filterMap fun i => r[i]?)[k]?) = (ix.filter Q').filterMap fun i => r[i]? := by
    intro ix
    induction ix with
    | nil => intro _ _ _; rfl
    | cons i ix ih =>
      intro hix P' hP
      have hi := hix i List.mem_cons_self
      have ih' := ih (fun j hj => hix j (List.mem_cons_of_mem _ hj)) (P' ∘ Nat.succ) fun k hk => hP (k + 1) (by simpa using hk)
      have h0 := hP 0 (by simp)
      simp only [List.getElem_cons_zero] at h0
      rw [List.length_cons, List.range_succ_eq_map, List.filter_cons, List.filter_cons, h0]
      have ei : ((i :: ix).filterMap fun i => r[i]?) = r[i] :: ix.filterMap fun i => r[i]? := by
        rw [List.filterMap_cons]
        simp only [List.getElem?_eq_getElem hi]
      have e : (List.filter P' (List.map Nat.succ (List.range ix.length))).filterMap (fun k => ((i :: ix).filterMap fun i => r[i]?)[k]?) = (ix.filter Q').filterMap fun i => r[i]? := by
        rw [List.filter_map, List.filterMap_map, ← ih']
        congr 1
        funext k
        show ((i :: ix).filterMap fun i => r[i]?)[k + 1]? = _
        rw [ei, List.getElem?_cons_succ]
      cases Q' i with
      | false => simpa using e
      | true =>
        simp only [if_true]
        rw [List.filterMap_cons, e, ei]
        simp only [List.getElem?_cons_zero]
        rw [List.filterMap_cons]
        simp only [List.getElem?_eq_getElem hi]
  have h2 := key (ixM r P) ixM_lt P' h
  have el : (((List.range r.length).filter P).filterMap fun i => r[i]?).length = (ixM r P).length := partM_len
  rw [el]
  rw [h2, List.filter_filter]
  congr 2
  funext i
  exact Bool.and_comm _ _
end
/-- thinned, then thinned again -/
theorem thin_thin (r : List Lay) (m l : Nat) : thinM (thinM r m) l = thinM r (min m l) := by
  rw [thinM_part (thinM r m), thinM_part r, part_part (r := r) (P := fun i => decide (cntM r i < m)) _ (fun i => decide (cntM r i < l))]
  · rw [thinM_part]
    unfold partM
    congr 2
    funext i
    rw [← Bool.decide_and]
    congr 1
    exact propext ⟨fun h => by omega, fun h => by omega⟩
  · intro k hk
    rw [cnt_part_same hk]
    intro j hj hja
    have hm := (List.mem_filter.mp (List.getElem_mem hk)).2
    have hlt := cnt_lt_of_ahead hj (ixM_lt _ (List.getElem_mem hk)) hja
    have hm' := of_decide_eq_true hm
    exact decide_eq_true (by omega)
theorem thin_all {r : List Lay} {m : Nat} (h : r.length ≤ m) : thinM r m = r := by
  rw [thinM_part]
  unfold partM
  have e : (List.range r.length).filter (fun i => decide (cntM r i < m)) = List.range r.length := List.filter_eq_self.mpr fun i hi => by
    have := cntM_lt (r := r) (List.mem_range.mp hi)
    exact decide_eq_true (by omega)
  rw [e]
  refine List.ext_getElem? fun k => ?_
  rw [fm_at fun i hi => List.mem_range.mp hi]
  by_cases hk : k < r.length
  · rw [List.getElem?_range hk]
    rfl
  · rw [List.getElem?_eq_none (by simpa using hk), List.getElem?_eq_none (by omega)]
    rfl
theorem thin_len (r : List Lay) (m : Nat) : (thinM r m).length = min m r.length := by
  have e : (thinM r m).length = (keepI r m).length := fm_len fun i hi => List.mem_range.mp (List.mem_filter.mp hi).1
  rw [e]
  have hp : (keepI r m).Perm ((rankM r).take m) := by
    have nd : ((rankM r).take m).Nodup := (rankM_nodup r).sublist (List.take_sublist _ _)
    have hs : ((rankM r).take m).mergeSort.Perm ((rankM r).take m) := List.mergeSort_perm _ _
    have hq : ((rankM r).take m).mergeSort.Pairwise (· ≤ ·) := by
      have := List.pairwise_mergeSort (le := fun a b : Nat => decide (a ≤ b)) (fun a b c h1 h2 => by simp at *; omega) (fun a b => by simp; omega) ((rankM r).take m)
      exact this.imp fun h => by simpa using h
    rw [← take_sorted hs hq]
    exact hs
  rw [hp.length_eq, List.length_take, rankM_length]

/-! ### small helps -/
theorem cut_take {xs : List V} {m : Int} (h : 0 ≤ m) : cutV xs none (some m) = xs.take m.toNat := by
  obtain ⟨n, rfl⟩ : ∃ n : Nat, m = n := ⟨m.toNat, by omega⟩
  unfold cutV
  rw [show HT.sIx xs.length 0 none = 0 from rfl, HT.sIx_nat, List.drop_zero, Nat.sub_zero, Int.toNat_natCast]
  by_cases hn : n ≤ xs.length
  · rw [Nat.min_eq_left hn]
  · rw [Nat.min_eq_right (by omega), List.take_length, List.take_of_length_le (by omega)]
theorem natV_ints (l : List Nat) : natV l = (l.map fun i : Nat => (i : Int)).map V.int := by rw [List.map_map]; rfl
theorem sort_nats {l : List Nat} {ns : List Int} (p : ns.Perm (l.map fun i : Nat => (i : Int))) (s : ns.Pairwise (· ≤ ·)) : ∃ zs : List Nat, ns.map V.int = natV zs ∧ zs.Perm l ∧ zs.Pairwise (· ≤ ·) := by
  have hn : ∀ n ∈ ns, 0 ≤ n := fun n hn => by
    obtain ⟨i, _, e⟩ := List.mem_map.mp (p.mem_iff.mp hn)
    omega
  refine ⟨ns.map Int.toNat, ?_, ?_, ?_⟩
  · unfold natV
    rw [List.map_map]
    exact List.map_congr_left fun n h => by
      have := hn n h
      show V.int n = V.int (n.toNat : Int)
      rw [Int.toNat_of_nonneg this]
  · have q := p.map Int.toNat
    rw [List.map_map] at q
    have e : l.map (Int.toNat ∘ fun i : Nat => (i : Int)) = l := by
      rw [show (Int.toNat ∘ fun i : Nat => (i : Int)) = id from rfl, List.map_id]
    rw [e] at q
    exact q
  · exact List.pairwise_map.mpr (s.imp fun {a b} h => by omega)
/-- the layer at a number -/
theorem row_at {K : PySem.W.Frag} {H : Hp} {t : Addr} {xs : List V} {r : List Lay} (hxs : ImAll K H xs (r.map layD)) {i : Nat} (hi : i < r.length) : ∃ a, xs[i]? = some (.ref a) ∧ Im K H (.ref a) (layD r[i]) ∧ Tp K H a [.str r[i].1, .int r[i].2] := by
  obtain ⟨v, e1, e2⟩ := hxs.at_ (i := i) (d := layD r[i]) (by rw [List.getElem?_map, List.getElem?_eq_getElem hi]; rfl)
  obtain ⟨a, rfl, ha⟩ := e2.layInv
  exact ⟨a, e1, e2, ha⟩
section
variable [Tb] {K : PySem.W.Frag} {g : TG} {tt : TT} {te : TE} {vs : List Nat} {σ : L2.St} {H1 : Hp} {D : Addr} {Qd : Hp → Prop}
/-- a comprehension over a range from lo on -/
theorem lc_mapRg {β : Type} (dB : β → PyData) (f : Nat → Option β) {lo : Int} {n : Nat} (hD : H1 D = none) (hl : n ≤ 100000)
    (hs : ∀ (i : Nat) Ha (k : VK) (kn : Hp → Prop), i < n → Kp No H1 Ha → (∀ y b H4, f i = some b → Kp No Ha H4 → Im K H4 y (dB b) → k y H4) → (∀ H3, f i = none → Kp No Ha H3 → kn H3) →
      g (.int (lo + i)) (wipe σ vs) Ha fun σ2 H2 => wipe σ2 vs = wipe σ vs ∧ tt σ2 H2 fun b H3 => if b = true then te σ2 H3 k else kn H3)
    (hd : ∀ ys H, H D = some (.lst ys) → Kp No H1 H → ImAll K H ys (((List.range n).filterMap f).map dB) → Qd H) : LcGoal (Itr lo n) g tt te vs σ H1 D Qd := by
  have wr : Walk (Itr lo n) (List.range n).length (fun _ => True) (YFn fun i => .int (lo + (i : Int))) := by
    rw [List.length_range]
    exact walk_range
  refine lc_map (fun c : Nat => PyData.int (lo + (c : Int))) dB f (List.range n) wr hD (fun i Ha x Hb hi k y => ?_) (by simpa using hl) (fun _ _ => trivial) (fun x a Ha k kn ha im kp h1 h2 => ?_) hd
  · obtain ⟨eH, rfl⟩ := y
    refine ⟨eH, ?_⟩
    rw [List.getElem_range]
    exact .int _
  · have e : x = .int (lo + a) := by cases im; rfl
    subst e
    exact hs a Ha k kn (List.mem_range.mp ha) kp h1 h2
end
/-! ### ranks counted by strengths -/
theorem cnt_split {r : List Lay} {i : Nat} (hi : i < r.length) : cntM r i = ((List.range r.length).filter fun j => decide (stg r i < stg r j)).length + ((List.range (r.length - (i + 1))).filter fun k => decide (stg r (i + 1 + k) = stg r i)).length := by
  have e2 : ((List.range (r.length - (i + 1))).filter fun k => decide (stg r (i + 1 + k) = stg r i)).length = ((List.range r.length).filter fun j => decide (stg r j = stg r i) && decide (i < j)).length := by
    have e : r.length = (i + 1) + (r.length - (i + 1)) := by omega
    generalize r.length - (i + 1) = b at e
    rw [e, List.range_add, List.filter_append, List.length_append]
    have z : (List.range (i + 1)).filter (fun j => decide (stg r j = stg r i) && decide (i < j)) = [] := List.filter_eq_nil_iff.mpr fun j hj => by
      have := List.mem_range.mp hj
      simp
      omega
    rw [z, List.length_nil, Nat.zero_add, List.filter_map, List.length_map]
    congr 1
    refine List.filter_congr fun k _ => ?_
    show _ = (decide (stg r (i + 1 + k) = stg r i) && decide (i < i + 1 + k))
    rw [decide_eq_true (show i < i + 1 + k by omega), Bool.and_true]
  rw [e2]
  unfold cntM
  generalize List.range r.length = l
  induction l with
  | nil => rfl
  | cons j l ih =>
    rw [List.filter_cons, List.filter_cons, List.filter_cons]
    by_cases h1 : stg r i < stg r j
    · have a : ahead r j i = true := ahead_iff.mpr (.inl h1)
      have b : (decide (stg r j = stg r i) && decide (i < j)) = false := by simp; omega
      rw [if_pos a, if_pos (decide_eq_true h1), b]
      simp only [List.length_cons, Bool.false_eq_true, if_false, ih]
      omega
    · by_cases h2 : stg r j = stg r i ∧ i < j
      · have a : ahead r j i = true := ahead_iff.mpr (.inr h2)
        have b : (decide (stg r j = stg r i) && decide (i < j)) = true := by simp [h2]
        rw [if_pos a, if_neg (by simpa using h1), b]
        simp only [List.length_cons, if_true, ih]
        omega
      · have a : ahead r j i = false := ahead_no.mpr (by omega)
        have b : (decide (stg r j = stg r i) && decide (i < j)) = false := by
          cases e : (decide (stg r j = stg r i) && decide (i < j)) with
          | false => rfl
          | true => exact absurd (by simpa using e) h2
        rw [a, b, decide_eq_false h1]
        simp only [Bool.false_eq_true, if_false, ih]
end Y

set_option Elab.async false
set_option linter.all false
set_option maxRecDepth 100000
set_option maxHeartbeats 4000000
/-! E1: enumerate over tuples. -/
namespace Y
open PySem PySem.Spec PyProof.Rows L2

theorem enum_newT (l : Addr) (items : Array Value) (n : Nat) (dct : Option Addr) (sl : Array (Option Value)) :
    Meets (Builtin.«enumerate.__new__» ⟨[.type "enumerate", .ref l], []⟩) (fun _ R s => s.heap.get? l = some { cls := .type "tuple", dict := dct, data := .seq items n, slots := sl } ∧
      R (.ok (.ret (.ref (s.heap.push { cls := .type "tuple_iterator", data := .fields #[.ref l, .int 0 0] }).objs.size)))
        { s with heap := (s.heap.push { cls := .type "tuple_iterator", data := .fields #[.ref l, .int 0 0] }).push { cls := .type "enumerate", data := .fields #[.none, .bool false, .ref s.heap.objs.size, rawInt 0, .none, .none] } }) :=
  .of_wp fun prog w A R s h => by
    obtain ⟨hp, g, d, tk, os⟩ := s
    obtain ⟨hl, h⟩ := h
    have hL : hp.IsTuple l items := ⟨_, hl, rfl, _, rfl⟩
    have hsub := sub_enumerate
    wp_walk
    refine wpAny_stack_any fun st => wpAny_pure ?_
    split
    · rename_i c _ _ _ _ _
      cases (c == Value.type "enumerate")
      · wp_walk using wpAny_loadPart' hl, wpAny_pyIter_tuple hL
        exact ⟨_, rfl, h⟩
      · wp_walk using wpAny_loadPart' hl, wpAny_pyIter_tuple hL
        exact ⟨_, rfl, h⟩
    · wp_walk using wpAny_loadPart' hl, wpAny_pyIter_tuple hL
      exact ⟨_, rfl, h⟩
section
variable {prog : Program} {w : World} {A : Around} {E : Value → Shared → Prop} {s : Shared}
theorem call_enumT {l : Addr} {items : Array Value} {Q : Value → Shared → Prop} (hL : s.heap.IsTuple l items)
    (h : ∀ h', IsEnum h' (s.heap.objs.size + 1) s.heap.objs.size 0 .none → h'.IsTupleIter s.heap.objs.size l 0 → (∀ b o, s.heap.get? b = some o → h'.get? b = some o) → Q (.ref (s.heap.objs.size + 1)) { s with heap := h' }) :
    wpAny (model prog w) A (call (.type "enumerate") [.ref l]) Q E s := by
  obtain ⟨⟨c, dct, dt, sl⟩, hl, hc, n, hd⟩ := hL
  replace hc : c = .type "tuple" := hc
  replace hd : dt = .seq items n := hd
  subst hc hd
  refine callType_new F.called_enumerate (by decide) (F.typeCall_enumerate_1 _) (F.newCall_enumerate_1 _) (fun obj => F.args_object_init_2 obj _) F.entry_enumerate_new (enum_newT l items n dct sl) ⟨hl, ?_⟩
  have hz : (s.heap.push { cls := .type "tuple_iterator", data := .fields #[.ref l, .int 0 0] }).objs.size = s.heap.objs.size + 1 := Heap.size_push ..
  show _ ∧ _
  rw [hz]
  have he : IsEnum ((s.heap.push { cls := .type "tuple_iterator", data := .fields #[.ref l, .int 0 0] }).push
      { cls := .type "enumerate", data := .fields #[.none, .bool false, .ref s.heap.objs.size, rawInt 0, .none, .none] }) (s.heap.objs.size + 1) s.heap.objs.size 0 .none := by
    have := Heap.get?_push_size (s.heap.push { cls := .type "tuple_iterator", data := .fields #[.ref l, .int 0 0] })
      (o := { cls := .type "enumerate", data := .fields #[.none, .bool false, .ref s.heap.objs.size, rawInt 0, .none, .none] }) rfl
    rw [hz] at this
    exact this
  exact ⟨⟨_, he, rfl⟩, h _ he ⟨_, Heap.get?_push_of_some _ (Heap.get?_push_size _ rfl), rfl, rfl⟩ fun b o x => Heap.get?_push_of_some _ (Heap.get?_push_of_some _ x)⟩
end
/-- a tuple's items, each in a new pair with its number -/
def IteT (K : PySem.W.Frag) (a : Addr) : It :=
  ⟨fun i H => ∃ (xs : List V) (x : V), SqT K H a xs ∧ xs[i]? = some x, fun i H v H' => ∃ T x, v = .ref T ∧ H T = none ∧ H' = upd H T (.tup [.int (i : Nat), x]) ∧ ∀ xs, SqT K H a xs → xs[i]? = some x, fun i H => ∃ xs : List V, SqT K H a xs ∧ xs.length ≤ i⟩
theorem turn_enumT {P : Program} {w : World} {K : PySem.W.Frag} {elts : List Expr} {kk : Nat} {tpos : Pos} (a e it : Addr) :
    Turn P w K (.Tuple elts kk tpos) (IteT K a) [e, it] e (fun i h => (∃ old, IsEnum h e it ((i : Nat) : Int) old) ∧ h.IsTupleIter it a i ∧ e ≠ it) where
  mem := by simp
  obj := fun i h st b hb => by
    obtain ⟨⟨old, he⟩, ⟨o, ho, hc, hd⟩, _⟩ := st
    have e' : b = e ∨ b = it := by simpa using hb
    rcases e' with z | z
    · rw [z]; exact ⟨_, he, fun v q => nomatch q⟩
    · rw [z]; exact ⟨o, ho, fun v q => by rw [hd] at q; cases q⟩
  keep := fun i h h' st k => let ⟨⟨old, he⟩, hi, hne⟩ := st; ⟨⟨old, k e (by simp) _ he⟩, hi.at fun o q => k it (by simp) o q, hne⟩
  item := by
    intro X hP hw hK hc i pins s σ H E I hf st hg
    subst hP hw hK
    obtain ⟨⟨old, he⟩, hit, hne⟩ := st
    obtain ⟨xs, x, hq, hx⟩ := hg
    obtain ⟨its, rv, p, hz⟩ := I.tuple hq
    obtain ⟨u, hu, ru⟩ := rv.get hx
    have hel : e < s.heap.objs.size := Heap.lt_size he
    have hil : it < s.heap.objs.size := by obtain ⟨_, q, _⟩ := hit; exact Heap.lt_size q
    have pT : s.heap.IsTuple a its.toArray := p
    have nea : a ≠ it := fun z => by
      obtain ⟨o1, h1, c1, _⟩ := pT
      obtain ⟨o2, h2, c2, _⟩ := hit
      rw [z, h2] at h1
      cases h1
      rw [c2] at c1
      injection c1 with c3
      exact absurd c3 (by decide)
    have neae : e ≠ a := fun z => by
      obtain ⟨o1, h1, c1, _⟩ := pT
      have he' : s.heap.get? e = some _ := he
      rw [z, h1] at he'
      cases he'
      injection c1 with c3
      exact absurd c3 (by decide)
    have hlt : i < its.toArray.size := by
      have := (List.getElem?_eq_some_iff.mp hu).1
      simpa using this
    refine wpAny_pyNext_enum_itemD (fp := [it, a]) (Draws.tuple (A := X.A.in1) (I.ok.hd hc) it a nea its.toArray) he ⟨hit, pT⟩ hlt hne (by simp [hne, neae]) fun y h' tk hP ho hs' hT hsz hk => ?_
    obtain rfl : u = y := by
      have hP' : its.toArray[i]? = some y := hP
      rw [List.getElem?_toArray, hu] at hP'
      exact Option.some.inj hP'
    refine ⟨_, rfl, wpAny_letOwnedTupleGo_enum (s := { s with heap := h', toks := tk + 1 }) ho fun h'' he' sb => ?_⟩
    have hT2 : h''.get? s.heap.objs.size = some { cls := .type "tuple", data := .seq #[.int i tk, u] } := (sb.2 _ (Nat.ne_of_gt hel)).trans hT
    have new : ObjOk X.prog X.w (upd H s.heap.objs.size (.tup [.int (i : Nat), x])) h'' s.heap.objs.size (.tup [.int (i : Nat), x]) :=
      ⟨by show 2 ≤ sizeLine; decide, [.int i tk, u], .cons ⟨_, rfl⟩ (.cons ru .nil), ⟨_, hT2, rfl, _, rfl⟩⟩
    have I1 : Inv X pins σ (upd H s.heap.objs.size (.tup [.int (i : Nat), x])) { s with heap := h'', toks := tk + 1 } :=
      I.turnedNew (ch := [e, it]) (fun b ob hb q => (sb.2 b (fun z => hb (by simp [z]))).trans (hk b ob (fun z => hb (by simp [z])) (fun z => hb (by simp [z])) q)) hf (Nat.le_refl _) new
    refine ⟨.ref s.heap.objs.size, _, I1, rfl, ⟨_, x, rfl, I.hok.fresh (Nat.le_refl _), rfl, fun ys hy => by rw [I.tuple_inj hy hq]; exact hx⟩, ⟨⟨u, ?_⟩, hs'.1.at fun o q => (sb.2 it (Ne.symm hne)).trans q, hne⟩, fun b hb => ?_⟩
    · have e1 : ((i + 1 : Nat) : Int) = (i : Int) + 1 := by omega
      rw [e1]; exact he'
    · have hb' : b < s.heap.objs.size := by
        have e' : b = e ∨ b = it := by simpa using hb
        rcases e' with z | z
        · rw [z]; exact hel
        · rw [z]; exact hil
      rw [upd_ne (Nat.ne_of_lt hb')]
      exact (hf b hb).1
  done := by
    intro X hP hw hK hc i pins s σ H E I hf st hg
    subst hP hw hK
    obtain ⟨⟨old, he⟩, hit, hne⟩ := st
    obtain ⟨xs, hq, hx⟩ := hg
    obtain ⟨its, rv, p, hz⟩ := I.tuple hq
    obtain ⟨f0, f1, f2, f3, f4, f5⟩ := hf it (by simp)
    have hl := rv.length
    have pT : s.heap.IsTuple a its.toArray := p
    have D : Draws X.prog X.w X.A.in1 it [it, a] i (fun _ _ => True) (fun j h => j = i ∧ h.IsTupleIter it a i ∧ h.IsTuple a its.toArray) :=
      { live := fun _ _ st => let ⟨o, ho, _⟩ := st.2.1; ⟨o, ho⟩
        frame := fun _ _ _ st hk => ⟨st.1, st.2.1.at fun o e => hk it (by simp) o e, st.2.2.at fun o e => hk a (by simp) o e⟩
        item := fun j s Q E hj st _ => absurd st.1 (Nat.ne_of_lt hj)
        done := fun s Q E st hE => wpAny_nextOf_tuple_end (I.ok.hd hc) st.2.1 st.2.2 (by simp; omega) hE }
    exact wpAny_pyNext_enum_endD D he ⟨rfl, hit, pT⟩ fun h' eb => ⟨rfl, I.turned (t' := s.toks) (fun b o hb q => eb b o hb q) f0 f1 f3 f4 f5⟩
  self := fun A i s Q E st h => let ⟨⟨_, he⟩, _⟩ := st; wpAny_pyIter_enum he h
theorem walk_enumT {K : PySem.W.Frag} {a : Addr} {xs : List V} : Walk (IteT K a) xs.length (fun H => SqT K H a xs) (YPair (fun i => some (.int (i : Nat))) (fun i => xs[i]?)) := by
  refine ⟨fun i _ hi q => ⟨xs, xs[i], q, by simp [hi]⟩, fun _ q => ⟨xs, q, Nat.le_refl _⟩, fun i H v H' _ q y => ?_⟩
  obtain ⟨T, x, h1, h2, h3, h4⟩ := y
  exact ⟨T, .int (i : Nat), x, h1, h2, h3, rfl, h4 xs q⟩
def yEnumT (K : PySem.W.Frag) (ta : TA) : TI := fun σ H R => ta σ H fun vs H1 => match vs with
  | [.ref a] => (∃ xs, SqT K H1 a xs) ∧ R (IteT K a) H1
  | _ => False
theorem yi_enumT {X : Cx} {K : PySem.W.Frag} {e : Expr} {ta : TA} {p pos tpos : Pos} {elts : List Expr} {kk : Nat} (h0 : X.K = K) (hg : Gl X "enumerate") (hm : X.mg "enumerate" = none) (ha : PA X [e] ta) (hs : starEach [e] X.env = [(false, eval e X.env)] := by rfl) :
    PI X (.Tuple elts kk tpos) (.Call (.Name "enumerate" p) [e] [] pos) (yEnumT K ta) := by
  subst h0
  refine ⟨fun pins s σ H R I h => ?_⟩
  refine Call_ (ld_blt I hg hm boot_enumerate (PyProof.Rows.callWith_type1 (thn (ha.run pos pins s σ H _ I h) fun us s1 ⟨vs, H1, I1, r1, q1⟩ => ?_) hs rfl))
  dsimp only at q1
  split at q1
  · rename_i a
    obtain ⟨⟨xs, hq⟩, q⟩ := q1
    obtain rfl := Vals.ref1 r1
    obtain ⟨its, rv, p', hz⟩ := I1.tuple hq
    refine call_enumT (show s1.heap.IsTuple a its.toArray from p') fun h' he hit hk => wpAny_pyIter_enum he ?_
    have I2 : Inv X pins σ H1 { s1 with heap := h' } := I1.kept (t' := s1.toks) hk
    refine ⟨s1.heap.objs.size + 1, [s1.heap.objs.size + 1, s1.heap.objs.size], _, _, H1, rfl, I2, turn_enumT a (s1.heap.objs.size + 1) s1.heap.objs.size, ⟨⟨.none, he⟩, hit, Nat.succ_ne_self _⟩, fun b hb => ?_, q⟩
    have e' : b = s1.heap.objs.size + 1 ∨ b = s1.heap.objs.size := by simpa using hb
    have hle : s1.heap.objs.size ≤ b := by
      rcases e' with z | z
      · rw [z]; exact Nat.le_add_right _ _
      · rw [z]; exact Nat.le_refl _
    exact I1.fpOk hle (I1.hok.fresh hle)
  · exact q1.elim

/-! ### comprehensions over enumerate(tuple) -/
def fmI {α β : Type} (f : Nat → α → Option β) (r : List α) : List β := r.zipIdx.filterMap fun p => f p.2 p.1
theorem fmI_take {α β : Type} (f : Nat → α → Option β) (r : List α) {i : Nat} (hi : i < r.length) : fmI f (r.take (i + 1)) = fmI f (r.take i) ++ (f i r[i]).toList := by
  unfold fmI
  rw [List.take_add_one, List.getElem?_eq_getElem hi, List.zipIdx_append, List.filterMap_append]
  congr 1
  rw [Option.toList_some, List.zipIdx_singleton, List.length_take, Nat.min_eq_left (Nat.le_of_lt hi)]
  rw [Nat.zero_add]
  cases h : f i r[i] <;> simp [h]
section
variable [Tb] {K : PySem.W.Frag} {g : TG} {tt : TT} {te : TE} {vs : List Nat} {σ : L2.St} {H1 : Hp} {D : Addr} {Qd : Hp → Prop}
theorem lc_mapE {α β : Type} (dA : α → PyData) (dB : β → PyData) (f : Nat → α → Option β) (r : List α) {a : Addr} {xs : List V} (hD : H1 D = none) (ht : Tp K H1 a xs) (src : ImAll K H1 xs (r.map dA)) (hl : r.length ≤ 100000)
    (hs : ∀ (i : Nat) (T : Addr) (x : V) (Ha : Hp) (k : VK) (kn : Hp → Prop) (hi : i < r.length), Im K Ha x (dA r[i]) → Ha T = some (.tup [.int (i : Nat), x]) → Kp No H1 Ha → (∀ y b H4, f i r[i] = some b → Kp No Ha H4 → Im K H4 y (dB b) → k y H4) → (∀ H3, f i r[i] = none → Kp No Ha H3 → kn H3) →
      g (.ref T) (wipe σ vs) Ha fun σ2 H2 => wipe σ2 vs = wipe σ vs ∧ tt σ2 H2 fun b H3 => if b = true then te σ2 H3 k else kn H3)
    (hd : ∀ ys H, H D = some (.lst ys) → Kp No H1 H → ImAll K H ys ((fmI f r).map dB) → Qd H) : LcGoal (IteT K a) g tt te vs σ H1 D Qd := by
  have el : xs.length = r.length := by rw [src.length, List.length_map]
  refine lc_it (walk_enumT (xs := xs)) (fun i H => ∃ ys, H D = some (.lst ys) ∧ Kp No H1 H ∧ ImAll K H ys ((fmI f (r.take i)).map dB)) ⟨[], upd_same, Kp.new hD, by simpa [fmI] using ImAll.nil⟩ (fun i H _ ⟨ys, _, h2, _⟩ => (ht.up h2).sq) ?_ ?_
  · rintro i x Ha Hb hix ⟨ys, h1, h2, h3⟩ ⟨T, x1, x2, rfl, hT, rfl, e1, e2⟩
    cases e1
    have hir : i < r.length := by omega
    obtain ⟨d, h4, h5⟩ := src.get e2
    rw [List.getElem?_map, List.getElem?_eq_getElem hir] at h4
    obtain rfl := Option.some.inj h4
    have kT : Kp No Ha (upd Ha T (.tup [.int (i : Nat), x2])) := Kp.new hT
    have k2 := h2.trans kT
    have hD2 := kT.all D _ h1 id
    have ely : ys.length ≤ i := by
      rw [h3.length, List.length_map]
      exact Nat.le_trans (List.length_filterMap_le _ _) (by rw [List.length_zipIdx, List.length_take]; omega)
    refine hs i T x2 _ _ _ hir (Im.up k2 _ _ h5) upd_same k2 (fun y b H4 e k4 im => ?_) (fun H3 e k3 => ?_)
    · have hD4 := k4.all D _ hD2 id
      refine ⟨ys, hD4, Nat.lt_of_le_of_lt ely (Nat.lt_of_lt_of_le (show i < 1000000 by omega) (by decide)), ys ++ [y], upd_same, (k2.trans k4).put hD hD4, ?_⟩
      rw [fmI_take f r hir, e, List.map_append]
      have k5 : Kp (At D) _ (upd _ D (.lst (ys ++ [y]))) := Kp.set rfl hD4
      exact (ImAll.up k5 _ _ (ImAll.up k4 _ _ (ImAll.up kT _ _ h3))).snoc (Im.up k5 _ _ im)
    · refine ⟨ys, k3.all D _ hD2 id, k2.trans k3, ?_⟩
      rw [fmI_take f r hir, e]
      simpa using ImAll.up k3 _ _ (ImAll.up kT _ _ h3)
  · rintro H ⟨ys, h1, h2, h3⟩
    rw [el, List.take_length] at h3
    exact hd ys H h1 h2 h3
end

/-! ### the first layer rubbed, scraped -/
/-- the number of the layer of rank 0 -/
def topN (r : List Lay) : Nat := (rankM r).headD 0
theorem rankM_cons {r : List Lay} (h : r ≠ []) : ∃ m, rankM r = topN r :: m := by
  unfold topN
  cases e : rankM r with
  | nil =>
    have := rankM_length r
    rw [e] at this
    cases r with
    | nil => exact absurd rfl h
    | cons a r => simp at this
  | cons i m => exact ⟨m, rfl⟩
theorem topN_lt {r : List Lay} (h : r ≠ []) : topN r < r.length := by
  obtain ⟨m, e⟩ := rankM_cons h
  exact rankM_mem.mp (by rw [e]; exact List.mem_cons_self)
theorem firstV_top {r : List Lay} (h : r ≠ []) : firstV r = .int (topN r : Nat) := by
  obtain ⟨m, e⟩ := rankM_cons h
  unfold firstV
  rw [e]
theorem firstV_nil : firstV [] = .non := by
  unfold firstV
  rw [rankM_nil]
/-- nothing ranks ahead of it, and it alone is so -/
theorem topN_first {r : List Lay} (h : r ≠ []) {j : Nat} (hj : j < r.length) : ahead r j (topN r) = false := by
  obtain ⟨m, e⟩ := rankM_cons h
  have hs := rankM_sorted r
  rw [e] at hs
  have hm : j ∈ topN r :: m := by rw [← e]; exact rankM_mem.mpr hj
  rcases List.mem_cons.mp hm with z | z
  · rw [z]; exact ahead_irr r _
  · exact (List.pairwise_cons.mp hs).1 j z
theorem topN_uniq {r : List Lay} {t : Nat} (ht : t < r.length) (h : ∀ j, j < r.length → ahead r j t = false) : topN r = t := by
  have hne : r ≠ [] := fun z => by rw [z] at ht; simp at ht
  exact ahead_anti r _ _ (topN_first hne ht) (h _ (topN_lt hne)) |>.symm ▸ rfl
def scrapM (r : List Lay) : List Lay := r.eraseIdx (topN r)
def lowM (r : List Lay) (t : Nat) (n : Int) : List Lay := r.set t ((r.getD t (default, 0)).1, stg r t - n)
def rubM (r : List Lay) (n : Int) : List Lay := if 0 < stg r (topN r) - n then lowM r (topN r) n else scrapM r
theorem erase_idx {α : Type} : ∀ (r : List α) (k t : Nat), (r.zipIdx k).filterMap (fun p => if p.2 ≠ t then some p.1 else none) = if t < k then r else r.eraseIdx (t - k)
  | [], k, t => by simp
  | a :: r, k, t => by
    rw [List.zipIdx_cons, List.filterMap_cons, erase_idx r (k + 1) t]
    by_cases h : t < k
    · rw [if_pos (show k ≠ t by omega), if_pos h, if_pos (show t < k + 1 by omega)]
    · by_cases e : k = t
      · rw [if_neg (by simp [e]), if_neg h, if_pos (show t < k + 1 by omega), e, Nat.sub_self, List.eraseIdx_cons_zero]
      · rw [if_pos e, if_neg h, if_neg (show ¬ t < k + 1 by omega)]
        obtain ⟨d, hd⟩ : ∃ d, t - k = d + 1 := ⟨t - k - 1, by omega⟩
        rw [hd, List.eraseIdx_cons_succ, show t - (k + 1) = d by omega]
theorem fmI_erase {α : Type} (r : List α) (t : Nat) : fmI (fun i l => if i ≠ t then some l else none) r = r.eraseIdx t := by
  have := erase_idx r 0 t
  rw [if_neg (Nat.not_lt_zero t), Nat.sub_zero] at this
  exact this
theorem set_idx {α : Type} (g : α → α) : ∀ (r : List α) (k t : Nat), (r.zipIdx k).map (fun p => if p.2 = t then g p.1 else p.1) = if t < k then r else r.modify (t - k) g
  | [], k, t => by simp
  | a :: r, k, t => by
    rw [List.zipIdx_cons, List.map_cons, set_idx g r (k + 1) t]
    by_cases h : t < k
    · rw [if_neg (show ¬ k = t by omega), if_pos h, if_pos (show t < k + 1 by omega)]
    · by_cases e : k = t
      · rw [if_pos e, if_neg h, if_pos (show t < k + 1 by omega), e, Nat.sub_self, List.modify_zero_cons]
      · rw [if_neg e, if_neg h, if_neg (show ¬ t < k + 1 by omega)]
        obtain ⟨d, hd⟩ : ∃ d, t - k = d + 1 := ⟨t - k - 1, by omega⟩
        rw [hd, List.modify_succ_cons, show t - (k + 1) = d by omega]
theorem fmI_low {r : List Lay} {t : Nat} (n : Int) : fmI (fun i (l : Lay) => some ((l.1, l.2 - n * (if ((i : Nat) : Int) = (t : Int) then 1 else 0)) : Lay)) r = lowM r t n := by
  have e : (fun p : Lay × Nat => some ((p.1.1, p.1.2 - n * (if ((p.2 : Nat) : Int) = (t : Int) then 1 else 0)) : Lay)) = fun p => some (if p.2 = t then ((p.1.1, p.1.2 - n) : Lay) else p.1) := by
    funext p
    by_cases h : p.2 = t
    · rw [if_pos h, if_pos (by omega), Int.mul_one]
    · rw [if_neg h, if_neg (by omega), Int.mul_zero, Int.sub_zero]
  unfold fmI
  rw [e, List.filterMap_eq_map' (f := fun p : Lay × Nat => if p.2 = t then ((p.1.1, p.1.2 - n) : Lay) else p.1)]
  have := set_idx (fun l : Lay => (l.1, l.2 - n)) r 0 t
  rw [if_neg (Nat.not_lt_zero t), Nat.sub_zero] at this
  rw [this]
  unfold lowM stg
  refine List.ext_getElem? fun j => ?_
  rw [List.getElem?_modify, List.getElem?_set]
  by_cases hj : t = j
  · subst hj
    by_cases ht : t < r.length
    · rw [List.getElem?_eq_getElem ht, List.getD_eq_getElem?_getD, List.getElem?_eq_getElem ht]
      simp [ht]
    · rw [List.getElem?_eq_none (by omega)]
      simp
      omega
  · simp [hj]
/-- what comes to nought goes: the first alone can -/
theorem there_low {r : List Lay} {n : Int} (hne : r ≠ []) (hpos : ∀ l ∈ r, 0 < l.2) : (lowM r (topN r) n).filter (fun l => decide (0 < l.2)) = rubM r n := by
  have ht := topN_lt hne
  have es : stg r (topN r) = r[topN r].2 := stg_at ht
  have eg : (r.getD (topN r) (default, 0)) = r[topN r] := by
    rw [List.getD_eq_getElem?_getD, List.getElem?_eq_getElem ht]
    rfl
  unfold rubM lowM scrapM
  rw [eg, es]
  generalize topN r = t at ht
  have hsplit : r = r.take t ++ r[t] :: r.drop (t + 1) := by
    rw [List.getElem_cons_drop ht, List.take_append_drop]
  have hset : r.set t ((r[t].1, r[t].2 - n) : Lay) = r.take t ++ ((r[t].1, r[t].2 - n) : Lay) :: r.drop (t + 1) := List.set_eq_take_append_cons_drop .. |>.trans (by rw [if_pos ht])
  have her : r.eraseIdx t = r.take t ++ r.drop (t + 1) := List.eraseIdx_eq_take_drop_succ ..
  have f1 : (r.take t).filter (fun l => decide (0 < l.2)) = r.take t := List.filter_eq_self.mpr fun l hl => decide_eq_true (hpos l (List.mem_of_mem_take hl))
  have f2 : (r.drop (t + 1)).filter (fun l => decide (0 < l.2)) = r.drop (t + 1) := List.filter_eq_self.mpr fun l hl => decide_eq_true (hpos l (List.mem_of_mem_drop hl))
  rw [hset, her, List.filter_append, List.filter_cons, f1, f2]
  by_cases h : 0 < r[t].2 - n
  · rw [if_pos h, if_pos (decide_eq_true h)]
  · rw [if_neg h, if_neg (by simpa using h)]
/-! ### max, min of a list of whole numbers -/
section
variable {X : Cx} {K : PySem.W.Frag}
def yMaxL (K : PySem.W.Frag) : List V → Hp → VK → Prop := fun vs H Q => match vs with
  | [.ref a] => ∃ ns : List Int, SqL K H a (ns.map V.int) ∧ 0 < ns.length ∧ ∀ m, m ∈ ns → (∀ y, y ∈ ns → y ≤ m) → Q (.int m) H
  | _ => False
theorem kMaxL (h : X.K = K) (hc : X.calm = true) : CallR X (.builtin "max") (yMaxL K) := by
  subst h
  refine CallR.imp (cr_max hc) fun vs H Q q => ?_
  unfold yMaxL at q
  split at q
  · obtain ⟨ns, h1, h2, h3⟩ := q
    exact ⟨_, ns, rfl, h1, h2, h3⟩
  · exact q.elim
def yMinL (K : PySem.W.Frag) : List V → Hp → VK → Prop := fun vs H Q => match vs with
  | [.ref a] => ∃ ns : List Int, SqL K H a (ns.map V.int) ∧ 0 < ns.length ∧ ∀ m, m ∈ ns → (∀ y, y ∈ ns → m ≤ y) → Q (.int m) H
  | _ => False
theorem kMinL (h : X.K = K) (hc : X.calm = true) : CallR X (.builtin "min") (yMinL K) := by
  subst h
  refine CallR.imp (cr_min hc) fun vs H Q q => ?_
  unfold yMinL at q
  split at q
  · obtain ⟨ns, h1, h2, h3⟩ := q
    exact ⟨_, ns, rfl, h1, h2, h3⟩
  · exact q.elim
end

/-! ### tuples cut and put together, as data -/
def cutG {α : Type} (xs : List α) (lo hi : Option Int) : List α := (xs.drop (HT.sIx xs.length 0 lo)).take (HT.sIx xs.length xs.length hi - HT.sIx xs.length 0 lo)
theorem cutG_map {α β : Type} (f : α → β) (xs : List α) (lo hi : Option Int) : cutG (xs.map f) lo hi = (cutG xs lo hi).map f := by
  unfold cutG
  rw [List.length_map, List.map_take, List.map_drop]
theorem cutG_to {α : Type} (xs : List α) (n : Nat) : cutG xs none (some (n : Int)) = xs.take n := by
  unfold cutG
  rw [show HT.sIx xs.length 0 none = 0 from rfl, HT.sIx_nat, List.drop_zero, Nat.sub_zero]
  by_cases hn : n ≤ xs.length
  · rw [Nat.min_eq_left hn]
  · rw [Nat.min_eq_right (by omega), List.take_length, List.take_of_length_le (by omega)]
theorem cutG_from {α : Type} (xs : List α) (n : Nat) : cutG xs (some (n : Int)) none = xs.drop n := by
  unfold cutG
  rw [show HT.sIx xs.length xs.length none = xs.length from rfl, HT.sIx_nat]
  by_cases hn : n ≤ xs.length
  · rw [Nat.min_eq_left hn]
    exact List.take_of_length_le (by rw [List.length_drop]; exact Nat.le_refl _)
  · rw [Nat.min_eq_right (by omega), Nat.sub_self, List.take_zero, List.drop_of_length_le (by omega)]
theorem ImAll.drop {K : PySem.W.Frag} {H : Hp} : ∀ {vs : List V} {ds : List PyData} (n : Nat), ImAll K H vs ds → ImAll K H (vs.drop n) (ds.drop n)
  | _, _, 0, h => h
  | [], [], n + 1, _ => by simpa using ImAll.nil
  | _ :: _, _ :: _, n + 1, .cons _ h => h.drop n
theorem ImAll.take {K : PySem.W.Frag} {H : Hp} : ∀ {vs : List V} {ds : List PyData} (n : Nat), ImAll K H vs ds → ImAll K H (vs.take n) (ds.take n)
  | _, _, 0, h => by simpa using ImAll.nil
  | [], [], n + 1, _ => by simpa using ImAll.nil
  | _ :: _, _ :: _, n + 1, .cons h1 h => .cons h1 (h.take n)
theorem ImAll.cut {K : PySem.W.Frag} {H : Hp} {vs : List V} {ds : List PyData} (h : ImAll K H vs ds) (lo hi : Option Int) : ImAll K H (cutV vs lo hi) (cutG ds lo hi) := by
  unfold cutV cutG
  rw [h.length]
  exact (h.drop _).take _
section
variable [Tb] {K : PySem.W.Frag} {H : Hp}
theorem sl_im {v : V} {ds : List PyData} {lo hi : Option Int} {Q : VK} (him : Im K H v (.tuple ds)) (q : ∀ v' H', Kp No H H' → Im K H' v' (.tuple (cutG ds lo hi)) → Q v' H') : ySl K v lo hi H Q := by
  obtain ⟨a, xs, rfl, ht, hxs⟩ := id him.tupInv
  refine .inr ⟨a, xs, rfl, ht.sq, fun h => q _ _ (Kp.refl _) ?_, fun _ p hp => q _ _ (Kp.new hp) (Im.mk upd_same (ImAll.up (Kp.new (S := No) hp) _ _ (hxs.cut lo hi)))⟩
  have e : cutG ds lo hi = ds := by
    unfold cutG
    rw [← hxs.length, h.1, h.2, List.drop_zero, Nat.sub_zero, hxs.length, List.take_length]
  rw [e]
  exact him
theorem add_im {v w : V} {ds es : List PyData} {Q : VK} (h1 : Im K H v (.tuple ds)) (h2 : Im K H w (.tuple es)) (hl : ds.length + es.length ≤ 1000000) (q : ∀ v' H', Kp No H H' → Im K H' v' (.tuple (ds ++ es)) → Q v' H') : yAdd K v w H Q := by
  obtain ⟨a, xs, rfl, ht, hxs⟩ := id h1.tupInv
  obtain ⟨b, ys, rfl, hu, hys⟩ := id h2.tupInv
  refine .inr ⟨a, b, xs, ys, rfl, rfl, ht.sq, hu.sq, ?_, fun e => q _ _ (Kp.refl _) ?_, fun _ e => q _ _ (Kp.refl _) ?_, fun _ _ p hp => q _ _ (Kp.new hp) (Im.mk upd_same (ImAll.up (Kp.new (S := No) hp) _ _ (hxs.app hys)))⟩
  · rw [hxs.length, hys.length]
    exact Nat.le_trans hl (by decide)
  · subst e
    cases hxs
    exact h2
  · subst e
    cases hys
    rw [List.append_nil]
    exact h1
end
end Y

set_option Elab.async false
set_option linter.all false
set_option maxRecDepth 100000
set_option maxHeartbeats 4000000
/-! N1: normal rows, as mathematics. -/
namespace Y
open PySem PySem.Spec PyProof.Rows L2

/-- a layer put below a row, moved up through its stretch as long as that is weaker -/
def insM (x : Lay) : List Lay → List Lay
  | [] => [x]
  | y :: t => if x.1 = y.1 ∧ y.2 < x.2 then y :: insM x t else x :: y :: t
def normM (r : List Lay) : List Lay := r.foldr insM []
theorem normM_cons (x : Lay) (r : List Lay) : normM (x :: r) = insM x (normM r) := rfl
theorem lay_eq {x y : Lay} (h1 : x.1 = y.1) (h2 : x.2 = y.2) : x = y := Prod.ext h1 h2
/-- two of one tag: either order -/
theorem insM_comm {x y : Lay} (h : x.1 = y.1) : ∀ t : List Lay, insM x (insM y t) = insM y (insM x t)
  | [] => by
    by_cases h1 : y.2 < x.2
    · simp [insM, h, h1, show ¬ x.2 < y.2 by omega]
    · by_cases h2 : x.2 < y.2
      · simp [insM, h, h1, h2]
      · rw [lay_eq h (by omega)]
  | z :: t => by
    by_cases hz : x.1 = z.1
    · have hy : y.1 = z.1 := h ▸ hz
      by_cases a : z.2 < x.2
      · by_cases b : z.2 < y.2
        · simp only [insM, hz, hy, a, b, and_self, if_true]
          rw [insM_comm h t]
        · have c : y.2 < x.2 := by omega
          simp only [insM, hz, hy, a, b, and_false, and_self, if_true, if_false, true_and, c]
      · by_cases b : z.2 < y.2
        · have c : x.2 < y.2 := by omega
          simp only [insM, hz, hy, a, b, and_false, and_self, if_true, if_false, true_and, c]
        · by_cases c : y.2 < x.2
          · simp [insM, hz, hy, a, b, c, show ¬ x.2 < y.2 by omega]
          · by_cases d : x.2 < y.2
            · simp [insM, hz, hy, a, b, c, d]
            · rw [lay_eq h (by omega)]
    · have hy : ¬ y.1 = z.1 := fun e => hz (h.trans e)
      by_cases c : y.2 < x.2
      · simp [insM, hz, hy, c, h, show ¬ x.2 < y.2 by omega]
      · by_cases d : x.2 < y.2
        · simp [insM, hz, hy, c, d, h]
        · rw [lay_eq h (by omega)]
/-- no neighbours of one tag of which the lower is stronger -/
def LocS : List Lay → Prop
  | x :: y :: t => ¬ (x.1 = y.1 ∧ y.2 < x.2) ∧ LocS (y :: t)
  | _ => True
theorem insM_id {x : Lay} {t : List Lay} (h : LocS (x :: t)) : insM x t = x :: t := by
  cases t with
  | nil => rfl
  | cons y t => exact if_neg h.1
theorem LocS.tail {x : Lay} {t : List Lay} (h : LocS (x :: t)) : LocS t := by
  cases t with
  | nil => trivial
  | cons y t => exact h.2
theorem norm_id : ∀ {r : List Lay}, LocS r → normM r = r
  | [], _ => rfl
  | x :: r, h => by rw [normM_cons, norm_id h.tail, insM_id h]
theorem insM_loc {x : Lay} : ∀ {t : List Lay}, LocS t → LocS (insM x t)
  | [], _ => trivial
  | y :: t, h => by
    by_cases c : x.1 = y.1 ∧ y.2 < x.2
    · have e : insM x (y :: t) = y :: insM x t := if_pos c
      rw [e]
      have ih := insM_loc (x := x) h.tail
      cases t with
      | nil =>
        refine ⟨fun z => ?_, trivial⟩
        have := z.2
        have := c.2
        omega
      | cons w t =>
        by_cases d : x.1 = w.1 ∧ w.2 < x.2
        · have e2 : insM x (w :: t) = w :: insM x t := if_pos d
          rw [e2] at ih ⊢
          exact ⟨h.1, ih⟩
        · have e2 : insM x (w :: t) = x :: w :: t := if_neg d
          rw [e2] at ih ⊢
          refine ⟨fun z => ?_, ih⟩
          have := z.2
          have := c.2
          omega
    · have e : insM x (y :: t) = x :: y :: t := if_neg c
      rw [e]
      exact ⟨c, h⟩
theorem norm_loc : ∀ r : List Lay, LocS (normM r)
  | [] => trivial
  | x :: r => insM_loc (norm_loc r)
theorem norm_norm (r : List Lay) : normM (normM r) = normM r := norm_id (norm_loc r)
theorem normM_app (a b : List Lay) : normM (a ++ b) = a.foldr insM (normM b) := by
  unfold normM
  rw [List.foldr_append]
/-- neighbours of one tag exchanged -/
theorem norm_swap {x y : Lay} (h : x.1 = y.1) (a b : List Lay) : normM (a ++ x :: y :: b) = normM (a ++ y :: x :: b) := by
  rw [normM_app, normM_app, normM_cons, normM_cons, normM_cons, normM_cons, insM_comm h]
/-- a block of one tag rearranged -/
theorem fold_perm {g g' : List Lay} (p : g.Perm g') (h : ∀ x ∈ g, ∀ y ∈ g, x.1 = y.1) (t : List Lay) : g.foldr insM t = g'.foldr insM t := by
  induction p generalizing t with
  | nil => rfl
  | cons x _ ih => rw [List.foldr_cons, List.foldr_cons, ih fun a ha b hb => h a (List.mem_cons_of_mem _ ha) b (List.mem_cons_of_mem _ hb)]
  | swap x y l =>
    rw [List.foldr_cons, List.foldr_cons, List.foldr_cons, List.foldr_cons]
    exact insM_comm (h y List.mem_cons_self x (List.mem_cons_of_mem _ List.mem_cons_self)) _
  | trans p1 _ ih1 ih2 =>
    rw [ih1 h, ih2 fun a ha b hb => h a (p1.mem_iff.mpr ha) b (p1.mem_iff.mpr hb)]
theorem insM_perm (x : Lay) : ∀ t : List Lay, (insM x t).Perm (x :: t)
  | [] => .refl _
  | y :: t => by
    unfold insM
    split
    · exact ((insM_perm x t).cons y).trans (.swap x y t)
    · exact .refl _
theorem norm_perm : ∀ r : List Lay, (normM r).Perm r
  | [] => .refl _
  | x :: r => (insM_perm x _).trans ((norm_perm r).cons x)
theorem insM_tags (x : Lay) : ∀ t : List Lay, (insM x t).map (·.1) = x.1 :: t.map (·.1)
  | [] => rfl
  | y :: t => by
    unfold insM
    split
    · rename_i h
      rw [List.map_cons, insM_tags x t, List.map_cons, h.1]
    · rfl
theorem norm_tags : ∀ r : List Lay, (normM r).map (·.1) = r.map (·.1)
  | [] => rfl
  | x :: r => by rw [normM_cons, insM_tags, norm_tags r]; rfl
theorem norm_len (r : List Lay) : (normM r).length = r.length := (norm_perm r).length_eq
theorem norm_mem {r : List Lay} {l : Lay} : l ∈ normM r ↔ l ∈ r := (norm_perm r).mem_iff

/-! ### exchanges one by one -/
/-- the first neighbours of one tag of which the lower is stronger, exchanged -/
def nextM : List Lay → Option (List Lay)
  | x :: y :: t => if x.1 = y.1 ∧ y.2 < x.2 then some (y :: x :: t) else (nextM (y :: t)).map (x :: ·)
  | _ => none
theorem next_none : ∀ {r : List Lay}, nextM r = none → LocS r
  | [], _ => trivial
  | [_], _ => trivial
  | x :: y :: t, h => by
    unfold nextM at h
    split at h
    · cases h
    · rename_i c
      exact ⟨c, next_none (by simpa using h)⟩
theorem next_norm : ∀ {r r' : List Lay}, nextM r = some r' → normM r' = normM r
  | [], _, h => by cases h
  | [_], _, h => by cases h
  | x :: y :: t, r', h => by
    unfold nextM at h
    split at h
    · rename_i c
      obtain rfl := Option.some.inj h
      exact norm_swap c.1.symm [] t
    · cases e : nextM (y :: t) with
      | none => rw [e] at h; cases h
      | some u =>
        rw [e] at h
        obtain rfl := Option.some.inj h
        rw [normM_cons, normM_cons, next_norm e]
/-- how many pairs stand the wrong way about -/
def invs : List Lay → Nat
  | [] => 0
  | x :: t => (t.filter fun y => decide (y.2 < x.2)).length + invs t
theorem next_perm : ∀ {r r' : List Lay}, nextM r = some r' → r'.Perm r
  | [], _, h => by cases h
  | [_], _, h => by cases h
  | x :: y :: t, r', h => by
    unfold nextM at h
    split at h
    · obtain rfl := Option.some.inj h
      exact .swap x y t
    · cases e : nextM (y :: t) with
      | none => rw [e] at h; cases h
      | some u =>
        rw [e] at h
        obtain rfl := Option.some.inj h
        exact (next_perm e).cons x
theorem next_invs : ∀ {r r' : List Lay}, nextM r = some r' → invs r' < invs r
  | [], _, h => by cases h
  | [_], _, h => by cases h
  | x :: y :: t, r', h => by
    unfold nextM at h
    split at h
    · rename_i c
      obtain rfl := Option.some.inj h
      have c2 := c.2
      simp only [invs, List.filter_cons, decide_eq_true c2, decide_eq_false (show ¬ x.2 < y.2 by omega), if_true, List.length_cons]
      simp only [Bool.false_eq_true, if_false]
      omega
    · cases e : nextM (y :: t) with
      | none => rw [e] at h; cases h
      | some u =>
        rw [e] at h
        obtain rfl := Option.some.inj h
        have ih := next_invs e
        have p := next_perm e
        show (u.filter _).length + invs u < ((y :: t).filter _).length + invs (y :: t)
        rw [(p.filter _).length_eq]
        omega
theorem invs_le : ∀ r : List Lay, invs r ≤ r.length * r.length
  | [] => Nat.le_refl _
  | x :: t => by
    have ih := invs_le t
    have h1 := List.length_filter_le (fun y : Lay => decide (y.2 < x.2)) t
    show (t.filter fun y => decide (y.2 < x.2)).length + invs t ≤ (t.length + 1) * (t.length + 1)
    rw [Nat.add_mul, Nat.mul_add]
    omega
/-- exchanged k times, or till there are none -/
def stepM (r : List Lay) : List Lay := (nextM r).getD r
theorem step_norm (r : List Lay) : normM (stepM r) = normM r := by
  unfold stepM
  cases e : nextM r with
  | none => rfl
  | some u => exact next_norm e
theorem step_perm (r : List Lay) : (stepM r).Perm r := by
  unfold stepM
  cases e : nextM r with
  | none => exact .refl _
  | some u => exact next_perm e
def stepsM (r : List Lay) : Nat → List Lay
  | 0 => r
  | k + 1 => stepM (stepsM r k)
theorem steps_norm (r : List Lay) : ∀ k, normM (stepsM r k) = normM r
  | 0 => rfl
  | k + 1 => (step_norm _).trans (steps_norm r k)
theorem steps_perm (r : List Lay) : ∀ k, (stepsM r k).Perm r
  | 0 => .refl _
  | k + 1 => (step_perm _).trans (steps_perm r k)
theorem steps_done (r : List Lay) : ∀ k, nextM (stepsM r k) = none ∨ invs (stepsM r k) + k ≤ invs r
  | 0 => .inr (Nat.le_refl _)
  | k + 1 => by
    rcases steps_done r k with h | h
    · have e : stepsM r (k + 1) = stepsM r k := by
        show stepM (stepsM r k) = _
        unfold stepM
        rw [h]
        rfl
      rw [e]
      exact .inl h
    · cases e : nextM (stepsM r k) with
      | none =>
        have e2 : stepsM r (k + 1) = stepsM r k := by
          show stepM (stepsM r k) = _
          unfold stepM
          rw [e]
          rfl
        rw [e2]
        exact .inl e
      | some u =>
        have e2 : stepsM r (k + 1) = u := by
          show stepM (stepsM r k) = _
          unfold stepM
          rw [e]
          rfl
        rw [e2]
        have := next_invs e
        exact .inr (by omega)
theorem steps_all (r : List Lay) : stepsM r (r.length * r.length) = normM r := by
  have h : nextM (stepsM r (r.length * r.length)) = none := by
    rcases steps_done r (r.length * r.length) with h | h
    · exact h
    · have h1 := invs_le r
      have h0 : invs (stepsM r (r.length * r.length)) = 0 := by omega
      cases e : nextM (stepsM r (r.length * r.length)) with
      | none => rfl
      | some u =>
        have := next_invs e
        omega
  have hl := next_none h
  rw [← steps_norm r (r.length * r.length), norm_id hl]

/-! ### stretches -/
/-- neighbouring blocks have unlike tags -/
def Apart : List (List Lay) → Prop
  | g :: g' :: t => (∀ x ∈ g, ∀ y ∈ g', x.1 ≠ y.1) ∧ Apart (g' :: t)
  | _ => True
theorem Apart.snoc {g : List Lay} : ∀ {gs : List (List Lay)}, Apart gs → (∀ g0, gs.getLast? = some g0 → ∀ x ∈ g0, ∀ y ∈ g, x.1 ≠ y.1) → Apart (gs ++ [g])
  | [], _, _ => trivial
  | [g0], _, h => ⟨h g0 rfl, trivial⟩
  | g0 :: g1 :: t, ha, h => ⟨ha.1, Apart.snoc (gs := g1 :: t) ha.2 fun g2 e => h g2 (by rw [List.getLast?_cons_cons]; exact e)⟩
theorem Apart.more {g g' : List Lay} (h : ∀ y ∈ g', ∃ x ∈ g, x.1 = y.1) : ∀ {gs : List (List Lay)}, Apart (gs ++ [g]) → Apart (gs ++ [g'])
  | [], _ => trivial
  | [g0], ha => ⟨fun x hx y hy => by
      obtain ⟨z, hz, e⟩ := h y hy
      rw [← e]
      exact ha.1 x hx z hz, trivial⟩
  | g0 :: g1 :: t, ha => ⟨ha.1, Apart.more h (gs := g1 :: t) ha.2⟩
/-- a row parted into stretches -/
structure StrOk (gs : List (List Lay)) (r : List Lay) : Prop where
  flat : gs.flatten = r
  full : ∀ g ∈ gs, g ≠ []
  one : ∀ g ∈ gs, ∀ x ∈ g, ∀ y ∈ g, x.1 = y.1
  apart : Apart gs
theorem StrOk.nil : StrOk [] [] := ⟨rfl, fun _ h => (nomatch h), fun _ h => (nomatch h), trivial⟩
/-- the next layer, of the last stretch's tag -/
theorem StrOk.same {gs : List (List Lay)} {g r : List Lay} {l : Lay} (h : StrOk (gs ++ [g]) r) (x : Lay) (hx : x ∈ g) (e : x.1 = l.1) : StrOk (gs ++ [g ++ [l]]) (r ++ [l]) := by
  have o1 := h.one g (List.mem_append_right _ (List.mem_singleton.mpr rfl))
  refine ⟨by rw [← h.flat]; simp, fun g' hg' => ?_, fun g' hg' => ?_, h.apart.more fun y hy => ?_⟩
  · rcases List.mem_append.mp hg' with z | z
    · exact h.full g' (List.mem_append_left _ z)
    · rw [List.mem_singleton.mp z]; simp
  · rcases List.mem_append.mp hg' with z | z
    · exact h.one g' (List.mem_append_left _ z)
    · rw [List.mem_singleton.mp z]
      intro a ha b hb
      have t1 : ∀ a ∈ g ++ [l], a.1 = l.1 := fun a ha => by
        rcases List.mem_append.mp ha with q | q
        · rw [o1 a q x hx, e]
        · rw [List.mem_singleton.mp q]
      rw [t1 a ha, t1 b hb]
  · rcases List.mem_append.mp hy with q | q
    · exact ⟨y, q, rfl⟩
    · rw [List.mem_singleton.mp q]
      exact ⟨x, hx, e⟩
/-- .. of another tag, or the first -/
theorem StrOk.new {gs : List (List Lay)} {r : List Lay} {l : Lay} (h : StrOk gs r) (hn : ∀ g, gs.getLast? = some g → ∃ x ∈ g, x.1 ≠ l.1) : StrOk (gs ++ [[l]]) (r ++ [l]) := by
  refine ⟨by rw [← h.flat]; simp, fun g' hg' => ?_, fun g' hg' => ?_, h.apart.snoc fun g0 e x hx y hy => ?_⟩
  · rcases List.mem_append.mp hg' with z | z
    · exact h.full g' z
    · rw [List.mem_singleton.mp z]; simp
  · rcases List.mem_append.mp hg' with z | z
    · exact h.one g' z
    · rw [List.mem_singleton.mp z]
      intro a ha b hb
      rw [List.mem_singleton.mp ha, List.mem_singleton.mp hb]
  · obtain ⟨z, hz, ne⟩ := hn g0 e
    rw [List.mem_singleton.mp hy, h.one g0 (List.mem_of_getLast? e) x hx z hz]
    exact ne
/-- a block by strength -/
structure ByS (s g : List Lay) : Prop where
  perm : s.Perm g
  up : s.Pairwise fun x y => x.2 ≤ y.2
theorem locs_app : ∀ {s t : List Lay}, (s.Pairwise fun x y => x.2 ≤ y.2) → LocS t → (∀ x ∈ s, ∀ y, t.head? = some y → x.1 ≠ y.1) → LocS (s ++ t)
  | [], _, _, ht, _ => ht
  | [x], [], _, _, _ => trivial
  | [x], y :: t, _, ht, hn => ⟨fun z => hn x List.mem_cons_self y rfl z.1, ht⟩
  | x :: x' :: s, t, hs, ht, hn => by
    refine ⟨fun z => ?_, locs_app (s := x' :: s) (List.pairwise_cons.mp hs).2 ht fun a ha => hn a (List.mem_cons_of_mem _ ha)⟩
    have := (List.pairwise_cons.mp hs).1 x' List.mem_cons_self
    omega
theorem flat_norm : ∀ {ss gs : List (List Lay)}, Paired ByS ss gs → (∀ g ∈ gs, g ≠ []) → (∀ g ∈ gs, ∀ x ∈ g, ∀ y ∈ g, x.1 = y.1) → Apart gs → normM ss.flatten = normM gs.flatten ∧ LocS ss.flatten
  | _, _, .nil, _, _, _ => ⟨rfl, trivial⟩
  | s :: ss, g :: gs, .cons h hr, hf, h1, ha => by
    have ha' : Apart gs := by
      cases gs with
      | nil => trivial
      | cons g' t => exact ha.2
    have ih := flat_norm hr (fun a b => hf a (List.mem_cons_of_mem _ b)) (fun a b => h1 a (List.mem_cons_of_mem _ b)) ha'
    refine ⟨?_, ?_⟩
    · rw [List.flatten_cons, List.flatten_cons, normM_app, normM_app, ih.1]
      exact fold_perm h.perm (fun x hx y hy => h1 g List.mem_cons_self x (h.perm.mem_iff.mp hx) y (h.perm.mem_iff.mp hy)) _
    · rw [List.flatten_cons]
      refine locs_app h.up ih.2 fun x hx y hy => ?_
      cases hr with
      | nil => simp at hy
      | @cons s' g' ss' gs' h' hr' =>
        have hne : g' ≠ [] := hf g' (List.mem_cons_of_mem _ List.mem_cons_self)
        have hne' : s' ≠ [] := fun z => hne (by
          have := h'.perm.length_eq
          rw [z] at this
          exact List.length_eq_zero_iff.mp this.symm)
        cases hs : s' with
        | nil => exact absurd hs hne'
        | cons z s0 =>
          rw [hs, List.flatten_cons, List.cons_append, List.head?_cons] at hy
          obtain rfl := Option.some.inj hy
          exact ha.1 x (h.perm.mem_iff.mp hx) z (h'.perm.mem_iff.mp (by rw [hs]; exact List.mem_cons_self))
theorem flat_is {ss gs : List (List Lay)} {r : List Lay} (h : Paired ByS ss gs) (ok : StrOk gs r) : ss.flatten = normM r := by
  obtain ⟨h1, h2⟩ := flat_norm h ok.full ok.one ok.apart
  rw [← norm_id h2, h1, ok.flat]
theorem paired_last {α β : Type} {R : α → β → Prop} {b : β} : ∀ {l : List α} {m : List β}, Paired R l (m ++ [b]) → ∃ l0 a, l = l0 ++ [a] ∧ Paired R l0 m ∧ R a b
  | _, [], h => by
    cases h with
    | cons h1 h2 =>
      cases h2
      exact ⟨[], _, rfl, .nil, h1⟩
  | _, c :: m, h => by
    cases h with
    | cons h1 h2 =>
      obtain ⟨l0, a, rfl, h3, h4⟩ := paired_last h2
      exact ⟨_ :: l0, a, rfl, .cons h1 h3, h4⟩
theorem paired_memL {α β : Type} {R : α → β → Prop} {a : α} : ∀ {l : List α} {m : List β}, Paired R l m → a ∈ l → ∃ b ∈ m, R a b
  | _, _, .nil, h => nomatch h
  | _, _, .cons h t, ha => by
    rcases List.mem_cons.mp ha with e | ha
    · exact ⟨_, List.mem_cons_self, by rw [e]; exact h⟩
    · obtain ⟨b, hb, r⟩ := paired_memL t ha
      exact ⟨b, List.mem_cons_of_mem _ hb, r⟩
theorem paired_impM {α β : Type} {R R' : α → β → Prop} : ∀ {l : List α} {m : List β}, Paired R l m → (∀ a ∈ l, ∀ b, R a b → R' a b) → Paired R' l m
  | _, _, .nil, _ => .nil
  | _, _, .cons h t, f => .cons (f _ List.mem_cons_self _ h) (paired_impM t fun a ha => f a (List.mem_cons_of_mem _ ha))
/-- what a sort by strength of a list of layers gives -/
theorem sorted_block {K : PySem.W.Frag} {H : Hp} {vs : List V} {g : List Lay} {pq : List ((Int × Int) × V)} (im : ImAll K H vs (g.map layD)) (p : pq.Perm ((g.map fun l : Lay => ((l.2, 0) : Int × Int)).zip vs)) (s : SrtO.Srtd (fun x y => SrtO.lexB x.1 y.1) pq) :
    ∃ z : List Lay, ByS z g ∧ ImAll K H (pq.map (·.2)) (z.map layD) := by
  have el : vs.length = g.length := by rw [im.length, List.length_map]
  have pr : Paired (fun (t : Lay × V) (q : (Int × Int) × V) => q = ((t.1.2, 0), t.2)) (g.zip vs) ((g.map fun l : Lay => ((l.2, 0) : Int × Int)).zip vs) := by
    clear p s im
    induction g generalizing vs with
    | nil => rw [List.zip_nil_left, List.map_nil, List.zip_nil_left]; exact .nil
    | cons a g ih =>
      cases vs with
      | nil => simp at el
      | cons v vs => exact .cons rfl (ih (by simpa using el))
  obtain ⟨T, pT, rT⟩ := paired_perm p.symm pr
  have hm : ∀ t ∈ g.zip vs, Im K H t.2 (layD t.1) := by
    clear pT rT pr p s
    induction g generalizing vs with
    | nil => intro t ht; simp at ht
    | cons a g ih =>
      cases vs with
      | nil => simp at el
      | cons v vs =>
        cases im with
        | cons h1 h2 =>
          intro t ht
          rw [List.zip_cons_cons] at ht
          rcases List.mem_cons.mp ht with e | ht
          · rw [e]; exact h1
          · exact ih h2 (by simpa using el) t ht
  refine ⟨T.map (·.1), ⟨?_, ?_⟩, ?_⟩
  · have q := pT.map (·.1)
    rw [List.map_fst_zip (by rw [el]; exact Nat.le_refl _)] at q
    exact q
  · refine List.pairwise_map.mpr (paired_pairwise (T' := fun a b => SrtO.lexB b.1 a.1 = false) (fun t q t' q' h1 h2 z => ?_) rT s)
    rw [h1, h2, SrtO.lexB_no] at z
    simp only at z
    omega
  · have hT : ∀ t ∈ T, Im K H t.2 (layD t.1) := fun t ht => hm t (pT.mem_iff.mp ht)
    have key : ∀ {l : List (Lay × V)} {m : List ((Int × Int) × V)}, Paired (fun (t : Lay × V) (q : (Int × Int) × V) => q = ((t.1.2, 0), t.2)) l m → (∀ t ∈ l, Im K H t.2 (layD t.1)) → ImAll K H (m.map (·.2)) ((l.map (·.1)).map layD) := by
      intro l m z
      induction z with
      | nil => intro _; exact .nil
      | cons h _ ih =>
        intro hh
        rw [h]
        exact .cons (hh _ List.mem_cons_self) (ih fun t ht => hh t (List.mem_cons_of_mem _ ht))
    exact key rT hT
theorem bys_len : ∀ {ss gs : List (List Lay)}, Paired ByS ss gs → ss.flatten.length = gs.flatten.length
  | _, _, .nil => rfl
  | _, _, .cons h t => by rw [List.flatten_cons, List.flatten_cons, List.length_append, List.length_append, bys_len t, h.perm.length_eq]
theorem take_flat {α : Type} : ∀ (gs : List (List α)) (i : Nat), (gs.take i).flatten.length ≤ gs.flatten.length
  | [], i => by simp
  | g :: gs, 0 => Nat.zero_le _
  | g :: gs, i + 1 => by
    rw [List.take_succ_cons, List.flatten_cons, List.flatten_cons, List.length_append, List.length_append]
    have := take_flat gs i
    omega
/-- the pair at j stands the wrong way about -/
def BadAt (r : List Lay) (j : Nat) : Prop := ∃ x y, r[j]? = some x ∧ r[j + 1]? = some y ∧ x.1 = y.1 ∧ y.2 < x.2
theorem next_at : ∀ {i : Nat} {r : List Lay} {x y : Lay}, r[i]? = some x → r[i + 1]? = some y → (∀ j, j < i → ¬ BadAt r j) → x.1 = y.1 → y.2 < x.2 → nextM r = some (r.take i ++ [y, x] ++ r.drop (i + 2))
  | 0, x0 :: y0 :: t, x, y, h1, h2, _, h3, h4 => by
    obtain rfl : x0 = x := by simpa using h1
    obtain rfl : y0 = y := by simpa using h2
    exact if_pos ⟨h3, h4⟩
  | i + 1, x0 :: y0 :: t, x, y, h1, h2, hb, h3, h4 => by
    have hb0 : ¬ (x0.1 = y0.1 ∧ y0.2 < x0.2) := fun z => hb 0 (Nat.succ_pos i) ⟨x0, y0, rfl, rfl, z⟩
    have ih := next_at (i := i) (r := y0 :: t) (x := x) (y := y) (by simpa using h1) (by simpa using h2) (fun j hj z => hb (j + 1) (by omega) (by
      obtain ⟨a, b, e1, e2, e3⟩ := z
      exact ⟨a, b, by simpa using e1, by simpa using e2, e3⟩)) h3 h4
    show (if x0.1 = y0.1 ∧ y0.2 < x0.2 then some (y0 :: x0 :: t) else (nextM (y0 :: t)).map (x0 :: ·)) = _
    rw [if_neg hb0, ih]
    rfl
  | 0, [x0], _, _, _, h2, _, _, _ => by simp at h2
  | 0, [], _, _, h1, _, _, _, _ => by simp at h1
  | i + 1, [x0], _, _, h1, _, _, _, _ => by simp at h1
  | i + 1, [], _, _, h1, _, _, _, _ => by simp at h1
theorem next_no : ∀ {r : List Lay}, (∀ j, ¬ BadAt r j) → nextM r = none
  | [], _ => rfl
  | [_], _ => rfl
  | x :: y :: t, h => by
    have h0 : ¬ (x.1 = y.1 ∧ y.2 < x.2) := fun z => h 0 ⟨x, y, rfl, rfl, z⟩
    show (if x.1 = y.1 ∧ y.2 < x.2 then some (y :: x :: t) else (nextM (y :: t)).map (x :: ·)) = none
    rw [if_neg h0, next_no (r := y :: t) fun j z => h (j + 1) (by
      obtain ⟨a, b, e1, e2, e3⟩ := z
      exact ⟨a, b, by simpa using e1, by simpa using e2, e3⟩)]
    rfl
/-- a walk from 0 on -/
theorem walk_range0 {n : Nat} : Walk (Itr 0 n) n (fun _ => True) (YFn fun i => .int (i : Int)) :=
  walk_range.mono (fun _ h => h) fun i H x H' _ _ y => ⟨y.1, by rw [y.2]; show V.int (0 + (i : Int)) = V.int (i : Int); rw [Int.zero_add]⟩
end Y

set_option Elab.async false
set_option linter.all false
set_option maxRecDepth 100000
set_option maxHeartbeats 4000000
/-! S1: sorted(..) of a tuple or a list of layers. -/
namespace Y
open PySem PySem.Spec PyProof.Rows L2 PySem.W
def layLe : Lay → Lay → Bool := dataLe false layD
def ySortLay (K : PySem.W.Frag) : List V → Hp → VK → Prop := fun vs H Q => match vs with
  | [.ref a] => ∃ (xs : List V) (r : List Lay), (SqL K H a xs ∨ SqT K H a xs) ∧ ImAll K H xs (r.map layD) ∧ ∀ ys p, ImAll K H ys ((r.mergeSort layLe).map layD) → H p = none → Q (.ref p) (upd H p (.lst ys))
  | _ => False
theorem zip_each {xs : List V} {r : List Lay} {its : List Value} (rv : Vals xs its) (el : xs.length = r.length) : EachIs (fun (v : Value) (b : V × Lay) => L2.RelV b.1 v) its (xs.zip r) := by
  induction rv generalizing r with
  | nil => rw [List.zip_nil_left]; exact .nil
  | cons h _ ih =>
    cases r with
    | nil => simp at el
    | cons a r => exact .cons h (ih (by simpa using el))
theorem each_vals {out : List Value} {bs : List (V × Lay)} (h : EachIs (fun (v : Value) (b : V × Lay) => L2.RelV b.1 v) out bs) : Vals (bs.map (·.1)) out := by
  induction h with
  | nil => exact .nil
  | cons h _ ih => exact .cons h ih
theorem zip_im {K : PySem.W.Frag} {H : Hp} : ∀ {xs : List V} {r : List Lay}, ImAll K H xs (r.map layD) → ∀ t ∈ xs.zip r, Im K H t.1 (layD t.2)
  | [], [], _, t, h => by simp at h
  | _ :: _, _ :: _, .cons h1 h2, t, ht => by
    rw [List.zip_cons_cons] at ht
    rcases List.mem_cons.mp ht with e | ht
    · rw [e]; exact h1
    · exact zip_im h2 t ht
theorem im_map {K : PySem.W.Frag} {H : Hp} : ∀ {bs : List (V × Lay)}, (∀ t ∈ bs, Im K H t.1 (layD t.2)) → ImAll K H (bs.map (·.1)) ((bs.map (·.2)).map layD)
  | [], _ => .nil
  | b :: bs, h => .cons (h b List.mem_cons_self) (im_map fun t ht => h t (List.mem_cons_of_mem _ ht))
theorem lay_alike (a b : Lay) : alike (layD a) (layD b) = true := by
  simp [layD, alike, alikeAll]
theorem each_reads {X : Cx} {pins : List (Addr × Obj)} {σ : L2.St} {H : Hp} {s : Shared} {h' : Heap} {D : Addr} (I : L2.Inv X pins σ H s) (k : ∀ b o, s.heap.get? b = some o → h'.get? b = some o) {xs : List V} {r : List Lay} {its : List Value} (rv : Vals xs its) (im : ImAll X.K H xs (r.map layD)) :
    EachIs (fun (v : Value) (b : V × Lay) => ∃ as, Reads h' v (layD b.2) as ∧ D ∉ as) its (xs.zip r) := by
  induction rv generalizing r with
  | nil => rw [List.zip_nil_left]; exact .nil
  | cons h _ ih =>
    cases r with
    | nil => cases im
    | cons a r =>
      cases im with
      | cons h1 h2 =>
        obtain ⟨as, rd⟩ := Dp.reads I _ _ _ (Im.dp _ _ h1) h
        have rd' := PyProof.Rows.Reads.keeps k rd
        have e : as = [] := by
          cases rd with
          | tuple _ _ _ ra =>
            rename_i vs n _ _ _
            generalize vs.toList = L at ra
            cases ra with
            | cons r1 r2 =>
              cases r1
              cases r2 with
              | cons r3 r4 =>
                cases r3
                cases r4
                rfl
        exact .cons ⟨as, rd', by rw [e]; simp⟩ (ih h2)
theorem cSortLay {X : Cx} {K : PySem.W.Frag} (h0 : X.K = K) (hu : X.A.units + 64 < cLine) : CallR X (.builtin "sorted") (ySortLay K) := by
  subst h0
  intro pins s σ H vs us Q I r h
  unfold ySortLay at h
  split at h
  · rename_i a
    obtain ⟨xs, lr, hs, im, q⟩ := h
    obtain rfl := Vals.ref1 r
    have el : xs.length = lr.length := by rw [im.length, List.length_map]
    obtain ⟨its, rv, hz, T, o, n, hT, ho, hc, hd⟩ : ∃ its, Vals xs its ∧ xs.length ≤ sizeLine ∧ ∃ (T : String) (o : Obj) (n : Nat), (T = "list" ∨ T = "tuple") ∧ s.heap.get? a = some o ∧ o.cls = .type T ∧ o.data = .seq its.toArray n := by
      rcases hs with hs | hs
      · obtain ⟨its, rv, hl, hz⟩ := I.list hs
        obtain ⟨o, ho, hc, n, hd⟩ := hl.isList
        exact ⟨its, rv, hz, "list", o, n, .inl rfl, ho, hc, hd⟩
      · obtain ⟨its, rv, ⟨o, ho, hc, n, hd⟩, hz⟩ := I.tuple hs
        exact ⟨its, rv, hz, "tuple", o, n, .inr rfl, ho, hc, hd⟩
    have hzi : its.length ≤ sizeLine := by rw [← rv.length]; exact hz
    refine call_function_entry_kw kind_sorted plain_sorted entry_sorted (args_sorted1 _) ?_
    unfold Builtin.«sorted»
    refine wpAny_bind (m := checkCount "sorted" 1 1 _) (wpAny_pure ?_)
    refine wpAny_bind (wpAny_collect_seq a hT ho hc hd (fun h' hk => ?_) (by rw [List.size_toArray]; exact hzi))
    refine wpAny_bind (wpAny_newList ?_ (by simpa using hzi))
    have e0 : its.toArray.toList = its := by simp
    rw [e0]
    have hoL : (h'.push (seqObj "list" its.toArray 0)).get? h'.objs.size = some (seqObj "list" its.toArray 0) := Heap.get?_push_size _ rfl
    have hk2 : ∀ b o, s.heap.get? b = some o → (h'.push (seqObj "list" its.toArray 0)).get? b = some o := fun b o e => Heap.get?_push_of_some _ (hk b o e)
    have hlen : (xs.zip lr).length = its.length := by rw [List.length_zip, ← el, Nat.min_self, rv.length]
    refine wpAny_bind (wpAny_holding (list_sort_data (s := { s with heap := h'.push (seqObj "list" its.toArray 0) }) (enc := fun b : V × Lay => layD b.2) (R := fun (v : Value) (b : V × Lay) => L2.RelV b.1 v) (bs := xs.zip lr) hoL (zip_each rv el) (each_reads I hk2 rv im)
      (AllAlike.of fun b b' => lay_alike b.2 b'.2) (Sortable.tuples fun b => ⟨_, _, rfl⟩) (by rw [hlen]; exact hzi) (fun b _ => ?_) fun out ol eo => ?_))
    · have hd2 := layD_deep b.2
      show X.A.units + 1 + 1 + (layD b.2).depth < cLine
      omega
    · refine wpAny_pure ⟨_, rfl, ?_⟩
      have vo := each_vals eo
      have pm : ((xs.zip lr).mergeSort (dataLe false fun b : V × Lay => layD b.2)).Perm (xs.zip lr) := List.mergeSort_perm _ _
      have imo := im_map (K := X.K) (H := H) fun t ht => zip_im im t (pm.mem_iff.mp ht)
      have e2 : ((xs.zip lr).mergeSort (dataLe false fun b : V × Lay => layD b.2)).map (·.2) = lr.mergeSort layLe := by
        have z := List.map_mergeSort (r := dataLe false fun b : V × Lay => layD b.2) (s := layLe) (f := fun b : V × Lay => b.2) (l := xs.zip lr) (fun a _ b _ => rfl)
        rw [List.map_snd_zip (by rw [el]; exact Nat.le_refl _)] at z
        exact z
      rw [e2] at imo
      obtain ⟨ep, he'⟩ := PyProof.Rows.sortedHeap_at (vs := its) (out := out.toArray) hoL
      have I3 : L2.Inv X pins σ H { s with heap := h' } := I.kept (t' := s.toks) hk
      refine ⟨.ref h'.objs.size, upd H h'.objs.size (.lst _), I3.laid (t' := s.toks) (fun b u e => ?_) (Nat.le_refl _) ⟨?_, out, ep, vo, he'⟩, rfl, q _ _ imo (I3.hok.fresh (Nat.le_refl _))⟩
      · have e' : h'.get? b = some u := e
        have e2 : (h'.push (seqObj "list" its.toArray 0)).get? b = some u := Heap.get?_push_of_some _ e'
        exact (PyProof.Rows.sortedHeap_old (Nat.ne_of_lt (Heap.lt_size e')) (Heap.lt_size e2)).trans e2
      · rw [List.length_map, pm.length_eq, hlen]
        exact hzi
  · exact h.elim

/-! ### the order of layers -/
def tg (a : Lay) : List Nat := a.1.cps.toList
theorem tg_eq {a b : Lay} (h : tg a = tg b) : a.1 = b.1 := str_eq h
theorem layLt_iff (a b : Lay) : dataLt (layD a) (layD b) = true ↔ tg a < tg b ∨ (a.1 = b.1 ∧ a.2 < b.2) := by
  show dataLt (.tuple [.str a.1, .int a.2]) (.tuple [.str b.1, .int b.2]) = true ↔ _
  rw [dataLt_pair (by simp [alike]) (by simp [alike]), dataLt_str, dataLt_int]
  simp only [PyData.eqv, beq_iff_eq]
  by_cases h1 : a.1 = b.1
  · have hn : ¬ tg a < tg b := by
      unfold tg
      rw [h1]
      exact List.lt_irrefl _
    by_cases h2 : a.2 = b.2
    · simp [h1, h2, hn]
    · simp [h1, h2, hn]
  · simp [h1, tg]
theorem layLe_iff (a b : Lay) : layLe a b = true ↔ ¬ (tg b < tg a ∨ (b.1 = a.1 ∧ b.2 < a.2)) := by
  have e : layLe a b = !dataLt (layD b) (layD a) := rfl
  rw [e, ← layLt_iff]
  cases dataLt (layD b) (layD a) <;> simp
theorem layLe_trans (a b c : Lay) (h1 : layLe a b = true) (h2 : layLe b c = true) : layLe a c = true := by
  rw [layLe_iff] at *
  intro h
  have n1 : ¬ tg b < tg a := fun z => h1 (.inl z)
  have n2 : ¬ tg c < tg b := fun z => h2 (.inl z)
  have l1 : tg a ≤ tg b := List.not_lt.mp n1
  have l2 : tg b ≤ tg c := List.not_lt.mp n2
  have l3 := List.le_trans l1 l2
  rcases h with h | ⟨e, h⟩
  · exact List.not_lt.mpr l3 h
  · have e3 : tg c = tg a := by unfold tg; rw [e]
    rw [e3] at l2
    have e4 := tg_eq (List.le_antisymm l1 l2)
    have x1 : ¬ b.2 < a.2 := fun z => h1 (.inr ⟨e4.symm, z⟩)
    have x2 : ¬ c.2 < b.2 := fun z => h2 (.inr ⟨e.trans e4, z⟩)
    omega
theorem layLe_total (a b : Lay) : (layLe a b || layLe b a) = true := by
  cases h1 : layLe a b with
  | true => rfl
  | false =>
    have h1' : ¬ layLe a b = true := by rw [h1]; simp
    rw [layLe_iff] at h1'
    have h := Classical.not_not.mp h1'
    have h2 : layLe b a = true := by
      rw [layLe_iff]
      intro z
      rcases h with h | ⟨e, h⟩
      · rcases z with z | ⟨e, z⟩
        · exact List.lt_asymm h z
        · have e3 : tg a = tg b := by unfold tg; rw [e]
          rw [e3] at h
          exact List.lt_irrefl _ h
      · rcases z with z | ⟨_, z⟩
        · have e3 : tg a = tg b := by unfold tg; rw [e]
          rw [e3] at z
          exact List.lt_irrefl _ z
        · omega
    rw [h2]
    rfl
theorem layLe_anti (a b : Lay) (h1 : layLe a b = true) (h2 : layLe b a = true) : a = b := by
  rw [layLe_iff] at *
  have n1 : ¬ tg b < tg a := fun z => h1 (.inl z)
  have n2 : ¬ tg a < tg b := fun z => h2 (.inl z)
  have e := tg_eq (List.le_antisymm (List.not_lt.mp n1) (List.not_lt.mp n2))
  have x1 : ¬ b.2 < a.2 := fun z => h1 (.inr ⟨e.symm, z⟩)
  have x2 : ¬ a.2 < b.2 := fun z => h2 (.inr ⟨e, z⟩)
  exact lay_eq e (by omega)
theorem sort_perm {a b : List Lay} (p : a.Perm b) : a.mergeSort layLe = b.mergeSort layLe :=
  perm_uniq (R := fun x y => layLe x y = true) (fun x y => layLe_anti x y) ((List.mergeSort_perm _ _).trans (p.trans (List.mergeSort_perm _ _).symm)) (List.pairwise_mergeSort (fun a b c => layLe_trans a b c) (fun a b => layLe_total a b) _) (List.pairwise_mergeSort (fun a b c => layLe_trans a b c) (fun a b => layLe_total a b) _)
theorem tp_ty {K : PySem.W.Frag} {H : Hp} {a : Addr} {xs : List V} (h : Tp K H a xs) : TyX K H (.ref a) (.type "tuple") := by
  rcases h with h | h
  · exact .base (.tup h)
  · rcases h (fun _ => none) with (h | ⟨o, h⟩) | ⟨o, its, n, h1, h2, _⟩
    · cases h
    · cases h
    · exact .kTuple h1 h2
/-- lists of texts, of layers: compared with themselves -/
def strsL (l : List Str) : PyData := .list (l.map PyData.str)
theorem strsL_fine {l : List Str} (h : ∀ z ∈ l, Nm z) : fine (strsL l) = true := fineAll_of fun d hd => by
  obtain ⟨z, hz, rfl⟩ := List.mem_map.mp hd
  exact nm_fine (h z hz)
theorem strsL_deep (l : List Str) : (strsL l).depth ≤ 1 := by
  rw [strsL, PyData.depth]
  have := depthAll_le (n := 0) (ds := l.map PyData.str) fun d hd => by
    obtain ⟨z, _, rfl⟩ := List.mem_map.mp hd
    simp [PyData.depth]
  omega
def laysL (r : List Lay) : PyData := .list (r.map layD)
theorem laysL_fine {r : List Lay} (h : ∀ l ∈ r, LayOk l) : fine (laysL r) = true := fineAll_of fun d hd => by
  obtain ⟨l, hl, rfl⟩ := List.mem_map.mp hd
  exact layD_fine (h l hl)
theorem laysL_deep (r : List Lay) : (laysL r).depth ≤ 2 := by
  rw [laysL, PyData.depth]
  have := depthAll_le (n := 1) (ds := r.map layD) fun d hd => by
    obtain ⟨l, _, rfl⟩ := List.mem_map.mp hd
    exact layD_deep l
  omega
theorem eqv_self {d : PyData} (h : fine d = true) : PyData.eqv d d = true := SeqAt.eqv_refl _ (fine_lay _ h)
end Y

set_option Elab.async false
set_option linter.all false
set_option maxRecDepth 100000
set_option maxHeartbeats 4000000
/-! T2: rows that are alike stay so: exchanges and all that is done to rows. -/
namespace Y
open PySem PySem.Spec PyProof.Rows L2

/-- neighbours of one tag exchanged -/
inductive Sw : List Lay → List Lay → Prop
  | mk (a : List Lay) (x y : Lay) (b : List Lay) (h : x.1 = y.1) : Sw (a ++ x :: y :: b) (a ++ y :: x :: b)
theorem Sw.symm {r r' : List Lay} (h : Sw r r') : Sw r' r := by
  cases h with
  | mk a x y b h => exact .mk a y x b h.symm
theorem Sw.norm {r r' : List Lay} (h : Sw r r') : normM r = normM r' := by
  cases h with
  | mk a x y b h => exact norm_swap h a b
theorem Sw.cons {r r' : List Lay} (z : Lay) (h : Sw r r') : Sw (z :: r) (z :: r') := by
  cases h with
  | mk a x y b h => exact .mk (z :: a) x y b h
/-- led to by exchanges -/
inductive Sws : List Lay → List Lay → Prop
  | refl (r : List Lay) : Sws r r
  | step {r r' r'' : List Lay} : Sw r r' → Sws r' r'' → Sws r r''
theorem Sws.trans {r r' r'' : List Lay} (h : Sws r r') (k : Sws r' r'') : Sws r r'' := by
  induction h with
  | refl => exact k
  | step s _ ih => exact .step s (ih k)
theorem Sws.one {r r' : List Lay} (h : Sw r r') : Sws r r' := .step h (.refl _)
theorem Sws.symm {r r' : List Lay} (h : Sws r r') : Sws r' r := by
  induction h with
  | refl => exact .refl _
  | step s _ ih => exact ih.trans (.one s.symm)
theorem Sws.norm {r r' : List Lay} (h : Sws r r') : normM r = normM r' := by
  induction h with
  | refl => rfl
  | step s _ ih => exact s.norm.trans ih
theorem Sws.cons {r r' : List Lay} (z : Lay) (h : Sws r r') : Sws (z :: r) (z :: r') := by
  induction h with
  | refl => exact .refl _
  | step s _ ih => exact .step (s.cons z) ih
theorem ins_sws (x : Lay) : ∀ t : List Lay, Sws (x :: t) (insM x t)
  | [] => .refl _
  | y :: t => by
    unfold insM
    split
    · rename_i h
      exact .step (.mk [] x y t h.1) ((ins_sws x t).cons y)
    · exact .refl _
theorem norm_sws : ∀ r : List Lay, Sws r (normM r)
  | [] => .refl _
  | x :: r => ((norm_sws r).cons x).trans (ins_sws x _)
/-- alike just where exchanges lead from the one to the other -/
theorem alike_sws {r r' : List Lay} (h : normM r = normM r') : Sws r r' := (norm_sws r).trans (h ▸ (norm_sws r').symm)
/-- what keeps exchanges keeps what is alike -/
theorem keeps_alike {f : List Lay → List Lay} (hf : ∀ r r', Sw r r' → f r = f r' ∨ Sw (f r) (f r')) {r r' : List Lay} (h : normM r = normM r') : normM (f r) = normM (f r') := by
  have s := alike_sws h
  clear h
  induction s with
  | refl => rfl
  | step s _ ih =>
    rw [← ih]
    rcases hf _ _ s with e | e
    · rw [e]
    · exact e.norm
theorem keeps_eq {α : Type} {f : List Lay → α} (hf : ∀ r r', Sw r r' → f r = f r') {r r' : List Lay} (h : normM r = normM r') : f r = f r' := by
  have s := alike_sws h
  clear h
  induction s with
  | refl => rfl
  | step s _ ih => rw [← ih, hf _ _ s]

/-! ### maps, filters, tops -/
theorem sw_map {f : Lay → Lay} (ht : ∀ x y : Lay, x.1 = y.1 → (f x).1 = (f y).1) {r r' : List Lay} (h : Sw r r') : Sw (r.map f) (r'.map f) := by
  cases h with
  | mk a x y b h =>
    rw [List.map_append, List.map_append, List.map_cons, List.map_cons, List.map_cons, List.map_cons]
    exact .mk _ _ _ _ (ht x y h)
theorem sw_filter (p : Lay → Bool) {r r' : List Lay} (h : Sw r r') : r.filter p = r'.filter p ∨ Sw (r.filter p) (r'.filter p) := by
  cases h with
  | mk a x y b h =>
    rw [List.filter_append, List.filter_append, List.filter_cons, List.filter_cons, List.filter_cons, List.filter_cons]
    cases p x <;> cases p y
    · exact .inl rfl
    · exact .inl rfl
    · exact .inl rfl
    · exact .inr (.mk _ _ _ _ h)
theorem sw_app (t : List Lay) {r r' : List Lay} (h : Sw r r') : Sw (r ++ t) (r' ++ t) := by
  cases h with
  | mk a x y b h =>
    rw [List.append_assoc, List.append_assoc]
    exact .mk a x y (b ++ t) h
theorem alike_app (t : List Lay) {r r' : List Lay} (h : normM r = normM r') : normM (r ++ t) = normM (r' ++ t) := keeps_alike (f := fun r => r ++ t) (fun _ _ s => .inr (sw_app t s)) h

/-! ### numbers exchanged -/
def tr (k i : Nat) : Nat := if i = k then k + 1 else if i = k + 1 then k else i
theorem tr_tr (k i : Nat) : tr k (tr k i) = i := by
  unfold tr
  split <;> split <;> first | omega | (split <;> omega)
theorem tr_lt {k i n : Nat} (hk : k + 1 < n) (hi : i < n) : tr k i < n := by
  unfold tr
  split <;> first | omega | (split <;> omega)
section
variable {a b : List Lay} {x y : Lay}
theorem sw_get (i : Nat) : (a ++ y :: x :: b)[tr a.length i]? = (a ++ x :: y :: b)[i]? := by
  unfold tr
  by_cases h1 : i = a.length
  · rw [if_pos h1, h1, List.getElem?_append_right (by omega), List.getElem?_append_right (by omega)]
    simp
  · by_cases h2 : i = a.length + 1
    · rw [if_neg h1, if_pos h2, h2, List.getElem?_append_right (by omega), List.getElem?_append_right (by omega)]
      simp
    · rw [if_neg h1, if_neg h2]
      by_cases h3 : i < a.length
      · rw [List.getElem?_append_left h3, List.getElem?_append_left h3]
      · rw [List.getElem?_append_right (by omega), List.getElem?_append_right (by omega)]
        obtain ⟨d, hd⟩ : ∃ d, i - a.length = d + 2 := ⟨i - a.length - 2, by omega⟩
        rw [hd]
        rfl
theorem sw_stg (i : Nat) : stg (a ++ y :: x :: b) (tr a.length i) = stg (a ++ x :: y :: b) i := by
  unfold stg
  rw [List.getD_eq_getElem?_getD, List.getD_eq_getElem?_getD, sw_get]
theorem sw_ahead (hne : x.2 ≠ y.2) (i j : Nat) : ahead (a ++ y :: x :: b) (tr a.length i) (tr a.length j) = ahead (a ++ x :: y :: b) i j := by
  unfold ahead
  rw [sw_stg, sw_stg]
  have sx : stg (a ++ x :: y :: b) a.length = x.2 := by
    unfold stg
    rw [List.getD_eq_getElem?_getD, List.getElem?_append_right (Nat.le_refl _)]
    simp
  have sy : stg (a ++ x :: y :: b) (a.length + 1) = y.2 := by
    unfold stg
    rw [List.getD_eq_getElem?_getD, List.getElem?_append_right (by omega)]
    simp
  by_cases hs : stg (a ++ x :: y :: b) i = stg (a ++ x :: y :: b) j
  · have key : decide (tr a.length j < tr a.length i) = decide (j < i) := by
      have no : ¬ ((i = a.length ∧ j = a.length + 1) ∨ (i = a.length + 1 ∧ j = a.length)) := by
        rintro (⟨e1, e2⟩ | ⟨e1, e2⟩)
        · rw [e1, e2, sx, sy] at hs
          exact hne hs
        · rw [e1, e2, sx, sy] at hs
          exact hne hs.symm
      have iff : tr a.length j < tr a.length i ↔ j < i := by
        unfold tr
        by_cases e1 : j = a.length
        · rw [if_pos e1]
          by_cases e2 : i = a.length
          · rw [if_pos e2]; omega
          · rw [if_neg e2]
            by_cases e3 : i = a.length + 1
            · exact absurd (.inr ⟨e3, e1⟩) no
            · rw [if_neg e3]; omega
        · rw [if_neg e1]
          by_cases e4 : j = a.length + 1
          · rw [if_pos e4]
            by_cases e2 : i = a.length
            · exact absurd (.inl ⟨e2, e4⟩) no
            · rw [if_neg e2]
              by_cases e3 : i = a.length + 1
              · rw [if_pos e3]; omega
              · rw [if_neg e3]; omega
          · rw [if_neg e4]
            by_cases e2 : i = a.length
            · rw [if_pos e2]; omega
            · rw [if_neg e2]
              by_cases e3 : i = a.length + 1
              · rw [if_pos e3]; omega
              · rw [if_neg e3]
      by_cases c : j < i
      · rw [decide_eq_true c, decide_eq_true (iff.mpr c)]
      · rw [decide_eq_false c, decide_eq_false fun z => c (iff.mp z)]
    rw [key]
  · rw [decide_eq_false hs, Bool.false_and, Bool.false_and]
end
/-- the layers by rank -/
def byRank (r : List Lay) : List Lay := (rankM r).filterMap fun i => r[i]?
theorem sw_rank {a b : List Lay} {x y : Lay} (hne : x.2 ≠ y.2) : rankM (a ++ y :: x :: b) = (rankM (a ++ x :: y :: b)).map (tr a.length) := by
  symm
  have el : (a ++ y :: x :: b).length = (a ++ x :: y :: b).length := by simp
  have hk : a.length + 1 < (a ++ x :: y :: b).length := by simp
  refine rankM_uniq ?_ ?_
  · refine (List.perm_ext_iff_of_nodup ?_ List.nodup_range).mpr fun i => ?_
    · refine List.Pairwise.map _ (fun i j h => ?_) (rankM_nodup _)
      intro e
      have e2 := congrArg (tr a.length) e
      rw [tr_tr, tr_tr] at e2
      exact h e2
    · rw [List.mem_map, List.mem_range, el]
      constructor
      · rintro ⟨j, hj, rfl⟩
        exact tr_lt hk (rankM_mem.mp hj)
      · intro hi
        exact ⟨tr a.length i, rankM_mem.mpr (tr_lt hk hi), tr_tr _ _⟩
  · refine List.pairwise_map.mpr ((rankM_sorted _).imp fun {i j} h => ?_)
    rw [sw_ahead hne]
    exact h
theorem sw_same {a b : List Lay} {x y : Lay} (h : x.1 = y.1) (e : x.2 = y.2) : a ++ x :: y :: b = a ++ y :: x :: b := by rw [lay_eq h e]
theorem sw_byRank {r r' : List Lay} (h : Sw r r') : byRank r = byRank r' := by
  cases h with
  | mk a x y b h =>
    by_cases e : x.2 = y.2
    · rw [sw_same h e]
    · unfold byRank
      rw [sw_rank e, List.filterMap_map]
      congr 1
      funext i
      exact (sw_get i).symm
theorem alike_byRank {r r' : List Lay} (h : normM r = normM r') : byRank r = byRank r' := keeps_eq (fun _ _ s => sw_byRank s) h
theorem sw_cnt {a b : List Lay} {x y : Lay} (hne : x.2 ≠ y.2) {i : Nat} (hi : i < (a ++ x :: y :: b).length) : cntM (a ++ y :: x :: b) (tr a.length i) = cntM (a ++ x :: y :: b) i := by
  refine cntM_pos ?_
  rw [sw_rank hne, List.getElem?_map, rankM_at hi]
  rfl
theorem sw_top {a b : List Lay} {x y : Lay} (hne : x.2 ≠ y.2) : topN (a ++ y :: x :: b) = tr a.length (topN (a ++ x :: y :: b)) := by
  obtain ⟨m, e⟩ := rankM_cons (r := a ++ x :: y :: b) (by simp)
  have e2 : rankM (a ++ y :: x :: b) = _ := sw_rank hne
  rw [e, List.map_cons] at e2
  unfold topN
  rw [e2]
  rw [List.headD_cons]
  rw [show topN (a ++ x :: y :: b) = (rankM (a ++ x :: y :: b)).headD 0 from rfl, e, List.headD_cons]

/-! ### what is done number by number -/
theorem fmI_range {α β : Type} (f : Nat → α → Option β) : ∀ (r : List α) (k : Nat), (r.zipIdx k).filterMap (fun p => f p.2 p.1) = (List.range r.length).filterMap fun i => (r[i]?).bind (f (k + i))
  | [], k => by simp
  | a :: r, k => by
    rw [List.zipIdx_cons, List.filterMap_cons, List.length_cons, List.range_succ_eq_map, List.filterMap_cons, fmI_range f r (k + 1), List.filterMap_map]
    simp only [List.getElem?_cons_zero, Option.bind_some, Nat.add_zero]
    have e : (fun i => (r[i]?).bind (f (k + 1 + i))) = (fun i => ((a :: r)[i]?).bind (f (k + i))) ∘ Nat.succ := by
      funext i
      show _ = ((a :: r)[i + 1]?).bind (f (k + (i + 1)))
      rw [List.getElem?_cons_succ, Nat.add_assoc, Nat.add_comm 1 i]
    rw [e]
theorem partM_fmI (r : List Lay) (P : Nat → Bool) : partM r P = fmI (fun i l => if P i = true then some l else none) r := by
  unfold partM fmI
  rw [fmI_range (fun i l => if P i = true then some l else none) r 0, List.filterMap_filter]
  congr 1
  funext i
  rw [Nat.zero_add]
  cases P i with
  | true => simp
  | false => simp
theorem fmI_app {α β : Type} (f : Nat → α → Option β) (a b : List α) : fmI f (a ++ b) = fmI f a ++ fmI (fun i => f (a.length + i)) b := by
  have key : ∀ (b : List α) (k j : Nat), (b.zipIdx (k + j)).filterMap (fun p => f p.2 p.1) = (b.zipIdx j).filterMap fun p => f (k + p.2) p.1 := by
    intro b
    induction b with
    | nil => intro k j; rfl
    | cons c b ih =>
      intro k j
      rw [List.zipIdx_cons, List.zipIdx_cons, List.filterMap_cons, List.filterMap_cons, Nat.add_assoc, ih k (j + 1)]
  unfold fmI
  rw [List.zipIdx_append, List.filterMap_append, Nat.zero_add]
  congr 1
  have := key b a.length 0
  rw [Nat.add_zero] at this
  exact this
theorem fmI_cons {α β : Type} (f : Nat → α → Option β) (x : α) (b : List α) : fmI f (x :: b) = (f 0 x).toList ++ fmI (fun i => f (i + 1)) b := by
  have h := fmI_app f [x] b
  have e : fmI f [x] = (f 0 x).toList := by
    unfold fmI
    rw [List.zipIdx_singleton]
    cases h : f 0 x <;> simp [h]
  rw [e] at h
  rw [show x :: b = [x] ++ b from rfl, h]
  congr 2
  funext i
  rw [List.length_singleton, Nat.add_comm]
theorem fm_congr {α β : Type} {f g : α → Option β} : ∀ {l : List α}, (∀ a ∈ l, f a = g a) → l.filterMap f = l.filterMap g
  | [], _ => rfl
  | a :: l, h => by rw [List.filterMap_cons, List.filterMap_cons, h a List.mem_cons_self, fm_congr fun b hb => h b (List.mem_cons_of_mem _ hb)]
theorem fmI_congr {α β : Type} {f g : Nat → α → Option β} {r : List α} (h : ∀ i l, r[i]? = some l → f i l = g i l) : fmI f r = fmI g r := by
  unfold fmI
  rw [fmI_range f r 0, fmI_range g r 0]
  apply fm_congr
  intro i hi
  have hi := List.mem_range.mp hi
  rw [Nat.zero_add, List.getElem?_eq_getElem hi]
  exact h i _ (List.getElem?_eq_getElem hi)
/-- exchanged rows, done the same to the same layers -/
theorem sw_fmI {a b : List Lay} {x y : Lay} (h : x.1 = y.1) {f f' : Nat → Lay → Option Lay} (ht : ∀ i l l', f i l = some l' → l'.1 = l.1) (hf : ∀ i l, (a ++ x :: y :: b)[i]? = some l → f' (tr a.length i) l = f i l) :
    fmI f (a ++ x :: y :: b) = fmI f' (a ++ y :: x :: b) ∨ Sw (fmI f (a ++ x :: y :: b)) (fmI f' (a ++ y :: x :: b)) := by
  have eA : fmI f a = fmI f' a := fmI_congr fun i l hl => by
    have hi := (List.getElem?_eq_some_iff.mp hl).1
    have e := hf i l (by rw [List.getElem?_append_left hi]; exact hl)
    rw [show tr a.length i = i from by unfold tr; rw [if_neg (by omega), if_neg (by omega)]] at e
    exact e.symm
  have ex : f' (a.length + 1) x = f a.length x := by
    have e := hf a.length x (by rw [List.getElem?_append_right (Nat.le_refl _)]; simp)
    rw [show tr a.length a.length = a.length + 1 from by unfold tr; rw [if_pos rfl]] at e
    exact e
  have ey : f' a.length y = f (a.length + 1) y := by
    have e := hf (a.length + 1) y (by rw [List.getElem?_append_right (by omega)]; simp)
    rw [show tr a.length (a.length + 1) = a.length from by unfold tr; rw [if_neg (by omega), if_pos rfl]] at e
    exact e
  have eB : fmI (fun i => f (a.length + (i + 1 + 1))) b = fmI (fun i => f' (a.length + (i + 1 + 1))) b := fmI_congr fun i l hl => by
    have e := hf (a.length + (i + 1 + 1)) l (by
      rw [List.getElem?_append_right (by omega), show a.length + (i + 1 + 1) - a.length = i + 2 by omega]
      exact hl)
    rw [show tr a.length (a.length + (i + 1 + 1)) = a.length + (i + 1 + 1) from by unfold tr; rw [if_neg (by omega), if_neg (by omega)]] at e
    exact e.symm
  rw [fmI_app, fmI_app, fmI_cons, fmI_cons, fmI_cons, fmI_cons, eA]
  simp only [Nat.add_zero, Nat.zero_add]
  rw [eB, ex, ey]
  cases e1 : f a.length x with
  | none => exact .inl (by simp)
  | some u =>
    cases e2 : f (a.length + 1) y with
    | none => exact .inl (by simp)
    | some w =>
      refine .inr ?_
      have e3 : u.1 = w.1 := by rw [ht _ _ _ e1, ht _ _ _ e2, h]
      have := Sw.mk (fmI f' a) u w (fmI (fun i => f' (a.length + (i + 1 + 1))) b) e3
      simpa using this
/-- thinned -/
theorem thin_fmI (r : List Lay) (m : Nat) : thinM r m = fmI (fun i l => if decide (cntM r i < m) = true then some l else none) r := partM_fmI r _
theorem sw_thin (m : Nat) {r r' : List Lay} (h : Sw r r') : thinM r m = thinM r' m ∨ Sw (thinM r m) (thinM r' m) := by
  cases h with
  | mk a x y b h =>
    by_cases e : x.2 = y.2
    · exact .inl (by rw [sw_same h e])
    · rw [thin_fmI, thin_fmI]
      refine sw_fmI h (fun i l l' z => ?_) fun i l hl => ?_
      · split at z
        · rw [Option.some.inj z]
        · cases z
      · rw [sw_cnt e (List.getElem?_eq_some_iff.mp hl).1]
theorem alike_thin (m : Nat) {r r' : List Lay} (h : normM r = normM r') : normM (thinM r m) = normM (thinM r' m) := keeps_alike (fun _ _ s => sw_thin m s) h
theorem scrap_fmI (r : List Lay) : scrapM r = fmI (fun i l => if i ≠ topN r then some l else none) r := (fmI_erase r _).symm
theorem tr_inj {k i j : Nat} (h : tr k i = tr k j) : i = j := by
  have := congrArg (tr k) h
  rw [tr_tr, tr_tr] at this
  exact this
theorem sw_scrap {r r' : List Lay} (h : Sw r r') : scrapM r = scrapM r' ∨ Sw (scrapM r) (scrapM r') := by
  cases h with
  | mk a x y b h =>
    by_cases e : x.2 = y.2
    · exact .inl (by rw [sw_same h e])
    · rw [scrap_fmI, scrap_fmI]
      refine sw_fmI h (fun i l l' z => ?_) fun i l hl => ?_
      · split at z
        · rw [Option.some.inj z]
        · cases z
      · rw [sw_top e]
        by_cases c : i = topN (a ++ x :: y :: b)
        · rw [if_neg (by simp [c]), if_neg (by simp [c])]
        · rw [if_pos (fun z => c (tr_inj z)), if_pos c]
theorem alike_scrap {r r' : List Lay} (h : normM r = normM r') : normM (scrapM r) = normM (scrapM r') := keeps_alike (fun _ _ s => sw_scrap s) h
/-! ### rubbed -/
theorem rub_fmI {r : List Lay} {n : Int} (hpos : ∀ l ∈ r, 0 < l.2) : rubM r n = fmI (fun i (l : Lay) => if 0 < l.2 - n * (if ((i : Nat) : Int) = ((topN r : Nat) : Int) then 1 else 0) then some ((l.1, l.2 - n * (if ((i : Nat) : Int) = ((topN r : Nat) : Int) then 1 else 0)) : Lay) else none) r := by
  by_cases hne : r = []
  · subst hne
    unfold rubM lowM scrapM
    split <;> simp [fmI]
  · rw [← there_low hne hpos, ← fmI_low]
    unfold fmI
    rw [List.filter_filterMap]
    apply fm_congr
    intro p _
    simp only [Option.filter_some]
    by_cases c : 0 < p.1.2 - n * (if ((p.2 : Nat) : Int) = ((topN r : Nat) : Int) then 1 else 0)
    · rw [if_pos c, if_pos (decide_eq_true c)]
    · rw [if_neg c, if_neg (by simpa using c)]
theorem Sw.mem {r r' : List Lay} (h : Sw r r') {l : Lay} : l ∈ r' ↔ l ∈ r := by
  cases h with
  | mk a x y b h =>
    simp only [List.mem_append, List.mem_cons]
    constructor
    · rintro (z | z | z | z)
      · exact .inl z
      · exact .inr (.inr (.inl z))
      · exact .inr (.inl z)
      · exact .inr (.inr (.inr z))
    · rintro (z | z | z | z)
      · exact .inl z
      · exact .inr (.inr (.inl z))
      · exact .inr (.inl z)
      · exact .inr (.inr (.inr z))
theorem sw_rub (n : Int) {r r' : List Lay} (hpos : ∀ l ∈ r, 0 < l.2) (h : Sw r r') : rubM r n = rubM r' n ∨ Sw (rubM r n) (rubM r' n) := by
  have hpos' : ∀ l ∈ r', 0 < l.2 := fun l hl => hpos l (h.mem.mp hl)
  cases h with
  | mk a x y b h =>
    by_cases e : x.2 = y.2
    · exact .inl (by rw [sw_same h e])
    · rw [rub_fmI hpos, rub_fmI hpos']
      refine sw_fmI h (fun i l l' z => ?_) fun i l hl => ?_
      · by_cases c : 0 < l.2 - n * (if ((i : Nat) : Int) = ((topN (a ++ x :: y :: b) : Nat) : Int) then 1 else 0)
        · rw [if_pos c] at z
          rw [← Option.some.inj z]
        · rw [if_neg c] at z
          cases z
      · rw [sw_top e]
        have c : (((tr a.length i : Nat) : Int) = ((tr a.length (topN (a ++ x :: y :: b)) : Nat) : Int)) = ((i : Int) = ((topN (a ++ x :: y :: b) : Nat) : Int)) := propext ⟨fun z => by
          have := tr_inj (k := a.length) (i := i) (j := topN (a ++ x :: y :: b)) (by omega)
          omega, fun z => by
          have : i = topN (a ++ x :: y :: b) := by omega
          rw [← this]⟩
        simp only [c]
theorem alike_pos {r r' : List Lay} (h : normM r = normM r') (hp : ∀ l ∈ r, 0 < l.2) : ∀ l ∈ r', 0 < l.2 := fun l hl => hp l (norm_mem.mp (h ▸ norm_mem.mpr hl))
theorem alike_rub (n : Int) {r r' : List Lay} (hp : ∀ l ∈ r, 0 < l.2) (h : normM r = normM r') : normM (rubM r n) = normM (rubM r' n) := by
  have s := alike_sws h
  clear h
  induction s with
  | refl => rfl
  | step s _ ih =>
    rw [← ih fun l hl => hp l (s.mem.mp hl)]
    rcases sw_rub n hp s with e | e
    · rw [e]
    · exact e.norm
/-! ### weaker, stronger -/
def shiftM (r : List Lay) (n : Int) : List Lay := r.map fun l => (l.1, l.2 + n)
theorem alike_shift (n : Int) {r r' : List Lay} (h : normM r = normM r') : normM (shiftM r n) = normM (shiftM r' n) := keeps_alike (f := fun r => shiftM r n) (fun _ _ s => .inr (sw_map (f := fun l : Lay => (l.1, l.2 + n)) (fun x y e => e) s)) h
theorem alike_filter (p : Lay → Bool) {r r' : List Lay} (h : normM r = normM r') : normM (r.filter p) = normM (r'.filter p) := keeps_alike (f := fun r => r.filter p) (fun _ _ s => sw_filter p s) h
theorem shift_stg {r : List Lay} {n : Int} {i : Nat} (h : i < r.length) : stg (shiftM r n) i = stg r i + n := by
  have h' : i < (shiftM r n).length := by unfold shiftM; rw [List.length_map]; exact h
  unfold stg shiftM
  rw [List.getD_eq_getElem?_getD, List.getD_eq_getElem?_getD, List.getElem?_map, List.getElem?_eq_getElem h]
  rfl
theorem shift_ahead {r : List Lay} {n : Int} {i j : Nat} (hi : i < r.length) (hj : j < r.length) : ahead (shiftM r n) i j = ahead r i j := by
  unfold ahead
  rw [shift_stg hi, shift_stg hj]
  have e1 : decide (stg r j + n < stg r i + n) = decide (stg r j < stg r i) := by
    by_cases h : stg r j < stg r i
    · rw [decide_eq_true h, decide_eq_true (by omega)]
    · rw [decide_eq_false h, decide_eq_false (by omega)]
  have e2 : decide (stg r i + n = stg r j + n) = decide (stg r i = stg r j) := by
    by_cases h : stg r i = stg r j
    · rw [decide_eq_true h, decide_eq_true (by omega)]
    · rw [decide_eq_false h, decide_eq_false (by omega)]
  rw [e1, e2]
theorem shift_cnt {r : List Lay} {n : Int} {i : Nat} (hi : i < r.length) : cntM (shiftM r n) i = cntM r i := by
  unfold cntM
  have el : (shiftM r n).length = r.length := by unfold shiftM; rw [List.length_map]
  rw [el]
  congr 1
  exact List.filter_congr fun j hj => shift_ahead (List.mem_range.mp hj) hi
theorem thin_shift (r : List Lay) (n : Int) (m : Nat) : thinM (shiftM r n) m = shiftM (thinM r m) n := by
  have el : (shiftM r n).length = r.length := by unfold shiftM; rw [List.length_map]
  rw [thinM_eq, thinM_eq]
  unfold shiftM
  rw [List.map_filterMap, List.length_map]
  apply fm_congr
  intro i hi
  have hi := List.mem_range.mp hi
  have e := shift_cnt (n := n) hi
  unfold shiftM at e
  rw [e, List.getElem?_map]
  cases decide (cntM r i < m) <;> rfl
/-- thinned of a part that has all of a rank below -/
theorem thin_part {s : List Lay} {P : Nat → Bool} {m : Nat} (h : ∀ i, i < s.length → cntM s i < m → P i = true) : thinM (partM s P) m = thinM s m := by
  rw [thinM_part (partM s P), part_part (r := s) (P := P) _ (fun i => decide (cntM s i < m))]
  · rw [thinM_part s, partM_fmI, partM_fmI]
    refine fmI_congr fun i l hl => ?_
    have hi := (List.getElem?_eq_some_iff.mp hl).1
    by_cases c : cntM s i < m
    · rw [h i hi c, decide_eq_true c]
      rfl
    · rw [decide_eq_false c, Bool.and_false]
  · intro k hk
    have hi := ixM_lt (r := s) (P := P) _ (List.getElem_mem hk)
    have e := cnt_part hk
    by_cases c : cntM s (ixM s P)[k] < m
    · have c2 : cntM (partM s P) k < m := by
        rw [e]
        refine Nat.lt_of_le_of_lt ?_ c
        unfold cntM
        rw [List.filter_filter]
        refine List.Sublist.length_le ?_
        have : (List.range s.length).filter (fun a => ahead s a (ixM s P)[k] && P a) = ((List.range s.length).filter fun a => ahead s a (ixM s P)[k]).filter P := by
          rw [List.filter_filter]
          congr 1
          funext a
          exact Bool.and_comm _ _
        rw [this]
        exact List.filter_sublist
      rw [decide_eq_true c, decide_eq_true c2]
    · have c2 : ¬ cntM (partM s P) k < m := by
        rw [e]
        have sub : ((rankM s).take m).length ≤ ((ixM s P).filter fun j => ahead s j (ixM s P)[k]).length := by
          refine nodup_le ((rankM_nodup s).sublist (List.take_sublist _ _)) fun j hj => ?_
          obtain ⟨q, hq⟩ := List.mem_iff_getElem?.mp hj
          rw [List.getElem?_take] at hq
          split at hq
          · rename_i hqm
            have hjr := rankM_mem.mp (List.mem_of_getElem? hq)
            have cj := cntM_pos hq
            refine List.mem_filter.mpr ⟨List.mem_filter.mpr ⟨List.mem_range.mpr hjr, h j hjr (by omega)⟩, ?_⟩
            have e1 := rankM_at hi
            have hs := List.pairwise_iff_getElem.mp (rankM_strict s) q (cntM s (ixM s P)[k]) (List.getElem?_eq_some_iff.mp hq).1 (List.getElem?_eq_some_iff.mp e1).1 (by omega)
            rw [(List.getElem?_eq_some_iff.mp hq).2, (List.getElem?_eq_some_iff.mp e1).2] at hs
            exact hs
          · cases hq
        rw [List.length_take, rankM_length] at sub
        have := cntM_lt hi
        omega
      rw [decide_eq_false c, decide_eq_false c2]
theorem fmI_plain {α β : Type} (f : α → Option β) (r : List α) : fmI (fun _ l => f l) r = r.filterMap f := by
  unfold fmI
  have : (fun p : α × Nat => f p.1) = f ∘ Prod.fst := rfl
  rw [this, ← List.filterMap_map, List.zipIdx_map_fst]
theorem stg_get {r : List Lay} {i : Nat} {l : Lay} (h : r[i]? = some l) : stg r i = l.2 := by
  unfold stg
  rw [List.getD_eq_getElem?_getD, h]
  rfl
abbrev posB (l : Lay) : Bool := decide (0 < l.2)
theorem filter_part (r : List Lay) : r.filter posB = partM r fun i => decide (0 < stg r i) := by
  rw [partM_fmI, ← fm_filter, ← fmI_plain]
  exact fmI_congr fun i l hl => by rw [stg_get hl]
theorem part_congr {r : List Lay} {P Q : Nat → Bool} (h : ∀ i, i < r.length → P i = Q i) : partM r P = partM r Q := by
  rw [partM_fmI, partM_fmI]
  exact fmI_congr fun i l hl => by rw [h i (List.getElem?_eq_some_iff.mp hl).1]
theorem thin_pos (r : List Lay) (m : Nat) : thinM (r.filter posB) m = (thinM r m).filter posB := by
  rw [filter_part r, filter_part (thinM r m), thinM_part, thinM_part, part_part (r := r) (P := fun i => decide (0 < stg r i)) _ (fun i => decide (cntM r i < m)), part_part (r := r) (P := fun i => decide (cntM r i < m)) _ (fun i => decide (0 < stg r i))]
  · exact part_congr fun i _ => Bool.and_comm _ _
  · intro k hk
    rw [stg_part hk]
  · intro k hk
    rw [cnt_part_same hk]
    intro j hj hja
    have hm := of_decide_eq_true (List.mem_filter.mp (List.getElem_mem hk)).2
    have := ahead_iff.mp hja
    exact decide_eq_true (by omega)
/-- layers put on top -/
theorem app_stg {r t : List Lay} {i : Nat} (h : i < r.length) : stg (r ++ t) i = stg r i := by
  unfold stg
  rw [List.getD_eq_getElem?_getD, List.getD_eq_getElem?_getD, List.getElem?_append_left h]
theorem app_ahead {r t : List Lay} {i j : Nat} (hi : i < r.length) (hj : j < r.length) : ahead (r ++ t) i j = ahead r i j := by
  unfold ahead
  rw [app_stg hi, app_stg hj]
theorem app_cnt {r t : List Lay} {i : Nat} (hi : i < r.length) : cntM r i ≤ cntM (r ++ t) i := by
  unfold cntM
  rw [List.length_append, List.range_add, List.filter_append, List.length_append]
  have e : (List.range r.length).filter (fun o => ahead (r ++ t) o i) = (List.range r.length).filter fun o => ahead r o i := List.filter_congr fun j hj => app_ahead (List.mem_range.mp hj) hi
  rw [e]
  omega
theorem part_all (r : List Lay) : partM r (fun _ => true) = r := by
  rw [partM_fmI]
  show fmI (fun _ (l : Lay) => if true = true then some l else none) r = r
  have := fmI_plain (fun l : Lay => if true = true then some l else none) r
  rw [this]
  have e : (fun l : Lay => if true = true then some l else none) = some := by funext l; exact if_pos rfl
  rw [e, List.filterMap_some]
theorem thin_app (r t : List Lay) (m : Nat) : thinM (thinM r m ++ t) m = thinM (r ++ t) m := by
  have e : thinM r m ++ t = partM (r ++ t) fun i => decide (i < r.length → cntM r i < m) := by
    rw [partM_fmI, fmI_app, thin_fmI]
    congr 1
    · exact fmI_congr fun i l hl => by
        have hi := (List.getElem?_eq_some_iff.mp hl).1
        have : (i < r.length → cntM r i < m) ↔ cntM r i < m := ⟨fun z => z hi, fun z _ => z⟩
        simp only [this]
    · have e2 : fmI (fun i (l : Lay) => if decide (r.length + i < r.length → cntM r (r.length + i) < m) = true then some l else none) t = partM t fun _ => true := by
        rw [partM_fmI]
        exact fmI_congr fun i l _ => by
          rw [decide_eq_true (fun z => absurd z (by omega))]
      rw [e2, part_all]
  rw [e]
  refine thin_part fun i _ hc => decide_eq_true fun hi => ?_
  exact Nat.lt_of_le_of_lt (app_cnt hi) hc
/-- scraped -/
theorem cnt_zero {r : List Lay} {i : Nat} (hi : i < r.length) : cntM r i = 0 ↔ i = topN r := by
  have hne : r ≠ [] := fun z => by rw [z] at hi; simp at hi
  obtain ⟨m, e⟩ := rankM_cons hne
  constructor
  · intro h
    have := rankM_at hi
    rw [h, e] at this
    simpa using this.symm
  · intro h
    refine cntM_pos ?_
    rw [e, h]
    rfl
theorem scrap_part (r : List Lay) : scrapM r = partM r fun i => decide (cntM r i ≠ 0) := by
  rw [scrap_fmI, partM_fmI]
  refine fmI_congr fun i l hl => ?_
  have hi := (List.getElem?_eq_some_iff.mp hl).1
  have := cnt_zero hi
  by_cases c : i = topN r
  · rw [if_neg (by simp [c]), if_neg (by simp [this.mpr c])]
  · have c0 : cntM r i ≠ 0 := fun z => c (this.mp z)
    rw [if_pos c, if_pos (decide_eq_true c0)]
theorem filter_ne_len {p : Nat → Bool} {t : Nat} : ∀ {l : List Nat}, l.Nodup → t ∈ l → p t = true → (l.filter fun j => p j && decide (j ≠ t)).length + 1 = (l.filter p).length
  | a :: l, hn, ht, hp => by
    obtain ⟨h1, h2⟩ := List.nodup_cons.mp hn
    rw [List.filter_cons, List.filter_cons]
    by_cases e : a = t
    · subst e
      rw [hp, Bool.true_and, if_neg (by simp), if_pos rfl, List.length_cons]
      congr 1
      congr 1
      exact List.filter_congr fun j hj => by
        have c0 : j ≠ a := fun z => h1 (z ▸ hj)
        rw [decide_eq_true c0, Bool.and_true]
    · have ht' : t ∈ l := (List.mem_cons.mp ht).resolve_left fun z => e z.symm
      have ih := filter_ne_len h2 ht' hp
      rw [decide_eq_true e, Bool.and_true]
      cases p a with
      | true => simp only [if_true, List.length_cons]; omega
      | false => simpa using ih
theorem thin_scrap (r : List Lay) (m : Nat) : thinM (scrapM r) m = scrapM (thinM r (m + 1)) := by
  rw [scrap_part r, scrap_part (thinM r (m + 1)), thinM_part, thinM_part, part_part (r := r) (P := fun i => decide (cntM r i ≠ 0)) _ (fun i => decide (cntM r i < m + 1)), part_part (r := r) (P := fun i => decide (cntM r i < m + 1)) _ (fun i => decide (cntM r i ≠ 0))]
  · exact part_congr fun i _ => Bool.and_comm _ _
  · intro k hk
    rw [cnt_part_same hk]
    intro j hj hja
    have hm := of_decide_eq_true (List.mem_filter.mp (List.getElem_mem hk)).2
    have := cnt_lt_of_ahead hj (ixM_lt _ (List.getElem_mem hk)) hja
    exact decide_eq_true (by omega)
  · intro k hk
    have hi := ixM_lt (r := r) (P := fun i => decide (cntM r i ≠ 0)) _ (List.getElem_mem hk)
    have hm : cntM r (ixM r fun i => decide (cntM r i ≠ 0))[k] ≠ 0 := of_decide_eq_true (List.mem_filter.mp (List.getElem_mem hk)).2
    have hne : r ≠ [] := fun z => by
      have hp : 0 < r.length := Nat.lt_of_le_of_lt (Nat.zero_le _) hi
      rw [z] at hp
      simp at hp
    have e := cnt_part hk
    rw [List.filter_filter] at e
    have e2 : (List.range r.length).filter (fun a => ahead r a (ixM r fun i => decide (cntM r i ≠ 0))[k] && decide (cntM r a ≠ 0)) = (List.range r.length).filter fun a => ahead r a (ixM r fun i => decide (cntM r i ≠ 0))[k] && decide (a ≠ topN r) := List.filter_congr fun a ha => by
      have := cnt_zero (List.mem_range.mp ha)
      by_cases c : a = topN r
      · rw [decide_eq_false (by simp [this.mpr c]), decide_eq_false (by simp [c])]
      · have c0 : cntM r a ≠ 0 := fun z => c (this.mp z)
        rw [decide_eq_true c0, decide_eq_true c]
    rw [e2] at e
    have hta : ahead r (topN r) (ixM r fun i => decide (cntM r i ≠ 0))[k] = true := by
      have h0 := topN_first hne hi
      have hn : (ixM r fun i => decide (cntM r i ≠ 0))[k] ≠ topN r := fun z => hm ((cnt_zero hi).mpr z)
      rw [ahead_no] at h0
      rw [ahead_iff]
      omega
    have e3 := filter_ne_len (p := fun a => ahead r a (ixM r fun i => decide (cntM r i ≠ 0))[k]) List.nodup_range (List.mem_range.mpr (topN_lt hne)) hta
    have e4 : cntM (partM r fun i => decide (cntM r i ≠ 0)) k + 1 = cntM r (ixM r fun i => decide (cntM r i ≠ 0))[k] := by
      rw [e]
      exact e3
    by_cases c : cntM r (ixM r fun i => decide (cntM r i ≠ 0))[k] < m + 1
    · rw [decide_eq_true c, decide_eq_true (by omega)]
    · rw [decide_eq_false c, decide_eq_false (by omega)]
/-- the first layer -/
def topL (r : List Lay) : Option Lay := r[topN r]?
theorem thin_topL (r : List Lay) (m : Nat) : topL (thinM r (m + 1)) = topL r := by
  by_cases hne : r = []
  · subst hne
    rfl
  · have ht := topN_lt hne
    have h0 : cntM r (topN r) = 0 := (cnt_zero ht).mpr rfl
    have hmem : topN r ∈ ixM r fun i => decide (cntM r i < m + 1) := List.mem_filter.mpr ⟨List.mem_range.mpr ht, decide_eq_true (by omega)⟩
    obtain ⟨k, hk, ek⟩ := List.mem_iff_getElem.mp hmem
    have hkl : k < (thinM r (m + 1)).length := by
      rw [thinM_part, partM_len]
      exact hk
    have ck : cntM (thinM r (m + 1)) k = 0 := by
      rw [thinM_part, cnt_part_same hk, ek, h0]
      intro j hj hja
      have := cnt_lt_of_ahead hj (ixM_lt _ (List.getElem_mem hk)) hja
      rw [ek, h0] at this
      exact absurd this (Nat.not_lt_zero _)
    have e := (cnt_zero hkl).mp ck
    unfold topL
    rw [← e, thinM_part]
    show ((ixM r fun i => decide (cntM r i < m + 1)).filterMap fun i => r[i]?)[k]? = _
    rw [fm_at ixM_lt, List.getElem?_eq_getElem hk, ek]
    rfl
theorem topL_rank (r : List Lay) : topL r = (byRank r).head? := by
  by_cases hne : r = []
  · subst hne
    unfold topL byRank
    rw [rankM_nil]
    rfl
  · obtain ⟨m, e⟩ := rankM_cons hne
    have ht := topN_lt hne
    unfold topL byRank
    rw [e, List.filterMap_cons, List.getElem?_eq_getElem ht]
    rfl
theorem alike_topL {r r' : List Lay} (h : normM r = normM r') : topL r = topL r' := by rw [topL_rank, topL_rank, alike_byRank h]
theorem filter_ne_le {p : Nat → Bool} {t : Nat} : ∀ {l : List Nat}, l.Nodup → (l.filter p).length ≤ (l.filter fun j => p j && decide (j ≠ t)).length + 1
  | [], _ => Nat.zero_le _
  | a :: l, hn => by
    obtain ⟨h1, h2⟩ := List.nodup_cons.mp hn
    have ih := filter_ne_le (p := p) (t := t) h2
    rw [List.filter_cons, List.filter_cons]
    by_cases e : a = t
    · subst e
      have e2 : l.filter (fun j => p j && decide (j ≠ a)) = l.filter p := List.filter_congr fun j hj => by
        have c0 : j ≠ a := fun z => h1 (z ▸ hj)
        rw [decide_eq_true c0, Bool.and_true]
      rw [e2]
      cases p a with
      | true => simp
      | false => simp
    · rw [decide_eq_true e, Bool.and_true]
      cases p a with
      | true => simp only [if_true, List.length_cons]; omega
      | false => simpa using ih
theorem low_len (r : List Lay) (t : Nat) (n : Int) : (lowM r t n).length = r.length := by unfold lowM; rw [List.length_set]
theorem low_get {r : List Lay} {t i : Nat} {n : Int} (h : i ≠ t) : (lowM r t n)[i]? = r[i]? := by
  unfold lowM
  rw [List.getElem?_set_ne (Ne.symm h)]
theorem low_stg {r : List Lay} {t i : Nat} {n : Int} (h : i ≠ t) : stg (lowM r t n) i = stg r i := by
  unfold stg
  rw [List.getD_eq_getElem?_getD, List.getD_eq_getElem?_getD, low_get h]
theorem low_cnt {r : List Lay} {t i : Nat} {n : Int} (h : i ≠ t) : cntM r i ≤ cntM (lowM r t n) i + 1 := by
  unfold cntM
  rw [low_len]
  refine Nat.le_trans (filter_ne_le (t := t) List.nodup_range) ?_
  refine Nat.add_le_add_right ?_ 1
  have e : (List.range r.length).filter (fun j => ahead r j i && decide (j ≠ t)) = ((List.range r.length).filter fun j => ahead (lowM r t n) j i).filter fun j => decide (j ≠ t) := by
    rw [List.filter_filter]
    refine List.filter_congr fun j _ => ?_
    by_cases c : j = t
    · rw [decide_eq_false (by simp [c]), Bool.and_false, Bool.false_and]
    · rw [decide_eq_true c, Bool.and_true, Bool.true_and]
      unfold ahead
      rw [low_stg c, low_stg h]
  rw [e]
  exact List.length_filter_le _ _
/-- a part of a row whose layer at t is lowered -/
theorem part_low {r : List Lay} {P : Nat → Bool} {k0 : Nat} (hk0 : k0 < (ixM r P).length) (n : Int) : lowM (partM r P) k0 n = partM (lowM r (ixM r P)[k0] n) P := by
  have eix : ixM (lowM r (ixM r P)[k0] n) P = ixM r P := by
    unfold ixM
    rw [low_len]
  refine List.ext_getElem? fun k => ?_
  have hR : (partM (lowM r (ixM r P)[k0] n) P)[k]? = (ixM r P)[k]?.bind fun i => (lowM r (ixM r P)[k0] n)[i]? := by
    show ((ixM (lowM r (ixM r P)[k0] n) P).filterMap fun i => (lowM r (ixM r P)[k0] n)[i]?)[k]? = _
    rw [fm_at ixM_lt, eix]
  have hP : ∀ k, (partM r P)[k]? = (ixM r P)[k]?.bind fun i => r[i]? := fun k => fm_at ixM_lt k
  rw [hR]
  by_cases hk : k < (ixM r P).length
  · rw [List.getElem?_eq_getElem hk]
    simp only [Option.bind_some]
    by_cases e : k = k0
    · subst e
      have hi := ixM_lt (r := r) (P := P) _ (List.getElem_mem hk)
      unfold lowM
      rw [List.getElem?_set_self (by rw [partM_len]; exact hk), List.getElem?_set_self hi, stg_part hk]
      have eg : (partM r P).getD k (default, 0) = r.getD (ixM r P)[k] (default, 0) := by
        rw [List.getD_eq_getElem?_getD, List.getD_eq_getElem?_getD, hP, List.getElem?_eq_getElem hk]
        rfl
      rw [eg]
    · have e2 : (ixM r P)[k] ≠ (ixM r P)[k0] := fun z => by
        have nd : (ixM r P).Nodup := ixM_inc.imp fun h => Nat.ne_of_lt h
        exact e ((List.getElem_inj nd).mp z)
      rw [low_get e, low_get e2, hP, List.getElem?_eq_getElem hk]
      rfl
  · rw [List.getElem?_eq_none (by rw [low_len, partM_len]; omega), List.getElem?_eq_none (by omega)]
    rfl
theorem thin_rub (r : List Lay) (n : Int) (m : Nat) : thinM (rubM (thinM r (m + 1)) n) m = thinM (rubM r n) m := by
  by_cases hne : r = []
  · subst hne
    have e : thinM [] (m + 1) = [] := rfl
    rw [e]
  · have ht := topN_lt hne
    have h0 : cntM r (topN r) = 0 := (cnt_zero ht).mpr rfl
    have hmem : topN r ∈ ixM r fun i => decide (cntM r i < m + 1) := List.mem_filter.mpr ⟨List.mem_range.mpr ht, decide_eq_true (by omega)⟩
    obtain ⟨k, hk, ek⟩ := List.mem_iff_getElem.mp hmem
    have hkl : k < (thinM r (m + 1)).length := by
      rw [thinM_part, partM_len]
      exact hk
    have ck : cntM (thinM r (m + 1)) k = 0 := by
      rw [thinM_part, cnt_part_same hk, ek, h0]
      intro j hj hja
      have := cnt_lt_of_ahead hj (ixM_lt _ (List.getElem_mem hk)) hja
      rw [ek, h0] at this
      exact absurd this (Nat.not_lt_zero _)
    have e := (cnt_zero hkl).mp ck
    have es : stg (thinM r (m + 1)) k = stg r (topN r) := by rw [thinM_part, stg_part hk, ek]
    unfold rubM
    rw [← e, es]
    by_cases c : 0 < stg r (topN r) - n
    · rw [if_pos c, if_pos c]
      have e2 : lowM (thinM r (m + 1)) k n = partM (lowM r (topN r) n) fun i => decide (cntM r i < m + 1) := by
        rw [thinM_part, part_low hk, ek]
      rw [e2]
      refine thin_part fun i hi hc => decide_eq_true ?_
      by_cases ci : i = topN r
      · rw [ci, h0]
        omega
      · have := low_cnt (r := r) (n := n) ci
        omega
    · rw [if_neg c, if_neg c]
      rw [show scrapM (thinM r (m + 1)) = thinM (scrapM r) m from (thin_scrap r m).symm, thin_thin, Nat.min_self]
end Y

set_option Elab.async false
set_option linter.all false
set_option maxRecDepth 100000
set_option maxHeartbeats 4000000
/-! S2: rows compared as data; x is True; lists unpacked. -/
namespace Y
open PySem PySem.Spec PyProof.Rows L2
theorem eqv_lay (a b : Lay) : PyData.eqv (layD a) (layD b) = decide (a = b) := by
  obtain ⟨a1, a2⟩ := a
  obtain ⟨b1, b2⟩ := b
  simp [layD, PyData.eqv, PyData.eqvAll]
  by_cases h1 : a1 = b1 <;> by_cases h2 : a2 = b2 <;> simp [h1, h2]
theorem eqv_lays : ∀ a b : List Lay, PyData.eqvAll (a.map layD) (b.map layD) = decide (a = b)
  | [], [] => by simp [PyData.eqvAll]
  | [], b :: bs => by simp [PyData.eqvAll]
  | a :: as, [] => by simp [PyData.eqvAll]
  | a :: as, b :: bs => by
    rw [List.map_cons, List.map_cons, PyData.eqvAll, eqv_lay, eqv_lays as bs]
    by_cases h1 : a = b <;> by_cases h2 : as = bs <;> simp [h1, h2]
theorem eqv_row (a b : List Lay) : PyData.eqv (rowD a) (rowD b) = decide (a = b) := by
  rw [rowD, rowD, PyData.eqv, eqv_lays]
theorem eqv_laysL (a b : List Lay) : PyData.eqv (laysL a) (laysL b) = decide (a = b) := by
  rw [laysL, laysL, PyData.eqv, eqv_lays]
section
variable {X : Cx} {K : PySem.W.Frag}
def yIsB : R2 := fun x y H Q => match x, y with
  | .bl a, .bl b => Q (.bl (decide (a = b))) H
  | _, _ => False
def yNotB : R2 := fun x y H Q => match x, y with
  | .bl a, .bl b => Q (.bl (!decide (a = b))) H
  | _, _ => False
theorem oIsB : OpR X (compareOp .Is) yIsB := by
  intro pins s σ H x y v u Q I rx ry h
  unfold yIsB at h
  split at h
  · rename_i a b
    cases rx
    cases ry
    have e : compareOp .Is (.bool a) (.bool b) = pure (.bool (decide (a = b))) := by
      cases a <;> cases b <;> rfl
    rw [e]
    exact wpAny_pure ⟨.bl _, H, I, rfl, h⟩
  · exact h.elim
theorem oNotB : OpR X (compareOp .IsNot) yNotB := by
  intro pins s σ H x y v u Q I rx ry h
  unfold yNotB at h
  split at h
  · rename_i a b
    cases rx
    cases ry
    have e : compareOp .IsNot (.bool a) (.bool b) = pure (.bool (!decide (a = b))) := by
      cases a <;> cases b <;> rfl
    rw [e]
    exact wpAny_pure ⟨.bl _, H, I, rfl, h⟩
  · exact h.elim
def yLstG (K : PySem.W.Frag) (n : Nat) (t : TGs) : TG := fun v σ H Q => match v with
  | .ref a => ∃ xs, SqL K H a xs ∧ xs.length = n ∧ t xs σ H Q
  | _ => False
theorem kgLst {tgs : List Expr} {k : Nat} {t : TGs} {n : Nat} {pos : Pos} (h0 : X.K = K) (hc : X.calm = true) (h : PGs X tgs t)
    (hn : (assignEach tgs X.env).length = n := by rfl) (hst : (assignEach tgs X.env).findIdx? (·.1) = none := by rfl) : PG X (.Tuple tgs k pos) (yLstG K n t) := by
  subst h0
  exact PG.imp (pg_lst hc h hn hst) fun v σ H Q h => by
    unfold yLstG at h
    split at h
    · obtain ⟨xs, h1, h2, h3⟩ := h
      exact ⟨_, xs, rfl, h1, h2, h3⟩
    · exact h.elim
end
/-- neighbours exchanged, as the texts write it: row[:k] + (row[k + 1], row[k]) + row[k + 2:] -/
theorem swap_im [Tb] {K : PySem.W.Frag} {H : Hp} {t : Addr} {xs : List V} {r : List Lay} (ht : Tp K H t xs) (hxs : ImAll K H xs (r.map layD)) {k : Nat} (hk : k + 1 < r.length) (hl : r.length ≤ 100000) {Q : VK} (MID : Hp → VK → Prop)
    (mid : ∀ (a1 a2 : Addr) H3 (R : VK), xs[k]? = some (.ref a1) → xs[k + 1]? = some (.ref a2) → Kp No H H3 → (∀ p1, H3 p1 = none → R (.ref p1) (upd H3 p1 (.tup [.ref a2, .ref a1]))) → MID H3 R)
    (q : ∀ v' H', Kp No H H' → Im K H' v' (rowD (r.take k ++ [r[k + 1], r[k]] ++ r.drop (k + 2))) → Q v' H') :
    ySl K (.ref t) none (some ((k : Nat) : Int)) H fun x H3 => MID H3 fun y H4 => yAdd K x y H4 fun z H5 => ySl K (.ref t) (some (((k : Nat) : Int) + 2)) none H5 fun w H6 => yAdd K z w H6 Q := by
  have him : Im K H (.ref t) (rowD r) := .tup ht hxs
  have hi1 : k < r.length := by omega
  obtain ⟨a1, e1, e2, e3⟩ := row_at (t := t) hxs hi1
  obtain ⟨a2, f1, f2, f3⟩ := row_at (t := t) hxs hk
  have ez2 : ((k : Nat) : Int) + 2 = ((k + 2 : Nat) : Int) := by omega
  refine sl_im him fun v1 H3 k3 im3 => ?_
  rw [cutG_map, cutG_to] at im3
  refine mid a1 a2 H3 _ e1 f1 k3 fun p1 hp1 => ?_
  have kp1 : Kp No H3 (upd H3 p1 (.tup [.ref a2, .ref a1])) := Kp.new hp1
  have k31 := k3.trans kp1
  have im2 : Im K _ (.ref p1) (.tuple [layD r[k + 1], layD r[k]]) := Im.mk upd_same (.cons (Im.up k31 _ _ f2) (.cons (Im.up k31 _ _ e2) .nil))
  refine add_im (Im.up kp1 _ _ im3) im2 (by rw [List.length_map, List.length_take]; simp only [List.length_cons, List.length_nil]; omega) fun v4 H4 k4 im4 => ?_
  have k04 := k31.trans k4
  refine sl_im (Im.up k04 _ _ him) fun v5 H5 k5 im5 => ?_
  rw [cutG_map, ez2, cutG_from] at im5
  refine add_im (Im.up k5 _ _ im4) im5 (by simp only [List.length_append, List.length_map, List.length_take, List.length_drop, List.length_cons, List.length_nil]; omega) fun v6 H6 k6 im6 => q _ _ ((k04.trans k5).trans k6) ?_
  rw [rowD, List.map_append, List.map_append]
  exact im6
theorem split2 {r : List Lay} {k : Nat} (hk : k + 1 < r.length) : r = r.take k ++ r[k] :: r[k + 1] :: r.drop (k + 2) := by
  have h1 : k < r.length := by omega
  conv => lhs; rw [← List.take_append_drop k r]
  rw [← List.getElem_cons_drop h1, ← List.getElem_cons_drop hk]
theorem sw_at {r : List Lay} {k : Nat} (hk : k + 1 < r.length) (h : r[k].1 = r[k + 1].1) : Sw r (r.take k ++ [r[k + 1], r[k]] ++ r.drop (k + 2)) := by
  have e := Sw.mk (r.take k) r[k] r[k + 1] (r.drop (k + 2)) h
  rw [← split2 hk] at e
  rw [List.append_assoc]
  exact e
theorem Sws.perm {r r' : List Lay} (h : Sws r r') : r.Perm r' := by
  induction h with
  | refl => exact .refl _
  | step s _ ih =>
    refine List.Perm.trans ?_ ih
    cases s with
    | mk a x y b h => exact List.Perm.append_left a (.swap y x b)
/-! ### lists of whole numbers, as data -/
def intsL (l : List Int) : PyData := .list (l.map PyData.int)
theorem intsL_fine {l : List Int} (h : ∀ i ∈ l, i.natAbs < 10 ^ 500) : fine (intsL l) = true := fineAll_of fun d hd => by
  obtain ⟨i, hi, rfl⟩ := List.mem_map.mp hd
  exact decide_eq_true (h i hi)
theorem intsL_deep (l : List Int) : (intsL l).depth ≤ 1 := by
  rw [intsL, PyData.depth]
  have := depthAll_le (n := 0) (ds := l.map PyData.int) fun d hd => by
    obtain ⟨z, _, rfl⟩ := List.mem_map.mp hd
    simp [PyData.depth]
  omega
theorem intsL_dp {K : PySem.W.Frag} {H : Hp} {a : Addr} {l : List Int} (h : H a = some (.lst (l.map V.int))) : Dp K H (.ref a) (intsL l) := by
  refine .lst (.inl (.inl h)) ?_
  clear h
  induction l with
  | nil => exact .nil
  | cons i l ih => exact .cons (.int _) ih
theorem intsL_nil (l : List Int) : PyData.eqv (intsL l) (.list []) = l.isEmpty := by
  cases l <;> simp [intsL, PyData.eqv, PyData.eqvAll]
theorem intsL_shaped {l : List Int} (h : ∀ i ∈ l, i.natAbs < 10 ^ 500) : SeqAt.shaped (intsL l) = true := fine_shaped (intsL_fine h) (Nat.le_trans (intsL_deep l) (by decide))
end Y

set_option Elab.async false
set_option linter.all false
set_option maxRecDepth 100000
set_option maxHeartbeats 2000000
set_option exponentiation.threshold 600
/-! D1: constants of the module; things of any kind shown, flat dicts too. -/
namespace Y
open PySem PySem.Spec PyProof.Rows L2
section
variable {X : Cx} {x : Str} {pos : Pos}
theorem ye_gint {i : Int} (hm : ∃ t, X.mg x = some (.int i t)) (hg : Gl X x) (hd : (x == ("__debug__" : Str)) = false := by decide) : PE X (.Name x pos) (tC (.int i)) := by
  obtain ⟨t, hm⟩ := hm
  exact pe_glob hg hm ⟨t, rfl⟩ hd
theorem ye_gstr {z : Str} (hm : ∃ t, X.mg x = some (.str z t)) (hg : Gl X x) (hd : (x == ("__debug__" : Str)) = false := by decide) : PE X (.Name x pos) (tC (.str z)) := by
  obtain ⟨t, hm⟩ := hm
  exact pe_glob hg hm ⟨t, rfl⟩ hd
end
def keyD : Key → PyData
  | .inl i => .int i
  | .inr z => .str z
def flatD : V → PyData
  | .int i => .int i
  | .str z => .str z
  | .bl b => .bool b
  | _ => .none
def FlatV : V → Prop
  | .int _ => True
  | .str _ => True
  | .bl _ => True
  | .non => True
  | _ => False
def dictD (kvs : List (Key × V)) : PyData := .dict (kvs.map fun p => (keyD p.1, flatD p.2))
theorem key_reads {h : Heap} {k : Key} {u : Value} (e : keyIs k u = true) : Reads h u (keyD k) [] := by
  rcases keyIs_shape e with ⟨i, t, rfl, rfl⟩ | ⟨x, t, rfl, rfl⟩
  · exact .int _ _
  · exact .str _ _
theorem flat_reads {h : Heap} {v : V} {u : Value} (f : FlatV v) (r : RelV v u) : Reads h u (flatD v) [] := by
  cases v with
  | int i => obtain ⟨t, rfl⟩ := r; exact .int _ _
  | str z => obtain ⟨t, rfl⟩ := r; exact .str _ _
  | bl b => cases r; exact .bool _
  | non => cases r; exact .none
  | _ => exact f.elim
theorem dict_reads {P : Program} {w : World} {H : Hp} {h : Heap} {a : Addr} {kvs : List (Key × V)} (ok : HOk P w H h) (e : H a = some (.dK kvs)) (f : ∀ p ∈ kvs, FlatV p.2) : Reads h (.ref a) (dictD kvs) [a] ∧ a ≠ sysModules := by
  obtain ⟨_, hs, vs, kv, o, es, ep, h1, h2, h3, _, h4, _⟩ := dk_of ok e
  refine ⟨?_, fun z => by rw [z] at hs; simp at hs⟩
  have key : ∀ {l : List DictEntry} {vs : List (Key × Value)} {kvs : List (Key × V)}, Pairs (mixKind P w) l vs → KV kvs vs → (∀ p ∈ kvs, FlatV p.2) → ReadsAll h (l.map (·.key)) ((kvs.map fun p => (keyD p.1, flatD p.2)).map (·.1)) [] ∧ ReadsAll h (l.map (·.val)) ((kvs.map fun p => (keyD p.1, flatD p.2)).map (·.2)) [] := by
    intro l
    induction l with
    | nil =>
      intro vs kvs p r f
      cases p
      cases r
      exact ⟨.nil, .nil⟩
    | cons x l ih =>
      intro vs kvs p r f
      cases p with
      | cons p1 pv p2 =>
      cases r with
      | cons r1 r2 =>
      obtain ⟨g1, g2⟩ := ih p2 r2 fun q hq => f q (List.mem_cons_of_mem _ hq)
      have f1 := f _ List.mem_cons_self
      refine ⟨?_, ?_⟩
      · refine .cons (as := []) (bs := []) ?_ g1
        have z := key_reads (h := h) (show keyIs _ _ = true from p1)
        rw [← r1.1] at z
        exact z
      · refine .cons (as := []) (bs := []) ?_ g2
        have z := flat_reads (h := h) f1 r1.2
        rw [← pv] at z
        exact z
  obtain ⟨g1, g2⟩ := key h4 kv f
  exact .dict (as := []) (bs := []) h1 h2.1 h3 g1 g2
/-- a thing that repr can show -/
def Tg (K : PySem.W.Frag) (H : Hp) (v : V) (d : PyData) : Prop :=
  (Dp K H v d ∧ Sh d) ∨ ∃ a kvs, v = .ref a ∧ H a = some (.dK kvs) ∧ (∀ p ∈ kvs, FlatV p.2) ∧ d = dictD kvs ∧ (dictD kvs).showable = true ∧ (dictD kvs).depth ≤ 50 ∧ (dictD kvs).shown.length ≤ sizeLine
def yReprX (K : PySem.W.Frag) : List V → Hp → VK → Prop := fun xs H Q => match xs with
  | [v] => ∃ d, Tg K H v d ∧ Q (.str d.shown) H
  | _ => False
theorem kReprX {X : Cx} {K : PySem.W.Frag} (h0 : X.K = K) (hu : X.A.units + 64 < cLine) (gd : X.A.guards = some []) : CallR X (.builtin "repr") (yReprX K) := by
  intro pins s σ H xs us Q I r h
  unfold yReprX at h
  split at h
  · rename_i v
    obtain ⟨d, hd, q⟩ := h
    rcases hd with ⟨hd, hS⟩ | ⟨a, kvs, rfl, ha, hf, rfl, h1, h2, h3⟩
    · exact kRepr h0 hu gd pins s σ H [v] us Q I r ⟨d, hd, hS, q⟩
    · obtain ⟨u, rfl, ru⟩ := vals1 r
      obtain rfl : u = Value.ref a := ru
      obtain ⟨rd, ns⟩ := dict_reads I.hok ha hf
      exact repr_of_reads' rd h1 (fun _ z => ns (List.mem_singleton.mp z).symm) gd (by omega) (fun _ _ e => e) (fun h' u tk hk => ⟨.str _, H, I.kept hk, ⟨_, rfl⟩, q⟩) h3
  · exact h.elim
theorem Tg.up [Tb] {K : PySem.W.Frag} {H H' : Hp} {a : Addr} {kvs : List (Key × V)} (k : Kp No H H') (h : H a = some (.dK kvs)) : H' a = some (.dK kvs) := k.all a _ h id
end Y
namespace Y
open PySem PySem.Spec PyProof.Rows L2
/-! ### names, amounts, of things of any kind -/
def tyO : HO → Option String
  | .lst _ => some "list"
  | .tup _ => some "tuple"
  | .dK _ => some "dict"
  | _ => none
inductive Kd (H : Hp) : V → Prop
  | str (z : Str) (h : z.length ≤ 1000) (hf : fine (.str z) = true) : Kd H (.str z)
  | int (i : Int) : Kd H (.int i)
  | bl (b : Bool) : Kd H (.bl b)
  | non : Kd H .non
  | ref {a : Addr} {o : HO} {m : String} (h : H a = some o) (e : tyO o = some m) : Kd H (.ref a)
theorem Kd.up [Tb] {S : Addr → Prop} {H H' : Hp} {v : V} (h : Kd H v) (k : Kp S H H') (n : ∀ a, v = .ref a → ¬ S a) : Kd H' v := by
  cases h with
  | str z h hf => exact .str z h hf
  | int i => exact .int i
  | bl b => exact .bl b
  | non => exact .non
  | @ref a o m h e =>
    refine .ref (k.all a o h (n a rfl) ?_) e
    cases o <;> first | exact True.intro | cases e
def whV : V → Bool
  | .int _ => true
  | _ => false
def amV : V → Bool
  | .int i => decide (0 < i)
  | _ => false
def nmB (z : Str) : Bool := decide (1 ≤ z.length) && (decide (z.length ≤ 8) && (z.cps.toList.map fun c => decide (c ∈ abc.cps.toList)).all id)
def nmV : V → Bool
  | .str z => nmB z
  | _ => false
theorem nmB_no {z : Str} (h : z.length < 1 ∨ 8 < z.length) : nmB z = false := by
  unfold nmB
  rcases h with h | h
  · rw [decide_eq_false (by omega)]; rfl
  · rw [decide_eq_false (show ¬ z.length ≤ 8 by omega), Bool.false_and, Bool.and_false]
theorem nmB_yes {z : Str} (h1 : 1 ≤ z.length) (h2 : z.length ≤ 8) : nmB z = (z.cps.toList.map fun c => decide (c ∈ abc.cps.toList)).all id := by
  unfold nmB
  rw [decide_eq_true h1, decide_eq_true h2, Bool.true_and, Bool.true_and]
theorem nm_nmB {z : Str} (h : Nm z) : nmB z = true := by
  obtain ⟨h1, h2, h3⟩ := h
  rw [nmB_yes h1 h2, List.all_map, List.all_eq_true]
  intro c hc
  have := h3 c hc
  show decide (c ∈ abc.cps.toList) = true
  rw [abc_list]
  refine decide_eq_true (List.mem_map.mpr ⟨c - 97, List.mem_range.mpr (by omega), by omega⟩)
theorem iteN0 {A B : Prop} {b : Bool} (h : b = false) (hA : A) : if (!b) = true then A else B := by
  rw [h]; exact hA
end Y

set_option Elab.async false
set_option linter.all false
set_option maxRecDepth 100000
set_option maxHeartbeats 2000000
set_option exponentiation.threshold 600
/-! C1: classes: methods and instances by promises that know the guards; fields; dicts with text keys. -/
namespace Y
open PySem PySem.Spec PyProof.Rows L2
section
variable {P : Program} {w : World} {K : PySem.W.Frag} {mg : Str → Option Value} {base : Heap} {k : Nat} {C : Addr} {m q x : Str} {sp : Sp}
/-- the def st is the method m of the class at C -/
def MetAt (K : PySem.W.Frag) (C : Addr) (m q : Str) (st : Stmt) : Prop := ∃ f fd, FunD K m q (defArgs st) (defBody st) (defScope st) [] [] f fd ∧ Meth K C m f
def CalM (P : Program) (w : World) (K : PySem.W.Frag) (mg : Str → Option Value) (base : Heap) (k : Nat) (C : Addr) (m : Str) (sp : Sp) : Prop :=
  ∃ f fd ps, FnG P w K mg base CX0 k f fd ps sp ∧ Cls K C ∧ Meth K C m f ∧ Binds K fd ps []
/-- the def st is the __init__ of the class x at C; kws: its keyword-only defaults -/
def IniAt (K : PySem.W.Frag) (mg : Str → Option Value) (x : Str) (C : Addr) (q : Str) (st : Stmt) (kws : List (Str × V)) : Prop :=
  ∃ f fd, FunD K "__init__" q (defArgs st) (defBody st) (defScope st) [] kws f fd ∧ Mk K C f ∧ mg x = some (.ref C)
def CalI (P : Program) (w : World) (K : PySem.W.Frag) (mg : Str → Option Value) (base : Heap) (k : Nat) (x : Str) (C : Addr) (sp : Sp) : Prop :=
  ∃ f fd ps, FnG P w K mg base CX0 k f fd ps sp ∧ Mk K C f ∧ mg x = some (.ref C) ∧ Binds K fd ps []
/-- .. made with keywords ks behind n positional ones -/
def CalK (P : Program) (w : World) (K : PySem.W.Frag) (mg : Str → Option Value) (base : Heap) (k : Nat) (x : Str) (C : Addr) (n : Nat) (ks : List Str) (gV : List V → List V → List V) (sp : Sp) : Prop :=
  ∃ f fd ps g, FnG P w K mg base CX0 k f fd ps sp ∧ Mk K C f ∧ mg x = some (.ref C) ∧ KBn K fd ps (n + 1) ks g gV
theorem body_of {st : Stmt} {N ps : List Str} {f : Addr} {fd : FuncData} {kws : List (Str × V)} (F : FunD K m q (defArgs st) (defBody st) (defScope st) [] kws f fd) (S : FnScope N ps (defScope st))
    (ar : ∀ vs H Q E, sp vs H Q E → vs.length = ps.length)
    (hb : ∀ (f : Addr) (cd : Value) (A : Around) (out : List Env) (s : Shared) (H : Hp) (vs : List V) (Q : VK) (E : XK), Room k (A.deeper (envOfC q (defScope st) s.heap.objs.size f cd)) → (A.deeper (envOfC q (defScope st) s.heap.objs.size f cd)).guards = some [] → sp vs H Q E →
      ∃ t, PSs (cxOf CX0 P w K mg base N q (defScope st) f cd A out s H E).nox (defBody st) t ∧ t { nx := fun _ H' => Q .non H', rt := Q } (start N vs) H) : FnG P w K mg base CX0 (k + 1) f fd ps sp := by
  refine funD_goes F S ar fun cd A out s H vs Q E r g z => ?_
  obtain ⟨t, h1, h2⟩ := hb f cd A out s H vs Q E r g z
  exact ⟨t, h1.nox, h2⟩
theorem calM_of {st : Stmt} {N ps : List Str} (D : MetAt K C m q st) (c : Cls K C) (S : FnScope N ps (defScope st))
    (bnd : ∀ (kV doc pm : Value) (an : Option Addr) (cdv ct : Value) (us : List Value), us.length = ps.length → bindArgs (PySem.W.fnOf m q (defArgs st) (defBody st) (defScope st) .none kV doc pm an cdv ct) ⟨us, []⟩ = pure (ps.zip us))
    (ar : ∀ vs H Q E, sp vs H Q E → vs.length = ps.length)
    (hb : ∀ (f : Addr) (cd : Value) (A : Around) (out : List Env) (s : Shared) (H : Hp) (vs : List V) (Q : VK) (E : XK), Room k (A.deeper (envOfC q (defScope st) s.heap.objs.size f cd)) → (A.deeper (envOfC q (defScope st) s.heap.objs.size f cd)).guards = some [] → sp vs H Q E →
      ∃ t, PSs (cxOf CX0 P w K mg base N q (defScope st) f cd A out s H E).nox (defBody st) t ∧ t { nx := fun _ H' => Q .non H', rt := Q } (start N vs) H) : CalM P w K mg base (k + 1) C m sp := by
  obtain ⟨f, fd, F, hm⟩ := D
  exact ⟨f, fd, ps, body_of F S ar hb, c, hm, F.bindsN bnd⟩
theorem calI_of {st : Stmt} {N ps : List Str} (D : IniAt K mg x C q st []) (S : FnScope N ps (defScope st))
    (bnd : ∀ (kV doc pm : Value) (an : Option Addr) (cdv ct : Value) (us : List Value), us.length = ps.length → bindArgs (PySem.W.fnOf "__init__" q (defArgs st) (defBody st) (defScope st) .none kV doc pm an cdv ct) ⟨us, []⟩ = pure (ps.zip us))
    (ar : ∀ vs H Q E, sp vs H Q E → vs.length = ps.length)
    (hb : ∀ (f : Addr) (cd : Value) (A : Around) (out : List Env) (s : Shared) (H : Hp) (vs : List V) (Q : VK) (E : XK), Room k (A.deeper (envOfC q (defScope st) s.heap.objs.size f cd)) → (A.deeper (envOfC q (defScope st) s.heap.objs.size f cd)).guards = some [] → sp vs H Q E →
      ∃ t, PSs (cxOf CX0 P w K mg base N q (defScope st) f cd A out s H E).nox (defBody st) t ∧ t { nx := fun _ H' => Q .non H', rt := Q } (start N vs) H) : CalI P w K mg base (k + 1) x C sp := by
  obtain ⟨f, fd, F, hk, hm⟩ := D
  exact ⟨f, fd, ps, body_of F S ar hb, hk, hm, F.bindsN bnd⟩
end

/-! ### calls -/
section
variable {X : Cx} {k j n : Nat} {C : Addr} {m x f : Str} {sp : Sp} {p pos apos : Pos} {e o value : Expr} {es : List Expr} {ta tv : TE} {t tk : TA}
def yMeth (C : Addr) (m : Str) (sp : Sp) (ta : TE) (t : TA) : TE := fun σ H Q => ta σ H fun x H1 => match x with
  | .ref a => ∃ dx fs, H1 a = some (.ins C dx fs) ∧ fs.lookup m = none ∧ t σ H1 fun vs H2 => sp (.ref a :: vs) H2 Q E0
  | _ => False
theorem ye_meth {pl : Sem Bool} (c : CalM X.prog X.w X.K X.mg X.base k C m sp) (room : Room j X.A) (gd : X.A.guards = some []) (he : PE X o ta) (ha : PA X (e :: es) t) (hk : k ≤ j := by decide)
    (h1 : starEach (e :: es) X.env = (false, eval e X.env) :: starEach es X.env := by rfl) (h2 : (backTo pos (starEach es X.env)).any (·.1) = false := by rfl)
    (ht : eval (.Call (.Attribute o m apos) (e :: es) [] pos) X.env = (do
      let ov ← eval o X.env
      standAt apos.atName
      let (g, one) ← holding [ov] (getMethod ov m pl)
      callWith pos g one (backTo pos (starEach (e :: es) X.env)) (backToKw pos (keywordEach [] X.env))) := by rfl) :
    PE X (.Call (.Attribute o m apos) (e :: es) [] pos) (yMeth C m sp ta t) := by
  obtain ⟨g, fd, ps, F, cl, hm, hb⟩ := c
  constructor
  intro pins s σ H Q I h
  refine PySem.W.methodCall_KW (pl := pl) (thn (he.run pins s σ H _ I h) ?_) ht
  rintro u s1 ⟨x, H1, I1, rx, q⟩
  cases x with
  | ref a =>
    obtain ⟨dx, fs, ea, l, q⟩ := q
    obtain rfl : u = Value.ref a := rx
    refine getmeth_ok I1 ea cl hm l (PySem.W.callWith_K (first := [.ref a]) (h₀ := X.base) I.ok.mod.kin hm.kp (thn (ha.run pos pins s1 σ H1 _ I1 q) ?_) h1 h2)
    rintro us s2 ⟨vs, H2, I2, r, q2⟩
    exact ⟨I2.kIn, goes_fn (us := .ref a :: us) (vs := .ref a :: vs) (F.up hk) room gd hb .nil pass0 I2 (.cons rfl r) (by rw [List.append_nil]; exact q2)⟩
  | _ => exact q.elim
theorem ye_meth0 {pl : Sem Bool} (c : CalM X.prog X.w X.K X.mg X.base k C m sp) (room : Room j X.A) (gd : X.A.guards = some []) (he : PE X o ta) (hk : k ≤ j := by decide)
    (ht : eval (.Call (.Attribute o m apos) [] [] pos) X.env = (do
      let ov ← eval o X.env
      standAt apos.atName
      let (g, one) ← holding [ov] (getMethod ov m pl)
      callWith pos g one (backTo pos (starEach [] X.env)) (backToKw pos (keywordEach [] X.env))) := by rfl) :
    PE X (.Call (.Attribute o m apos) [] [] pos) (yMeth C m sp ta tNil) := by
  obtain ⟨g, fd, ps, F, cl, hm, hb⟩ := c
  constructor
  intro pins s σ H Q I h
  refine PySem.W.methodCall_KW (pl := pl) (thn (he.run pins s σ H _ I h) ?_) ht
  rintro u s1 ⟨x, H1, I1, rx, q⟩
  cases x with
  | ref a =>
    obtain ⟨dx, fs, ea, l, q⟩ := q
    obtain rfl : u = Value.ref a := rx
    exact getmeth_ok I1 ea cl hm l (PySem.W.callWith_K0 (first := [.ref a]) I1.kIn hm.kp (goes_fn (us := [.ref a]) (vs := [.ref a]) (F.up hk) room gd hb .nil pass0 I1 (.cons rfl .nil) q))
  | _ => exact q.elim
/-- the new instance and its dict -/
abbrev fresh2 (H : Hp) (C x dx : Addr) : Hp := upd (upd H dx (.own x)) x (.ins C dx [])
def yMake (C : Addr) (sp : Sp) (t : TA) : TE := fun σ H Q => t σ H fun vs H1 => ∀ x dx, H1 x = none → H1 dx = none → dx ≠ x →
  sp (.ref x :: vs) (fresh2 H1 C x dx) (fun v H2 => v = .non ∧ Q (.ref x) H2) E0
theorem goes_make {f : Addr} {fd : FuncData} {ps ks : List Str} {g : List Value → List Value → List Value} {gV : List V → List V → List V} {pins : List (Addr × Obj)} {σ : L2.St} {H : Hp} {s : Shared} {Q : VK} {us ws : List Value} {vs zs : List V} (M : Mk X.K C f)
    (F : FnG X.prog X.w X.K X.mg X.base CX0 k f fd ps sp) (room : Room (k + 1) X.A) (gd : X.A.guards = some []) (hb : KBn X.K fd ps (n + 1) ks g gV)
    (I : Inv X pins σ H s) (r : Vals vs us) (rz : Vals zs ws) (l1 : vs.length = n) (l2 : zs.length = ks.length)
    (h : ∀ x dx, H x = none → H dx = none → dx ≠ x → sp (gV (.ref x :: vs) zs) (fresh2 H C x dx) (fun v H2 => v = .non ∧ Q (.ref x) H2) E0) :
    wpAny (model X.prog X.w) X.A (call (.ref C) us (ks.zip ws)) (EP X pins σ Q) X.xe s := by
  have hq := h (s.heap.objs.size + 1) s.heap.objs.size (I.hok.fresh (Nat.le_succ _)) (I.hok.fresh (Nat.le_refl _)) (Nat.ne_of_lt (Nat.lt_succ_self _))
  have I2 := Inv.made (C := C) I
  have rel := hb.rel (show Vals (V.ref (s.heap.objs.size + 1) :: vs) (Value.ref (s.heap.objs.size + 1) :: us) from .cons rfl r) rz
  have n1 : (Value.ref (s.heap.objs.size + 1) :: us).length = n + 1 := by rw [List.length_cons, ← r.length, l1]
  have run := F.goes _ X.stack _ _ ⟨Value.ref (s.heap.objs.size + 1) :: us, ks.zip ws⟩ (g (Value.ref (s.heap.objs.size + 1) :: us) ws) _ _ E0 (room.make C us (ks.zip ws)) gd
    (I2.env0.make C us (ks.zip ws)) (hb.to _ (Value.ref (s.heap.objs.size + 1) :: us) ws I2.kIn n1 (rz.length.symm.trans l2)) rel hq
  refine wpAny_call (make_map (f := f) I.kIn M.makes M.init (beq_iff_eq.mp M.fn) (codeAny_mono run ?_))
  intro r s' hq'
  match r, hq' with
  | .error e, hq' => exact pass0 pins σ _ _ e s' I2 hq'
  | .ok .next, hq' => exact hq'.elim
  | .ok .brk, hq' => exact hq'.elim
  | .ok .cont, hq' => exact hq'.elim
  | .ok (.ret u), hq' =>
    obtain ⟨v, H', I3, rv, rfl, q3⟩ := I2.after hq'
    exact ⟨rv, ⟨V.ref (s.heap.objs.size + 1), H', I3, rfl, q3⟩⟩
/-- positional arguments alone -/
theorem Binds.kbn {K : PySem.W.Frag} {fd : FuncData} {ps : List Str} (hb : Binds K fd ps []) : KBn K fd ps ps.length [] (fun us _ => us) (fun vs _ => vs) :=
  ⟨fun s us ws hK l1 l2 => by
    have := hb s us hK (by rw [List.append_nil]; exact l1)
    rw [List.append_nil] at this
    exact this, fun r _ => r⟩
theorem ye_make (c : CalI X.prog X.w X.K X.mg X.base k x C sp) (room : Room j X.A) (gd : X.A.guards = some []) (hg : Gl X x) (ha : PA X (e :: es) t) (hk : k + 1 ≤ j := by decide) (hdb : (x == ("__debug__" : Str)) = false := by decide)
    (h1 : starEach (e :: es) X.env = (false, eval e X.env) :: starEach es X.env := by rfl) (h2 : (backTo pos (starEach es X.env)).any (·.1) = false := by rfl) :
    PE X (.Call (.Name x p) (e :: es) [] pos) (yMake C sp t) := by
  obtain ⟨f, fd, ps, F, M, hm, hb⟩ := c
  constructor
  intro pins s σ H Q I h
  refine wpAny_Call_Name_kw (ld_glob I hg hm ?_ hdb)
  refine PySem.W.callWith_K (h₀ := X.base) I.ok.mod.kin M.kp (thn (ha.run pos pins s σ H _ I h) ?_) h1 h2
  rintro us s1 ⟨vs, H1, I1, r, q⟩
  refine ⟨I1.kIn, ?_⟩
  have hq := q (s1.heap.objs.size + 1) s1.heap.objs.size (I1.hok.fresh (Nat.le_succ _)) (I1.hok.fresh (Nat.le_refl _)) (Nat.ne_of_lt (Nat.lt_succ_self _))
  have el : ps.length = vs.length + 1 := (F.arity _ _ _ _ hq).symm
  have kb := Binds.kbn hb
  rw [el] at kb
  exact goes_make (ks := []) (us := us) (ws := []) (zs := []) M F (room.mono hk) gd kb I1 r .nil rfl rfl q
def yMakeK (C : Addr) (n m : Nat) (gV : List V → List V → List V) (sp : Sp) (t tk : TA) : TE := fun σ H Q => t σ H fun vs H1 => tk σ H1 fun zs H2 => vs.length = n ∧ zs.length = m ∧ ∀ x dx, H2 x = none → H2 dx = none → dx ≠ x →
  sp (gV (.ref x :: vs) zs) (fresh2 H2 C x dx) (fun v H3 => v = .non ∧ Q (.ref x) H3) E0
theorem ye_makeK {ks : List Str} {gV : List V → List V → List V} {kws : List Keyword} (c : CalK X.prog X.w X.K X.mg X.base k x C n ks gV sp) (room : Room j X.A) (gd : X.A.guards = some []) (hg : Gl X x) (ha : PA X (e :: es) t) (hkw : PK X kws tk) (hk : k + 1 ≤ j := by decide)
    (hall : (backToKw pos (keywordEach kws X.env)).all (·.1.isSome) = true := by rfl) (hks : (backToKw pos (keywordEach kws X.env)).filterMap (·.1) = ks := by rfl) (hdb : (x == ("__debug__" : Str)) = false := by decide)
    (h1 : starEach (e :: es) X.env = (false, eval e X.env) :: starEach es X.env := by rfl) (h2 : ((backTo pos (starEach (e :: es) X.env)).any (·.1) || (backToKw pos (keywordEach kws X.env)).any (·.1.isNone)) = false := by rfl) :
    PE X (.Call (.Name x p) (e :: es) kws pos) (yMakeK C n ks.length gV sp t tk) := by
  obtain ⟨f, fd, ps, g, F, M, hm, hb⟩ := c
  constructor
  intro pins s σ H Q I h
  refine wpAny_Call_Name_kw (ld_glob I hg hm ?_ hdb)
  refine PySem.W.callWith_KW (h₀ := X.base) I.ok.mod.kin M.kp hall (thn (ha.run pos pins s σ H _ I h) ?_) h2 h1
  rintro us s1 ⟨vs, H1, I1, r, q⟩
  refine thn (hkw.run pos pins s1 σ H1 _ I1 q) ?_
  rintro ws s2 ⟨zs, H2, I2, rz, l1, l2, q2⟩
  refine ⟨I2.kIn, ?_⟩
  rw [hks]
  exact goes_make M F (room.mono hk) gd hb I2 r rz l1 l2 q2

/-! ### fields -/
def yFld (C : Addr) (f : Str) (ta : TE) : TE := fun σ H Q => ta σ H fun x H1 => match x with
  | .ref a => ∃ dx fs v, H1 a = some (.ins C dx fs) ∧ fs.lookup f = some v ∧ Q v H1
  | _ => False
theorem ye_fld (c : Cls X.K C) (na : NoAttr X.K C f) (he : PE X e ta) (hb : attributeBase e f X.env (eval e X.env) = eval e X.env := by rfl) : PE X (.Attribute e f pos) (yFld C f ta) :=
  PE.imp (pe_fld (PE.cl he) hb) fun σ H Q h => ⟨_, h, fun x H1 q => by
    cases x with
    | ref a =>
      obtain ⟨dx, fs, v, h1, h2, h3⟩ := q
      exact ⟨a, C, dx, fs, v, rfl, h1, c, na, h2, h3⟩
    | _ => exact q.elim⟩
def ySFld (C : Addr) (f : Str) (ta tv : TE) : TS := fun D σ H => tv σ H fun y H1 => ta σ H1 fun x H2 => match x with
  | .ref a => ∃ dx fs, H2 a = some (.ins C dx fs) ∧ fs.length < 1000 ∧ D.nx σ (upd H2 a (.ins C dx (putF f y fs)))
  | _ => False
theorem ys_fld {pos' : Pos} (c : Cls X.K C) (na : NoAttr X.K C f) (ha : PE X o ta) (hv : PE X value tv) (hs : swapsWith value (some (.Attribute o f pos')) pos.line X.env = pure false := by rfl) : PS X (.Assign [.Attribute o f pos'] value pos) (ySFld C f ta tv) :=
  PS.imp (ps_fld (PE.cl ha) (PE.cl hv) hs) fun D σ H h => ⟨_, h, fun y H1 q => ⟨_, q, fun x H2 q2 => by
    cases x with
    | ref a =>
      obtain ⟨dx, fs, h1, h2, h3⟩ := q2
      exact ⟨a, C, dx, fs, rfl, h1, c, na, h2, h3⟩
    | _ => exact q2.elim⟩⟩
end
end Y
namespace Y
open PySem PySem.Spec PyProof.Rows L2
/-! ### dicts with text keys -/
section
variable {X : Cx} {K : PySem.W.Frag} {e o i value : Expr} {te to ti tv : TE} {pos : Pos}
theorem room1 {j : Nat} {A : Around} (r : Room j A) : A.units + 1 < cLine := by have := r.units; omega
def yDg : R2 := fun x y H Q => match x, y with
  | .ref d, .str z => ∃ kvs v, H d = some (.dK kvs) ∧ valV kvs (.inr z) = some v ∧ Q v H
  | _, _ => False
theorem ye_dg {j : Nat} (room : Room j X.A) (ho : PE X o to) (hi : PE X i ti) (hs : NoSl i := by exact fun _ _ => rfl) : PE X (.Subscript o i pos) (tOp yDg to ti) :=
  PE.imp (pe_dget (room1 room) (PE.cl ho) (PE.cl hi) hs) fun σ H Q h => ⟨_, h, fun x H1 q => ⟨_, q, fun y H2 q2 => by
    unfold yDg at q2
    split at q2
    · obtain ⟨kvs, v, h1, h2, h3⟩ := q2
      exact ⟨_, v, rfl, .inl ⟨kvs, .inr _, .inl h1, rfl, h2.symm⟩, h3⟩
    · exact q2.elim⟩⟩
def yDin (neg : Bool) : R2 := fun y x H Q => match y, x with
  | .str z, .ref d => ∃ kvs, H d = some (.dK kvs) ∧ Q (.bl (if neg then !(valV kvs (.inr z)).isSome else (valV kvs (.inr z)).isSome)) H
  | _, _ => False
theorem ye_din {j : Nat} (room : Room j X.A) (hi : PE X i ti) (ho : PE X o to) (hm : behindInMarks .In o = false := by rfl) : PE X (.Compare i [.In] [o] pos) (tOp (yDin false) ti to) :=
  PE.imp (pe_cmp (pc_din (room1 room) (PE.cl hi) (PE.cl ho)) hm) fun σ H Q h => ⟨_, h, fun y H1 q => ⟨_, q, fun x H2 q2 => by
    unfold yDin at q2
    split at q2
    · obtain ⟨kvs, h1, h2⟩ := q2
      exact ⟨_, _, rfl, .inl ⟨kvs, .inr _, .inl h1, rfl, rfl⟩, h2⟩
    · exact q2.elim⟩⟩
def yDput (to ti tv : TE) : TS := fun D σ H => tv σ H fun v H1 => to σ H1 fun x H2 => ti σ H2 fun y H3 => match x, y with
  | .ref d, .str z => ∃ kvs, H3 d = some (.dK kvs) ∧ kvs.length < 1000 ∧ D.nx σ (upd H3 d (.dK (putK kvs (.inr z) v)))
  | _, _ => False
theorem ys_dput {j : Nat} {pos' : Pos} (room : Room j X.A) (ho : PE X o to) (hi : PE X i ti) (hv : PE X value tv) (hs : swapsWith value (some (.Subscript o i pos')) pos.line X.env = pure false := by rfl) :
    PS X (.Assign [.Subscript o i pos'] value pos) (yDput to ti tv) :=
  PS.imp (ps_dput (room1 room) (PE.cl ho) (PE.cl hi) (PE.cl hv) hs) fun D σ H h => ⟨_, h, fun v H1 q => ⟨_, q, fun x H2 q2 => ⟨_, q2, fun y H3 q3 => by
    split at q3
    · obtain ⟨kvs, h1, h2, h3⟩ := q3
      exact ⟨_, _, rfl, .inl ⟨kvs, .inr _, h1, rfl, Nat.lt_of_lt_of_le h2 (by decide), rfl⟩, h3⟩
    · exact q3.elim⟩⟩⟩
def yListD : List V → Hp → VK → Prop := fun xs H Q => match xs with
  | [.ref p] => ∃ kvs, H p = some (.dK kvs) ∧ ∀ q, H q = none → Q (.ref q) (upd H q (.lst (kvs.map fun kv => kV kv.1)))
  | _ => False
theorem kListD (hc : X.calm = true) : CallR X (.type "list") yListD := CallR.imp (call_list_dK hc) fun xs H Q h => by
  unfold yListD at h
  split at h
  · obtain ⟨kvs, h1, h2⟩ := h
    exact ⟨_, kvs, rfl, h1, h2⟩
  · exact h.elim
def yDict (K : PySem.W.Frag) : List V → Hp → VK → Prop := fun xs H Q => match xs with
  | [.ref a] => ∃ (ps : List Addr) (kvs : List (Key × V)), SqL K H a (ps.map V.ref) ∧ Paired (fun p kv => SqT K H p [kV kv.1, kv.2]) ps kvs ∧ ∀ p, H p = none → Q (.ref p) (upd H p (.dK (mergeK [] kvs)))
  | _ => False
theorem kDict (h0 : X.K = K) (hc : X.calm = true) : CallR X (.type "dict") (yDict K) := by
  subst h0
  exact CallR.imp (call_dictP hc) fun xs H Q h => by
    unfold yDict at h
    split at h
    · obtain ⟨ps, kvs, h1, h2, h3⟩ := h
      exact ⟨_, ps, kvs, rfl, h1, h2, h3⟩
    · exact h.elim
def yFAug (C : Addr) (f : Str) (op : Int → Int → Int) (to tv : TE) : TS := fun D σ H => to σ H fun x H1 => match x with
  | .ref a => ∃ dx fs n, H1 a = some (.ins C dx fs) ∧ fs.lookup f = some (.int n) ∧ tv σ H1 fun y H2 => match y with
    | .int m => ∃ dx fs, H2 a = some (.ins C dx fs) ∧ fs.length < 1000 ∧ D.nx σ (upd H2 a (.ins C dx (putF f (.int (op n m)) fs)))
    | _ => False
  | _ => False
theorem ys_faug {C : Addr} {f : Str} {tpos : Pos} {op : Operator} {g : Int → Int → Int} (c : Cls X.K C) (na : NoAttr X.K C f) (ha : PE X o to) (hv : PE X value tv) (hop : InOp X op fun x y H Q => ∃ i j, x = .int i ∧ y = .int j ∧ Q (.int (g i j)) H) : PS X (.AugAssign (.Attribute o f tpos) op value pos) (yFAug C f g to tv) :=
  PS.imp (ps_fldaug (PE.cl ha) (PE.cl hv) hop) fun D σ H h => ⟨_, h, fun x H1 q => by
    cases x with
    | ref a =>
      obtain ⟨dx, fs, n, h1, h2, h3⟩ := q
      refine ⟨a, C, dx, fs, _, rfl, h1, c, na, h2, _, h3, fun y H2 q2 => ?_⟩
      cases y with
      | int m =>
        obtain ⟨dx', fs', h4, h5, h6⟩ := q2
        exact ⟨n, m, rfl, rfl, dx', fs', h4, h5, h6⟩
      | _ => exact q2.elim
    | _ => exact q.elim⟩
end
/-- keys that are all unlike: merged, they stay as they are -/
theorem merge_nodup : ∀ {kvs acc : List (Key × V)}, ((acc ++ kvs).map (·.1)).Nodup → mergeK acc kvs = acc ++ kvs
  | [], acc, _ => by simp [mergeK]
  | p :: kvs, acc, h => by
    have h1 : mergeK acc (p :: kvs) = mergeK (putK acc p.1 p.2) kvs := rfl
    have h2 : putK acc p.1 p.2 = acc ++ [p] := by
      unfold putK
      rw [if_neg]
      simp only [List.any_eq_true, decide_eq_true_eq, not_exists, not_and]
      intro q hq e
      rw [List.map_append, List.nodup_append] at h
      exact h.2.2 q.1 (List.mem_map_of_mem hq) p.1 (by simp) e
    rw [h1, h2, merge_nodup (by simpa using h)]
    simp
theorem val_of_mem : ∀ {kvs : List (Key × V)} {k : Key} {v : V}, (kvs.map (·.1)).Nodup → (k, v) ∈ kvs → valV kvs k = some v
  | p :: kvs, k, v, h, hm => by
    rcases List.mem_cons.mp hm with z | z
    · exact valV_pos (by rw [← z]) |>.trans (by rw [← z])
    · have hne : p.1 ≠ k := fun e => by
        have := (List.nodup_cons.mp h).1
        exact this (List.mem_map.mpr ⟨_, z, e.symm⟩)
      have e1 : valV (p :: kvs) k = valV kvs k := by
        unfold valV
        rw [List.find?_cons_of_neg (by simpa using hne)]
      rw [e1]
      exact val_of_mem (List.nodup_cons.mp h).2 z
theorem val_none {kvs : List (Key × V)} {k : Key} (h : k ∉ kvs.map (·.1)) : valV kvs k = none := by
  unfold valV
  rw [List.find?_eq_none.mpr]
  · rfl
  · intro p hp
    simp only [decide_eq_true_eq]
    intro e
    exact h (by rw [← e]; exact List.mem_map_of_mem hp)
/-- the value at a key that is there, exchanged -/
theorem put_at {kvs : List (Key × V)} {k : Key} {v : V} (h : k ∈ kvs.map (·.1)) : putK kvs k v = kvs.map fun kv => if kv.1 = k then (kv.1, v) else kv := by
  unfold putK
  rw [if_pos]
  obtain ⟨p, hp, e⟩ := List.mem_map.mp h
  rw [List.any_eq_true]
  exact ⟨p, hp, decide_eq_true e⟩
end Y
namespace Y
open PySem PySem.Spec PyProof.Rows L2
theorem calK_of {P : Program} {w : World} {K : PySem.W.Frag} {mg : Str → Option Value} {base : Heap} {k n : Nat} {C : Addr} {q x : Str} {sp : Sp} {kws : List (Str × V)} {st : Stmt} {N ps ks : List Str} (D : IniAt K mg x C q st kws) (hk : kws ≠ []) (S : FnScope N ps (defScope st))
    (bnd : ∀ (D : Addr) (doc pm : Value) (an : Option Addr) (cdv ct : Value) (us ws : List Value), us.length = n + 1 → ws.length = ks.length → KwChain D [] (bindArgs (PySem.W.fnOf "__init__" q (defArgs st) (defBody st) (defScope st) .none (.ref D) doc pm an cdv ct) ⟨us, ks.zip ws⟩) (ps.zip (us ++ ws)))
    (ar : ∀ vs H Q E, sp vs H Q E → vs.length = ps.length)
    (hb : ∀ (f : Addr) (cd : Value) (A : Around) (out : List Env) (s : Shared) (H : Hp) (vs : List V) (Q : VK) (E : XK), Room k (A.deeper (envOfC q (defScope st) s.heap.objs.size f cd)) → (A.deeper (envOfC q (defScope st) s.heap.objs.size f cd)).guards = some [] → sp vs H Q E →
      ∃ t, PSs (cxOf CX0 P w K mg base N q (defScope st) f cd A out s H E).nox (defBody st) t ∧ t { nx := fun _ H' => Q .non H', rt := Q } (start N vs) H) : CalK P w K mg base (k + 1) x C n ks (fun vs zs => vs ++ zs) sp := by
  obtain ⟨f, fd, F, hm, hx⟩ := D
  obtain ⟨mv, kb⟩ := FunD.kbinds0 F (n + 1) ks [] (fun us _ ws => us ++ ws) hk (fun q hq => (nomatch hq)) (fun r1 _ r3 => r1.append r3) fun D doc pm an cdv ct us mv ws l1 l2 l3 => by
    cases mv with
    | nil => exact bnd D doc pm an cdv ct us ws l1 l3
    | cons a b => cases l2
  exact ⟨f, fd, ps, _, body_of F S ar hb, hm, hx, kb⟩
end Y

set_option Elab.async false
set_option linter.all false
set_option maxRecDepth 100000
set_option maxHeartbeats 2000000
set_option exponentiation.threshold 600
/-! P1: inks and palettes as data. -/
namespace Y
open PySem PySem.Spec PyProof.Rows L2
theorem flat_strs (l : List Str) : (l.map V.str).all flatV = true := by simp [flatV]
theorem iteB {A B : Prop} {b : Bool} (h : b = true) (hA : A) : if b = true then A else B := by
  rw [h]; exact hA
abbrev Ink := Str × Int
def inkD (p : Ink) : PyData := .tuple [.str p.1, .int p.2]
structure InkOk (ks : List Ink) : Prop where
  len1 : 1 ≤ ks.length
  len8 : ks.length ≤ 8
  nm : ∀ p ∈ ks, Nm p.1 ∧ 0 ≤ p.2 ∧ p.2 < 10 ^ 400
  nd : (ks.map (·.1)).Nodup
def fadK (ks : List Ink) : List (Key × V) := ks.map fun p => (Sum.inr p.1, V.int p.2)
theorem fadK_keys (ks : List Ink) : ((fadK ks).map fun kv => kV kv.1) = (ks.map (·.1)).map V.str := by
  unfold fadK
  rw [List.map_map, List.map_map]
  rfl
theorem InkOk.keys {ks : List Ink} (h : InkOk ks) : ((fadK ks).map (·.1)).Nodup := by
  have e : (fadK ks).map (·.1) = (ks.map (·.1)).map Sum.inr := by
    unfold fadK
    rw [List.map_map, List.map_map]
    rfl
  rw [e]
  exact List.Pairwise.map _ (fun a b h z => h (Sum.inr.inj z)) h.nd
theorem InkOk.ne {ks : List Ink} (h : InkOk ks) {i j : Nat} (hij : j < i) (hi : i < ks.length) : ks[j].1 ≠ ks[i].1 := by
  have := List.pairwise_iff_getElem.mp h.nd j i (by rw [List.length_map]; omega) (by rw [List.length_map]; exact hi) hij
  rw [List.getElem_map, List.getElem_map] at this
  exact this
structure PalAt (CP : Addr) (H : Hp) (x dx d : Addr) (ks : List Ink) : Prop where
  ins : H x = some (.ins CP dx [("fades", .ref d)])
  dct : H d = some (.dK (fadK ks))
  ok : InkOk ks
theorem PalAt.up [Tb] {CP : Addr} {H H' : Hp} {x dx d : Addr} {ks : List Ink} {S : Addr → Prop} (h : PalAt CP H x dx d ks) (k : Kp S H H') (n1 : ¬ S x) (n2 : ¬ S d) : PalAt CP H' x dx d ks :=
  ⟨k.all x _ h.ins n1, k.all d _ h.dct n2, h.ok⟩
theorem Im.inkInv {K : PySem.W.Frag} {H : Hp} {v : V} {p : Ink} (h : Im K H v (inkD p)) : ∃ a, v = .ref a ∧ Tp K H a [.str p.1, .int p.2] := by
  obtain ⟨a, xs, rfl, h1, h2⟩ := id h.tupInv
  cases h2 with
  | cons z1 z2 =>
  cases z2 with
  | cons z2 z3 =>
  cases z3
  obtain rfl := z1.strInv
  obtain rfl := z2.intInv
  exact ⟨a, rfl, h1⟩
theorem inks_paired {K : PySem.W.Frag} {H : Hp} : ∀ {ks : List Ink} {xs : List V}, ImAll K H xs (ks.map inkD) → ∃ ps : List Addr, xs = ps.map V.ref ∧ Paired (fun p (kv : Key × V) => SqT K H p [kV kv.1, kv.2]) ps (fadK ks)
  | [], _, .nil => ⟨[], rfl, .nil⟩
  | p :: ks, _, .cons h1 h2 => by
    obtain ⟨a, rfl, ta⟩ := h1.inkInv
    obtain ⟨ps, rfl, hp⟩ := inks_paired h2
    exact ⟨a :: ps, rfl, .cons ta.sq hp⟩
def hasV (ks : List Ink) : V → Bool
  | .str z => decide (z ∈ ks.map (·.1))
  | _ => false
theorem has_is (ks : List Ink) (z : Str) : hasV ks (.str z) = (valV (fadK ks) (.inr z)).isSome := by
  show decide (z ∈ ks.map (·.1)) = _
  rw [Bool.eq_iff_iff, decide_eq_true_eq]
  constructor
  · intro h
    cases e : valV (fadK ks) (.inr z) with
    | some v => rfl
    | none =>
      exfalso
      unfold valV fadK at e
      rw [Option.map_eq_none_iff, List.find?_eq_none] at e
      obtain ⟨p, hp, rfl⟩ := List.mem_map.mp h
      have := e (Sum.inr p.1, V.int p.2) (List.mem_map.mpr ⟨p, hp, rfl⟩)
      simp at this
  · intro h
    refine Decidable.byContradiction fun hn => ?_
    rw [val_none] at h
    · cases h
    · intro hm
      obtain ⟨q, hq, e⟩ := List.mem_map.mp hm
      unfold fadK at hq
      obtain ⟨p, hp, rfl⟩ := List.mem_map.mp hq
      exact hn (List.mem_map.mpr ⟨p, hp, Sum.inr.inj e⟩)
theorem has_there {ks : List Ink} {i : Nat} (h : i < ks.length) : hasV ks (.str ks[i].1) = true := decide_eq_true (List.mem_map.mpr ⟨_, List.getElem_mem h, rfl⟩)
end Y

set_option Elab.async false
set_option linter.all false
set_option maxRecDepth 100000
set_option maxHeartbeats 2000000
set_option exponentiation.threshold 600
/-! P2: places as data: layers with marks, rows, what is seen. -/
namespace Y
open PySem PySem.Spec PyProof.Rows L2
abbrev Lyr := Int × Lay
def lyrD (l : Lyr) : PyData := .tuple [.int l.1, .str l.2.1, .int l.2.2]
theorem Im.lyrInv {K : PySem.W.Frag} {H : Hp} {v : V} {l : Lyr} (h : Im K H v (lyrD l)) : ∃ a, v = .ref a ∧ Tp K H a [.int l.1, .str l.2.1, .int l.2.2] := by
  obtain ⟨a, xs, rfl, h1, h2⟩ := id h.tupInv
  cases h2 with
  | cons z1 z2 =>
  cases z2 with
  | cons z2 z3 =>
  cases z3 with
  | cons z3 z4 =>
  cases z4
  obtain rfl := z1.intInv
  obtain rfl := z2.strInv
  obtain rfl := z3.intInv
  exact ⟨a, rfl, h1⟩
structure Pst where
  wear : Int
  rows : List (List Lyr)
  next : Int
structure PlAddr where
  x : Addr
  dx : Addr
  d : Addr
  pl : Addr
  pdx : Addr
  pd : Addr
  ls : List Addr
/-- what may change of a place -/
def Ft (a : PlAddr) : Addr → Prop := fun b => b = a.x ∨ b = a.d ∨ b ∈ a.ls
def layK (ks : List Ink) (ls : List Addr) : List (Key × V) := (ks.zip ls).map fun p => (Sum.inr p.1.1, V.ref p.2)
structure LyOk (l : Lyr) : Prop where
  lay : LayOk l.2
  lo : 0 ≤ l.1
  hi : l.1 < 10 ^ 400
structure PlAt (K : PySem.W.Frag) (CP CL : Addr) (H : Hp) (a : PlAddr) (ks : List Ink) (s : Pst) : Prop where
  pal : PalAt CP H a.pl a.pdx a.pd ks
  ins : H a.x = some (.ins CL a.dx [("own_palette", .ref a.pl), ("wear_left", .int s.wear), ("layers", .ref a.d), ("next_mark", .int s.next)])
  dct : H a.d = some (.dK (layK ks a.ls))
  len : a.ls.length = ks.length
  rws : s.rows.length = ks.length
  row : ∀ (i : Nat) (l : Addr) (r : List Lyr), a.ls[i]? = some l → s.rows[i]? = some r → ∃ vs, H l = some (.lst vs) ∧ ImAll K H vs (r.map lyrD)
  nd : a.ls.Nodup
  ok : ∀ r ∈ s.rows, r.length ≤ 1000 ∧ ∀ l ∈ r, LyOk l
  out : ∀ b, Ft a b → b ≠ a.pl ∧ b ≠ a.pd
theorem PlAt.up [Tb] {K : PySem.W.Frag} {CP CL : Addr} {H H' : Hp} {a : PlAddr} {ks : List Ink} {s : Pst} {S : Addr → Prop} (h : PlAt K CP CL H a ks s) (k : Kp S H H') (n1 : ¬ S a.pl) (n2 : ¬ S a.pd) (n3 : ∀ b, Ft a b → ¬ S b) : PlAt K CP CL H' a ks s :=
  ⟨h.pal.up k n1 n2, k.all _ _ h.ins (n3 _ (.inl rfl)), k.all _ _ h.dct (n3 _ (.inr (.inl rfl))), h.len, h.rws, fun i l r h1 h2 => by
    obtain ⟨vs, g1, g2⟩ := h.row i l r h1 h2
    exact ⟨vs, k.all _ _ g1 (n3 _ (.inr (.inr (List.mem_of_getElem? h1)))), ImAll.up k _ _ g2⟩, h.nd, h.ok, h.out⟩
theorem PlAt.up0 [Tb] {K : PySem.W.Frag} {CP CL : Addr} {H H' : Hp} {a : PlAddr} {ks : List Ink} {s : Pst} (h : PlAt K CP CL H a ks s) (k : Kp No H H') : PlAt K CP CL H' a ks s := h.up k id id fun _ _ => id
theorem layK_keys {ks : List Ink} {ls : List Addr} (h : ls.length = ks.length) : (layK ks ls).map (·.1) = (ks.map (·.1)).map Sum.inr := by
  unfold layK
  rw [List.map_map, List.map_map]
  have e : (ks.zip ls).map (fun p => p.1) = ks := by
    rw [List.map_fst_zip]
    omega
  have e2 : (ks.map ((Sum.inr : Str → Key) ∘ fun x => x.1)) = (((ks.zip ls).map (fun p => p.1)).map ((Sum.inr : Str → Key) ∘ fun x => x.1)) := by rw [e]
  rw [e2, List.map_map]
  rfl
section
variable {K : PySem.W.Frag} {CP CL : Addr} {H : Hp} {a : PlAddr} {ks : List Ink} {s : Pst}
theorem PlAt.keys (h : PlAt K CP CL H a ks s) : ((layK ks a.ls).map (·.1)).Nodup := by
  rw [layK_keys h.len]
  exact List.Pairwise.map _ (fun a b h z => h (Sum.inr.inj z)) h.pal.ok.nd
theorem PlAt.at_ (h : PlAt K CP CL H a ks s) {i : Nat} (hi : i < ks.length) : ∃ l r vs, a.ls[i]? = some l ∧ s.rows[i]? = some r ∧ valV (layK ks a.ls) (.inr ks[i].1) = some (.ref l) ∧ H l = some (.lst vs) ∧ ImAll K H vs (r.map lyrD) ∧ r.length ≤ 1000 ∧ (∀ l ∈ r, LyOk l) ∧ vs.length = r.length := by
  have h1 : i < a.ls.length := by rw [h.len]; exact hi
  have h2 : i < s.rows.length := by rw [h.rws]; exact hi
  have e1 := List.getElem?_eq_getElem h1
  have e2 := List.getElem?_eq_getElem h2
  obtain ⟨vs, g1, g2⟩ := h.row i _ _ e1 e2
  have g3 := h.ok _ (List.getElem_mem h2)
  refine ⟨_, _, vs, e1, e2, ?_, g1, g2, g3.1, g3.2, by rw [g2.length, List.length_map]⟩
  refine val_of_mem h.keys ?_
  unfold layK
  refine List.mem_map.mpr ⟨(ks[i], a.ls[i]), ?_, rfl⟩
  have hz : i < (ks.zip a.ls).length := by rw [List.length_zip]; omega
  have : (ks.zip a.ls)[i] = (ks[i], a.ls[i]) := List.getElem_zip
  rw [← this]
  exact List.getElem_mem hz
end
/-- the layers of a row with marks, without them -/
def layR (r : List Lyr) : List Lay := r.map (·.2)
theorem layR_get {r : List Lyr} {n : Nat} (h : n < r.length) : (layR r)[n]? = some r[n].2 := by
  unfold layR
  rw [List.getElem?_map, List.getElem?_eq_getElem h]
  rfl
theorem layR_len (r : List Lyr) : (layR r).length = r.length := List.length_map ..
theorem layR_nil {r : List Lyr} : layR r = [] ↔ r = [] := List.map_eq_nil_iff
/-! ### what is on top -/
abbrev TopS := Option (Nat × Nat) × Int
def topStep (st : TopS) (i : Nat) (r : List Lyr) : TopS :=
  if r ≠ [] ∧ st.2 < stg (layR r) (topN (layR r)) then (some (i, topN (layR r)), stg (layR r) (topN (layR r))) else st
def topTo (rows : List (List Lyr)) : Nat → TopS
  | 0 => (none, 0)
  | i + 1 => match rows[i]? with
    | some r => topStep (topTo rows i) i r
    | none => topTo rows i
def topOf (rows : List (List Lyr)) : Option (Nat × Nat) := (topTo rows rows.length).1
theorem topTo_in (rows : List (List Lyr)) : ∀ i n k, (topTo rows i).1 = some (n, k) → ∃ r, rows[n]? = some r ∧ k < r.length ∧ n < i
  | 0, n, k, h => by cases h
  | i + 1, n, k, h => by
    unfold topTo at h
    cases e : rows[i]? with
    | none =>
      rw [e] at h
      obtain ⟨r, h1, h2, h3⟩ := topTo_in rows i n k h
      exact ⟨r, h1, h2, by omega⟩
    | some r =>
      rw [e] at h
      have h : (topStep (topTo rows i) i r).1 = some (n, k) := h
      unfold topStep at h
      split at h
      · rename_i c
        cases h
        refine ⟨r, e, ?_, by omega⟩
        have := topN_lt (r := layR r) (fun z => c.1 (layR_nil.mp z))
        rw [layR_len] at this
        exact this
      · obtain ⟨r, h1, h2, h3⟩ := topTo_in rows i n k h
        exact ⟨r, h1, h2, by omega⟩
def topDat (ks : List Ink) : Option (Nat × Nat) → PyData
  | none => .none
  | some (i, n) => .tuple [.str (ks.getD i (default, 0)).1, .int (n : Int)]
def seenD (ks : List Ink) (rows : List (List Lyr)) : PyData := match topOf rows with
  | none => .none
  | some (i, n) => .tuple [.str (ks.getD i (default, 0)).1, .str ((rows.getD i []).getD n (0, default, 0)).2.1, .int ((rows.getD i []).getD n (0, default, 0)).2.2]
def seenM (rows : List (List Lyr)) : V := match topOf rows with
  | none => .non
  | some (i, n) => .int ((rows.getD i []).getD n (0, default, 0)).1
/-- the state behind a layer that is laid -/
def laidS (s : Pst) (i : Nat) (l : Lay) : Pst := ⟨s.wear, s.rows.set i ((s.rows.getD i []) ++ [(s.next, l)]), s.next + 1⟩
end Y
namespace Y
open PySem PySem.Spec PyProof.Rows L2
/-- a dict comprehension over a walk -/
theorem dc_it {J : It} {n : Nat} {G : Hp → Prop} {Yy : Nat → Hp → V → Hp → Prop} {g : TG} {tt : TT} {tk tv : TE} {vs : List Nat} {σ : L2.St} {H1 : Hp} {D : Addr} {Qd : Hp → Prop} (w : Walk J n G Yy) (Pv : Nat → Hp → Prop) (h0 : Pv 0 (upd H1 D (.dK []))) (hG : ∀ i H, i ≤ n → Pv i H → G H)
    (hs : ∀ i x Ha Hb, i < n → Pv i Ha → Yy i Ha x Hb → g x (wipe σ vs) Hb fun σ2 H2 => wipe σ2 vs = wipe σ vs ∧ tt σ2 H2 fun b H3 =>
      if b = true then tk σ2 H3 fun y H4 => tv σ2 H4 fun z H5 => ∃ kvs k, y = kV k ∧ H5 D = some (.dK kvs) ∧ kvs.length < sizeLine ∧ Pv (i + 1) (upd H5 D (.dK (putK kvs k z))) else Pv (i + 1) H3)
    (hd : ∀ H, Pv n H → Qd H) : ∃ W : Nat → Nat → Hp → Prop, (∃ m, W 0 m (upd H1 D (.dK []))) ∧ ∀ i m H, W i m H →
      (J.stop i H ∧ Qd H) ∨ (J.go i H ∧ ∃ Nx : Hp → Prop, (∀ H', Nx H' → ∃ m', m' < m ∧ W (i + 1) m' H') ∧ ∀ x H', J.yld i H x H' → g x (wipe σ vs) H' fun σ2 H2 => wipe σ2 vs = wipe σ vs ∧ tt σ2 H2 fun b H3 =>
        if b = true then tk σ2 H3 fun y H4 => tv σ2 H4 fun z H5 => ∃ kvs k, y = kV k ∧ H5 D = some (.dK kvs) ∧ kvs.length < sizeLine ∧ Nx (upd H5 D (.dK (putK kvs k z))) else Nx H3) := by
  refine ⟨fun i m H => m = n - i ∧ i ≤ n ∧ Pv i H, ⟨n, by simp, Nat.zero_le _, h0⟩, ?_⟩
  rintro i m H ⟨rfl, hi, p⟩
  have q := hG i H hi p
  by_cases hlt : i < n
  · exact .inr ⟨w.goes i H hlt q, Pv (i + 1), fun H' p' => ⟨n - (i + 1), by omega, rfl, hlt, p'⟩, fun x H' y => hs i x H H' hlt p (w.yields i H x H' hlt q y)⟩
  · have e : i = n := by omega
    subst e
    exact .inl ⟨w.stops H q, hd H p⟩
theorem layK_snoc {ks : List Ink} {ls : List Addr} {p : Ink} {u : Addr} (h : ls.length = ks.length) : layK (ks ++ [p]) (ls ++ [u]) = layK ks ls ++ [(Sum.inr p.1, .ref u)] := by
  unfold layK
  rw [List.zip_append h.symm, List.map_append]
  rfl
theorem put_new {kvs : List (Key × V)} {k : Key} {v : V} (h : k ∉ kvs.map (·.1)) : putK kvs k v = kvs ++ [(k, v)] := by
  unfold putK
  rw [if_neg]
  simp only [List.any_eq_true, decide_eq_true_eq, not_exists, not_and]
  intro q hq e
  exact h (by rw [← e]; exact List.mem_map_of_mem hq)
def wearV : V → Bool
  | .int i => decide (0 ≤ i) && decide (i ≤ 6)
  | _ => false
def newS (wear : Int) (n : Nat) : Pst := ⟨wear, List.replicate n [], 0⟩
end Y
namespace Y
open PySem PySem.Spec PyProof.Rows L2
theorem nd_get {ls : List Addr} (h : ls.Nodup) {i j : Nat} {l : Addr} (h1 : ls[i]? = some l) (h2 : ls[j]? = some l) : i = j := nd_ix h h1 h2
section
variable [Tb] {K : PySem.W.Frag} {CP CL : Addr} {H : Hp} {a : PlAddr} {ks : List Ink} {s : Pst}
theorem PlAt.ne_l (h : PlAt K CP CL H a ks s) {l : Addr} (hl : l ∈ a.ls) : l ≠ a.x ∧ l ≠ a.d := by
  obtain ⟨i, hi, rfl⟩ := List.mem_iff_getElem.mp hl
  have e1 := List.getElem?_eq_getElem hi
  have e2 := List.getElem?_eq_getElem (show i < s.rows.length by rw [h.rws, ← h.len]; exact hi)
  obtain ⟨vs, g1, _⟩ := h.row i _ _ e1 e2
  exact ⟨ne_of g1 h.ins (by intro z; cases z), ne_of g1 h.dct (by intro z; cases z)⟩
theorem PlAt.ne_xd (h : PlAt K CP CL H a ks s) : a.x ≠ a.d := ne_of h.ins h.dct (by intro z; cases z)
theorem PlAt.laid (h : PlAt K CP CL H a ks s) {i : Nat} {l u : Addr} {r : List Lyr} {ws : List V} {y : Lay} (hi : a.ls[i]? = some l) (hr : s.rows[i]? = some r) (hl : H l = some (.lst ws)) (im : ImAll K H ws (r.map lyrD)) (hu : H u = none) (lok : LyOk (s.next, y)) (hlen : r.length < 1000) :
    PlAt K CP CL (upd (upd (upd H u (.tup [.int s.next, .str y.1, .int y.2])) l (.lst (ws ++ [.ref u]))) a.x (.ins CL a.dx [("own_palette", .ref a.pl), ("wear_left", .int s.wear), ("layers", .ref a.d), ("next_mark", .int (s.next + 1))])) a ks (laidS s i y) ∧
    Kp (Ft a) H (upd (upd (upd H u (.tup [.int s.next, .str y.1, .int y.2])) l (.lst (ws ++ [.ref u]))) a.x (.ins CL a.dx [("own_palette", .ref a.pl), ("wear_left", .int s.wear), ("layers", .ref a.d), ("next_mark", .int (s.next + 1))])) := by
  have ml : l ∈ a.ls := List.mem_of_getElem? hi
  obtain ⟨nlx, nld⟩ := h.ne_l ml
  have k1 : Kp No H (upd H u (.tup [.int s.next, .str y.1, .int y.2])) := Kp.new hu
  have hl1 := k1.all l _ hl id
  have k2 : Kp (At l) _ (upd (upd H u (.tup [.int s.next, .str y.1, .int y.2])) l (.lst (ws ++ [.ref u]))) := Kp.set rfl hl1
  have hx2 := k2.all a.x _ (k1.all a.x _ h.ins id) fun e => nlx e.symm
  have k3 : Kp (At a.x) _ (upd (upd (upd H u (.tup [.int s.next, .str y.1, .int y.2])) l (.lst (ws ++ [.ref u]))) a.x (.ins CL a.dx [("own_palette", .ref a.pl), ("wear_left", .int s.wear), ("layers", .ref a.d), ("next_mark", .int (s.next + 1))])) := Kp.set rfl hx2
  have kf : Kp (Ft a) H _ := (k1.no.trans (k2.mono fun b z => by rw [z]; exact .inr (.inr ml))).trans (k3.mono fun b z => .inl z)
  have kk : Kp (fun b => b = l ∨ b = a.x) H _ := (k1.no.trans (k2.mono fun b z => .inl z)).trans (k3.mono fun b z => .inr z)
  refine ⟨⟨h.pal.up kf (fun z => (h.out _ z).1 rfl) (fun z => (h.out _ z).2 rfl), upd_same, kk.all a.d _ h.dct ?_, h.len, by show (s.rows.set _ _).length = _; rw [List.length_set, h.rws], fun j l' r' h1 h2 => ?_, h.nd, fun r' hr' => ?_, h.out⟩, kf⟩
  · rintro (z | z)
    · exact nld z.symm
    · exact h.ne_xd z.symm
  · have hil : i < s.rows.length := (List.getElem?_eq_some_iff.mp hr).1
    by_cases e : i = j
    · subst e
      obtain rfl : l = l' := Option.some.inj (hi.symm.trans h1)
      have er : r' = r ++ [(s.next, y)] := by
        have h2 : (s.rows.set i ((s.rows.getD i []) ++ [(s.next, y)]))[i]? = some r' := h2
        rw [List.getElem?_set_self hil, List.getD_eq_getElem?_getD, hr] at h2
        exact (Option.some.inj h2).symm
      refine ⟨ws ++ [.ref u], by rw [upd_ne nlx, upd_same], ?_⟩
      rw [er, List.map_append]
      exact (ImAll.up kf _ _ im).snoc (Im.mk (k3.tup _ _ (k2.tup _ _ upd_same)) (.cons (.int _) (.cons (.str _) (.cons (.int _) .nil))))
    · have h2 : (s.rows.set i ((s.rows.getD i []) ++ [(s.next, y)]))[j]? = some r' := h2
      rw [List.getElem?_set_ne e] at h2
      obtain ⟨vs, g1, g2⟩ := h.row j l' r' h1 h2
      refine ⟨vs, kk.all l' _ g1 ?_, ImAll.up kf _ _ g2⟩
      rintro (z | z)
      · rw [z] at h1
        exact e (nd_get h.nd hi h1)
      · exact (h.ne_l (List.mem_of_getElem? h1)).1 z
  · have hr' : r' ∈ s.rows.set i ((s.rows.getD i []) ++ [(s.next, y)]) := hr'
    have e0 := h.ok r (List.mem_of_getElem? hr)
    rcases List.mem_or_eq_of_mem_set hr' with z | z
    · exact h.ok r' z
    · rw [List.getD_eq_getElem?_getD, hr] at z
      have z : r' = r ++ [(s.next, y)] := z
      rw [z]
      refine ⟨by rw [List.length_append]; show r.length + 1 ≤ 1000; omega, fun q hq => ?_⟩
      rcases List.mem_append.mp hq with hq | hq
      · exact e0.2 q hq
      · rw [List.mem_singleton.mp hq]; exact lok
end
end Y

set_option Elab.async false
set_option linter.all false
set_option maxRecDepth 100000
set_option maxHeartbeats 2000000
set_option exponentiation.threshold 600
/-! J1: runs joined, as mathematics: pairs (many, number of a thing). -/
namespace Y
open PySem PySem.Spec PyProof.Rows L2
abbrev Pr := Int × Nat
/-- one more pair; what was found is kept the last one first -/
def stepR (acc : List Pr) (p : Pr) : List Pr :=
  if 0 < p.1 then (match acc with
    | q :: t => if q.2 = p.2 then (q.1 + p.1, p.2) :: t else p :: q :: t
    | [] => [p]) else acc
def joinR (l : List Pr) : List Pr := l.foldl stepR []
def joinM (l : List Pr) : List Pr := (joinR l).reverse
theorem joinR_snoc (l : List Pr) (x : Pr) : joinR (l ++ [x]) = stepR (joinR l) x := by simp [joinR, List.foldl_append]
theorem step_zero {acc : List Pr} {p : Pr} (h : ¬ 0 < p.1) : stepR acc p = acc := by unfold stepR; rw [if_neg h]
theorem join_filter : ∀ (l : List Pr) (acc : List Pr), (∀ p ∈ l, 0 ≤ p.1) → (l.filter fun p => decide (p.1 ≠ 0)).foldl stepR acc = l.foldl stepR acc
  | [], _, _ => rfl
  | x :: l, acc, h => by
    have h' : ∀ p ∈ l, 0 ≤ p.1 := fun p hp => h p (List.mem_cons_of_mem _ hp)
    have hx := h x List.mem_cons_self
    by_cases c : x.1 = 0
    · rw [List.filter_cons_of_neg (by simpa using c), List.foldl_cons, step_zero (by omega)]
      exact join_filter l acc h'
    · rw [List.filter_cons_of_pos (by simpa using c), List.foldl_cons, List.foldl_cons]
      exact join_filter l _ h'
/-- positive, neighbours unlike -/
def Gd : List Pr → Prop
  | [] => True
  | [a] => 0 < a.1
  | a :: b :: l => 0 < a.1 ∧ a.2 ≠ b.2 ∧ Gd (b :: l)
theorem Gd.tail {x : Pr} {l : List Pr} (h : Gd (x :: l)) : Gd l := by
  cases l with
  | nil => trivial
  | cons y l => exact h.2.2
theorem Gd.pos {x : Pr} {l : List Pr} (h : Gd (x :: l)) : 0 < x.1 := by
  cases l with
  | nil => exact h
  | cons y l => exact h.1
theorem step_good {acc : List Pr} (h : Gd acc) (p : Pr) : Gd (stepR acc p) := by
  unfold stepR
  by_cases c : 0 < p.1
  · rw [if_pos c]
    cases acc with
    | nil => exact c
    | cons q t =>
      show Gd (if q.2 = p.2 then (q.1 + p.1, p.2) :: t else p :: q :: t)
      by_cases e : q.2 = p.2
      · rw [if_pos e]
        have hp := h.pos
        cases t with
        | nil => show 0 < q.1 + p.1; omega
        | cons y t => exact ⟨by show 0 < q.1 + p.1; omega, by show p.2 ≠ y.2; rw [← e]; exact h.2.1, h.2.2⟩
      · rw [if_neg e]
        exact ⟨c, fun z => e z.symm, h⟩
  · rw [if_neg c]; exact h
theorem fold_good : ∀ (l acc : List Pr), Gd acc → Gd (l.foldl stepR acc)
  | [], _, h => h
  | x :: l, acc, h => fold_good l _ (step_good h x)
theorem join_good (l : List Pr) : Gd (joinR l) := fold_good l [] trivial
theorem good_join : ∀ {r : List Pr}, Gd r → joinR r.reverse = r
  | [], _ => rfl
  | x :: r, h => by
    rw [List.reverse_cons, joinR_snoc, good_join h.tail]
    unfold stepR
    rw [if_pos h.pos]
    cases r with
    | nil => rfl
    | cons y r =>
      show (if y.2 = x.2 then _ else x :: y :: r) = _
      rw [if_neg fun z => h.2.1 z.symm]
theorem join_join (l : List Pr) : joinM (joinM l) = joinM l := by
  unfold joinM
  rw [good_join (join_good l)]
theorem step_mem {acc : List Pr} {p q : Pr} {n : Nat} (ha : ∀ x ∈ acc, x.2 < n) (hp : p.2 < n) (h : q ∈ stepR acc p) : q.2 < n := by
  unfold stepR at h
  by_cases c : 0 < p.1
  · rw [if_pos c] at h
    cases acc with
    | nil =>
      rw [List.mem_singleton.mp h]; exact hp
    | cons y t =>
      have h : q ∈ (if y.2 = p.2 then (y.1 + p.1, p.2) :: t else p :: y :: t) := h
      by_cases e : y.2 = p.2
      · rw [if_pos e] at h
        rcases List.mem_cons.mp h with h | h
        · rw [h]; exact hp
        · exact ha q (List.mem_cons_of_mem _ h)
      · rw [if_neg e] at h
        rcases List.mem_cons.mp h with h | h
        · rw [h]; exact hp
        · exact ha q h
  · rw [if_neg c] at h
    exact ha q h
/-- the sum of all is kept -/
def tot (l : List Pr) : Int := (l.map (·.1)).sum
theorem step_tot (acc : List Pr) {p : Pr} (h : 0 ≤ p.1) : tot (stepR acc p) = tot acc + p.1 := by
  unfold stepR
  by_cases c : 0 < p.1
  · rw [if_pos c]
    cases acc with
    | nil => simp [tot]
    | cons q t =>
      show tot (if q.2 = p.2 then (q.1 + p.1, p.2) :: t else p :: q :: t) = _
      by_cases e : q.2 = p.2
      · rw [if_pos e]
        simp only [tot, List.map_cons, List.sum_cons]
        omega
      · rw [if_neg e]
        simp only [tot, List.map_cons, List.sum_cons]
        omega
  · rw [if_neg c]
    omega
theorem step_len (acc : List Pr) (p : Pr) : (stepR acc p).length ≤ acc.length + 1 := by
  unfold stepR
  split
  · cases acc with
    | nil => simp
    | cons q t =>
      show (if q.2 = p.2 then (q.1 + p.1, p.2) :: t else p :: q :: t).length ≤ _
      split <;> simp
  · omega
theorem fold_ok {n : Nat} : ∀ (l acc : List Pr), (∀ p ∈ l, 0 ≤ p.1 ∧ p.2 < n) → (∀ p ∈ acc, p.2 < n) → (∀ p ∈ l.foldl stepR acc, p.2 < n) ∧ tot (l.foldl stepR acc) = tot acc + tot l ∧ (l.foldl stepR acc).length ≤ acc.length + l.length
  | [], acc, _, h => ⟨h, by simp [tot], by simp⟩
  | x :: l, acc, hl, h => by
    have hx := hl x List.mem_cons_self
    obtain ⟨a, b, c⟩ := fold_ok l (stepR acc x) (fun p hp => hl p (List.mem_cons_of_mem _ hp)) (fun p hp => step_mem h hx.2 hp)
    refine ⟨a, ?_, ?_⟩
    · rw [List.foldl_cons, b, step_tot acc hx.1]
      simp only [tot, List.map_cons, List.sum_cons]
      omega
    · have := step_len acc x
      rw [List.foldl_cons, List.length_cons]
      omega
theorem mem_le_tot : ∀ {l : List Pr}, (∀ p ∈ l, 0 ≤ p.1) → ∀ p ∈ l, p.1 ≤ tot l
  | x :: l, h, p, hp => by
    have h0 : 0 ≤ tot l := by
      clear hp
      have h2 : ∀ p ∈ l, 0 ≤ p.1 := fun p hp => h p (List.mem_cons_of_mem _ hp)
      clear h
      induction l with
      | nil => simp [tot]
      | cons y l ih =>
        have := ih fun p hp => h2 p (List.mem_cons_of_mem _ hp)
        have := h2 y List.mem_cons_self
        simp only [tot, List.map_cons, List.sum_cons] at *
        omega
    have hx := h x List.mem_cons_self
    rcases List.mem_cons.mp hp with z | z
    · subst z
      simp only [tot, List.map_cons, List.sum_cons] at *
      omega
    · have := mem_le_tot (fun p hp => h p (List.mem_cons_of_mem _ hp)) p z
      simp only [tot, List.map_cons, List.sum_cons] at *
      omega
theorem tot_le {B : Int} : ∀ {l : List Pr}, (∀ p ∈ l, p.1 ≤ B) → tot l ≤ B * l.length
  | [], _ => by simp [tot]
  | x :: l, h => by
    have h1 := tot_le fun p hp => h p (List.mem_cons_of_mem _ hp)
    have h2 := h x List.mem_cons_self
    have e : B * ((x :: l).length : Nat) = B * (l.length : Nat) + B := by
      rw [List.length_cons]
      push_cast
      rw [Int.mul_add, Int.mul_one]
    rw [e]
    simp only [tot, List.map_cons, List.sum_cons] at *
    omega

/-! ### the due one: by where stretches begin -/
def tgA (l : List Pr) (k : Nat) : Nat := (l.getD k (0, 0)).2
def bgA (l : List Pr) (k : Nat) : Bool := decide (k = 0) || !decide (tgA l k = tgA l (k - 1))
def begM (l : List Pr) : List Nat := (List.range l.length).filter (bgA l)
def smA (l : List Pr) (b e : Nat) : Int := (((l.drop b).take (e - b)).map (·.1)).sum
def zipA (B : List Nat) (n : Nat) : List (Nat × Nat) := B.zip (B.tail ++ [n])
def dueJ (l : List Pr) : List Pr := (zipA (begM l) l.length).map fun q => (smA l q.1 q.2, tgA l q.1)
theorem tgA_app {l : List Pr} {x : Pr} {k : Nat} (h : k < l.length) : tgA (l ++ [x]) k = tgA l k := by
  unfold tgA
  rw [List.getD_eq_getElem?_getD, List.getD_eq_getElem?_getD, List.getElem?_append_left h]
theorem tgA_last (l : List Pr) (x : Pr) : tgA (l ++ [x]) l.length = x.2 := by
  unfold tgA
  rw [List.getD_eq_getElem?_getD, List.getElem?_append_right (Nat.le_refl _)]
  simp
theorem zipA_snoc (B : List Nat) (b n : Nat) : zipA (B ++ [b]) n = zipA B b ++ [(b, n)] := by
  unfold zipA
  cases B with
  | nil => rfl
  | cons c B =>
    show ((c :: B) ++ [b]).zip ((B ++ [b]) ++ [n]) = (c :: B).zip (B ++ [b]) ++ [(b, n)]
    rw [List.zip_append (by simp)]
    rfl
theorem zipA_mem {B : List Nat} {n : Nat} (h1 : B.Pairwise (· < ·)) (h2 : ∀ b ∈ B, b < n) : ∀ q ∈ zipA B n, q.1 < n ∧ q.1 ≤ q.2 ∧ q.2 ≤ n := by
  intro q hq
  obtain ⟨a, b⟩ := q
  unfold zipA at hq
  have h3 : a ∈ B := (List.of_mem_zip hq).1
  have h4 : b ∈ B.tail ++ [n] := (List.of_mem_zip hq).2
  have hb : b ≤ n := by
    rcases List.mem_append.mp h4 with z | z
    · exact Nat.le_of_lt (h2 b (List.mem_of_mem_tail z))
    · rw [List.mem_singleton.mp z]; exact Nat.le_refl _
  refine ⟨h2 a h3, ?_, hb⟩
  show a ≤ b
  clear h3 h4 hb
  induction B with
  | nil => simp at hq
  | cons c B ih =>
    cases B with
    | nil =>
      simp at hq
      obtain ⟨rfl, rfl⟩ := hq
      exact Nat.le_of_lt (h2 a (by simp))
    | cons d B =>
      have e : (c :: d :: B).zip ((c :: d :: B).tail ++ [n]) = (c, d) :: (d :: B).zip ((d :: B).tail ++ [n]) := rfl
      rw [e] at hq
      rcases List.mem_cons.mp hq with z | z
      · cases z
        exact Nat.le_of_lt (List.rel_of_pairwise_cons h1 (by simp))
      · exact ih (List.Pairwise.of_cons h1) (fun b hb => h2 b (List.mem_cons_of_mem _ hb)) z
theorem begM_lt {l : List Pr} : ∀ b ∈ begM l, b < l.length := fun b hb => List.mem_range.mp (List.mem_filter.mp hb).1
theorem begM_inc (l : List Pr) : (begM l).Pairwise (· < ·) := List.pairwise_lt_range.filter _
theorem begM_snoc (l : List Pr) (x : Pr) : begM (l ++ [x]) = begM l ++ (if bgA (l ++ [x]) l.length = true then [l.length] else []) := by
  unfold begM
  rw [List.length_append, List.length_singleton, List.range_succ, List.filter_append]
  congr 1
  · refine List.filter_congr fun k hk => ?_
    have hk := List.mem_range.mp hk
    unfold bgA
    rw [tgA_app hk, tgA_app (show k - 1 < l.length by omega)]
  · cases c : bgA (l ++ [x]) l.length <;> simp [c]
theorem smA_app {l : List Pr} {x : Pr} {b e : Nat} (h : e ≤ l.length) : smA (l ++ [x]) b e = smA l b e := by
  unfold smA
  by_cases hb : b ≤ l.length
  · rw [List.drop_append_of_le_length hb, List.take_append_of_le_length (by rw [List.length_drop]; omega)]
  · have e0 : e - b = 0 := by omega
    rw [e0, List.take_zero, List.take_zero]
theorem smA_all {l : List Pr} {x : Pr} {b : Nat} (h : b ≤ l.length) : smA (l ++ [x]) b (l.length + 1) = smA l b l.length + x.1 := by
  unfold smA
  rw [List.drop_append_of_le_length h]
  have e1 : ((l.drop b) ++ [x]).take (l.length + 1 - b) = l.drop b ++ [x] := List.take_of_length_le (by rw [List.length_append, List.length_drop, List.length_singleton]; omega)
  have e2 : (l.drop b).take (l.length - b) = l.drop b := List.take_of_length_le (by rw [List.length_drop]; omega)
  rw [e1, e2, List.map_append, List.sum_append]
  simp
theorem dueJ_old {l : List Pr} {x : Pr} {B : List Nat} {n : Nat} (h1 : B.Pairwise (· < ·)) (h2 : ∀ b ∈ B, b < n) (hn : n ≤ l.length) :
    ((zipA B n).map fun q => (smA (l ++ [x]) q.1 q.2, tgA (l ++ [x]) q.1)) = (zipA B n).map fun q => (smA l q.1 q.2, tgA l q.1) := by
  refine List.map_congr_left fun q hq => ?_
  obtain ⟨a, b, c⟩ := zipA_mem h1 h2 q hq
  rw [smA_app (by omega), tgA_app (by omega)]
theorem due_join : ∀ (r : List Pr), (∀ p ∈ r, 0 < p.1) → dueJ r.reverse = joinM r.reverse ∧ (r ≠ [] → ∃ B b, begM r.reverse = B ++ [b] ∧ tgA r.reverse b = tgA r.reverse (r.length - 1))
  | [], _ => ⟨rfl, fun h => absurd rfl h⟩
  | x :: r, h => by
    have hx := h x List.mem_cons_self
    obtain ⟨ih, ihb⟩ := due_join r fun p hp => h p (List.mem_cons_of_mem _ hp)
    rw [List.reverse_cons]
    have el : r.reverse.length = r.length := List.length_reverse
    generalize hl : r.reverse = l at *
    have ejM : joinM (l ++ [x]) = (stepR (joinR l) x).reverse := by unfold joinM; rw [joinR_snoc]
    cases hb : bgA (l ++ [x]) l.length with
    | true =>
      have eB := begM_snoc l x
      rw [hb, if_pos rfl] at eB
      have hne : ∀ q t, joinR l = q :: t → q.2 ≠ x.2 := by
        intro q t e z
        unfold bgA at hb
        have hr : r ≠ [] := by
          intro e0
          rw [e0] at hl
          rw [← hl] at e
          cases e
        obtain ⟨B, b, e1, e2⟩ := ihb hr
        have hlen : 0 < l.length := by rw [el]; exact List.length_pos_iff.mpr hr
        have e3 : dueJ l = ((zipA B b).map fun q => (smA l q.1 q.2, tgA l q.1)) ++ [(smA l b l.length, tgA l b)] := by
          unfold dueJ
          rw [e1, zipA_snoc, List.map_append]
          rfl
        have e4 : (joinM l) = t.reverse ++ [q] := by unfold joinM; rw [e, List.reverse_cons]
        rw [← ih, e3] at e4
        have e5 := (List.append_inj' e4 rfl).2
        have e6 : tgA l b = q.2 := congrArg (fun z : List Pr => tgA z 0) e5
        rw [Bool.or_eq_true, decide_eq_true_eq, Bool.not_eq_true', decide_eq_false_iff_not] at hb
        rcases hb with hb | hb
        · omega
        · rw [tgA_last, tgA_app (show l.length - 1 < l.length by omega), el, ← e2, e6] at hb
          exact hb z.symm
      refine ⟨?_, fun _ => ⟨begM l, l.length, eB, ?_⟩⟩
      · unfold dueJ
        rw [eB, List.length_append, List.length_singleton, zipA_snoc, List.map_append, dueJ_old (begM_inc l) begM_lt (Nat.le_refl _)]
        have e7 : smA (l ++ [x]) l.length (l.length + 1) = x.1 := by
          rw [smA_all (Nat.le_refl _)]
          unfold smA
          simp
        rw [ejM]
        have e8 : (zipA (begM l) l.length).map (fun q => (smA l q.1 q.2, tgA l q.1)) = joinM l := ih
        rw [e8, List.map_cons, List.map_nil, e7, tgA_last]
        unfold stepR
        rw [if_pos hx]
        unfold joinM
        cases e9 : joinR l with
        | nil => rfl
        | cons q t =>
          show _ = (if q.2 = x.2 then _ else x :: q :: t).reverse
          rw [if_neg (hne q t e9), List.reverse_cons (a := x)]
      · rw [List.length_cons, ← el, Nat.add_sub_cancel]
    | false =>
      have eB := begM_snoc l x
      rw [hb, if_neg (by decide), List.append_nil] at eB
      unfold bgA at hb
      rw [Bool.or_eq_false_iff, decide_eq_false_iff_not, Bool.not_eq_false', decide_eq_true_eq] at hb
      have hlen : 0 < l.length := by omega
      have hr : r ≠ [] := by
        intro e0
        rw [e0] at el
        simp at el
        rw [el] at hlen
        simp at hlen
      obtain ⟨B, b, e1, e2⟩ := ihb hr
      have hbl : b < l.length := begM_lt b (by rw [e1]; simp)
      have hinc := begM_inc l
      rw [e1, List.pairwise_append] at hinc
      have hBlt : ∀ c ∈ B, c < b := fun c hc => hinc.2.2 c hc b (List.mem_singleton.mpr rfl)
      have ht : tgA l b = x.2 := by
        rw [e2, ← el, ← tgA_app (x := x) (show l.length - 1 < l.length by omega), ← hb.2, tgA_last]
      refine ⟨?_, fun _ => ⟨B, b, eB.trans e1, ?_⟩⟩
      · unfold dueJ
        rw [eB, e1, List.length_append, List.length_singleton, zipA_snoc, List.map_append, dueJ_old hinc.1 hBlt (Nat.le_of_lt hbl), List.map_cons, List.map_nil, smA_all (Nat.le_of_lt hbl), tgA_app hbl]
        have e3 : joinM l = (zipA B b).map (fun q => (smA l q.1 q.2, tgA l q.1)) ++ [(smA l b l.length, tgA l b)] := by
          rw [← ih]
          unfold dueJ
          rw [e1, zipA_snoc, List.map_append]
          rfl
        have e4 : joinR l = (smA l b l.length, tgA l b) :: ((zipA B b).map (fun q => (smA l q.1 q.2, tgA l q.1))).reverse := by
          have := congrArg List.reverse e3
          unfold joinM at this
          rw [List.reverse_reverse, List.reverse_append] at this
          exact this
        rw [ejM, e4]
        unfold stepR
        rw [if_pos hx]
        show _ = (if tgA l b = x.2 then _ else _ : List Pr).reverse
        rw [if_pos ht, List.reverse_cons, List.reverse_reverse, ht]
      · rw [tgA_app hbl, List.length_cons, Nat.add_sub_cancel, ← el, tgA_last, ht]
theorem dueJ_is {l : List Pr} (h : ∀ p ∈ l, 0 < p.1) : dueJ l = joinM l := by
  have := (due_join l.reverse fun p hp => h p (List.mem_reverse.mp hp)).1
  rw [List.reverse_reverse] at this
  exact this
end Y

set_option Elab.async false
set_option linter.all false
set_option maxRecDepth 100000
set_option maxHeartbeats 2000000
set_option exponentiation.threshold 600
/-! J2: == and != of data that never change; the things of the law of runs. -/
namespace Y
open PySem PySem.Spec PyProof.Rows L2
section
variable {K : PySem.W.Frag} {H : Hp} {x y : V} {d e : PyData} {Q : VK}
theorem beq_dec {α : Type} [DecidableEq α] [BEq α] [LawfulBEq α] (a b : α) : (a == b) = decide (a = b) := by
  rw [Bool.eq_iff_iff]
  simp
theorem yEq_im (hx : Im K H x d) (hy : Im K H y e) (sd : fine d = true) (dd : d.depth ≤ 50) (se : fine e = true) (de : e.depth ≤ 50) (q : Q (.bl (PyData.eqv d e)) H) : yEq K x y H Q := by
  have base : rEqD K x y H Q := ⟨d, e, Im.dp _ _ hx, Im.dp _ _ hy, fine_shaped sd dd, fine_shaped se de, q⟩
  cases hx <;> cases hy <;> first | exact base | (show Q _ _; simpa [PyData.eqv, beq_dec] using q)
theorem yNe_im (hx : Im K H x d) (hy : Im K H y e) (sd : fine d = true) (dd : d.depth ≤ 50) (se : fine e = true) (de : e.depth ≤ 50) (q : Q (.bl (!PyData.eqv d e)) H) : yNe K x y H Q := by
  have base : rNeD K x y H Q := ⟨d, e, Im.dp _ _ hx, Im.dp _ _ hy, fine_shaped sd dd, fine_shaped se de, q⟩
  cases hx <;> cases hy <;> first | exact base | (show Q _ _; simpa [PyData.eqv, beq_dec] using q)
end
def thD : Nat → PyData
  | 0 => .int 3
  | 1 => .int 40
  | 2 => .str "a"
  | 3 => .str ""
  | 4 => .none
  | 5 => .tuple [.int 1, .int 2]
  | 6 => .tuple [.str "a", .tuple []]
  | _ => .tuple [.tuple [], .tuple []]
def runPrD (p : Pr) : PyData := .tuple [.int p.1, thD p.2]
theorem th_eqv {i j : Nat} (hi : i < 8) (hj : j < 8) : PyData.eqv (thD i) (thD j) = decide (i = j) := by
  have h : ∀ a : Fin 8, ∀ b : Fin 8, PyData.eqv (thD a.1) (thD b.1) = decide (a.1 = b.1) := by decide +kernel
  exact h ⟨i, hi⟩ ⟨j, hj⟩
theorem th_sh {i : Nat} (hi : i < 8) : fine (thD i) = true ∧ (thD i).depth ≤ 3 ∧ (thD i).bulk ≤ 20 := by
  have h : ∀ a : Fin 8, fine (thD a.1) = true ∧ (thD a.1).depth ≤ 3 ∧ (thD a.1).bulk ≤ 20 := by decide +kernel
  exact h ⟨i, hi⟩
structure PrOk (p : Pr) : Prop where
  lo : 0 ≤ p.1
  hi : p.1 < 10 ^ 400
  th : p.2 < 8
theorem runPrD_fine {p : Pr} (h : PrOk p) : fine (runPrD p) = true := fine_tuple fun d hd => by
  rcases List.mem_cons.mp hd with rfl | hd
  · exact pos_fine h.lo h.hi
  · rw [List.mem_singleton.mp hd]; exact (th_sh h.th).1
theorem runPrD_deep {p : Pr} (h : PrOk p) : (runPrD p).depth ≤ 4 := by
  have := (th_sh h.th).2.1
  unfold runPrD
  have e : PyData.depthAll [.int p.1, thD p.2] ≤ 3 := depthAll_le fun d hd => by
    rcases List.mem_cons.mp hd with rfl | hd
    · simp [PyData.depth]
    · rw [List.mem_singleton.mp hd]; exact this
  simp only [PyData.depth]
  omega
theorem runPrD_bulk {p : Pr} (h : PrOk p) : (runPrD p).bulk ≤ 60 := by
  have := (th_sh h.th).2.2
  unfold runPrD
  have e := bulkAll_le (n := 20) (ds := [.int p.1, thD p.2]) fun d hd => by
    rcases List.mem_cons.mp hd with rfl | hd
    · simp [PyData.bulk]
    · rw [List.mem_singleton.mp hd]; exact this
  simp only [PyData.bulk] at e ⊢
  simp only [List.length_cons, List.length_nil] at e
  omega
def pairsL (l : List Pr) : PyData := .list (l.map runPrD)
theorem pairsL_fine {l : List Pr} (h : ∀ p ∈ l, PrOk p) : fine (pairsL l) = true := fine_list fun d hd => by
  obtain ⟨p, hp, rfl⟩ := List.mem_map.mp hd
  exact runPrD_fine (h p hp)
theorem pairsL_deep {l : List Pr} (h : ∀ p ∈ l, PrOk p) : (pairsL l).depth ≤ 5 := by
  have e : PyData.depthAll (l.map runPrD) ≤ 4 := depthAll_le fun d hd => by
    obtain ⟨p, hp, rfl⟩ := List.mem_map.mp hd
    exact runPrD_deep (h p hp)
  unfold pairsL
  simp only [PyData.depth]
  omega
theorem pairsL_sh {l : List Pr} (h : ∀ p ∈ l, PrOk p) (hl : l.length ≤ 400) : Sh (pairsL l) := by
  refine ⟨pairsL_fine h, Nat.le_trans (pairsL_deep h) (by decide), ?_⟩
  have e := bulkAll_le (n := 60) (ds := l.map runPrD) fun d hd => by
    obtain ⟨p, hp, rfl⟩ := List.mem_map.mp hd
    exact runPrD_bulk (h p hp)
  unfold pairsL
  simp only [PyData.bulk]
  rw [List.length_map] at e
  omega
theorem pairsL_shaped {l : List Pr} (h : ∀ p ∈ l, PrOk p) : SeqAt.shaped (pairsL l) = true := fine_shaped (pairsL_fine h) (Nat.le_trans (pairsL_deep h) (by decide))
theorem eqv_nilL (ds : List PyData) : PyData.eqv (.list ds) (.list []) = ds.isEmpty := by
  cases ds <;> simp [PyData.eqv, PyData.eqvAll]
theorem Im.pairInv {K : PySem.W.Frag} {H : Hp} {v : V} {p : Pr} (h : Im K H v (runPrD p)) : ∃ a w, v = .ref a ∧ Tp K H a [.int p.1, w] ∧ Im K H w (thD p.2) := by
  obtain ⟨a, xs, rfl, h1, h2⟩ := id h.tupInv
  cases h2 with
  | cons z1 z2 =>
  cases z2 with
  | cons z2 z3 =>
  cases z3
  obtain rfl := z1.intInv
  exact ⟨a, _, rfl, h1, z2⟩
theorem joinM_ok {l : List Pr} (h : ∀ p ∈ l, PrOk p) (hB : ∀ p ∈ l, p.1 ≤ 10 ^ 60) (hl : l.length ≤ 400) : (∀ p ∈ joinM l, PrOk p) ∧ (joinM l).length ≤ l.length ∧ tot (joinM l) = tot l := by
  obtain ⟨a, b, c⟩ := fold_ok (n := 8) l [] (fun p hp => ⟨(h p hp).lo, (h p hp).th⟩) (fun p hp => (nomatch hp))
  have hg := join_good l
  have pos : ∀ {m : List Pr}, Gd m → ∀ p ∈ m, 0 ≤ p.1 := by
    intro m
    induction m with
    | nil => intro _ p hp; exact (nomatch hp)
    | cons x m ih =>
      intro g p hp
      rcases List.mem_cons.mp hp with rfl | hp
      · exact Int.le_of_lt g.pos
      · exact ih g.tail p hp
  have t1 : tot (joinR l) = tot l := by
    have : tot ([] : List Pr) = 0 := rfl
    show tot (l.foldl stepR []) = tot l
    omega
  have t2 := tot_le (B := 10 ^ 60) hB
  have t3 : (10 : Int) ^ 60 * (l.length : Nat) ≤ 10 ^ 60 * 400 := Int.mul_le_mul_of_nonneg_left (by omega) (by decide)
  refine ⟨fun p hp => ?_, by unfold joinM; rw [List.length_reverse]; show (l.foldl stepR []).length ≤ _; simpa using c, by
    unfold joinM
    have e : tot (joinR l).reverse = tot (joinR l) := by
      unfold tot
      rw [List.map_reverse, List.sum_reverse]
    rw [e, t1]⟩
  have hp' : p ∈ joinR l := List.mem_reverse.mp hp
  have h1 := mem_le_tot (pos hg) p hp'
  exact ⟨pos hg p hp', by omega, a p hp'⟩
end Y

set_option Elab.async false
set_option linter.all false
set_option maxRecDepth 100000
set_option maxHeartbeats 2000000
set_option exponentiation.threshold 600
/-! P3: a law's own model of a place: a dict of inks, wear, next mark, rows. -/
namespace Y
open PySem PySem.Spec PyProof.Rows L2
structure MdAddr where
  m : Addr
  il : Addr
  rd : Addr
  ls : List Addr
def MF (b : MdAddr) : Addr → Prop := fun y => y = b.m ∨ y = b.il ∨ y = b.rd ∨ y ∈ b.ls
def Mt (b : MdAddr) : Addr → Prop := fun y => y = b.m ∨ y = b.rd
abbrev mdK (b : MdAddr) (s : Pst) : List (Key × V) := [(.inr "inks", .ref b.il), (.inr "wear", .int s.wear), (.inr "next", .int s.next), (.inr "rows", .ref b.rd)]
structure MdAt (K : PySem.W.Frag) (H : Hp) (b : MdAddr) (ks : List Ink) (s : Pst) : Prop where
  dct : H b.m = some (.dK (mdK b s))
  inks : ∃ ys, H b.il = some (.lst ys) ∧ ImAll K H ys (ks.map inkD)
  rd : H b.rd = some (.dK (layK ks b.ls))
  len : b.ls.length = ks.length
  rws : s.rows.length = ks.length
  row : ∀ (i : Nat) (l : Addr) (r : List Lyr), b.ls[i]? = some l → s.rows[i]? = some r → ∃ vs, H l = some (.lst vs) ∧ ImAll K H vs (r.map lyrD)
  iok : InkOk ks
  ok : ∀ r ∈ s.rows, r.length ≤ 1000 ∧ ∀ l ∈ r, LyOk l
section
variable {K : PySem.W.Frag} {H H' : Hp} {b : MdAddr} {ks : List Ink} {s : Pst}
theorem MdAt.up [Tb] {S : Addr → Prop} (h : MdAt K H b ks s) (k : Kp S H H') (n : ∀ y, MF b y → ¬ S y) : MdAt K H' b ks s :=
  ⟨k.all _ _ h.dct (n _ (.inl rfl)), let ⟨ys, h1, h2⟩ := h.inks; ⟨ys, k.all _ _ h1 (n _ (.inr (.inl rfl))), ImAll.up k _ _ h2⟩, k.all _ _ h.rd (n _ (.inr (.inr (.inl rfl)))), h.len, h.rws, fun i l r h1 h2 => by
    obtain ⟨vs, g1, g2⟩ := h.row i l r h1 h2
    exact ⟨vs, k.all _ _ g1 (n _ (.inr (.inr (.inr (List.mem_of_getElem? h1))))), ImAll.up k _ _ g2⟩, h.iok, h.ok⟩
theorem MdAt.up0 [Tb] (h : MdAt K H b ks s) (k : Kp No H H') : MdAt K H' b ks s := h.up k fun _ _ => id
theorem layK_nodup (h : b.ls.length = ks.length) (ok : InkOk ks) : ((layK ks b.ls).map (·.1)).Nodup := by
  rw [layK_keys h]
  exact List.Pairwise.map _ (fun a b h z => h (Sum.inr.inj z)) ok.nd
theorem MdAt.at_ (h : MdAt K H b ks s) {i : Nat} (hi : i < ks.length) : ∃ l r vs, b.ls[i]? = some l ∧ s.rows[i]? = some r ∧ valV (layK ks b.ls) (.inr ks[i].1) = some (.ref l) ∧ H l = some (.lst vs) ∧ ImAll K H vs (r.map lyrD) ∧ r.length ≤ 1000 ∧ (∀ l ∈ r, LyOk l) ∧ vs.length = r.length := by
  have h1 : i < b.ls.length := by rw [h.len]; exact hi
  have h2 : i < s.rows.length := by rw [h.rws]; exact hi
  have e1 := List.getElem?_eq_getElem h1
  have e2 := List.getElem?_eq_getElem h2
  obtain ⟨vs, g1, g2⟩ := h.row i _ _ e1 e2
  have g3 := h.ok _ (List.getElem_mem h2)
  refine ⟨_, _, vs, e1, e2, ?_, g1, g2, g3.1, g3.2, by rw [g2.length, List.length_map]⟩
  refine val_of_mem (layK_nodup h.len h.iok) ?_
  unfold layK
  refine List.mem_map.mpr ⟨(ks[i], b.ls[i]), ?_, rfl⟩
  have hz : i < (ks.zip b.ls).length := by rw [List.length_zip]; omega
  have : (ks.zip b.ls)[i] = (ks[i], b.ls[i]) := List.getElem_zip
  rw [← this]
  exact List.getElem_mem hz
end
theorem val_inks (b : MdAddr) (s : Pst) : valV (mdK b s) (.inr "inks") = some (.ref b.il) := rfl
theorem val_wear (b : MdAddr) (s : Pst) : valV (mdK b s) (.inr "wear") = some (.int s.wear) := rfl
theorem val_next (b : MdAddr) (s : Pst) : valV (mdK b s) (.inr "next") = some (.int s.next) := rfl
theorem val_rows (b : MdAddr) (s : Pst) : valV (mdK b s) (.inr "rows") = some (.ref b.rd) := rfl
theorem put_next (b : MdAddr) (s : Pst) (n : Int) : putK (mdK b s) (.inr "next") (.int n) = mdK b ⟨s.wear, s.rows, n⟩ := rfl
/-- a row's list exchanged -/
theorem put_row {ks : List Ink} {ls : List Addr} (hl : ls.length = ks.length) (ok : InkOk ks) {i : Nat} (hi : i < ks.length) (u : Addr) : putK (layK ks ls) (.inr ks[i].1) (.ref u) = layK ks (ls.set i u) := by
  rw [put_at]
  · unfold layK
    rw [List.map_map]
    refine List.ext_getElem (by simp) fun j h1 h2 => ?_
    have hj : j < ks.length := by
      rw [List.length_map, List.length_zip] at h1
      omega
    rw [List.getElem_map, List.getElem_map, List.getElem_zip, List.getElem_zip, List.getElem_set]
    by_cases e : i = j
    · subst e
      simp
    · have hne : ks[j].1 ≠ ks[i].1 := by
        rcases Nat.lt_or_gt_of_ne e with z | z
        · exact fun q => ok.ne z hj q.symm
        · exact ok.ne z hi
      simp [hne, e]
  · rw [layK_keys hl]
    exact List.mem_map.mpr ⟨_, List.mem_map.mpr ⟨_, List.getElem_mem hi, rfl⟩, rfl⟩
def lyrsL (r : List Lyr) : PyData := .list (r.map lyrD)
theorem lyrD_fine {l : Lyr} (h : LyOk l) : fine (lyrD l) = true := fine_tuple fun d hd => by
  rcases List.mem_cons.mp hd with rfl | hd
  · exact pos_fine h.lo h.hi
  rcases List.mem_cons.mp hd with rfl | hd
  · exact nm_fine h.lay.nm
  · rw [List.mem_singleton.mp hd]; exact pos_fine (Int.le_of_lt h.lay.pos) h.lay.big
theorem lyrs_shaped {r : List Lyr} (h : ∀ l ∈ r, LyOk l) : SeqAt.shaped (lyrsL r) = true := by
  refine fine_shaped (fine_list fun d hd => ?_) ?_
  · obtain ⟨l, hl, rfl⟩ := List.mem_map.mp hd
    exact lyrD_fine (h l hl)
  · have e : PyData.depthAll (r.map lyrD) ≤ 1 := depthAll_le fun d hd => by
      obtain ⟨l, hl, rfl⟩ := List.mem_map.mp hd
      simp [lyrD, PyData.depth, PyData.depthAll]
    show (PyData.list (r.map lyrD)).depth ≤ 50
    simp only [PyData.depth]
    omega
/-- the last of the strongest so far -/
structure TopAt (r : List Lay) (k t : Nat) : Prop where
  lt : t < r.length
  before : k = 0 → t = 0
  under : 0 < k → t < k
  most : ∀ j, j < k → ahead r j t = false
theorem TopAt.take {r : List Lay} {i b : Nat} (tb : TopAt r i b) (hi : i < r.length) (h0 : stg r b ≤ stg r i) : TopAt r (i + 1) i := by
  refine ⟨hi, fun z => by omega, fun _ => by omega, fun j hj => ?_⟩
  by_cases e : j = i
  · rw [e]; exact ahead_irr r i
  · have hb := tb.most j (by omega)
    have hlt : b < i ∨ i = 0 := by
      by_cases z : i = 0
      · exact .inr z
      · exact .inl (tb.under (by omega))
    rw [ahead_no] at hb ⊢
    omega
theorem TopAt.keep {r : List Lay} {i b : Nat} (tb : TopAt r i b) (hi : i < r.length) (h0 : ¬ stg r b ≤ stg r i) : TopAt r (i + 1) b := by
  refine ⟨tb.lt, fun z => by omega, fun _ => ?_, fun j hj => ?_⟩
  · by_cases z : i = 0
    · have := tb.before z
      omega
    · have := tb.under (by omega)
      omega
  · by_cases e : j = i
    · rw [e, ahead_no]
      have hb : b < i ∨ (i = 0 ∧ b = 0) := by
        by_cases z : i = 0
        · exact .inr ⟨z, tb.before z⟩
        · exact .inl (tb.under (by omega))
      rcases hb with hb | ⟨z1, z2⟩
      · omega
      · exfalso
        subst z1 z2
        exact h0 (Int.le_refl _)
    · exact tb.most j (by omega)
theorem TopAt.is {r : List Lay} {b : Nat} (tb : TopAt r r.length b) : topN r = b := topN_uniq tb.lt fun j hj => tb.most j hj
theorem stg_lyr {r : List Lyr} {n : Nat} (h : n < r.length) : stg (layR r) n = r[n].2.2 := by
  rw [stg_at (by rw [layR_len]; exact h)]
  unfold layR
  rw [List.getElem_map]
theorem lyr_at {K : PySem.W.Frag} {H : Hp} {ws : List V} {r : List Lyr} (im : ImAll K H ws (r.map lyrD)) {n : Nat} (h : n < r.length) : ∃ b, ws[n]? = some (.ref b) ∧ Tp K H b [.int r[n].1, .str r[n].2.1, .int r[n].2.2] := by
  obtain ⟨wv, g1, g2⟩ := im.at_ (i := n) (d := lyrD r[n]) (by rw [List.getElem?_map, List.getElem?_eq_getElem h]; rfl)
  obtain ⟨b, rfl, tb⟩ := g2.lyrInv
  exact ⟨b, g1, tb⟩
theorem ink_at {K : PySem.W.Frag} {H : Hp} {ys : List V} {ks : List Ink} (im : ImAll K H ys (ks.map inkD)) {n : Nat} (h : n < ks.length) : ∃ b, ys[n]? = some (.ref b) ∧ Tp K H b [.str ks[n].1, .int ks[n].2] := by
  obtain ⟨wv, g1, g2⟩ := im.at_ (i := n) (d := inkD ks[n]) (by rw [List.getElem?_map, List.getElem?_eq_getElem h]; rfl)
  obtain ⟨b, rfl, tb⟩ := g2.inkInv
  exact ⟨b, g1, tb⟩
theorem topTo_succ {rows : List (List Lyr)} {i : Nat} {r : List Lyr} (h : rows[i]? = some r) : topTo rows (i + 1) = topStep (topTo rows i) i r := by
  show (match rows[i]? with | some r => topStep (topTo rows i) i r | none => topTo rows i) = _
  rw [h]
end Y
namespace Y
open PySem PySem.Spec PyProof.Rows L2
theorem ints_sh {l : List Int} (h : ∀ i ∈ l, 0 ≤ i ∧ i < 10 ^ 400) (hl : l.length ≤ 1000) : Sh (intsL l) := by
  refine ⟨intsL_fine fun i hi => by have := h i hi; omega, Nat.le_trans (intsL_deep l) (by decide), ?_⟩
  have e := bulkAll_le (n := 1) (ds := l.map PyData.int) fun d hd => by
    obtain ⟨i, _, rfl⟩ := List.mem_map.mp hd
    simp [PyData.bulk]
  rw [List.length_map] at e
  unfold intsL
  simp only [PyData.bulk]
  omega
def seenMD (rows : List (List Lyr)) : PyData := match topOf rows with
  | none => .none
  | some (i, n) => .int ((rows.getD i []).getD n (0, default, 0)).1
theorem seenM_im {K : PySem.W.Frag} {H : Hp} (rows : List (List Lyr)) : Im K H (seenM rows) (seenMD rows) := by
  unfold seenM seenMD
  cases topOf rows with
  | none => exact .non
  | some p => exact .int _
def finD (w : Int) (ks : List Ink) (rows : List (List Lyr)) : PyData := .list [.int w, seenD ks rows, seenMD rows]
theorem fin_sh {w : Int} {ks : List Ink} {rows : List (List Lyr)} (h0 : 0 ≤ w) (h6 : w ≤ 6) (ok : InkOk ks) (hr : rows.length = ks.length) (hok : ∀ r ∈ rows, r.length ≤ 1000 ∧ ∀ l ∈ r, LyOk l) : Sh (finD w ks rows) := by
  have w1 : fine (.int w) = true := pos_fine h0 (by omega)
  unfold finD seenD seenMD
  cases ht : topOf rows with
  | none => exact ⟨fine_list fun d hd => by
      rcases List.mem_cons.mp hd with rfl | hd
      · exact w1
      rcases List.mem_cons.mp hd with rfl | hd
      · rfl
      · rw [List.mem_singleton.mp hd]; rfl, by simp [PyData.depth, PyData.depthAll], by simp [PyData.bulk, PyData.bulkAll]⟩
  | some p =>
    obtain ⟨i, n⟩ := p
    obtain ⟨r, h1, h2, h3⟩ := topTo_in _ _ _ _ ht
    have hi : i < ks.length := by rw [← hr]; exact h3
    have e1 : (ks.getD i (default, 0)).1 = ks[i].1 := by rw [List.getD_eq_getElem?_getD, List.getElem?_eq_getElem hi]; rfl
    have e2 : (rows.getD i []).getD n (0, default, 0) = r[n] := by
      rw [List.getD_eq_getElem?_getD (l := rows), h1]
      show r.getD n (0, default, 0) = r[n]
      rw [List.getD_eq_getElem?_getD, List.getElem?_eq_getElem h2]
      rfl
    have lo := (hok r (List.mem_of_getElem? h1)).2 r[n] (List.getElem_mem h2)
    have nm := (ok.nm _ (List.getElem_mem hi)).1
    show Sh (.list [.int w, .tuple [.str (ks.getD i (default, 0)).1, .str ((rows.getD i []).getD n (0, default, 0)).2.1, .int ((rows.getD i []).getD n (0, default, 0)).2.2], .int ((rows.getD i []).getD n (0, default, 0)).1])
    rw [e1, e2]
    refine ⟨fine_list fun d hd => ?_, by simp [PyData.depth, PyData.depthAll], ?_⟩
    · rcases List.mem_cons.mp hd with rfl | hd
      · exact w1
      rcases List.mem_cons.mp hd with rfl | hd
      · refine fine_tuple fun d hd => ?_
        rcases List.mem_cons.mp hd with rfl | hd
        · exact nm_fine nm
        rcases List.mem_cons.mp hd with rfl | hd
        · exact nm_fine lo.lay.nm
        · rw [List.mem_singleton.mp hd]; exact pos_fine (Int.le_of_lt lo.lay.pos) lo.lay.big
      · rw [List.mem_singleton.mp hd]; exact pos_fine lo.lo lo.hi
    · have a1 := nm.eight
      have a2 := lo.lay.nm.eight
      have b1 : ks[i].1.cps.size = ks[i].1.length := rfl
      have b2 : r[n].2.1.cps.size = r[n].2.1.length := rfl
      simp [PyData.bulk, PyData.bulkAll]
      omega
end Y

set_option Elab.async false
set_option linter.all false
set_option maxRecDepth 100000
set_option maxHeartbeats 2000000
set_option exponentiation.threshold 600
/-! C2: own ==, isinstance of an own class. -/
namespace Y
open PySem PySem.Spec PyProof.Rows L2
/-- what isinstance asks of an own class -/
structure IsC (K : PySem.W.Frag) (C : Addr) : Prop where
  ha : PySem.W.findIn K (.ref C) "__class__" = some (some (.builtin "object.__class__"))
  hn : PySem.W.specialIn K (.builtin "object.__class__") "__get__" = some (some (.builtin "getset_descriptor.__get__"))
  htk : PySem.W.takesIn K (.builtin "object.__class__") = some true
  hm : PySem.W.mroIn K C (.type "object") = some true
  kit : PySem.W.kitOne K (.ref C) (.ref C) = some true
def isCB (K : PySem.W.Frag) (C : Addr) : Bool := He.eqO (PySem.W.findIn K (.ref C) "__class__") (some (some (.builtin "object.__class__"))) && (He.eqO (PySem.W.specialIn K (.builtin "object.__class__") "__get__") (some (some (.builtin "getset_descriptor.__get__"))) && (decide (PySem.W.takesIn K (.builtin "object.__class__") = some true) && (decide (PySem.W.mroIn K C (.type "object") = some true) && decide (PySem.W.kitOne K (.ref C) (.ref C) = some true))))
theorem isC_ok {K : PySem.W.Frag} {C : Addr} (h : isCB K C = true) : IsC K C := by
  obtain ⟨h1, h⟩ := He.ba h
  obtain ⟨h2, h⟩ := He.ba h
  obtain ⟨h3, h⟩ := He.ba h
  obtain ⟨h4, h5⟩ := He.ba h
  exact ⟨He.eqO_ok h1, He.eqO_ok h2, of_decide_eq_true h3, of_decide_eq_true h4, of_decide_eq_true h5⟩
section
variable {X : Cx} {K : PySem.W.Frag} {C : Addr} {x : Str} {pos : Pos}
theorem ye_cls (hm : X.mg x = some (.ref C)) (hg : Gl X x) (hd : (x == ("__debug__" : Str)) = false := by decide) : PE X (.Name x pos) (tC (.ref C)) := pe_glob hg hm rfl hd
/-- isinstance(x, C), x an instance of C -/
def yIsC (C : Addr) : List V → Hp → VK → Prop := fun xs H Q => match xs with
  | [.ref a, .ref C'] => C' = C ∧ ∃ dx fs, H a = some (.ins C dx fs) ∧ Q (.bl true) H
  | _ => False
/-- a == b by C's own __eq__ -/
def yEqI (C : Addr) (sp : Sp) : R2 := fun x y H Q => match x, y with
  | .ref a, .ref b => ∃ dx fs dy gs, H a = some (.ins C dx fs) ∧ H b = some (.ins C dy gs) ∧ sp [.ref a, .ref b] H (fun v H' => ∃ r, v = .bl r ∧ Q (.bl r) H') E0
  | _, _ => False
theorem kEqI {k j : Nat} {sp : Sp} (c : CalM X.prog X.w X.K X.mg X.base k C "__eq__" sp) (room : Room j X.A) (gd : X.A.guards = some []) (hk : k ≤ j := by decide) : OpR X (compareOp .Eq) (yEqI C sp) := by
  intro pins s σ H x y v u Q I rx ry h
  unfold yEqI at h
  split at h
  · rename_i a b
    obtain ⟨dx, fs, dy, gs, ha, hb, hsp⟩ := h
    obtain ⟨f, fd, ps, F, cl, hm, bn⟩ := c
    cases rx
    cases ry
    obtain ⟨mA, J, _⟩ := ins_get I.hok ha
    obtain ⟨mB, J', _⟩ := ins_get I.hok hb
    obtain ⟨od, J, _⟩ := J.look
    obtain ⟨od', J', _⟩ := J'.look
    obtain ⟨m, hF⟩ := I.fr
    show wpAny (model X.prog X.w) X.A (richCompare .Eq (.ref a) (.ref b)) (EP X pins σ Q) X.xe s
    refine PySem.W.cmp_K (op := .Eq) (tb := .ref C) room.units0 hF I.ok.mod.kin J J'.type (by simp [PySem.W.notFirst]) hm.at_ hm.fn ?_
    have run := goes_fn (us := [.ref a, .ref b]) (vs := [.ref a, .ref b]) (F.up hk) room gd bn .nil pass0 I (.cons rfl (.cons rfl .nil)) hsp
    refine wpAny_mono run ?_ fun _ _ z => z
    rintro w s' ⟨z, H', I', rz, r, rfl, q⟩
    cases rz
    exact ⟨.bl r, H', I', rfl, q⟩
  · exact h.elim
theorem kIsC (i : IsC K C) (cl : Cls K C) (h0 : X.K = K) : CallR X (.builtin "isinstance") (yIsC C) := by
  subst h0
  exact CallR.imp call_isi fun xs H Q h => by
    unfold yIsC at h
    split at h
    · obtain ⟨rfl, dx, fs, h1, h2⟩ := h
      exact ⟨_, _, .ref _, .ref _, true, rfl, .own _, .base (.ins h1 cl i.ha i.hn i.htk i.hm), i.kit, h2⟩
    · exact h.elim
end
theorem eqv_ink (a b : Ink) : PyData.eqv (inkD a) (inkD b) = decide (a = b) := eqv_lay a b
theorem eqv_inks (a b : List Ink) : PyData.eqv (.list (a.map inkD)) (.list (b.map inkD)) = decide (a = b) := eqv_laysL a b
theorem inks_fine {ks : List Ink} (ok : InkOk ks) : fine (.list (ks.map inkD)) = true := fine_list fun d hd => by
  obtain ⟨p, hp, rfl⟩ := List.mem_map.mp hd
  have := ok.nm p hp
  refine fine_tuple fun d hd => ?_
  rcases List.mem_cons.mp hd with rfl | hd
  · exact nm_fine this.1
  · rw [List.mem_singleton.mp hd]; exact pos_fine this.2.1 this.2.2
theorem inks_shaped {ks : List Ink} (ok : InkOk ks) : SeqAt.shaped (.list (ks.map inkD)) = true := fine_shaped (inks_fine ok) (Nat.le_trans (laysL_deep ks) (by decide))
end Y

set_option Elab.async false
set_option linter.all false
set_option maxRecDepth 100000
set_option maxHeartbeats 2000000
set_option exponentiation.threshold 600
/-! P4: a place and a law's model of it side by side. -/
namespace Y
open PySem PySem.Spec PyProof.Rows L2
section
variable [Tb] {K : PySem.W.Frag} {CPalette CPlace : Addr}
theorem Kp.dropS {S : Addr → Prop} {H H1 H2 : Hp} (a : Kp No H H1) (hS : ∀ b, S b → H b = none) (b : Kp S H1 H2) : Kp No H H2 :=
  ⟨fun c o e n nt => b.all c o (a.all c o e n nt) (fun z => by rw [hS c z] at e; cases e) nt, fun c xs e => b.tup c xs (a.tup c xs e), fun c e => a.dom c (b.dom c e), fun t => b.tab (a.tab t)⟩
theorem PlAt.has {H : Hp} {a : PlAddr} {ks : List Ink} {s : Pst} (h : PlAt K CPalette CPlace H a ks s) {y : Addr} (hy : Ft a y) : H y ≠ none := by
  rcases hy with z | z | z
  · rw [z, h.ins]; intro e; cases e
  · rw [z, h.dct]; intro e; cases e
  · obtain ⟨i, hi, rfl⟩ := List.mem_iff_getElem.mp z
    obtain ⟨vs, g1, _⟩ := h.row i _ _ (List.getElem?_eq_getElem hi) (List.getElem?_eq_getElem (show i < s.rows.length by rw [h.rws, ← h.len]; exact hi))
    rw [g1]; intro e; cases e
theorem new_pl {H : Hp} {C x dx : Addr} (hx : H x = none) (hd : H dx = none) (n : dx ≠ x) : Kp No H (fresh2 H C x dx) := (Kp.new hd).trans (Kp.new (by rw [upd_ne n.symm]; exact hx))
/-- a place and its model stand side by side, apart from one another -/
structure Both (K : PySem.W.Frag) (CPalette CPlace : Addr) (H : Hp) (a : PlAddr) (b : MdAddr) (ks : List Ink) (s : Pst) : Prop where
  pl : PlAt K CPalette CPlace H a ks s
  md : MdAt K H b ks s
  dj : ∀ y, MF b y → ¬ Ft a y
  np : ¬ Mt b a.pl ∧ ¬ Mt b a.pd
theorem Both.up0 {H H' : Hp} {a : PlAddr} {b : MdAddr} {ks : List Ink} {s : Pst} (h : Both K CPalette CPlace H a b ks s) (k : Kp No H H') : Both K CPalette CPlace H' a b ks s := ⟨h.pl.up0 k, h.md.up0 k, h.dj, h.np⟩
theorem Both.up {H H' : Hp} {a : PlAddr} {b : MdAddr} {ks : List Ink} {s : Pst} {S : Addr → Prop} (h : Both K CPalette CPlace H a b ks s) (k : Kp S H H') (n : ∀ y, S y → H y = none ∨ (¬ Ft a y ∧ ¬ MF b y ∧ y ≠ a.pl ∧ y ≠ a.pd)) : Both K CPalette CPlace H' a b ks s := by
  have ml : ∀ y, MF b y → H y ≠ none := by
    rintro y (z | z | z | z)
    · rw [z, h.md.dct]; intro e; cases e
    · obtain ⟨ys, g, _⟩ := h.md.inks
      rw [z, g]; intro e; cases e
    · rw [z, h.md.rd]; intro e; cases e
    · obtain ⟨i, hi, rfl⟩ := List.mem_iff_getElem.mp z
      obtain ⟨vs, g1, _⟩ := h.md.row i _ _ (List.getElem?_eq_getElem hi) (List.getElem?_eq_getElem (show i < s.rows.length by rw [h.md.rws, ← h.md.len]; exact hi))
      rw [g1]; intro e; cases e
  refine ⟨h.pl.up k (fun z => ?_) (fun z => ?_) (fun y hy z => ?_), h.md.up k fun y hy z => ?_, h.dj, h.np⟩
  · rcases n _ z with e | ⟨_, _, e, _⟩
    · rw [h.pl.pal.ins] at e; cases e
    · exact e rfl
  · rcases n _ z with e | ⟨_, _, _, e⟩
    · rw [h.pl.pal.dct] at e; cases e
    · exact e rfl
  · rcases n _ z with e | ⟨e, _⟩
    · exact h.pl.has hy e
    · exact e hy
  · rcases n _ z with e | ⟨_, e, _⟩
    · exact ml y hy e
    · exact e hy
end
end Y

set_option Elab.async false
set_option linter.all false
set_option maxRecDepth 100000
set_option maxHeartbeats 2000000
set_option exponentiation.threshold 600
/-! U1: a, *b = a tuple. -/
namespace Y
open PySem PySem.Spec PyProof.Rows L2
theorem star_items {prog : Program} {w : World} {A : Around} {E : Value → Shared → Prop} {s : Shared} {t : Addr} {items : Array Value} {Q : List Value → Shared → Prop} (hh : A.handled = none) (ht : IsTup s.heap t items) (h1 : 1 ≤ items.size) (hz : items.size ≤ 16384)
    (hQ : ∀ h' tk, Heap.ExtBut s.heap.objs.size s.heap h' → wpAny (model prog w) A (newList (items.toList.drop 1) >>= fun d => pure (items.toList.take 1 ++ [d] ++ ([] : List Value))) Q E { s with heap := h', toks := tk }) :
    wpAny (model prog w) A (unpackItems (.ref t) 2 (some 1)) Q E s := by
  have hlt : t ≠ s.heap.objs.size := by
    obtain ⟨o, ho, _⟩ := ht
    exact Nat.ne_of_lt (Heap.lt_size ho)
  unfold unpackItems
  refine wpAny_bind ?_
  unfold notIterableAtAll
  refine wpAny_bind (wpAny_specialOf ht.typeIs slot_tuple_iter.lookup (wpAny_pure ?_))
  simp only [Bool.false_eq_true, if_false]
  refine wpAny_bind (wpAny_holding (iter_tuple ht ?_))
  refine wpAny_bind (wpAny_holding (draw_tuple hlt 1 0 _ _ ⟨_, Heap.get?_push_size _ rfl, rfl, rfl⟩ (ht.push _) (by omega) ?_))
  intro ha ia sa
  have ta : IsTup ha t items := (ht.push _).extBut sa.extBut hlt
  rw [Nat.zero_add] at ia
  obtain ⟨oi, hoi, _⟩ := id ia
  obtain ⟨ol, hol, _⟩ := id ta
  rw [List.drop_zero]
  have fl : (items.toList.take 1).length = 1 := by rw [List.length_take, Array.length_toList]; omega
  rw [if_neg (show ¬ (items.toList.take 1).length < 1 by omega)]
  refine wpAny_bind (wpAny_holding (PySem.W.kun_collect (s := { s with heap := ha }) (T := "tuple_iterator") (.inr (.inr (.inr rfl))) (Walks.tuple (A := A.in1) hh s.heap.objs.size t hlt items) (fun j u st => st.1.typeIs) (k := 1) h1 ⟨ia, ta⟩ (Heap.lt_size hoi) (Heap.lt_size hol) ?_ (by rw [sizeLine_eq]; omega)))
  intro hb tk kb
  have rl : (items.toList.drop 1).length = items.size - 1 := by rw [List.length_drop, Array.length_toList]
  show wpAny _ _ (if (items.toList.drop 1).length < 0 then _ else _) _ _ _
  rw [if_neg (by omega)]
  have e1 : (items.toList.drop 1).take ((items.toList.drop 1).length - 0) = items.toList.drop 1 := List.take_of_length_le (by omega)
  have e2 : (items.toList.drop 1).drop ((items.toList.drop 1).length - 0) = [] := List.drop_of_length_le (by omega)
  show wpAny _ _ (newList ((items.toList.drop 1).take ((items.toList.drop 1).length - 0)) >>= fun d => pure (items.toList.take 1 ++ [d] ++ (items.toList.drop 1).drop ((items.toList.drop 1).length - 0))) _ _ _
  rw [e1, e2]
  exact hQ hb tk fun b o nb e => kb b o nb (sa.extBut b o nb (Heap.get?_push_of_some _ e))
section
variable {X : Cx} {K : PySem.W.Frag}
def yStarG (K : PySem.W.Frag) (t : TGs) : TG := fun v σ H Q => match v with
  | .ref a => ∃ x xs, SqT K H a (x :: xs) ∧ xs.length ≤ 1000 ∧ ∀ D, H D = none → t [x, .ref D] σ (upd H D (.lst xs)) Q
  | _ => False
theorem kgStar {e1 e2 : Expr} {p3 pos : Pos} {k : Nat} {t : TGs} (h0 : X.K = K) (hc : X.calm = true) (h : PGs X [e1, e2] t)
    (hn : (assignEach [e1, .Starred e2 p3] X.env).length = 2 := by rfl) (hst : (assignEach [e1, .Starred e2 p3] X.env).findIdx? (·.1) = some 1 := by rfl)
    (hm : (assignEach [e1, .Starred e2 p3] X.env).map (·.2) = (assignEach [e1, e2] X.env).map (·.2) := by rfl) : PG X (.Tuple [e1, .Starred e2 p3] k pos) (yStarG K t) := by
  subst h0
  constructor
  intro pins s σ H v u Q I r hw
  cases v with
  | ref a =>
    obtain ⟨x, xs, hq, hl, hw⟩ := hw
    cases r
    obtain ⟨its, rv, ht, hz⟩ := I.tuple hq
    have el := rv.length
    rw [List.length_cons] at el
    rw [assign_Tuple]
    refine wpAny_bind (wpAny_standAt ?_)
    unfold unpack
    rw [hn, hst, hm]
    refine wpAny_bind (wpAny_holding (star_items (I.ok.hd hc) ht (by simp; omega) (by simp; omega) fun h' tk he => ?_))
    have I1 : Inv X pins σ H { s with heap := h', toks := tk } := I.kept (t' := tk) fun b o e => he b o (Nat.ne_of_lt (Heap.lt_size e)) e
    have rv2 := rv
    cases rv2 with
    | cons r1 r2 =>
    rename_i v0 vs
    show wpAny _ _ (newList (vs) >>= fun d => pure ([v0] ++ [d] ++ [])) _ _ _
    have z1 : xs.length ≤ sizeLine := Nat.le_trans hl (by decide)
    refine wpAny_bind (wpAny_newObj_type (wpAny_pure ?_) (by show vs.toArray.size ≤ sizeLine; rw [List.size_toArray, ← r2.length]; exact z1))
    have I2 : Inv X pins σ (upd H h'.objs.size (.lst xs)) { s with heap := h'.push { cls := .type "list", data := .seq vs.toArray }, toks := tk } := I1.laid (a := h'.objs.size) (t' := tk) (fun b u e => Heap.get?_push_of_some _ e) (Nat.le_refl _) ⟨z1, vs, 0, r2, Heap.get?_push_size _ rfl⟩
    exact h.run pins _ σ _ [x, .ref h'.objs.size] [v0, .ref h'.objs.size] Q I2 (.cons r1 (.cons rfl .nil)) (hw _ (I1.hok.fresh (Nat.le_refl _)))
  | _ => exact hw.elim
end
end Y

set_option Elab.async false
set_option linter.all false
set_option maxRecDepth 100000
set_option maxHeartbeats 2000000
set_option exponentiation.threshold 600
/-! P5: places that become weaker. -/
namespace Y
open PySem PySem.Spec PyProof.Rows L2
def weakR (r : List Lyr) (n : Int) : List Lyr := r.filterMap fun l => if decide (n < l.2.2) = true then some (l.1, (l.2.1, l.2.2 - n)) else none
theorem weakR_mem {r : List Lyr} {n : Int} {q : Lyr} (h : q ∈ weakR r n) : ∃ l ∈ r, n < l.2.2 ∧ q = (l.1, (l.2.1, l.2.2 - n)) := by
  obtain ⟨l, hl, e⟩ := List.mem_filterMap.mp h
  by_cases c : n < l.2.2
  · rw [if_pos (decide_eq_true c)] at e
    exact ⟨l, hl, c, (Option.some.inj e).symm⟩
  · rw [if_neg (by simpa using c)] at e
    cases e
theorem weakR_len (r : List Lyr) (n : Int) : (weakR r n).length ≤ r.length := List.length_filterMap_le _ _
def weakS (s : Pst) (i : Nat) (n : Int) : Pst := ⟨s.wear, s.rows.set i (weakR (s.rows.getD i []) n), s.next⟩
theorem weakR_ok {r : List Lyr} {n : Int} (h : ∀ l ∈ r, LyOk l) (hb : ∀ l ∈ r, l.2.2 - n < 10 ^ 400) : ∀ l ∈ weakR r n, LyOk l := fun q hq => by
  obtain ⟨l, hl, c, rfl⟩ := weakR_mem hq
  have := h l hl
  exact ⟨⟨this.lay.nm, by show 0 < l.2.2 - n; omega, hb l hl⟩, this.lo, this.hi⟩
section
variable [Tb] {K : PySem.W.Frag} {CP CL : Addr} {H : Hp} {a : PlAddr} {ks : List Ink} {s : Pst}
/-- an ink's row exchanged for a new list -/
theorem PlAt.swapped (h : PlAt K CP CL H a ks s) {i : Nat} (hi : i < ks.length) {D : Addr} {H1 : Hp} {vs : List V} {r' : List Lyr} (hD : H D = none) (k1 : Kp No H H1) (h1 : H1 D = some (.lst vs)) (im : ImAll K H1 vs (r'.map lyrD)) (hl : r'.length ≤ 1000) (ok : ∀ l ∈ r', LyOk l) :
    PlAt K CP CL (upd H1 a.d (.dK (layK ks (a.ls.set i D)))) ⟨a.x, a.dx, a.d, a.pl, a.pdx, a.pd, a.ls.set i D⟩ ks ⟨s.wear, s.rows.set i r', s.next⟩ ∧ Kp (At a.d) H (upd H1 a.d (.dK (layK ks (a.ls.set i D)))) := by
  have hb := h.up0 k1
  have k2 : Kp (At a.d) H1 (upd H1 a.d (.dK (layK ks (a.ls.set i D)))) := Kp.set rfl hb.dct
  have kk : Kp (At a.d) H _ := k1.no.trans k2
  have nDd : D ≠ a.d := fun e => by rw [e, h.dct] at hD; cases hD
  have nDx : D ≠ a.x := fun e => by rw [e, h.ins] at hD; cases hD
  have nls : D ∉ a.ls := fun hm => by
    obtain ⟨j, hj, e⟩ := List.mem_iff_getElem.mp hm
    obtain ⟨ws, g1, _⟩ := h.row j _ _ (List.getElem?_eq_getElem hj) (List.getElem?_eq_getElem (show j < s.rows.length by rw [h.rws, ← h.len]; exact hj))
    rw [e, hD] at g1; cases g1
  refine ⟨⟨hb.pal.up k2 (fun z => (h.out a.d (.inr (.inl rfl))).1 z.symm) (fun z => (h.out a.d (.inr (.inl rfl))).2 z.symm), k2.all a.x _ hb.ins h.ne_xd, upd_same, by show (a.ls.set i D).length = _; rw [List.length_set]; exact h.len, by show (s.rows.set i r').length = _; rw [List.length_set]; exact h.rws, fun j l r h2 h3 => ?_, ?_, fun r hr => ?_, fun b hb2 => ?_⟩, kk⟩
  · have h2 : (a.ls.set i D)[j]? = some l := h2
    have h3 : (s.rows.set i r')[j]? = some r := h3
    by_cases e : i = j
    · subst e
      rw [List.getElem?_set_self (by rw [h.len]; exact hi)] at h2
      rw [List.getElem?_set_self (by rw [h.rws]; exact hi)] at h3
      obtain rfl := Option.some.inj h2
      obtain rfl := Option.some.inj h3
      exact ⟨vs, k2.all D _ h1 nDd, ImAll.up k2 _ _ im⟩
    · rw [List.getElem?_set_ne e] at h2 h3
      obtain ⟨ws, g1, g2⟩ := hb.row j l r h2 h3
      exact ⟨ws, k2.all l _ g1 (h.ne_l (List.mem_of_getElem? h2)).2, ImAll.up k2 _ _ g2⟩
  · show (a.ls.set i D).Nodup
    rw [List.nodup_iff_pairwise_ne, List.pairwise_iff_getElem]
    intro p q hp hq hpq
    have hp' : p < a.ls.length := by rw [List.length_set] at hp; exact hp
    have hq' : q < a.ls.length := by rw [List.length_set] at hq; exact hq
    rw [List.getElem_set, List.getElem_set]
    by_cases e1 : i = p
    · rw [if_pos e1, if_neg (by omega)]
      exact fun e => nls (e ▸ List.getElem_mem hq')
    · rw [if_neg e1]
      by_cases e2 : i = q
      · rw [if_pos e2]
        exact fun e => nls (e ▸ List.getElem_mem hp')
      · rw [if_neg e2]
        exact List.pairwise_iff_getElem.mp (List.nodup_iff_pairwise_ne.mp h.nd) p q hp' hq' hpq
  · have hr : r ∈ s.rows.set i r' := hr
    rcases List.mem_or_eq_of_mem_set hr with z | z
    · exact h.ok r z
    · rw [z]; exact ⟨hl, ok⟩
  · rcases hb2 with z | z | z
    · exact h.out b (.inl z)
    · exact h.out b (.inr (.inl z))
    · have z : b ∈ a.ls.set i D := z
      rcases List.mem_or_eq_of_mem_set z with z | z
      · exact h.out b (.inr (.inr z))
      · rw [z]
        exact ⟨fun e => (by rw [e, h.pal.ins] at hD; cases hD), fun e => (by rw [e, h.pal.dct] at hD; cases hD)⟩
end
/-- a place with other lists for its rows -/
abbrev PlAddr.at_ (a : PlAddr) (ls : List Addr) : PlAddr := ⟨a.x, a.dx, a.d, a.pl, a.pdx, a.pd, ls⟩
/-- all inks weaker, each by t times its fade, the first i of them -/
def waitTo (ks : List Ink) (t : Int) (s : Pst) : Nat → Pst
  | 0 => s
  | i + 1 => weakS (waitTo ks t s i) i (t * (ks.getD i (default, 0)).2)
end Y
namespace Y
open PySem PySem.Spec PyProof.Rows L2
section
variable [Tb] {K : PySem.W.Frag} {H : Hp} {b : MdAddr} {ks : List Ink} {s : Pst}
/-- a model with other lists for its rows -/
abbrev MdAddr.at_ (b : MdAddr) (ls : List Addr) : MdAddr := ⟨b.m, b.il, b.rd, ls⟩
theorem MdAt.apart (h : MdAt K H b ks s) : b.m ≠ b.rd := by
  refine ne_of h.dct h.rd fun z => ?_
  have z2 := HO.dK.inj z
  unfold layK at z2
  cases hk : ks.zip b.ls with
  | nil => rw [hk] at z2; cases z2
  | cons p ps =>
    rw [hk] at z2
    have z4 := congrArg (fun l : List (Key × V) => (l[1]?).map (·.2)) z2
    cases ps with
    | nil => cases z4
    | cons p2 ps => cases z4
/-- an ink's row exchanged for a new list -/
theorem MdAt.swapped (h : MdAt K H b ks s) {i : Nat} (hi : i < ks.length) {D : Addr} {H1 : Hp} {vs : List V} {r' : List Lyr} (k1 : Kp No H H1) (h1 : H1 D = some (.lst vs)) (im : ImAll K H1 vs (r'.map lyrD)) (hl : r'.length ≤ 1000) (ok : ∀ l ∈ r', LyOk l) :
    MdAt K (upd H1 b.rd (.dK (layK ks (b.ls.set i D)))) (b.at_ (b.ls.set i D)) ks ⟨s.wear, s.rows.set i r', s.next⟩ ∧ Kp (At b.rd) H (upd H1 b.rd (.dK (layK ks (b.ls.set i D)))) := by
  have hb := h.up0 k1
  have k2 : Kp (At b.rd) H1 (upd H1 b.rd (.dK (layK ks (b.ls.set i D)))) := Kp.set rfl hb.rd
  have nl : ∀ l, (∃ ws, H1 l = some (.lst ws)) → l ≠ b.rd := by
    rintro l ⟨ws, e⟩ z
    rw [z, hb.rd] at e
    cases e
  obtain ⟨ys, g1, g2⟩ := hb.inks
  refine ⟨⟨k2.all b.m _ hb.dct h.apart, ⟨ys, k2.all b.il _ g1 (nl _ ⟨_, g1⟩), ImAll.up k2 _ _ g2⟩, upd_same, by show (b.ls.set i D).length = _; rw [List.length_set]; exact h.len, by show (s.rows.set i r').length = _; rw [List.length_set]; exact h.rws, fun j l r h2 h3 => ?_, h.iok, fun r hr => ?_⟩, k1.no.trans k2⟩
  · have h2 : (b.ls.set i D)[j]? = some l := h2
    have h3 : (s.rows.set i r')[j]? = some r := h3
    by_cases e : i = j
    · subst e
      rw [List.getElem?_set_self (by rw [h.len]; exact hi)] at h2
      rw [List.getElem?_set_self (by rw [h.rws]; exact hi)] at h3
      obtain rfl := Option.some.inj h2
      obtain rfl := Option.some.inj h3
      exact ⟨vs, k2.all D _ h1 (nl _ ⟨_, h1⟩), ImAll.up k2 _ _ im⟩
    · rw [List.getElem?_set_ne e] at h2 h3
      obtain ⟨ws, g1, g2⟩ := hb.row j l r h2 h3
      exact ⟨ws, k2.all l _ g1 (nl _ ⟨_, g1⟩), ImAll.up k2 _ _ g2⟩
  · have hr : r ∈ s.rows.set i r' := hr
    rcases List.mem_or_eq_of_mem_set hr with z | z
    · exact h.ok r z
    · rw [z]; exact ⟨hl, ok⟩
end
theorem weakR_snoc (r : List Lyr) (l : Lyr) (n : Int) : weakR (r ++ [l]) n = weakR r n ++ (if decide (n < l.2.2) = true then [(l.1, (l.2.1, l.2.2 - n))] else []) := by
  unfold weakR
  rw [List.filterMap_append]
  congr 1
  by_cases c : n < l.2.2
  · simp [c]
  · simp [c]
end Y

set_option Elab.async false
set_option linter.all false
set_option maxRecDepth 100000
set_option maxHeartbeats 2000000
set_option exponentiation.threshold 600
/-! U2: the tables of deeds: sizes by words, words with inks; deeds as data. -/
namespace Y
open PySem PySem.Spec PyProof.Rows L2
def sizesL : List (Str × Int) := [("lay", 4), ("wait", 2), ("wash", 3), ("warm", 3), ("scrape", 1), ("rub", 2)]
structure Wt (K : PySem.W.Frag) (w : World) (mg : Str → Option Value) (aS aI : Addr) : Prop where
  mgS : mg "SIZES" = some (.ref aS)
  mgI : mg "WITH_INK" = some (.ref aI)
  dct : ∃ es n, KDict K w aS es n
  vals : ∀ q ∈ sizesL, ∃ u, PySem.W.nsIn K aS q.1 = some (some u) ∧ RelV (.int q.2) u
  ink : ∀ H, SqT K H aI [.str "lay", .str "wash", .str "warm"]
def strOf : Value → Option Str
  | .str z _ => some z
  | _ => none
def tupB (K : PySem.W.Frag) (a : Addr) (xs : List Str) : Bool := match K.lookup a with
  | some o => (match o.data with
    | .seq its _ => decide (o.cls = .type "tuple") && (decide (its.size ≤ sizeLine) && decide (its.toList.map strOf = xs.map some))
    | _ => false)
  | none => false
theorem tup_vals : ∀ {its : List Value} {xs : List Str}, its.map strOf = xs.map some → Vals (xs.map V.str) its
  | [], [], _ => .nil
  | [], _ :: _, h => by cases h
  | _ :: _, [], h => by cases h
  | v :: its, x :: xs, h => by
    injection h with h1 h2
    refine .cons ?_ (tup_vals h2)
    unfold strOf at h1
    split at h1
    · rename_i z t
      obtain rfl := Option.some.inj h1
      exact ⟨t, rfl⟩
    · cases h1
theorem tupB_ok {K : PySem.W.Frag} {a : Addr} {xs : List Str} (h : tupB K a xs = true) (H : Hp) : SqT K H a (xs.map V.str) := by
  unfold tupB at h
  cases e : K.lookup a with
  | none => rw [e] at h; cases h
  | some o =>
    rw [e] at h
    cases d : o.data with
    | seq its n =>
      have h : (match o.data with
        | .seq its _ => decide (o.cls = .type "tuple") && (decide (its.size ≤ sizeLine) && decide (its.toList.map strOf = xs.map some))
        | _ => false) = true := h
      rw [d] at h
      obtain ⟨h1, h⟩ := He.ba h
      obtain ⟨h2, h3⟩ := He.ba h
      exact .inr ⟨o, its, n, e, of_decide_eq_true h1, d, of_decide_eq_true h2, tup_vals (of_decide_eq_true h3)⟩
    | _ =>
      have h : (match o.data with
        | .seq its _ => decide (o.cls = .type "tuple") && (decide (its.size ≤ sizeLine) && decide (its.toList.map strOf = xs.map some))
        | _ => false) = true := h
      rw [d] at h
      cases h
def sizB (K : PySem.W.Frag) (a : Addr) : Bool := He.valsB K a (sizesL.map fun q => (q.1, He.Dv.int q.2))
theorem sizB_ok {K : PySem.W.Frag} {a : Addr} (h : sizB K a = true) : ∀ q ∈ sizesL, ∃ u, PySem.W.nsIn K a q.1 = some (some u) ∧ RelV (.int q.2) u := fun q hq => by
  exact He.valsB_ok h (q := (q.1, He.Dv.int q.2)) (List.mem_map.mpr ⟨q, hq, rfl⟩)
section
variable {X : Cx} {K : PySem.W.Frag} {aS aI : Addr} {mg : Str → Option Value}
/-- a word that is in the table -/
def yNotInS (aS : Addr) : R2 := fun x y H Q => match x, y with
  | .str z, .ref d => d = aS ∧ z ∈ sizesL.map (·.1) ∧ Q (.bl false) H
  | _, _ => False
theorem kNotInS (h0 : X.K = K) (W : Wt K X.w mg aS aI) : OpR X (compareOp .NotIn) (yNotInS aS) := by
  subst h0
  intro pins s σ H x y v u Q I rx ry h
  unfold yNotInS at h
  split at h
  · obtain ⟨rfl, hz, q⟩ := h
    obtain ⟨es, n, D⟩ := W.dct
    obtain ⟨p, hp, rfl⟩ := List.mem_map.mp hz
    obtain ⟨u0, h1, _⟩ := W.vals p hp
    exact op_notIn_kd D pins s σ H _ _ v u Q I rx ry ⟨_, _, rfl, rfl, h1, q⟩
  · exact h.elim
def yIxS (aS : Addr) : R2 := fun x y H Q => match x, y with
  | .ref d, .str z => d = aS ∧ ∃ n, (z, n) ∈ sizesL ∧ Q (.int n) H
  | _, _ => False
theorem kIxS {a b : Expr} {ta tb : TE} {pos : Pos} (h0 : X.K = K) (W : Wt K X.w mg aS aI) (ha : PE X a ta) (hb : PE X b tb) (hs : PlainIx b := by exact fun _ _ => rfl) : PE X (.Subscript a b pos) (tOp (yIxS aS) ta tb) := by
  subst h0
  refine pe_ix (IxR.imp ix_kdict fun x y H Q h => ?_) ha hb hs
  unfold yIxS at h
  split at h
  · obtain ⟨rfl, n, hz, q⟩ := h
    obtain ⟨es, m, D⟩ := W.dct
    obtain ⟨u0, h1, h2⟩ := W.vals _ hz
    exact ⟨_, _, _, rfl, rfl, ⟨es, m, u0, D.at_, D.lit, h1, h2⟩, q⟩
  · exact h.elim
end
/-- deeds: an ink by its number -/
inductive Deed where
  | lay (i : Nat) (y : Lay)
  | wait (t : Int)
  | wash (i : Nat) (n : Int)
  | warm (i : Nat) (n : Int)
  | scrape
  | rub (n : Int)
def inkN (ks : List Ink) (i : Nat) : Str := (ks.getD i (default, 0)).1
def deedL (ks : List Ink) : Deed → List PyData
  | .lay i y => [.str "lay", .str (inkN ks i), .str y.1, .int y.2]
  | .wait t => [.str "wait", .int t]
  | .wash i n => [.str "wash", .str (inkN ks i), .int n]
  | .warm i n => [.str "warm", .str (inkN ks i), .int n]
  | .scrape => [.str "scrape"]
  | .rub n => [.str "rub", .int n]
def deedD (ks : List Ink) (d : Deed) : PyData := .tuple (deedL ks d)
def DeedOk (ks : List Ink) : Deed → Prop
  | .lay i y => i < ks.length ∧ LayOk y
  | .wait t => 0 < t ∧ t < 10 ^ 400
  | .wash i n => i < ks.length ∧ 0 < n ∧ n < 10 ^ 400
  | .warm i n => i < ks.length ∧ 0 < n ∧ n < 10 ^ 400
  | .scrape => True
  | .rub n => 0 < n ∧ n < 10 ^ 400
end Y

set_option Elab.async false
set_option linter.all false
set_option maxRecDepth 100000
set_option maxHeartbeats 2000000
/-! X1: own exceptions of any base whose __init__ stores one field; defs that raise, with guards known. -/
namespace Y
open PySem PySem.Spec PyProof.Rows L2
/-- own classes, then the tail -/
def ownTo (tail : List Value) : List Value → Bool
  | .ref _ :: r => ownTo tail r
  | l => l == tail
theorem ownTo_or {tail : List Value} : ∀ {l : List Value}, ownTo tail l = true → (∃ c r, l = .ref c :: r ∧ ownTo tail r = true) ∨ l = tail
  | .ref c :: r, e => .inl ⟨c, r, rfl, e⟩
  | [], e => .inr (eq_of_beq e)
  | .none :: _, e => .inr (eq_of_beq e)
  | .ellipsis :: _, e => .inr (eq_of_beq e)
  | .notImplemented :: _, e => .inr (eq_of_beq e)
  | .bool _ :: _, e => .inr (eq_of_beq e)
  | .int _ _ :: _, e => .inr (eq_of_beq e)
  | .float _ _ :: _, e => .inr (eq_of_beq e)
  | .str _ _ :: _, e => .inr (eq_of_beq e)
  | .bytes _ _ :: _, e => .inr (eq_of_beq e)
  | .type _ :: _, e => .inr (eq_of_beq e)
  | .builtin _ :: _, e => .inr (eq_of_beq e)
/-- what is known of a built-in base -/
structure BaseX (tail : List Value) (newId : String) : Prop where
  base : ∃ B initId, ExcBaseFacts B newId initId tail
  pass : ∀ self, refuseLoop self "__setattr__" tail = pure ()
  obj : tail.contains (.type "object") = true
theorem ownTo_pass {tail : List Value} (hp : ∀ self, refuseLoop self "__setattr__" tail = pure ()) (self : Value) : ∀ (l : List Value), ownTo tail l = true → refuseLoop self "__setattr__" l = pure () := by
  intro l
  induction l with
  | nil =>
    intro e
    have e2 : [] = tail := eq_of_beq e
    rw [e2]; exact hp self
  | cons a r ih =>
    intro e
    rcases ownTo_or e with ⟨c, r2, q, h⟩ | q
    · cases q
      rw [refuseLoop_ref]; exact ih h
    · rw [q]; exact hp self
theorem ownTo_has {tail : List Value} (X : String) : ∀ (l : List Value), ownTo tail l = true → l.contains (.type X) = tail.contains (.type X) := by
  intro l
  induction l with
  | nil =>
    intro e
    have e2 : [] = tail := eq_of_beq e
    rw [e2]
  | cons a r ih =>
    intro e
    rcases ownTo_or e with ⟨c, r2, q, h⟩ | q
    · cases q
      rw [List.contains_cons, ih h]; rfl
    · rw [q]
abbrev tailV : List Value := [.type "ValueError", .type "Exception", .type "BaseException", .type "object"]
abbrev tailR : List Value := [.type "RuntimeError", .type "Exception", .type "BaseException", .type "object"]
abbrev tailL : List Value := [.type "LookupError", .type "Exception", .type "BaseException", .type "object"]
abbrev tailA : List Value := [.type "ArithmeticError", .type "Exception", .type "BaseException", .type "object"]
theorem baseV : BaseX tailV "ValueError.__new__" := ⟨⟨_, _, F.excBase_ValueError⟩, F.store_ValueError.passes, by decide +kernel⟩
theorem baseR : BaseX tailR "RuntimeError.__new__" := ⟨⟨_, _, F.excBase_RuntimeError⟩, F.store_RuntimeError.passes, by decide +kernel⟩
theorem baseL : BaseX tailL "LookupError.__new__" := ⟨⟨_, _, F.excBase_LookupError⟩, F.store_LookupError.passes, by decide +kernel⟩
theorem baseA : BaseX tailA "ArithmeticError.__new__" := ⟨⟨_, _, F.excBase_ArithmeticError⟩, F.store_ArithmeticError.passes, by decide +kernel⟩
/-- what the written part says of an own exception class -/
structure OxC (K : PySem.W.Frag) (tail : List Value) (newId : String) (C : Addr) : Prop where
  cls : ∃ nm q N bs bm sn sub ab col dd k0 k1 k2 k3 k5, K.lookup C = some (excClassObj nm q C N bs bm true sn sub ab col dd k0 k1 k2 k3 k5 newId) ∧ ownTo tail bm = true
  sets : PySem.W.findIn K (.ref C) "__setattr__" = some (some (.builtin "object.__setattr__"))
  exc : PySem.W.subIn K (.ref C) (.type "BaseException") = some true
  typ : PySem.W.typeIn K (.ref C) = some (.type "type")
  kp : PySem.W.keepIn K (.ref C) = true

section
variable {prog : Program} {w : World} {A : Around} {R : Result → Shared → Prop} {hp : Heap} {gs : Array GenState} {dr : Drawn} {tk0 : Nat} {os : OsState} {K : PySem.W.Frag}
open Builtin Builtin.ObjectAttr in
/-- object.__setattr__ on an exception that has no dict as yet -/
theorem exset {name : Str} {tk : Tok} {v : Value} {x C : Addr} {fv : Array Value} {cd : ClassData} (inK : K.In hp) (at_ : hp.get? x = some { cls := .ref C, data := .fields fv }) (isC : PySem.W.clsIn K C = some cd)
    (full : cd.mro.isEmpty = false) (obj : cd.mro.contains (.type "object") = true) (pass : ∀ self, refuseLoop self "__setattr__" cd.mro = pure ()) (dct : cd.hasDict = true) (noA : PySem.W.findIn K (.ref C) name = some none)
    (more : ∀ h2 tk2 dx, (∀ b o, b ≠ x → hp.get? b = some o → h2.get? b = some o) → hp.objs.size ≤ dx → dx ≠ x → h2.get? x = some { cls := .ref C, dict := some dx, data := .fields fv } →
      h2.Ns1 dx (fun y => if y = name then some v else none) → R (.ok (.ret .none)) ⟨h2, gs, dr, tk2, os⟩) :
    codeAny (model prog w) A (.call (.builtin "object.__setattr__") ⟨[.ref x, .str name tk, v], []⟩) R ⟨hp, gs, dr, tk0, os⟩ := by
  have inst : PySem.W.InstAt hp x { cls := .ref C, data := .fields fv } C none := ⟨at_, rfl, rfl, trivial⟩
  have st := F.store_object
  have nx : x ≠ hp.objs.size := Nat.ne_of_lt (Heap.lt_size at_)
  have isO : PySem.W.Looks (model prog w) hp (isInstance (.ref x) (.type "object")) true := by
    refine inst.type.andThen (PySem.W.looks_mroIn inK ?_)
    unfold PySem.W.mroIn
    rw [isC, Option.bind_some, if_neg (by rw [full]; decide), obj]
  have mr : PySem.W.Looks (model prog w) hp (mroOf (.ref C)) cd.mro := (PySem.W.looks_clsIn inK isC).andThen .now
  have nt : PySem.W.Looks (model prog w) hp (storeTaker? none) none := .now
  have cl : PySem.W.Looks (model prog w) hp (classData C) cd := PySem.W.looks_clsIn inK isC
  refine codeAny_call_builtin st.slot.plain st.entry ?_
  refine @PySem.W.check_slot (model prog w) _ _ ⟨hp, gs, dr, tk0, os⟩ "object.__setattr__" "object" "__setattr__" (.ref x) [.str name tk, v] [] _ st.kind st.split isO (st.args (.ref x) (.str name tk) v) ?_
  rw [PySem.W.osa_eq, refuse_eq]
  refine wpAny_bind (wpAny_bind (inst.type.at (wpAny_bind (mr.at ?_))))
  rw [pass]
  refine wpAny_pure (wpAny_bind (inst.type.at ?_))
  refine wpAny_bind ((PySem.W.looks_findIn inK noA).at (wpAny_bind (nt.at ?_)))
  show wpAny _ _ (storeInOwnDict (.ref x) (.ref C) (.str name tk) name v false) _ _ _
  obtain ⟨c1, c2, c3, c4, c5, c6, c7, c8, c9, c10, c11⟩ := cd
  have e6 : c6 = true := dct
  subst e6
  unfold storeInOwnDict; unfold ownDictForStores
  repeat (first | with_reducible refine PySem.HandSPX.store_in_new ?_ ?_ | with_reducible refine cl.at ?_ | with_reducible refine wpAny_loadPart_at at_ ?_ | wp_step)
  · refine ⟨_, #[], _, (Heap.get?_update_ne _ _ _ _ nx.symm).trans (Heap.get?_push_at rfl rfl), rfl, fun e he => ?_, fun _ => rfl⟩
    exact absurd he (by simp)
  · intro h2 tk2 n2 same
    refine more h2 tk2 hp.objs.size (fun b o hb ho => ?_) (Nat.le_refl _) nx.symm ?_ n2
    · refine (same.2 b (Nat.ne_of_lt (Heap.lt_size ho))).trans ?_
      exact (Heap.get?_update_ne _ _ _ _ hb).trans (Heap.get?_push_of_some _ ho)
    · have q := Heap.get?_update_self (fun o => { o with dict := some hp.objs.size }) (Heap.get?_push_of_some { cls := .type "dict", data := .dict #[] } at_) rfl
      exact (same.2 x nx).trans q
end

section
variable {X : Cx} {pins : List (Addr × Obj)} {σ : L2.St} {H : Hp} {s : Shared} {a C : Addr} {f : Str} {y : V} {u : Value} {tail : List Value} {newId : String}
/-- self.f = y on an exception being made -/
theorem ex_store {Q : Unit → Shared → Prop} {E : Value → Shared → Prop} {A : Around} (B : BaseX tail newId) (T : OxC X.K tail newId C) (I : Inv X pins σ H s) (ea : H a = some (exo a C none)) (noA : PySem.W.findIn X.K (.ref C) f = some none) (ry : RelV y u)
    (h : ∀ dx s', H dx = none → dx ≠ a → Inv X pins σ (upd (upd H dx (exd dx [(f, y)])) a (exo a C (some dx))) s' → Q () s') : wpAny (model X.prog X.w) A (setAttr (.ref a) f u) Q E s := by
  obtain ⟨n1, n2, N, b1, bm, s1, s2, b2, c1, d1, k0, k1, k2, k3, k5, look, own⟩ := T.cls
  obtain ⟨t1, ho⟩ := exo_at I.hok ea
  obtain ⟨hp, g, d, t, os⟩ := s
  have isC : PySem.W.clsIn X.K C = some { name := n1, bases := b1, mro := .ref C :: bm, ns := N, qualname := n2, hasDict := true, slotNames := s1, subclasses := s2, abstract := b2, collection := c1, hasDel := false } := by
    unfold PySem.W.clsIn
    rw [look] <;> rfl
  have own2 : ownTo tail (.ref C :: bm) = true := own
  refine PySem.W.set_plain I.kIn (ox := { cls := .ref C, dict := none, data := .fields #[.ref t1, .none, .none, .none, .bool false, .none] }) (od := none) ⟨ho, rfl, rfl, trivial⟩ T.sets ?_
  refine exset I.kIn ho isC rfl ((ownTo_has "object" _ own2).trans B.obj) (fun self => ownTo_pass B.pass self _ own2) rfl noA ?_
  intro h2 tk2 dx kp dn dne hx hn
  have hnd : H dx = none := I.hok.fresh dn
  have old : ∀ {b : Addr} {o : Obj}, hp.get? b = some o → b ≠ dx := fun z => Nat.ne_of_lt (Nat.lt_of_lt_of_le (Heap.lt_size z) dn)
  have apart : ∀ {b : Addr}, H b = none → b ≠ a := fun n z => by rw [z, ea] at n; cases n
  have two : ∀ {b : Addr} {o : HO}, H b = some o → o ≠ exo a C none → (upd (upd H dx (exd dx [(f, y)])) a (exo a C (some dx))) b = some o := fun {b o} z no => by
    have n1 : b ≠ a := fun e => by
      rw [e, ea] at z
      exact no (Option.some.inj z).symm
    rw [upd_ne n1, upd_ne (ne_of_none z hnd)]
    exact z
  have un : Un X.fs [] H (upd (upd H dx (exd dx [(f, y)])) a (exo a C (some dx))) hp h2 := by
    refine ⟨fun b o q n _ _ => kp b o (apart n) q, fun b o q n _ _ => ⟨o.slots, kp b o (apart n) q⟩, fun b o q n _ => ?_, fun b o q _ => ?_, fun b xs q => two q fun z => exo_tup z.symm, fun b o v q => two q fun z => exo_frz z.symm, fun b ps q => ⟨#[], ?_⟩⟩
    · rw [upd_ne (apart n), upd_ne (old q)]; exact n
    · by_cases e : b = a
      · exact ⟨_, e ▸ hx⟩
      · exact ⟨o, kp b o e q⟩
    · rw [two q fun z => exo_tbl z.symm]; simp
  refine h dx _ hnd dne (I.un (t' := tk2) un fun b o q => ?_)
  by_cases e1 : b = a
  · subst e1
    rw [upd_same] at q
    cases q
    exact exo_ok hx
  rw [upd_ne e1] at q
  by_cases e2 : b = dx
  · subst e2
    rw [upd_same] at q
    cases q
    exact exd_ok hn (relO_put (fs := []) ry fun _ => True.intro)
  rw [upd_ne e2] at q
  refine (I.hok b o q).stay (fun c v hc z => kp c v ?_ z) (fun c hc => two hc fun z => exo_own z.symm) (fun c xs hc => two hc fun z => exo_tup z.symm)
  rcases hc with hc | hc
  · rw [hc]; exact e1
  · exact fun e => by
      rw [e, ea] at hc
      exact exo_own (Option.some.inj hc)
/-- self.f = e in such an __init__ -/
def yOst (C : Addr) (f : Str) (to te : TE) : TS := fun D σ H => te σ H fun y H1 => to σ H1 fun x H2 => match x with
  | .ref a => H2 a = some (exo a C none) ∧ ∀ dx, H2 dx = none → dx ≠ a → D.nx σ (upd (upd H2 dx (exd dx [(f, y)])) a (exo a C (some dx)))
  | _ => False
theorem ys_ost {o e : Expr} {to te : TE} {p' pos : Pos} (B : BaseX tail newId) (T : OxC X.K tail newId C) (noA : PySem.W.findIn X.K (.ref C) f = some none) (ho : PE X o to) (he : PE X e te)
    (hs : swapsWith e (some (.Attribute o f p')) pos.line X.env = pure false := by rfl) : PS X (.Assign [.Attribute o f p'] e pos) (yOst C f to te) := by
  constructor
  intro pins s σ H D I h
  refine plainObj_wpAny_Assign_Attribute (thn (he.run pins s σ H _ I h) ?_) hs
  rintro v s1 ⟨y, H1, I1, r1, q1⟩
  refine thn (ho.run pins s1 σ H1 _ I1 q1) ?_
  rintro u s2 ⟨x, H2, I2, r2, q⟩
  cases x with
  | ref a =>
    obtain rfl : u = Value.ref a := r2
    exact ex_store B T I2 q.1 noA r1 fun dx s' n ne J => ⟨σ, _, J, q.2 dx n ne⟩
  | _ => exact q.elim
/-- what such an __init__ promises -/
def spExc (C : Addr) (f : Str) : Sp := fun vs H Q _ => ∃ a v, vs = [.ref a, v] ∧ H a = some (exo a C none) ∧ ∀ dx, H dx = none → dx ≠ a → Q .non (upd (upd H dx (exd dx [(f, v)])) a (exo a C (some dx)))
/-- the class x at C: an exception that keeps its one argument as f -/
def CalE (P : Program) (w : World) (K : PySem.W.Frag) (mg : Str → Option Value) (base : Heap) (k : Nat) (x : Str) (C : Addr) (f : Str) : Prop :=
  ∃ (fI : Addr) (fd : FuncData) (ps : List Str) (tail : List Value) (newId : String), FnG P w K mg base CX0 k fI fd ps (spExc C f) ∧ BaseX tail newId ∧ OxC K tail newId C ∧ PySem.W.findIn K (.ref C) "__init__" = some (some (.ref fI)) ∧
    PySem.W.typeIn K (.ref fI) = some (.type "function") ∧ mg x = some (.ref C) ∧ Binds K fd ps []
def tMkE (C : Addr) (f : Str) (ta : TA) : L2.St → Hp → XK → Prop := fun σ H Q => ta σ H fun vs H1 => match vs with
  | [v] => ∀ dd, H1 dd = none → Q (.ref C) (some dd) (upd H1 dd (.xd [(f, v)]))
  | _ => False
theorem made_eq {H1 : Hp} {dx : Addr} {v : V} (ha : H1 a = none) (hd : H1 dx = none) (ne : dx ≠ a) : upd (del (upd (upd (upd H1 a (exo a C none)) dx (exd dx [(f, v)])) a (exo a C (some dx))) a) dx (.xd [(f, v)]) = upd H1 dx (.xd [(f, v)]) := by
  funext b
  by_cases e : b = dx
  · rw [e, upd_same, upd_same]
  · rw [upd_ne e, upd_ne e]
    by_cases e2 : b = a
    · rw [e2, del_same, ha]
    · rw [del_ne e2, upd_ne e2, upd_ne e, upd_ne e2]
theorem pmkE {k j : Nat} {x : Str} {e : Expr} {es : List Expr} {ta : TA} {p pos : Pos} (c : CalE X.prog X.w X.K X.mg X.base k x C f) (room : Room j X.A) (gd : X.A.guards = some []) (hg : Gl X x) (ha : PA X (e :: es) ta) (hk : k + 1 ≤ j := by decide)
    (hdb : (x == ("__debug__" : Str)) = false := by decide) (h1 : starEach (e :: es) X.env = (false, eval e X.env) :: starEach es X.env := by rfl) (h2 : (backTo pos (starEach es X.env)).any (·.1) = false := by rfl) :
    PMk X (.Call (.Name x p) (e :: es) [] pos) (tMkE C f ta) := by
  obtain ⟨fI, fd, ps, tail, newId, F1, B, T, iC, tI, hm, hb⟩ := c
  intro pins s σ H Q I h
  obtain ⟨n1, n2, N, b1, bm, s1, s2, b2, c1, d1, k0, k1, k2, k3, k5, look, own⟩ := T.cls
  obtain ⟨B0, initId, FB⟩ := B.base
  refine wpAny_Call_Name_kw (ld_glob I hg hm ?_ hdb)
  refine PySem.W.callWith_K (h₀ := X.base) I.ok.mod.kin T.kp (thn (ha.run pos pins s σ H _ I h) ?_) h1 h2
  rintro us s1 ⟨vs, H1, I1, r1, q1⟩
  refine ⟨I1.kIn, ?_⟩
  show wpAny _ _ (call (.ref C) us) _ _ _
  have one : ∃ v, vs = [v] ∧ ∀ dd, H1 dd = none → Q (.ref C) (some dd) (upd H1 dd (.xd [(f, v)])) := match vs, q1 with | [v], q => ⟨v, rfl, q⟩
  obtain ⟨v, rfl, q1⟩ := one
  obtain ⟨hp, g, dr, tk, os⟩ := s1
  let a : Addr := hp.objs.size + 1
  let h1 : Heap := (hp.push (PySem.W.kdv_tup us)).push (PySem.HandSPX.excO C hp.objs.size)
  have le : hp.objs.size ≤ a := Nat.le_succ _
  have na : H1 a = none := I1.hok.fresh le
  have keep : ∀ b o, hp.get? b = some o → h1.get? b = some o := fun b o z => Heap.get?_push_of_some _ (Heap.get?_push_of_some _ z)
  have got : h1.get? a = some (PySem.HandSPX.excO C hp.objs.size) := by show ((hp.push (PySem.W.kdv_tup us)).push _).get? (hp.objs.size + 1) = _; heap_get
  have I2 : Inv X pins σ (upd H1 a (exo a C none)) ⟨h1, g, dr, tk, os⟩ := I1.laid (t' := tk) (a := a) (o := exo a C none) (h' := h1) keep le (exo_ok got)
  have r2 : Vals [V.ref a, v] (Value.ref a :: us) := .cons rfl r1
  have want : spExc C f [.ref a, v] (upd H1 a (exo a C none)) (fun z H2 => z = .non ∧ ∃ (d : Addr) (fs : List (Str × V)), H2 a = some (exo a C (some d)) ∧ H2 d = some (exd d fs) ∧ H1 d = none ∧ Q (.ref C) (some d) (upd (del H2 a) d (.xd fs))) (fun _ _ _ => False) := by
    refine ⟨a, v, rfl, upd_same, fun dx hdx ne => ⟨rfl, dx, [(f, v)], upd_same, ?_, ?_, ?_⟩⟩
    · rw [upd_ne ne, upd_same]
    · rw [upd_ne ne] at hdx; exact hdx
    · rw [upd_ne ne] at hdx
      rw [made_eq na hdx ne]
      exact q1 dx hdx
  have ln : (Value.ref a :: us).length = ps.length := r2.length ▸ F1.arity _ _ _ _ want
  have small : us.length ≤ sizeLine := by
    rw [← r1.length, sizeLine_eq]
    show 1 ≤ _
    omega
  have bnd := hb _ (Value.ref a :: us) I2.kIn (by rw [List.append_nil]; exact ln)
  rw [List.append_nil] at bnd
  have run := F1.goes _ X.stack _ _ ⟨Value.ref a :: us, []⟩ (Value.ref a :: us) _ _ (fun _ _ _ => False) ((room.mono hk).make C us []) gd (I2.env0.make C us []) bnd r2 want
  refine wpAny_call (PySem.HandSPX.call_own FB (fun Y => ownTo_has Y bm own) (I1.kIn _ _ look) (PySem.W.looks_findIn I1.kIn iC) (fun self => PySem.W.bind_fn I1.kIn self tI) small (codeAny_mono run ?_))
  intro r s' hq
  match r, hq with
  | .error er, hq => exact (pass0 (X := X) pins σ _ _ er s' I2 hq)
  | .ok .next, hq => exact hq.elim
  | .ok .brk, hq => exact hq.elim
  | .ok .cont, hq => exact hq.elim
  | .ok (.ret u), hq =>
    obtain ⟨v2, H2, os2, bare2, un2, hok2, rv, ev, d, fs, ea, ed, hd1, q2⟩ := hq
    subst ev
    obtain ⟨h3, g3, d3, t3, os3⟩ := s'
    exact ⟨rv, mk_end (raises_own T.exc T.typ) I1 le keep un2 hok2 os2 bare2 ea ed hd1 q2⟩
end
end Y

set_option Elab.async false
set_option linter.all false
set_option maxRecDepth 100000
set_option maxHeartbeats 2000000
/-! X2: own exceptions found in the head; defs and methods that may raise; defs called where an exception is handled. -/
namespace Y
open PySem PySem.Spec PyProof.Rows L2
def oxB (K : PySem.W.Frag) (tail : List Value) (newId : String) (C : Addr) : Bool :=
  (match K.lookup C with
    | some ⟨.type t, _, .cls cd, sl⟩ => decide (t = "type") && (match cd.mro, sl.toList with
      | .ref C2 :: bm, [_, _, _, _, some (.builtin n), _] => decide (C2 = C) && (decide (n = newId) && (!cd.hasDel && (cd.hasDict && ownTo tail bm)))
      | _, _ => false)
    | _ => false) && (He.eqO (PySem.W.findIn K (.ref C) "__setattr__") (some (some (.builtin "object.__setattr__"))) && (decide (PySem.W.subIn K (.ref C) (.type "BaseException") = some true) && (decide (PySem.W.typeIn K (.ref C) = some (.type "type")) && PySem.W.keepIn K (.ref C))))
theorem oxB_ok {K : PySem.W.Frag} {tail : List Value} {newId : String} {C : Addr} (h : oxB K tail newId C = true) : OxC K tail newId C := by
  obtain ⟨h0, h⟩ := He.ba h
  obtain ⟨h1, h⟩ := He.ba h
  obtain ⟨h2, h⟩ := He.ba h
  obtain ⟨h3, h4⟩ := He.ba h
  refine ⟨?_, He.eqO_ok h1, of_decide_eq_true h2, of_decide_eq_true h3, h4⟩
  split at h0
  · rename_i t dd cd sl look
    obtain ⟨g1, g2⟩ := He.ba h0
    have e1 := of_decide_eq_true g1
    subst e1
    split at g2
    · rename_i C2 bm k0 k1 k2 k3 n k5 hm hs
      obtain ⟨g3, g2⟩ := He.ba g2
      obtain ⟨g4, g2⟩ := He.ba g2
      obtain ⟨g5, g2⟩ := He.ba g2
      obtain ⟨g6, g7⟩ := He.ba g2
      have e2 := of_decide_eq_true g3
      have e3 := of_decide_eq_true g4
      subst e2 e3
      obtain ⟨a1, a2, a3, a4, a5, a6, a7, a8, a9, a10, a11⟩ := cd
      have e4 : a3 = .ref C2 :: bm := hm
      have e5 : a6 = true := g6
      have e6 : a11 = false := by
        have : (!a11) = true := g5
        cases a11 with
        | false => rfl
        | true => cases this
      have e7 : sl = #[k0, k1, k2, k3, some (.builtin n), k5] := by
        obtain ⟨l⟩ := sl
        exact congrArg Array.mk hs
      subst e4 e5 e6 e7
      exact ⟨_, _, _, _, _, _, _, _, _, _, _, _, _, _, _, look, g7⟩
    · cases g2
  · cases h0
section
variable {P : Program} {w : World} {K : PySem.W.Frag} {mg : Str → Option Value} {base : Heap} {k : Nat} {C : Addr} {m q x f : Str} {sp : Sp} {tail : List Value} {newId : String}
/-- the def st is the __init__ of the exception class x at C -/
def ExAt (K : PySem.W.Frag) (mg : Str → Option Value) (x : Str) (C : Addr) (q : Str) (st : Stmt) (dvs : List V) : Prop :=
  ∃ f fd, FunD K "__init__" q (defArgs st) (defBody st) (defScope st) dvs [] f fd ∧ Meth K C "__init__" f ∧ mg x = some (.ref C)
theorem bodyG {st : Stmt} {N ps : List Str} {f : Addr} {fd : FuncData} {dvs : List V} {kws : List (Str × V)} (F : FunD K m q (defArgs st) (defBody st) (defScope st) dvs kws f fd) (S : FnScope N ps (defScope st))
    (ar : ∀ vs H Q E, sp vs H Q E → vs.length = ps.length)
    (hb : ∀ (f : Addr) (cd : Value) (A : Around) (out : List Env) (s : Shared) (H : Hp) (vs : List V) (Q : VK) (E : XK), Room k (A.deeper (envOfC q (defScope st) s.heap.objs.size f cd)) → (A.deeper (envOfC q (defScope st) s.heap.objs.size f cd)).guards = some [] → sp vs H Q E →
      ∃ t, PSs (cxOf CX0 P w K mg base N q (defScope st) f cd A out s H E).nox (defBody st) t ∧ t { nx := fun _ H' => Q .non H', rt := Q } (start N vs) H) : FnG P w K mg base CX0 (k + 1) f fd ps sp := by
  refine funD_goes F S ar fun cd A out s H vs Q E r g z => ?_
  obtain ⟨t, z1, z2⟩ := hb f cd A out s H vs Q E r g z
  exact ⟨t, z1.nox, z2⟩
theorem calE_of {st : Stmt} {N ps : List Str} {dvs : List V} (D : ExAt K mg x C q st dvs) (B : BaseX tail newId) (T : OxC K tail newId C) (S : FnScope N ps (defScope st)) (two : ps.length = 2)
    (bnd : ∀ g fd, FunD K "__init__" q (defArgs st) (defBody st) (defScope st) dvs [] g fd → Binds K fd ps [])
    (hb : ∀ (f' : Addr) (cd : Value) (A : Around) (out : List Env) (s : Shared) (H : Hp) (vs : List V) (Q : VK) (E : XK), Room k (A.deeper (envOfC q (defScope st) s.heap.objs.size f' cd)) → (A.deeper (envOfC q (defScope st) s.heap.objs.size f' cd)).guards = some [] → spExc C f vs H Q E →
      ∃ t, PSs (cxOf CX0 P w K mg base N q (defScope st) f' cd A out s H E).nox (defBody st) t ∧ t { nx := fun _ H' => Q .non H', rt := Q } (start N vs) H) : CalE P w K mg base (k + 1) x C f := by
  obtain ⟨g, fd, F, hm, hx⟩ := D
  exact ⟨g, fd, ps, tail, newId, bodyG F S (fun vs H Q E h => by obtain ⟨a, v, rfl, _⟩ := h; exact two.symm) hb, B, T, hm.at_, beq_iff_eq.mp hm.fn, hx, bnd g fd F⟩
/-! ### defs and methods that may raise -/
def CalX (P : Program) (w : World) (K : PySem.W.Frag) (mg : Str → Option Value) (base : Heap) (k : Nat) (x : Str) (sp : Sp) : Prop :=
  ∃ f fd ps, FnG P w K mg base (L2.CX P w) k f fd ps sp ∧ mg x = some (.ref f) ∧ PySem.W.keepIn K (.ref f) = true ∧ Binds K fd ps []
def CalMX (P : Program) (w : World) (K : PySem.W.Frag) (mg : Str → Option Value) (base : Heap) (k : Nat) (C : Addr) (m : Str) (sp : Sp) : Prop :=
  ∃ f fd ps, FnG P w K mg base (L2.CX P w) k f fd ps sp ∧ Cls K C ∧ Meth K C m f ∧ Binds K fd ps []
theorem calX_of {st : Stmt} {N ps : List Str} (D : DefAt K mg x st) (S : FnScope N ps (defScope st))
    (bnd : ∀ (kV doc pm : Value) (an : Option Addr) (cdv ct : Value) (us : List Value), us.length = ps.length → bindArgs (PySem.W.fnOf x x (defArgs st) (defBody st) (defScope st) .none kV doc pm an cdv ct) ⟨us, []⟩ = pure (ps.zip us))
    (ar : ∀ vs H Q E, sp vs H Q E → vs.length = ps.length)
    (hb : ∀ (f : Addr) (cd : Value) (A : Around) (out : List Env) (s : Shared) (H : Hp) (vs : List V) (Q : VK) (E : XK), Room k (A.deeper (envOfC x (defScope st) s.heap.objs.size f cd)) → (A.deeper (envOfC x (defScope st) s.heap.objs.size f cd)).guards = some [] → Takes (cxOf (L2.CX P w) P w K mg base N x (defScope st) f cd A out s H E) (fun cls d _ H => E cls d H) → sp vs H Q E →
      ∃ t, PSs (cxOf (L2.CX P w) P w K mg base N x (defScope st) f cd A out s H E) (defBody st) t ∧ t { nx := fun _ H' => Q .non H', rt := Q } (start N vs) H) : CalX P w K mg base (k + 1) x sp := by
  obtain ⟨f, fd, F, hm⟩ := D
  exact ⟨f, fd, ps, funD_goes F S ar fun cd A out s H vs Q E r g z => hb f cd A out s H vs Q E r g (takes_of rfl rfl rfl rfl) z, hm, F.kp, F.bindsN bnd⟩
theorem calMX_of {st : Stmt} {N ps : List Str} (D : MetAt K C m q st) (c : Cls K C) (S : FnScope N ps (defScope st))
    (bnd : ∀ (kV doc pm : Value) (an : Option Addr) (cdv ct : Value) (us : List Value), us.length = ps.length → bindArgs (PySem.W.fnOf m q (defArgs st) (defBody st) (defScope st) .none kV doc pm an cdv ct) ⟨us, []⟩ = pure (ps.zip us))
    (ar : ∀ vs H Q E, sp vs H Q E → vs.length = ps.length)
    (hb : ∀ (f : Addr) (cd : Value) (A : Around) (out : List Env) (s : Shared) (H : Hp) (vs : List V) (Q : VK) (E : XK), Room k (A.deeper (envOfC q (defScope st) s.heap.objs.size f cd)) → (A.deeper (envOfC q (defScope st) s.heap.objs.size f cd)).guards = some [] → Takes (cxOf (L2.CX P w) P w K mg base N q (defScope st) f cd A out s H E) (fun cls d _ H => E cls d H) → sp vs H Q E →
      ∃ t, PSs (cxOf (L2.CX P w) P w K mg base N q (defScope st) f cd A out s H E) (defBody st) t ∧ t { nx := fun _ H' => Q .non H', rt := Q } (start N vs) H) : CalMX P w K mg base (k + 1) C m sp := by
  obtain ⟨f, fd, F, hm⟩ := D
  exact ⟨f, fd, ps, funD_goes F S ar fun cd A out s H vs Q E r g z => hb f cd A out s H vs Q E r g (takes_of rfl rfl rfl rfl) z, c, hm, F.bindsN bnd⟩
end
section
variable {X : Cx} {k j : Nat} {C : Addr} {m x : Str} {sp : Sp} {p pos apos : Pos} {e o : Expr} {es : List Expr} {ta : TE} {t : TA} {W : WX}
theorem goes_fnX {f : Addr} {fd : FuncData} {ps : List Str} {pins : List (Addr × Obj)} {σ : L2.St} {H : Hp} {s : Shared} {Q : VK} {us : List Value} {vs : List V} (F : FnG X.prog X.w X.K X.mg X.base (L2.CX X.prog X.w) k f fd ps sp) (room : Room k X.A) (gd : X.A.guards = some [])
    (hb : Binds X.K fd ps []) (tk : Takes X W) (I : Inv X pins σ H s) (rel : Vals vs us) (want : sp vs H Q (WE W σ)) : wpAny (model X.prog X.w) X.A (call (.ref f) us) (EP X pins σ Q) X.xe s := by
  have ln : us.length = ps.length := rel.length ▸ F.arity _ _ _ _ want
  have b := hb s us I.kIn (by rw [List.append_nil]; exact ln)
  rw [List.append_nil] at b
  refine wpAny_call (codeAny_mono (F.goes X.A X.stack s H ⟨us, []⟩ us vs Q (WE W σ) room gd I.env0 b rel want) ?_)
  intro r s' hq
  match r, hq with
  | .error er, hq => exact passAt tk σ pins H s er s' I hq
  | .ok (.ret u), hq => exact I.after hq
  | .ok .next, hq => exact hq.elim
  | .ok .brk, hq => exact hq.elim
  | .ok .cont, hq => exact hq.elim
def yCallX (sp : Sp) (W : WX) (t : TA) : TE := fun σ H Q => t σ H fun vs H1 => sp vs H1 Q (WE W σ)
theorem ye_callX (tk : Takes X W) (c : CalX X.prog X.w X.K X.mg X.base k x sp) (room : Room j X.A) (gd : X.A.guards = some []) (hg : Gl X x) (ha : PA X (e :: es) t) (hk : k ≤ j := by decide) (hdb : (x == ("__debug__" : Str)) = false := by decide)
    (h1 : starEach (e :: es) X.env = (false, eval e X.env) :: starEach es X.env := by rfl) (h2 : (backTo pos (starEach es X.env)).any (·.1) = false := by rfl) :
    PE X (.Call (.Name x p) (e :: es) [] pos) (yCallX sp W t) := by
  obtain ⟨f, fd, ps, F, hm, kp, hb⟩ := c
  constructor
  intro pins s σ H Q I h
  refine wpAny_Call_Name_kw (ld_glob I hg hm ?_ hdb)
  refine PySem.W.callWith_K (h₀ := X.base) I.ok.mod.kin kp (thn (ha.run pos pins s σ H _ I h) ?_) h1 h2
  rintro us s1 ⟨vs, H1, I1, r, q⟩
  exact ⟨I1.kIn, goes_fnX (F.up hk) room gd hb tk I1 r q⟩
def yMethX (C : Addr) (m : Str) (sp : Sp) (W : WX) (ta : TE) (t : TA) : TE := fun σ H Q => ta σ H fun x H1 => match x with
  | .ref a => ∃ dx fs, H1 a = some (.ins C dx fs) ∧ fs.lookup m = none ∧ t σ H1 fun vs H2 => sp (.ref a :: vs) H2 Q (WE W σ)
  | _ => False
theorem ye_methX {pl : Sem Bool} (tk : Takes X W) (c : CalMX X.prog X.w X.K X.mg X.base k C m sp) (room : Room j X.A) (gd : X.A.guards = some []) (he : PE X o ta) (ha : PA X (e :: es) t) (hk : k ≤ j := by decide)
    (h1 : starEach (e :: es) X.env = (false, eval e X.env) :: starEach es X.env := by rfl) (h2 : (backTo pos (starEach es X.env)).any (·.1) = false := by rfl)
    (ht : eval (.Call (.Attribute o m apos) (e :: es) [] pos) X.env = (do
      let ov ← eval o X.env
      standAt apos.atName
      let (g, one) ← holding [ov] (getMethod ov m pl)
      callWith pos g one (backTo pos (starEach (e :: es) X.env)) (backToKw pos (keywordEach [] X.env))) := by rfl) :
    PE X (.Call (.Attribute o m apos) (e :: es) [] pos) (yMethX C m sp W ta t) := by
  obtain ⟨g, fd, ps, F, cl, hm, hb⟩ := c
  constructor
  intro pins s σ H Q I h
  refine PySem.W.methodCall_KW (pl := pl) (thn (he.run pins s σ H _ I h) ?_) ht
  rintro u s1 ⟨x, H1, I1, rx, q⟩
  cases x with
  | ref a =>
    obtain ⟨dx, fs, ea, l, q⟩ := q
    obtain rfl : u = Value.ref a := rx
    refine getmeth_ok I1 ea cl hm l (PySem.W.callWith_K (first := [.ref a]) (h₀ := X.base) I.ok.mod.kin hm.kp (thn (ha.run pos pins s1 σ H1 _ I1 q) ?_) h1 h2)
    rintro us s2 ⟨vs, H2, I2, r, q2⟩
    exact ⟨I2.kIn, goes_fnX (us := .ref a :: us) (vs := .ref a :: vs) (F.up hk) room gd hb tk I2 (.cons rfl r) q2⟩
  | _ => exact q.elim
theorem ye_methX0 {pl : Sem Bool} (tk : Takes X W) (c : CalMX X.prog X.w X.K X.mg X.base k C m sp) (room : Room j X.A) (gd : X.A.guards = some []) (he : PE X o ta) (hk : k ≤ j := by decide)
    (ht : eval (.Call (.Attribute o m apos) [] [] pos) X.env = (do
      let ov ← eval o X.env
      standAt apos.atName
      let (g, one) ← holding [ov] (getMethod ov m pl)
      callWith pos g one (backTo pos (starEach [] X.env)) (backToKw pos (keywordEach [] X.env))) := by rfl) :
    PE X (.Call (.Attribute o m apos) [] [] pos) (yMethX C m sp W ta tNil) := by
  obtain ⟨g, fd, ps, F, cl, hm, hb⟩ := c
  constructor
  intro pins s σ H Q I h
  refine PySem.W.methodCall_KW (pl := pl) (thn (he.run pins s σ H _ I h) ?_) ht
  rintro u s1 ⟨x, H1, I1, rx, q⟩
  cases x with
  | ref a =>
    obtain ⟨dx, fs, ea, l, q⟩ := q
    obtain rfl : u = Value.ref a := rx
    exact getmeth_ok I1 ea cl hm l (PySem.W.callWith_K0 (first := [.ref a]) I1.kIn hm.kp (goes_fnX (us := [.ref a]) (vs := [.ref a]) (F.up hk) room gd hb tk I1 (.cons rfl .nil) q))
  | _ => exact q.elim
end
end Y

set_option Elab.async false
set_option linter.all false
set_option maxRecDepth 100000
set_option maxHeartbeats 2000000
/-! X3: where an exception is handled: defs called there, isinstance of it, its fields; try. -/
theorem L2H.RoomH.units {k : Nat} {A : PySem.Around} (r : L2H.RoomH k A) : A.units + 64 < PySem.cLine := by have := r.un; omega
namespace Y
open PySem PySem.Spec PyProof.Rows L2
theorem hotRoom {k : Nat} {A : Around} {v : Option Value} (r : Room k A) : L2H.RoomH k (A.mark v) := ⟨r.dp, r.un⟩
theorem hotGd {A : Around} {v : Option Value} (g : A.guards = some []) : (A.mark v).guards = some [] := g
/-- e is the exception at a, of the class c, its dict d -/
structure IsEx (X : Cx) (a : Addr) (c : Value) (d : Option Addr) : Prop where
  ex : ∃ oe, (a, oe) ∈ X.pn ∧ Zc c d oe ∧ ∃ fv, oe.data = .fields fv
/-- a def's promise, kept where an exception is handled: sp is told where it stands, its class, its dict -/
structure FnE (P : Program) (w : World) (K : PySem.W.Frag) (mg : Str → Option Value) (base : Heap) (k : Nat) (f : Addr) (fd : FuncData) (ps : List Str) (sp : Addr → Value → Option Addr → Sp) : Prop where
  arity : ∀ a c d vs H Q E, sp a c d vs H Q E → vs.length = ps.length
  goes : ∀ (A : Around) (outer : List Env) (s : Shared) (H : Hp) (args : Args) (us : List Value) (vs : List V) (Q : VK) (E : XK) (p : Addr × Obj) (c : Value) (d : Option Addr), L2H.RoomH k A → A.guards = some [] → L2H.PinOk outer H s p → Zc c d p.2 → (∃ fv, p.2.data = .fields fv) →
    Env0 P w K mg base A outer s H → BindsTo s fd args (ps.zip us) → Vals vs us → sp p.1 c d vs H Q E → codeAny (model P w) A (.call (.ref f) args) (CR CX0 outer P w H s Q E) s
section
variable {P : Program} {w : World} {K : PySem.W.Frag} {mg : Str → Option Value} {base : Heap} {k : Nat} {f : Addr} {fd : FuncData} {ps : List Str} {sp : Addr → Value → Option Addr → Sp} {x : Str}
theorem goesE_of {nm qu : Str} {pa : Arguments} {bd : List Stmt} {sco : Scope} {v1 v2 v3 v4 v5 v6 v7 : Value} {a1 a2 : Option Addr}
    {sl : Array (Option Value)} {N : List Str} (look : K.lookup f = some ⟨v7, a2, .func (PySem.W.fnOf nm qu pa bd sco v1 v2 v3 v4 a1 v5 v6), sl⟩)
    (code : PySem.W.codeIn K v5 qu = true) (S : FnScope N ps sco) (ar : ∀ a c d vs H Q E, sp a c d vs H Q E → vs.length = ps.length)
    (body : ∀ (A : Around) (out : List Env) (s : Shared) (H : Hp) (vs : List V) (Q : VK) (E : XK) (p : Addr × Obj) (c : Value) (d : Option Addr), L2H.RoomH k (A.deeper (envOfC qu sco s.heap.objs.size f v5)) → A.guards = some [] → IsEx (L2H.cxH CX0 P w K mg base N qu sco f v5 A out s H E p).nox p.1 c d → sp p.1 c d vs H Q E →
      ∃ t, PSs (L2H.cxH CX0 P w K mg base N qu sco f v5 A out s H E p).nox bd t ∧ t { nx := fun _ H' => Q .non H', rt := Q } (start N vs) H) :
    FnE P w K mg base (k + 1) f (PySem.W.fnOf nm qu pa bd sco v1 v2 v3 v4 a1 v5 v6) ps sp := by
  refine ⟨ar, fun A out s H args us vs Q E p c d room gd pin zc fv env bnd rel want => ?_⟩
  have inK : K.In s.heap := env.mod.kin.keeps fun b o e => (env.bs b o e).1
  have noLim : s.heap.NoLimit := env.mod.nolimit.keeps fun b o e => (env.bs b o e).1
  have kinds : ∀ y ∈ ps.zip us, sco.names.lookup y.1 = some .local ∨ (sco.names.lookup y.1 = some .cell ∧ ((cellsFrom (s.heap.objs.size + 1) sco.names []).lookup y.1).isSome = true) := by
    rintro ⟨n, v⟩ hy
    cases S.par n (List.of_mem_zip hy).1 with
    | inl q => exact .inl q
    | inr q => exact .inr ⟨q, PySem.W.cellsFrom_some _ _ _ (.inl q)⟩
  refine codeAny_call_function room.depth (inK _ _ look) rfl S.co S.gen rfl (PySem.W.codeRec_of inK code) (bnd _ _ _ _ ?_)
  refine wpAny_newFunctionEnv_cells S.kind kinds fun env' he s1 x => ?_
  subst he
  refine ⟨noLim.keeps x.toInCall.keep, codeAny_func ?_⟩
  obtain ⟨t, ht, hq⟩ := body A out s H vs Q E p c d (room.deeper _) gd ⟨⟨p.2, List.mem_singleton.mpr rfl, zc, fv⟩⟩ want
  have I0 := L2H.inv_startH (CX := CX0) (E := E) S pin env (ar _ _ _ _ _ _ _ want) rel x
  refine wpAny_mono (ht.nox.run [] s1 (start N vs) H _ I0 hq) (fun fl s' hs => ?_) fun _ _ hs => hs
  cases fl with
  | ret u =>
    obtain ⟨v, σ', H', J, rv, q⟩ := hs
    exact ⟨v, H', J.os, J.bare, J.base, J.hok, rv, q⟩
  | next =>
    obtain ⟨σ', H', J, q⟩ := hs
    exact ⟨V.non, H', J.os, J.bare, J.base, J.hok, rfl, q⟩
  | brk =>
    obtain ⟨_, _, _, q⟩ := hs
    exact q.elim
  | cont =>
    obtain ⟨_, _, _, q⟩ := hs
    exact q.elim
def CalH (P : Program) (w : World) (K : PySem.W.Frag) (mg : Str → Option Value) (base : Heap) (k : Nat) (x : Str) (sp : Addr → Value → Option Addr → Sp) : Prop :=
  ∃ f fd ps, FnE P w K mg base k f fd ps sp ∧ mg x = some (.ref f) ∧ PySem.W.keepIn K (.ref f) = true ∧ Binds K fd ps []
theorem calH_of {st : Stmt} {N ps : List Str} (D : DefAt K mg x st) (S : FnScope N ps (defScope st))
    (bnd : ∀ (kV doc pm : Value) (an : Option Addr) (cdv ct : Value) (us : List Value), us.length = ps.length → bindArgs (PySem.W.fnOf x x (defArgs st) (defBody st) (defScope st) .none kV doc pm an cdv ct) ⟨us, []⟩ = pure (ps.zip us))
    (ar : ∀ a c d vs H Q E, sp a c d vs H Q E → vs.length = ps.length)
    (hb : ∀ (f : Addr) (cd : Value) (A : Around) (out : List Env) (s : Shared) (H : Hp) (vs : List V) (Q : VK) (E : XK) (p : Addr × Obj) (c : Value) (d : Option Addr), L2H.RoomH k (A.deeper (envOfC x (defScope st) s.heap.objs.size f cd)) → (A.deeper (envOfC x (defScope st) s.heap.objs.size f cd)).guards = some [] →
      IsEx (L2H.cxH CX0 P w K mg base N x (defScope st) f cd A out s H E p).nox p.1 c d → sp p.1 c d vs H Q E →
      ∃ t, PSs (L2H.cxH CX0 P w K mg base N x (defScope st) f cd A out s H E p).nox (defBody st) t ∧ t { nx := fun _ H' => Q .non H', rt := Q } (start N vs) H) : CalH P w K mg base (k + 1) x sp := by
  obtain ⟨f, fd, F, hm⟩ := D
  obtain ⟨_, _, _, _, _, _, _, cd, _, _, e, lk, hcd, _, _⟩ := F.ex
  have kp := F.kp
  have bn := F.bindsN bnd
  subst e
  exact ⟨f, _, ps, goesE_of lk hcd S ar fun A out s H vs Q E p c d => hb f cd A out s H vs Q E p c d, hm, kp, bn⟩
end
section
variable {X : Cx} {k j : Nat} {a : Addr} {c : Value} {d : Option Addr} {x : Str} {sp : Addr → Value → Option Addr → Sp} {p pos : Pos} {e : Expr} {es : List Expr} {ta : TE} {t : TA}
def yCallH (sp : Sp) (t : TA) : TE := fun σ H Q => t σ H fun vs H1 => sp vs H1 Q E0
/-- f(e, ..) where the exception is handled -/
theorem ye_callH (ie : IsEx X a c d) (cl : CalH X.prog X.w X.K X.mg X.base k x sp) (room : L2H.RoomH j X.A) (gd : X.A.guards = some []) (hg : Gl X x) (ha : PA X (e :: es) t) (hk : k ≤ j := by decide) (hdb : (x == ("__debug__" : Str)) = false := by decide)
    (h1 : starEach (e :: es) X.env = (false, eval e X.env) :: starEach es X.env := by rfl) (h2 : (backTo pos (starEach es X.env)).any (·.1) = false := by rfl) :
    PE X (.Call (.Name x p) (e :: es) [] pos) (yCallH (sp a c d) t) := by
  obtain ⟨f, fd, ps, F, hm, kp, hb⟩ := cl
  obtain ⟨oe, mem, zc, fv⟩ := ie.ex
  constructor
  intro pins s σ H Q I h
  refine wpAny_Call_Name_kw (ld_glob I hg hm ?_ hdb)
  refine PySem.W.callWith_K (h₀ := X.base) I.ok.mod.kin kp (thn (ha.run pos pins s σ H _ I h) ?_) h1 h2
  rintro us s1 ⟨vs, H1, I1, r, q⟩
  refine ⟨I1.kIn, ?_⟩
  have ln : us.length = ps.length := r.length ▸ F.arity _ _ _ _ _ _ _ q
  have b := hb s1 us I1.kIn (by rw [List.append_nil]; exact ln)
  rw [List.append_nil] at b
  obtain ⟨g1, g2, g3, g4, g5⟩ := I1.pin (a, oe) (List.mem_append_left _ mem)
  have pin : L2H.PinOk X.stack H1 s1 (a, oe) := ⟨g1, g2, fun hm => (List.mem_cons.mp (I1.stkSub a hm)).elim g3 g4, g5⟩
  refine wpAny_call (codeAny_mono (F.goes X.A X.stack s1 H1 ⟨us, []⟩ us vs Q E0 (a, oe) c d (room.mono hk) gd pin zc fv I1.env0 b r q) ?_)
  intro r s' hq
  match r, hq with
  | .error er, hq => exact pass0 (X := X) pins σ H1 s1 er s' I1 hq
  | .ok (.ret u), hq => exact I1.after hq
  | .ok .next, hq => exact hq.elim
  | .ok .brk, hq => exact hq.elim
  | .ok .cont, hq => exact hq.elim
/-! ### isinstance of it -/
def clsV : V → Value
  | .ref C => .ref C
  | .ty n => .type n
  | _ => .none
/-- the exception's dict stands -/
def DctOk (d : Option Addr) (H : Hp) : Prop := d = none ∨ ∃ dd fs, d = some dd ∧ H dd = some (.xd fs)
def yIsE (K : PySem.W.Frag) (D a : Addr) (d : Option Addr) : List V → Hp → VK → Prop := fun xs H Q => match xs with
  | [.ref b, .ref C] => b = a ∧ DctOk d H ∧ ((∃ v, PySem.W.kitOne K (.ref D) (.ref C) = some v ∧ Q (.bl v) H) ∨ ∃ ys v, H C = some (.tup ys) ∧ (∀ y ∈ ys, ∃ A, y = .ref A) ∧ PySem.W.kitAny K (.ref D) (ys.map clsV) = some v ∧ Q (.bl v) H)
  | [.ref b, .ty n] => b = a ∧ DctOk d H ∧ ∃ v, PySem.W.kitOne K (.ref D) (.type n) = some v ∧ Q (.bl v) H
  | _ => False
theorem cls_vals : ∀ {ys : List V} {its : List Value}, Vals ys its → (∀ y ∈ ys, ∃ A, y = .ref A) → ys.map clsV = its
  | _, _, .nil, _ => rfl
  | _, _, .cons (a := y) r rs, own => by
    obtain ⟨A, rfl⟩ := own y (List.mem_cons_self ..)
    cases r
    rw [List.map_cons, cls_vals rs fun z hz => own z (List.mem_cons_of_mem _ hz)]
    rfl
theorem kIsE {D : Addr} {K : PySem.W.Frag} (h0 : X.K = K) (ie : IsEx X a (.ref D) d) (C : ExcC K D) : CallR X (.builtin "isinstance") (yIsE K D a d) := by
  subst h0
  obtain ⟨oe, mem, zc, fv, hfv⟩ := ie.ex
  intro pins s σ H xs us Q I r h
  have hget := (I.pin (a, oe) (List.mem_append_left _ mem)).1
  obtain ⟨cdD, hcD, _⟩ := PySem.W.any_some C.hd
  have kit : ∀ od, PySem.W.KitX X.K (.ref a) (.ref D) (fun h => PySem.W.InstAt h a oe D od) := fun od => PySem.W.kitx_exc (by rw [hcD]; rfl) C.hg C.hk C.hs C.ha C.hn C.ht C.hm
  have inst : DctOk d H → ∃ od, PySem.W.InstAt s.heap a oe D od := fun dk => by
    have nc : PySem.W.notCls oe = true := by unfold PySem.W.notCls; rw [hfv] <;> rfl
    rcases dk with e | ⟨dd, fs, e, ed⟩
    · exact ⟨none, hget, zc.1, nc, by rw [zc.2, e]; trivial⟩
    · obtain ⟨mA, hns, _⟩ : ObjOk X.prog X.w H s.heap dd (.xd fs) := I.hok dd _ ed
      obtain ⟨od, ho, _⟩ := lookIn_ns hns
      exact ⟨some od, hget, zc.1, nc, by rw [zc.2, e]; exact ho⟩
  unfold yIsE at h
  split at h
  · rename_i b C1
    cases r with
    | cons rx rr =>
    cases rr with
    | cons rt rr =>
    cases rr
    cases rx
    cases rt
    obtain ⟨rfl, dk, h⟩ := h
    obtain ⟨od, J⟩ := inst dk
    rcases h with ⟨v, e, q⟩ | ⟨ys, v, hC, own, e, q⟩
    · exact PySem.W.kia_one (kit od) I.kIn J e (fun z => nomatch z) fun tk => ⟨.bl v, H, I.kept (t' := tk) fun _ _ z => z, rfl, q⟩
    · obtain ⟨_, its, hv, o, ho, hc, n, hd⟩ : ObjOk X.prog X.w H s.heap C1 (.tup ys) := I.hok C1 _ hC
      obtain ⟨oc, od2, dt, sl⟩ := o
      have e1 : oc = .type "tuple" := hc
      have e2 : dt = .seq its.toArray n := hd
      subst e1 e2
      rw [cls_vals hv own] at e
      exact PySem.W.kia_tup (kit od) I.kIn J ho e (fun z => nomatch z) fun tk => ⟨.bl v, H, I.kept (t' := tk) fun _ _ z => z, rfl, q⟩
  · rename_i b n
    cases r with
    | cons rx rr =>
    cases rr with
    | cons rt rr =>
    cases rr
    cases rx
    cases rt
    obtain ⟨rfl, dk, v, e, q⟩ := h
    obtain ⟨od, J⟩ := inst dk
    exact PySem.W.kia_one (kit od) I.kIn J e (fun z => nomatch z) fun tk => ⟨.bl v, H, I.kept (t' := tk) fun _ _ z => z, rfl, q⟩
  · exact h.elim
/-! ### l.count(e), l.index(e) of flat things -/
def rCntV (K : PySem.W.Frag) : V → List V → Hp → VK → Prop := fun x xs H Q => ∃ (a : Addr) (ys : List V) (y : V), x = .ref a ∧ xs = [y] ∧ SqL K H a ys ∧ flatV y = true ∧ ys.all flatV = true ∧ Q (.int (ys.countP fun z => eqV z y : Nat)) H
theorem cnt_eqU {x : V} : ∀ {ys : List V} {us : List Value}, Vals ys us → ys.all flatV = true → us.countP (eqU x) = ys.countP fun z => eqV z x
  | _, _, .nil, _ => rfl
  | _, _, .cons r rs, h => by
    obtain ⟨h1, h2⟩ := Bool.and_eq_true_iff.mp (show (_ && _) = true from h)
    rw [List.countP_cons, List.countP_cons, cnt_eqU rs h2, eqU_of r h1]
theorem mt_cntV : MtR X "list.count" (rCntV X.K) := by
  intro pins s σ H x xs v us Q I rx rxs h
  obtain ⟨a, ys, y, rfl, rfl, hs, fy, fys, q⟩ := h
  cases rx
  obtain ⟨u, rfl, ru⟩ := rxs.one
  obtain ⟨its, rv, ⟨⟨c1, dd, dt, sl⟩, n, ho, hc, hdn, hd⟩, hlen⟩ := I.list hs
  have e1 : c1 = .type "list" := hc
  have e2 : dt = .seq its.toArray n := hd
  subst e1 e2
  refine call_meets PySem.F.slot_list_count ⟨_, ho, rfl⟩ PySem.F.entry_list_count (PySem.F.args_list_count_2 _ _) (SeqAt.list_countAt a its.toArray n dd sl u (eqU y)) ⟨ho, fun z hz => mem_eqAt ru fy rv fys z (by simpa using hz), ?_⟩
  refine ⟨.int (ys.countP fun z => eqV z y : Nat), H, I.tok _, ⟨s.toks, ?_⟩, q⟩
  have e : its.toArray.toList.countP (eqU y) = ys.countP fun z => eqV z y := cnt_eqU rv fys
  show Value.int _ s.toks = Value.int _ s.toks
  rw [e]
def yCnt (K : PySem.W.Frag) (to te : TE) : TE := fun σ H Q => to σ H fun x H1 => match x with
  | .ref l => ∃ ys, SqL K H1 l ys ∧ ys.all flatV = true ∧ te σ H1 fun y H2 => SqL K H2 l ys ∧ flatV y = true ∧ Q (.int (ys.countP fun z => eqV z y : Nat)) H2
  | _ => False
theorem ye_cnt {K : PySem.W.Frag} {to te : TE} (h0 : X.K = K) (h : PE X e (tBM X.K "list" (rCntV X.K) (cl to) (tCons (cl te) tNil))) : PE X e (yCnt K to te) := by
  subst h0
  exact PE.imp h fun σ H Q h => ⟨_, h, fun x H1 q => by
    cases x with
    | ref l =>
      obtain ⟨ys, h1, h2, q⟩ := q
      refine ⟨.inl ⟨rfl, ys, h1⟩, _, q, fun y H2 q2 => ?_⟩
      obtain ⟨g1, g2, g3⟩ := q2
      exact ⟨l, ys, y, rfl, rfl, g1, g2, h2, g3⟩
    | _ => exact q.elim⟩
def yIdx (K : PySem.W.Frag) (to te : TE) : TE := fun σ H Q => to σ H fun x H1 => match x with
  | .ref l => ∃ ys, SqL K H1 l ys ∧ ys.all flatV = true ∧ te σ H1 fun y H2 => SqL K H2 l ys ∧ flatV y = true ∧ ∃ (j : Nat) (z : V), ys[j]? = some z ∧ eqV z y = true ∧ (∀ (m : Nat) (z' : V), m < j → ys[m]? = some z' → eqV z' y = false) ∧ Q (.int (j : Nat)) H2
  | _ => False
theorem ye_idx {K : PySem.W.Frag} {to te : TE} (h0 : X.K = K) (h : PE X e (tBM X.K "list" (rIndex X.K) (cl to) (tCons (cl te) tNil))) : PE X e (yIdx K to te) := by
  subst h0
  exact PE.imp h fun σ H Q h => ⟨_, h, fun x H1 q => by
    cases x with
    | ref l =>
      obtain ⟨ys, h1, h2, q⟩ := q
      refine ⟨.inl ⟨rfl, ys, h1⟩, _, q, fun y H2 q2 => ?_⟩
      obtain ⟨g1, g2, j, z, g3, g4, g5, g6⟩ := q2
      exact ⟨l, ys, y, j, z, rfl, rfl, g1, g2, h2, g3, g4, g5, g6⟩
    | _ => exact q.elim⟩
/-- nothing is let out -/
theorem takes0 {W : Value → Shared → Prop} : Takes X.nox (fun _ _ _ _ => False) := fun u s' ⟨_, _, _, _, _, _, _, _, _, _, _, _, _, _, _, _, w⟩ => w.elim
end
end Y

set_option Elab.async false
set_option linter.all false
set_option maxRecDepth 100000
set_option maxHeartbeats 2000000
set_option exponentiation.threshold 600
/-! X4: what is worn off; l.pop(i), l.insert(i, e), d.get(k, e); the classes of errors.py by names. -/
namespace Y
open PySem PySem.Spec PyProof.Rows L2
/-! ### a row, the layer n of it worn -/
def wornR (r : List Lyr) (j : Nat) (n : Int) : List Lyr := r.take j ++ ((match r[j]? with
  | some l => if 0 < n ∧ n < l.2.2 then [(l.1, (l.2.1, l.2.2 - n))] else []
  | none => []) ++ r.drop (j + 1))
def wornS (s : Pst) (n : Int) : Pst := match topOf s.rows with
  | some (i, j) => if s.wear = 0 then s else ⟨s.wear - 1, s.rows.set i (wornR (s.rows.getD i []) j n), s.next⟩
  | none => s
def isWorn (s : Pst) : Bool := (topOf s.rows).isSome && decide (s.wear = 0)
theorem wornR_len (r : List Lyr) (j : Nat) (n : Int) : (wornR r j n).length ≤ r.length := by
  unfold wornR
  rw [List.length_append, List.length_append, List.length_take, List.length_drop]
  cases e : r[j]? with
  | none =>
    have := List.getElem?_eq_none_iff.mp e
    show _ + (0 + _) ≤ _
    omega
  | some l =>
    obtain ⟨h, _⟩ := List.getElem?_eq_some_iff.mp e
    have : (if 0 < n ∧ n < l.2.2 then [(l.1, (l.2.1, l.2.2 - n))] else []).length ≤ 1 := by split <;> simp
    show _ + ((if 0 < n ∧ n < l.2.2 then [(l.1, (l.2.1, l.2.2 - n))] else []).length + _) ≤ _
    omega
theorem wornR_mem {r : List Lyr} {j : Nat} {n : Int} {q : Lyr} (h : q ∈ wornR r j n) : q ∈ r ∨ ∃ l ∈ r, 0 < n ∧ n < l.2.2 ∧ q = (l.1, (l.2.1, l.2.2 - n)) := by
  unfold wornR at h
  rcases List.mem_append.mp h with h | h
  · exact .inl (List.mem_of_mem_take h)
  rcases List.mem_append.mp h with h | h
  · cases e : r[j]? with
    | none => rw [e] at h; cases h
    | some l =>
      rw [e] at h
      have h : q ∈ (if 0 < n ∧ n < l.2.2 then [(l.1, (l.2.1, l.2.2 - n))] else []) := h
      split at h
      · rename_i c
        exact .inr ⟨l, List.mem_of_getElem? e, c.1, c.2, List.mem_singleton.mp h⟩
      · cases h
  · exact .inl (List.mem_of_mem_drop h)
theorem wornR_ok {r : List Lyr} {j : Nat} {n : Int} (h : ∀ l ∈ r, LyOk l) : ∀ l ∈ wornR r j n, LyOk l := fun q hq => by
  rcases wornR_mem hq with z | ⟨l, hl, c1, c2, rfl⟩
  · exact h q z
  · have := h l hl
    have hb := this.lay.big
    exact ⟨⟨this.lay.nm, by show 0 < l.2.2 - n; omega, by show l.2.2 - n < 10 ^ 400; omega⟩, this.lo, this.hi⟩
theorem wornR_in {r : List Lyr} {j : Nat} {n : Int} {l : Lyr} (h : r[j]? = some l) (h0 : 0 < n) (h1 : n < l.2.2) : wornR r j n = r.take j ++ ((l.1, (l.2.1, l.2.2 - n)) :: r.drop (j + 1)) := by
  unfold wornR
  rw [h]
  show _ ++ ((if 0 < n ∧ n < l.2.2 then _ else _) ++ _) = _
  rw [if_pos ⟨h0, h1⟩]
  rfl
theorem wornR_out {r : List Lyr} {j : Nat} {n : Int} {l : Lyr} (h : r[j]? = some l) (h1 : ¬ (0 < n ∧ n < l.2.2)) : wornR r j n = r.take j ++ r.drop (j + 1) := by
  unfold wornR
  rw [h]
  show _ ++ ((if 0 < n ∧ n < l.2.2 then _ else _) ++ _) = _
  rw [if_neg h1]
  rfl
section
variable [Tb] {K : PySem.W.Frag} {CP CL : Addr} {H H' : Hp} {a : PlAddr} {ks : List Ink} {s : Pst}
/-- a row's list and the wear written anew -/
theorem PlAt.rewrote (h : PlAt K CP CL H a ks s) {i : Nat} {l : Addr} {w' : Int} {vs : List V} {r' : List Lyr} (hi : i < ks.length) (hl : a.ls[i]? = some l) (k : Kp (fun b => b = l ∨ b = a.x) H H') (h1 : H' l = some (.lst vs))
    (h2 : H' a.x = some (.ins CL a.dx [("own_palette", .ref a.pl), ("wear_left", .int w'), ("layers", .ref a.d), ("next_mark", .int s.next)])) (im : ImAll K H' vs (r'.map lyrD)) (hlen : r'.length ≤ 1000) (ok : ∀ l ∈ r', LyOk l) :
    PlAt K CP CL H' a ks ⟨w', s.rows.set i r', s.next⟩ ∧ Kp (Ft a) H H' := by
  have ml : l ∈ a.ls := List.mem_of_getElem? hl
  obtain ⟨nlx, nld⟩ := h.ne_l ml
  have kf : Kp (Ft a) H H' := k.mono fun b z => by
    rcases z with z | z
    · rw [z]; exact .inr (.inr ml)
    · exact .inl z
  refine ⟨⟨h.pal.up kf (fun z => (h.out _ z).1 rfl) (fun z => (h.out _ z).2 rfl), h2, k.all a.d _ h.dct ?_, h.len, by show (s.rows.set _ _).length = _; rw [List.length_set, h.rws], fun j l2 r2 g1 g2 => ?_, h.nd, fun r2 hr => ?_, h.out⟩, kf⟩
  · rintro (z | z)
    · exact nld z.symm
    · exact h.ne_xd z.symm
  · have g2 : (s.rows.set i r')[j]? = some r2 := g2
    by_cases e : i = j
    · subst e
      rw [List.getElem?_set_self (by rw [h.rws]; exact hi)] at g2
      obtain rfl := Option.some.inj g2
      obtain rfl : l = l2 := Option.some.inj (hl.symm.trans g1)
      exact ⟨vs, h1, im⟩
    · rw [List.getElem?_set_ne e] at g2
      obtain ⟨ws, f1, f2⟩ := h.row j l2 r2 g1 g2
      refine ⟨ws, k.all l2 _ f1 ?_, ImAll.up kf _ _ f2⟩
      rintro (z | z)
      · rw [z] at g1
        exact e (nd_get h.nd hl g1)
      · exact (h.ne_l (List.mem_of_getElem? g1)).1 z
  · have hr : r2 ∈ s.rows.set i r' := hr
    rcases List.mem_or_eq_of_mem_set hr with z | z
    · exact h.ok r2 z
    · rw [z]; exact ⟨hlen, ok⟩
theorem MdAt.wearSet {b : MdAddr} (h : MdAt K H b ks s) (w' : Int) : MdAt K (upd H b.m (.dK (mdK b ⟨w', s.rows, s.next⟩))) b ks ⟨w', s.rows, s.next⟩ ∧ Kp (At b.m) H (upd H b.m (.dK (mdK b ⟨w', s.rows, s.next⟩))) := by
  have k : Kp (At b.m) H (upd H b.m (.dK (mdK b ⟨w', s.rows, s.next⟩))) := Kp.set rfl h.dct
  have nl : ∀ l, (∃ ws, H l = some (.lst ws)) → l ≠ b.m := by
    rintro l ⟨ws, e⟩ z
    rw [z, h.dct] at e
    cases e
  obtain ⟨ys, g1, g2⟩ := h.inks
  refine ⟨⟨upd_same, ⟨ys, k.all _ _ g1 (nl _ ⟨_, g1⟩), ImAll.up k _ _ g2⟩, k.all _ _ h.rd (fun e => h.apart e.symm), h.len, h.rws, fun i l r h1 h2 => ?_, h.iok, h.ok⟩, k⟩
  obtain ⟨ws, f1, f2⟩ := h.row i l r h1 h2
  exact ⟨ws, k.all _ _ f1 (nl _ ⟨_, f1⟩), ImAll.up k _ _ f2⟩
end
theorem put_wear (b : MdAddr) (s : Pst) (n : Int) : putK (mdK b s) (.inr "wear") (.int n) = mdK b ⟨n, s.rows, s.next⟩ := rfl
/-! ### l.pop(i), l.insert(i, e), d.get(k, e) -/
section
variable {X : Cx} {e : Expr} {to te ti : TE}
def yPopAt (to ti : TE) : TE := fun σ H Q => to σ H fun x H1 => match x with
  | .ref l => (∃ xs, H1 l = some (.lst xs)) ∧ ti σ H1 fun y H2 => match y with
    | .int i => ∃ xs, H2 l = some (.lst xs) ∧ 0 ≤ i ∧ i < 2 ^ 63 ∧ ∃ z, xs[i.toNat]? = some z ∧ Q z (upd H2 l (.lst (xs.eraseIdx i.toNat)))
    | _ => False
  | _ => False
theorem ye_popAt (h : PE X e (tBM X.K "list" rPopAt (cl to) (tCons (cl ti) tNil))) : PE X e (yPopAt to ti) :=
  PE.imp h fun σ H Q h => ⟨_, h, fun x H1 q => by
    cases x with
    | ref l =>
      obtain ⟨⟨xs, hx⟩, q⟩ := q
      refine ⟨.inl ⟨rfl, xs, SqL.of hx⟩, _, q, fun y H2 q2 => ?_⟩
      cases y with
      | int i =>
        obtain ⟨ys, h1, h2, h3, z, h4, h5⟩ := q2
        have hlt := (List.getElem?_eq_some_iff.mp h4).1
        refine ⟨l, ys, i, i.toNat, z, rfl, rfl, h1, by omega, h3, ?_, h4, h5⟩
        unfold seqIndex?
        rw [if_neg (show ¬ i < 0 by omega)]
        exact if_pos (by rw [Bool.and_eq_true, decide_eq_true_eq, decide_eq_true_eq]; exact ⟨h2, by omega⟩)
      | _ => exact q2.elim
    | _ => exact q.elim⟩
abbrev rIns : V → List V → Hp → VK → Prop := fun x vs H Q => ∃ (l : Addr) (xs : List V) (i : Int) (y : V), x = .ref l ∧ vs = [.int i, y] ∧ H l = some (.lst xs) ∧ xs.length < sizeLine ∧ 0 ≤ i ∧ i < 2 ^ 63 ∧ Q .non (upd H l (.lst (xs.take i.toNat ++ [y] ++ xs.drop i.toNat)))
def yIns (to ti te : TE) : TE := fun σ H Q => to σ H fun x H1 => match x with
  | .ref l => (∃ xs, H1 l = some (.lst xs)) ∧ ti σ H1 fun i H2 => te σ H2 fun y H3 => match i with
    | .int i => ∃ xs, H3 l = some (.lst xs) ∧ xs.length < sizeLine ∧ 0 ≤ i ∧ i < 2 ^ 63 ∧ Q .non (upd H3 l (.lst (xs.take i.toNat ++ [y] ++ xs.drop i.toNat)))
    | _ => False
  | _ => False
theorem ye_insert (h : PE X e (tBM X.K "list" rIns (cl to) (tCons (cl ti) (tCons (cl te) tNil)))) : PE X e (yIns to ti te) :=
  PE.imp h fun σ H Q h => ⟨_, h, fun x H1 q => by
    cases x with
    | ref l =>
      obtain ⟨⟨xs, hx⟩, q⟩ := q
      refine ⟨.inl ⟨rfl, xs, SqL.of hx⟩, _, q, fun i H2 q2 => ⟨_, q2, fun y H3 q3 => ?_⟩⟩
      cases i with
      | int i =>
        obtain ⟨ys, h1, h2, h3, h4, h5⟩ := q3
        exact ⟨l, ys, i, y, rfl, rfl, h1, h2, h3, h4, h5⟩
      | _ => exact q3.elim
    | _ => exact q.elim⟩
def yGet (td ty tx : TE) : TE := fun σ H Q => td σ H fun x H1 => match x with
  | .ref a => (∃ kvs, H1 a = some (.dK kvs)) ∧ ty σ H1 fun y H2 => tx σ H2 fun z H3 => match y with
    | .str k => ∃ kvs, H3 a = some (.dK kvs) ∧ Q ((valV kvs (.inr k)).getD z) H3
    | _ => False
  | _ => False
theorem ye_get {o e1 e2 : Expr} {td ty tx : TE} {apos cpos : Pos} (hu : X.A.units + 64 < cLine) (hd : PE X o td) (h1 : PE X e1 ty) (h2 : PE X e2 tx) (m : M2 X o "get" apos e1 e2 cpos := by exact ⟨rfl, rfl, rfl, rfl⟩) :
    PE X (.Call (.Attribute o "get" apos) [e1, e2] [] cpos) (yGet td ty tx) :=
  PE.imp (pe_dget2 (by omega) (PE.cl hd) (PE.cl h1) (PE.cl h2) m) fun σ H Q h => ⟨_, h, fun x H1 q => by
    cases x with
    | ref a =>
      obtain ⟨⟨kvs, hx⟩, q⟩ := q
      refine ⟨a, rfl, .inl ⟨kvs, .inl hx⟩, _, q, fun y H2 q2 => ⟨_, q2, fun z H3 q3 => ?_⟩⟩
      cases y with
      | str k =>
        obtain ⟨kvs, g1, g2⟩ := q3
        exact ⟨_, .inl ⟨kvs, .inr k, .inl g1, rfl, rfl⟩, g2⟩
      | _ => exact q3.elim
    | _ => exact q.elim⟩
end
/-! ### the classes of errors.py -/
/-- the class by the name x, at the top -/
@[irreducible] def gx (K : PySem.W.Frag) (x : Str) : Addr := He.ga K x
theorem gx_eq (K : PySem.W.Frag) (x : Str) : gx K x = He.ga K x := by unfold gx; rfl
/-- whether a D is a c -/
def isT (D c : String) : Bool := decide (D = c) || (match D with
  | "NoInk" => decide (c = "LookupError") | "NoLayer" => decide (c = "LookupError") | "NoName" => decide (c = "LookupError")
  | "NoAmount" => decide (c = "ArithmeticError") | "Worn" => decide (c = "RuntimeError")
  | "FadeError" => decide (c = "ValueError")
  | _ => decide (c = "FadeError") || decide (c = "ValueError"))
abbrev blts : List String := ["ValueError", "LookupError", "ArithmeticError", "RuntimeError"]
/-- the classes ns stand; exceptions of the classes ds are caught and looked at -/
structure Srt (K : PySem.W.Frag) (mg : Str → Option Value) (ns ds : List String) : Prop where
  mg_ : ∀ x ∈ ns, mg (x : Str) = some (.ref (gx K x))
  exc : ∀ D ∈ ds, ExcC K (gx K D)
  xf : ∀ D ∈ ds, XfC K (gx K D)
  own : ∀ D ∈ ds, ∀ c ∈ ns, PySem.W.kitOne K (.ref (gx K D)) (.ref (gx K c)) = some (isT D c)
  blt : ∀ D ∈ ds, ∀ c ∈ blts, PySem.W.kitOne K (.ref (gx K D)) (.type c) = some (isT D c)
  exm : ∀ D ∈ ds, ∀ c ∈ ns, PySem.W.exmOne K (.ref (gx K D)) (.ref (gx K c)) = some (isT D c)
def excB (K : PySem.W.Frag) (D : Addr) : Bool :=
  He.eqO (PySem.W.findIn K (.ref D) "__getattribute__") (some (some (.builtin "BaseException.__getattribute__"))) && (He.eqO (PySem.W.findIn K (.ref D) "__getattr__") (some none) && (decide (PySem.W.subIn K (.ref D) (.type "BaseException") = some true) && (PySem.W.hasDictIn K D &&
    (He.eqO (PySem.W.findIn K (.ref D) "__class__") (some (some (.builtin "object.__class__"))) && (He.eqO (PySem.W.specialIn K (.builtin "object.__class__") "__get__") (some (some (.builtin "getset_descriptor.__get__"))) && (decide (PySem.W.takesIn K (.builtin "object.__class__") = some true) && decide (PySem.W.mroIn K D (.type "object") = some true)))))))
theorem excB_ok {K : PySem.W.Frag} {D : Addr} (h : excB K D = true) : ExcC K D := by
  obtain ⟨h1, h⟩ := He.ba h
  obtain ⟨h2, h⟩ := He.ba h
  obtain ⟨h3, h⟩ := He.ba h
  obtain ⟨h4, h⟩ := He.ba h
  obtain ⟨h5, h⟩ := He.ba h
  obtain ⟨h6, h⟩ := He.ba h
  obtain ⟨h7, h8⟩ := He.ba h
  exact ⟨He.eqO_ok h1, He.eqO_ok h2, of_decide_eq_true h3, h4, He.eqO_ok h5, He.eqO_ok h6, of_decide_eq_true h7, of_decide_eq_true h8⟩
theorem exc_fields {K : PySem.W.Frag} {D : Addr} (c : ExcC K D) : XfC K D := ⟨c.hg, c.hk, c.hs, c.hd⟩
def srtB (K : PySem.W.Frag) (ns ds : List String) : Bool := ds.all fun D => excB K (He.ga K D) && (ns.all (fun c => decide (PySem.W.kitOne K (.ref (He.ga K D)) (.ref (He.ga K c)) = some (isT D c)) && decide (PySem.W.exmOne K (.ref (He.ga K D)) (.ref (He.ga K c)) = some (isT D c))) && blts.all fun c => decide (PySem.W.kitOne K (.ref (He.ga K D)) (.type c) = some (isT D c)))
theorem srtB_ok {K : PySem.W.Frag} {mg : Str → Option Value} {ns ds : List String} (hm : ∀ x ∈ ns, mg (x : Str) = some (.ref (He.ga K x))) (h : srtB K ns ds = true) : Srt K mg ns ds := by
  have key : ∀ D ∈ ds, _ := fun D hD => List.all_eq_true.mp h D hD
  refine ⟨fun x hx => by rw [gx_eq]; exact hm x hx, fun D hD => ?_, fun D hD => ?_, fun D hD c hc => ?_, fun D hD c hc => ?_, fun D hD c hc => ?_⟩ <;> obtain ⟨h1, h2⟩ := He.ba (key D hD) <;> obtain ⟨h3, h4⟩ := He.ba h2
  · rw [gx_eq]; exact excB_ok h1
  · rw [gx_eq]; exact exc_fields (excB_ok h1)
  · rw [gx_eq, gx_eq]; exact of_decide_eq_true (He.ba (List.all_eq_true.mp h3 c hc)).1
  · rw [gx_eq]; exact of_decide_eq_true (List.all_eq_true.mp h4 c hc)
  · rw [gx_eq, gx_eq]; exact of_decide_eq_true (He.ba (List.all_eq_true.mp h3 c hc)).2

theorem ie_suite {X : Cx} {a : Addr} {oe : Obj} {cls : Value} {d : Option Addr} {pn : List (Addr × Obj)} (hz : Zc cls d oe) (hf : ∃ vs, oe.data = .fields vs) : IsEx (X.suite a ((a, oe) :: pn)) a cls d := ⟨⟨oe, List.mem_cons_self, hz, hf⟩⟩
/-- an own exception class without an own __init__ -/
structure NxC (K : PySem.W.Frag) (mg : Str → Option Value) (tail : List Value) (newId : String) (x : String) : Prop where
  mgx : mg (x : Str) = some (.ref (gx K x))
  ex : PySem.W.excIn K (gx K x) tail newId = true
  exc : PySem.W.subIn K (.ref (gx K x)) (.type "BaseException") = some true
  typ : PySem.W.typeIn K (.ref (gx K x)) = some (.type "type")
  kp : PySem.W.keepIn K (.ref (gx K x)) = true
theorem pmkN {X : Cx} {K : PySem.W.Frag} {mg : Str → Option Value} {tail : List Value} {newId B initId : String} {x : String} {m : Str} {j : Nat} {p p2 pos : Pos} (F : ExcBaseFacts B newId initId tail) (hK : X.K = K) (hmg : X.mg = mg) (n : NxC K mg tail newId x) (hg : Gl X (x : Str)) (hdb : ((x : Str) == ("__debug__" : Str)) = false := by decide) :
    PMk X (.Call (.Name (x : Str) p) [.Constant (.str m) j p2] [] pos) (fun _ H Q => Q (.ref (gx K x)) none H) := by
  subst hK hmg
  exact pmk_own F n.ex n.mgx n.kp (raises_own n.exc n.typ) hg (hdb := hdb)
def nxB (K : PySem.W.Frag) (tail : List Value) (newId : String) (C : Addr) : Bool := PySem.W.excIn K C tail newId && (decide (PySem.W.subIn K (.ref C) (.type "BaseException") = some true) && (decide (PySem.W.typeIn K (.ref C) = some (.type "type")) && PySem.W.keepIn K (.ref C)))
theorem nxB_ok {K : PySem.W.Frag} {mg : Str → Option Value} {tail : List Value} {newId x : String} (hm : mg (x : Str) = some (.ref (He.ga K x))) (h : nxB K tail newId (He.ga K x) = true) : NxC K mg tail newId x := by
  obtain ⟨h1, h⟩ := He.ba h
  obtain ⟨h2, h⟩ := He.ba h
  obtain ⟨h3, h4⟩ := He.ba h
  refine ⟨?_, ?_, ?_, ?_, ?_⟩ <;> rw [gx_eq]
  · exact hm
  · exact h1
  · exact of_decide_eq_true h2
  · exact of_decide_eq_true h3
  · exact h4
end Y

set_option Elab.async false
set_option linter.all false
set_option maxRecDepth 100000
set_option maxHeartbeats 2000000
/-! N2: a != b of own instances, by the class's own __eq__ (object.__ne__). -/
namespace Y
open PySem PySem.Spec PyProof.Rows L2
section
variable {prog : Program} {w : World} {A : Around} {E : Value → Shared → Prop} {s : Shared} {K : PySem.W.Frag} {x y C f : Addr} {ox : Obj} {od : Option Obj}
open Builtin in
theorem ne_own {Q : Value → Shared → Prop} (inK : K.In s.heap) (J : PySem.W.InstAt s.heap x ox C od) (J2 : PySem.W.Looks (model prog w) s.heap (typeOf (.ref y)) (.ref C)) (hne : PySem.W.findIn K (.ref C) "__ne__" = some (some (.builtin "object.__ne__")))
    (heq : PySem.W.findIn K (.ref C) "__eq__" = some (some (.ref f))) (hf : PySem.W.isFn K (.ref f) = true) (hm : PySem.W.mroIn K C (.type "object") = some true) (hu : A.units + 1 < cLine)
    (h : wpAny (model prog w) A.in1 (call (.ref f) [.ref x, .ref y]) (fun v s' => ∃ b, v = .bool b ∧ Q (.bool (!b)) s') E s) : wpAny (model prog w) A (richCompare .NotEq (.ref x) (.ref y)) Q E s := by
  have ent : wpAny (model prog w) A.in1 (Builtin.«object.__ne__» ⟨[.ref x, .ref y], []⟩) (fun r s' => ∃ b, r = .done (.ret (.bool (!b))) ∧ Q (.bool (!b)) s') E s := by
    obtain ⟨hp, g, d, t, os⟩ := s
    unfold Builtin.«object.__ne__»
    repeat (first
      | with_reducible refine wpAny_cRoomFor hu ?_
      | (refine wpAny_bind (m := callSpecialIfBound? (.ref x) (Str.ofString "__eq__") [.ref y]) (PySem.W.ifBound_K inK J heq hf (wpAny_mono h (fun r s' hr => ?_) fun _ _ e => e)))
      | wp_step)
    obtain ⟨b, rfl, hq⟩ := hr
    repeat (first | exact ⟨b, rfl, hq⟩ | exact wpAny_pure ⟨b, rfl, hq⟩ | exact wpAny_truthy_bool ⟨b, rfl, hq⟩ | (refine wpAny_bind (m := truthy (.bool _)) (wpAny_truthy_bool ?_)) | wp_step)
  have isO : PySem.W.Looks (model prog w) s.heap (isInstance (.ref x) (.type "object")) true := J.type.andThen (PySem.W.looks_mroIn inK hm)
  have bnd : ∀ {R : Option Value → Shared → Prop}, wpAny (model prog w) A (call (.builtin "object.__ne__") [.ref x, .ref y]) (fun v => R (some v)) E s → wpAny (model prog w) A (callSpecialIfBound? (.ref x) "__ne__" [.ref y]) R E s := by
    intro R hR
    simp only [callSpecialIfBound?, bindSpecialIfBound?]
    refine wpAny_holding (wpAny_bind (wpAny_bind (wpAny_bind (J.type.here ((PySem.W.looks_findIn inK hne).here ?_)))))
    simp only [F.cmp_object.ne.bind]
    refine wpAny_bind (wpAny_askSetting (wpAny_ite ?_))
    have fin : wpAny (model prog w) A (call (.builtin "object.__ne__") ([.ref x] ++ [.ref y]) >>= fun v => pure (some v)) R E s := wpAny_bind (wpAny_mono hR (fun v s' z => wpAny_pure z) fun _ _ z => z)
    split
    · exact wpAny_bind (wpAny_pure (wpAny_pure (by exact fin)))
    · exact wpAny_tryCatch (wpAny_bind (wpAny_pure (wpAny_pure (by exact fin))))
  have one : wpAny (model prog w) A (tryCompare (.ref x) "__ne__" (.ref y)) (fun r s' => ∃ v, r = some v ∧ Q v s') E s := by
    unfold tryCompare
    refine wpAny_bind (bnd (wpAny_call (codeAny_call_builtin F.cmp_object.ne.plain F.cmpEntry_ne ?_)))
    refine PySem.W.check_slot F.cmpKind_ne F.cmpSplit_ne isO (F.cmpArgs_ne _ _) ?_
    refine wpAny_mono ent (fun r s' hr => ?_) fun _ _ e => e
    obtain ⟨b, rfl, hq⟩ := hr
    exact wpAny_pure ⟨_, rfl, hq⟩
  unfold richCompare
  simp only [oneThing_ref]
  refine wpAny_holding (wpAny_bind (wpAny_cRoomFor (by omega) ?_))
  rw [cmpInfo_NotEq]
  dsimp only
  refine wpAny_bind (J.type.here (wpAny_bind (J2.here ?_)))
  rw [show (Value.ref C != Value.ref C) = false from by simp]
  simp only [Bool.false_eq_true, if_false]
  refine wpAny_bind (wpAny_pure ?_)
  simp only [Bool.false_eq_true, if_false]
  refine wpAny_bind (wpAny_mono one (fun r s' z => ?_) fun _ _ e => e)
  obtain ⟨v, rfl, hq⟩ := z
  exact wpAny_pure hq
end
/-- what != asks of an own class -/
structure NeC (K : PySem.W.Frag) (C : Addr) : Prop where
  ne : PySem.W.findIn K (.ref C) "__ne__" = some (some (.builtin "object.__ne__"))
  mro : PySem.W.mroIn K C (.type "object") = some true
def neB (K : PySem.W.Frag) (C : Addr) : Bool := He.eqO (PySem.W.findIn K (.ref C) "__ne__") (some (some (.builtin "object.__ne__"))) && decide (PySem.W.mroIn K C (.type "object") = some true)
theorem neB_ok {K : PySem.W.Frag} {C : Addr} (h : neB K C = true) : NeC K C := ⟨He.eqO_ok (He.ba h).1, of_decide_eq_true (He.ba h).2⟩
/-- a != b by C's own __eq__ -/
def yNeI (C : Addr) (sp : Sp) : R2 := fun x y H Q => match x, y with
  | .ref a, .ref b => ∃ dx fs dy gs, H a = some (.ins C dx fs) ∧ H b = some (.ins C dy gs) ∧ sp [.ref a, .ref b] H (fun v H' => ∃ r, v = .bl r ∧ Q (.bl (!r)) H') E0
  | _, _ => False
theorem kNeI {X : Cx} {K : PySem.W.Frag} {C : Addr} {k j : Nat} {sp : Sp} (h0 : X.K = K) (n : NeC K C) (c : CalM X.prog X.w X.K X.mg X.base k C "__eq__" sp) (room : Room j X.A) (gd : X.A.guards = some []) (hk : k + 1 ≤ j := by decide) : OpR X (compareOp .NotEq) (yNeI C sp) := by
  subst h0
  intro pins s σ H x y v u Q I rx ry h
  unfold yNeI at h
  split at h
  · rename_i a b
    obtain ⟨dx, fs, dy, gs, ha, hb, hsp⟩ := h
    obtain ⟨f, fd, ps, F, cl, hm, bn⟩ := c
    cases rx
    cases ry
    obtain ⟨mA, J, _⟩ := ins_get I.hok ha
    obtain ⟨mB, J', _⟩ := ins_get I.hok hb
    obtain ⟨od, J, _⟩ := J.look
    obtain ⟨od', J', _⟩ := J'.look
    show wpAny (model X.prog X.w) X.A (richCompare .NotEq (.ref a) (.ref b)) (EP X pins σ Q) X.xe s
    have un := room.units
    refine ne_own I.kIn J J'.type n.ne hm.at_ hm.fn n.mro (by omega) ?_
    have rel : Vals [V.ref a, V.ref b] [Value.ref a, Value.ref b] := .cons rfl (.cons rfl .nil)
    have ln : [Value.ref a, Value.ref b].length = ps.length := rel.length ▸ F.arity _ _ _ _ hsp
    have bd := bn s [.ref a, .ref b] I.kIn (by rw [List.append_nil]; exact ln)
    rw [List.append_nil] at bd
    have run := F.goes X.A.in1 X.stack s H ⟨[.ref a, .ref b], []⟩ [.ref a, .ref b] [.ref a, .ref b] _ E0 (room.mono hk).in1 gd I.env0.in1 bd rel hsp
    refine wpAny_call (codeAny_mono run ?_)
    intro r s' hq
    match r, hq with
    | .error er, hq => exact pass0 (X := X) pins σ H s er s' I hq
    | .ok .next, hq => exact hq.elim
    | .ok .brk, hq => exact hq.elim
    | .ok .cont, hq => exact hq.elim
    | .ok (.ret u), hq =>
      obtain ⟨z, H', I', rz, r, rfl, q⟩ := I.after hq
      cases rz
      exact ⟨r, rfl, .bl (!r), H', I', rfl, q⟩
  · exact h.elim
end Y

set_option Elab.async false
set_option linter.all false
set_option maxRecDepth 100000
set_option maxHeartbeats 2000000
set_option exponentiation.threshold 600
/-! X5: grafts and presses as mathematics; several places and models side by side. -/
namespace Y
open PySem PySem.Spec PyProof.Rows L2
def graftRow (s : Pst) (i : Nat) (r : List Lyr) : Pst := r.foldl (fun s l => laidS s i l.2) s
def graftTo (s s2 : Pst) : Nat → Pst
  | 0 => s
  | i + 1 => graftRow (graftTo s s2 i) i (s2.rows.getD i [])
def graftS (s s2 : Pst) (n : Nat) : Pst := ⟨min s.wear s2.wear, (graftTo s s2 n).rows, (graftTo s s2 n).next⟩
def pressS (s s2 : Pst) : Pst := match topOf s2.rows with
  | some (i, n) => if 1 < ((s2.rows.getD i []).getD n (0, default, 0)).2.2 then laidS s i (((s2.rows.getD i []).getD n (0, default, 0)).2.1, ((s2.rows.getD i []).getD n (0, default, 0)).2.2 / 2) else s
  | none => s
theorem graftRow_snoc (s : Pst) (i : Nat) (r : List Lyr) (l : Lyr) : graftRow s i (r ++ [l]) = laidS (graftRow s i r) i l.2 := by
  unfold graftRow
  rw [List.foldl_append]
  rfl
theorem laidS_len (s : Pst) (i : Nat) (y : Lay) : (laidS s i y).rows.length = s.rows.length := List.length_set
theorem laidS_other (s : Pst) {i j : Nat} (h : i ≠ j) (y : Lay) : (laidS s i y).rows[j]? = s.rows[j]? := List.getElem?_set_ne h
theorem laidS_at (s : Pst) {i : Nat} (h : i < s.rows.length) (y : Lay) : (laidS s i y).rows.getD i [] = s.rows.getD i [] ++ [(s.next, y)] := by
  rw [List.getD_eq_getElem?_getD]
  show ((s.rows.set i _)[i]?).getD [] = _
  rw [List.getElem?_set_self h]
  rfl
theorem graftRow_len (i : Nat) : ∀ (r : List Lyr) (s : Pst), (graftRow s i r).rows.length = s.rows.length
  | [], _ => rfl
  | l :: r, s => by
    show (graftRow (laidS s i l.2) i r).rows.length = _
    rw [graftRow_len i r, laidS_len]
theorem graftRow_other {i j : Nat} (h : i ≠ j) : ∀ (r : List Lyr) (s : Pst), (graftRow s i r).rows[j]? = s.rows[j]?
  | [], _ => rfl
  | l :: r, s => by
    show (graftRow (laidS s i l.2) i r).rows[j]? = _
    rw [graftRow_other h r, laidS_other s h]
theorem graftRow_next (i : Nat) : ∀ (r : List Lyr) (s : Pst), (graftRow s i r).next = s.next + r.length
  | [], s => by show s.next = s.next + (0 : Nat); omega
  | l :: r, s => by
    show (graftRow (laidS s i l.2) i r).next = _
    rw [graftRow_next i r]
    show s.next + 1 + _ = _
    rw [List.length_cons]
    omega
theorem graftRow_wear (i : Nat) : ∀ (r : List Lyr) (s : Pst), (graftRow s i r).wear = s.wear
  | [], s => rfl
  | l :: r, s => graftRow_wear i r (laidS s i l.2)
theorem graftRow_at {i : Nat} : ∀ (r : List Lyr) (s : Pst), i < s.rows.length → ((graftRow s i r).rows.getD i []).length = (s.rows.getD i []).length + r.length ∧ ∀ l ∈ (graftRow s i r).rows.getD i [], l ∈ s.rows.getD i [] ∨ ∃ q ∈ r, l.2 = q.2
  | [], s, _ => ⟨rfl, fun l hl => .inl hl⟩
  | q :: r, s, h => by
    obtain ⟨h1, h2⟩ := graftRow_at r (laidS s i q.2) (by rw [laidS_len]; exact h)
    rw [laidS_at s h] at h1 h2
    refine ⟨?_, fun l hl => ?_⟩
    · show ((graftRow (laidS s i q.2) i r).rows.getD i []).length = _
      rw [h1, List.length_append, List.length_cons, List.length_cons, List.length_nil]
      omega
    · rcases h2 l hl with z | ⟨p, hp, e⟩
      · rcases List.mem_append.mp z with z | z
        · exact .inl z
        · rw [List.mem_singleton.mp z]
          exact .inr ⟨q, List.mem_cons_self .., rfl⟩
      · exact .inr ⟨p, List.mem_cons_of_mem _ hp, e⟩
theorem graftTo_len (s s2 : Pst) : ∀ i, (graftTo s s2 i).rows.length = s.rows.length
  | 0 => rfl
  | i + 1 => (graftRow_len i _ _).trans (graftTo_len s s2 i)
theorem graftTo_wear (s s2 : Pst) : ∀ i, (graftTo s s2 i).wear = s.wear
  | 0 => rfl
  | i + 1 => (graftRow_wear i _ _).trans (graftTo_wear s s2 i)
theorem graftTo_late (s s2 : Pst) : ∀ i j, i ≤ j → (graftTo s s2 i).rows[j]? = s.rows[j]?
  | 0, _, _ => rfl
  | i + 1, j, h => (graftRow_other (by omega) _ _).trans (graftTo_late s s2 i j (by omega))
/-! ### members -/
structure Mem where
  a : PlAddr
  b : MdAddr
  s : Pst
  r : Pst
section
variable [Tb] {K : PySem.W.Frag} {CP CL : Addr} {H H' : Hp} {ks : List Ink} {F : List Mem}
structure Fam [Tb] (K : PySem.W.Frag) (CP CL : Addr) (H : Hp) (ks : List Ink) (F : List Mem) : Prop where
  pl : ∀ m ∈ F, PlAt K CP CL H m.a ks m.s
  md : ∀ m ∈ F, MdAt K H m.b ks m.r
  dj : ∀ m ∈ F, ∀ n ∈ F, ∀ y, MF n.b y → ¬ Ft m.a y
  np : ∀ m ∈ F, ∀ n ∈ F, (¬ Mt n.b m.a.pl ∧ ¬ Mt n.b m.a.pd) ∧ ¬ Ft n.a m.a.pl ∧ ¬ Ft n.a m.a.pd
  pp : ∀ (i j : Nat) (m n : Mem), F[i]? = some m → F[j]? = some n → i ≠ j → ∀ y, Ft m.a y → ¬ Ft n.a y
  mm : ∀ (i j : Nat) (m n : Mem), F[i]? = some m → F[j]? = some n → i ≠ j → ∀ y, Mt m.b y → ¬ MF n.b y
theorem Fam.up {S : Addr → Prop} (h : Fam K CP CL H ks F) (k : Kp S H H') (n : ∀ m ∈ F, ∀ y, S y → ¬ Ft m.a y ∧ ¬ MF m.b y ∧ y ≠ m.a.pl ∧ y ≠ m.a.pd) : Fam K CP CL H' ks F :=
  ⟨fun m hm => (h.pl m hm).up k (fun z => (n m hm _ z).2.2.1 rfl) (fun z => (n m hm _ z).2.2.2 rfl) fun y f z => (n m hm y z).1 f, fun m hm => (h.md m hm).up k fun y f z => (n m hm y z).2.1 f, h.dj, h.np, h.pp, h.mm⟩
theorem Fam.up0 (h : Fam K CP CL H ks F) (k : Kp No H H') : Fam K CP CL H' ks F := h.up k fun _ _ _ z => z.elim
theorem md_full {b : MdAddr} {s : Pst} (h : MdAt K H b ks s) : ∀ y, MF b y → H y ≠ none := by
  rintro y (z | z | z | z)
  · rw [z, h.dct]; intro e; cases e
  · obtain ⟨ys, g, _⟩ := h.inks
    rw [z, g]; intro e; cases e
  · rw [z, h.rd]; intro e; cases e
  · obtain ⟨i, hi, rfl⟩ := List.mem_iff_getElem.mp z
    obtain ⟨vs, g1, _⟩ := h.row i _ _ (List.getElem?_eq_getElem hi) (List.getElem?_eq_getElem (show i < s.rows.length by rw [h.rws, ← h.len]; exact hi))
    rw [g1]; intro e; cases e
omit [Tb] in
theorem pal_full {C x dx d : Addr} (h : PalAt C H x dx d ks) : H x ≠ none ∧ H d ≠ none := by
  refine ⟨fun e => ?_, fun e => ?_⟩
  · rw [h.ins] at e; cases e
  · rw [h.dct] at e; cases e
omit [Tb] in
theorem set_get {i j : Nat} {m' n : Mem} (h : (F.set i m')[j]? = some n) : (i = j ∧ n = m') ∨ (i ≠ j ∧ F[j]? = some n) := by
  by_cases e : i = j
  · subst e
    rw [List.getElem?_set] at h
    rw [if_pos rfl] at h
    split at h
    · exact .inl ⟨rfl, (Option.some.inj h).symm⟩
    · cases h
  · rw [List.getElem?_set_ne e] at h
    exact .inr ⟨e, h⟩
theorem Fam.place (h : Fam K CP CL H ks F) {i : Nat} {m : Mem} (hi : F[i]? = some m) {ls' : List Addr} {s' : Pst} (k : Kp (Ft m.a) H H') (p : PlAt K CP CL H' (m.a.at_ ls') ks s') (hl : ∀ l ∈ ls', l ∈ m.a.ls ∨ H l = none) :
    Fam K CP CL H' ks (F.set i ⟨m.a.at_ ls', m.b, s', m.r⟩) := by
  have mi := List.mem_of_getElem? hi
  have ft : ∀ y, Ft (m.a.at_ ls') y → Ft m.a y ∨ H y = none := by
    rintro y (z | z | z)
    · exact .inl (.inl z)
    · exact .inl (.inr (.inl z))
    · exact (hl y z).imp (fun w => .inr (.inr w)) id
  have old : ∀ n, n ∈ F.set i ⟨m.a.at_ ls', m.b, s', m.r⟩ → n = ⟨m.a.at_ ls', m.b, s', m.r⟩ ∨ n ∈ F := fun n hn => (List.mem_or_eq_of_mem_set hn).symm
  have atj : ∀ n, n ∈ F.set i ⟨m.a.at_ ls', m.b, s', m.r⟩ → n = ⟨m.a.at_ ls', m.b, s', m.r⟩ ∨ ∃ j, i ≠ j ∧ F[j]? = some n := fun n hn => by
    obtain ⟨j, hj, e⟩ := List.mem_iff_getElem.mp hn
    rcases set_get ((List.getElem?_eq_getElem hj).trans (congrArg some e)) with z | z
    · exact .inl z.2
    · exact .inr ⟨j, z⟩
  refine ⟨fun n hn => ?_, fun n hn => ?_, fun n hn q hq y f g => ?_, fun n hn q hq => ?_, fun x j n q h1 h2 ne y f g => ?_, fun x j n q h1 h2 ne y f g => ?_⟩
  · rcases atj n hn with rfl | ⟨j, ne, hj⟩
    · exact p
    · have hn := List.mem_of_getElem? hj
      exact (h.pl n hn).up k (h.np n hn m mi).2.1 (h.np n hn m mi).2.2 fun y f z => h.pp i j m n hi hj ne y z f
  · have : MdAt K H' n.b ks n.r := by
      rcases old n hn with rfl | hn
      · exact (h.md m mi).up k fun y f => h.dj m mi m mi y f
      · exact (h.md n hn).up k fun y f => h.dj m mi n hn y f
    exact this
  · have f2 : ∃ q' ∈ F, MF q'.b y ∧ H y ≠ none := by
      rcases old q hq with rfl | hq
      · exact ⟨m, mi, f, md_full (h.md m mi) y f⟩
      · exact ⟨q, hq, f, md_full (h.md q hq) y f⟩
    obtain ⟨q', hq', f3, f4⟩ := f2
    rcases old n hn with rfl | hn
    · rcases ft y g with z | z
      · exact h.dj m mi q' hq' y f3 z
      · exact f4 z
    · exact h.dj n hn q' hq' y f3 g
  · have e1 : ∃ n' ∈ F, n.a.pl = n'.a.pl ∧ n.a.pd = n'.a.pd ∧ H n.a.pl ≠ none ∧ H n.a.pd ≠ none := by
      rcases old n hn with rfl | hn
      · exact ⟨m, mi, rfl, rfl, pal_full (h.pl m mi).pal⟩
      · exact ⟨n, hn, rfl, rfl, pal_full (h.pl n hn).pal⟩
    obtain ⟨n', hn', e1, e2, e3, e4⟩ := e1
    rw [e1] at e3
    rw [e2] at e4
    rw [e1, e2]
    rcases old q hq with rfl | hq
    · refine ⟨(h.np n' hn' m mi).1, fun z => ?_, fun z => ?_⟩
      · rcases ft _ z with w | w
        · exact (h.np n' hn' m mi).2.1 w
        · exact e3 w
      · rcases ft _ z with w | w
        · exact (h.np n' hn' m mi).2.2 w
        · exact e4 w
    · exact h.np n' hn' q hq
  · rcases set_get h1 with ⟨e1, rfl⟩ | ⟨e1, h1⟩
    · rcases set_get h2 with ⟨e2, rfl⟩ | ⟨e2, h2⟩
      · exact ne (e1.symm.trans e2)
      · rcases ft y f with z | z
        · exact h.pp i j m q hi h2 e2 y z g
        · exact (h.pl q (List.mem_of_getElem? h2)).has g z
    · rcases set_get h2 with ⟨e2, rfl⟩ | ⟨e2, h2⟩
      · rcases ft y g with z | z
        · exact h.pp x i n m h1 hi (Ne.symm e1) y f z
        · exact (h.pl n (List.mem_of_getElem? h1)).has f z
      · exact h.pp x j n q h1 h2 ne y f g
  · have g1 : ∃ n', F[x]? = some n' ∧ Mt n'.b y := by
      rcases set_get h1 with ⟨e1, rfl⟩ | ⟨e1, h1⟩
      · exact ⟨m, e1 ▸ hi, f⟩
      · exact ⟨n, h1, f⟩
    have g2 : ∃ q', F[j]? = some q' ∧ MF q'.b y := by
      rcases set_get h2 with ⟨e1, rfl⟩ | ⟨e1, h2⟩
      · exact ⟨m, e1 ▸ hi, g⟩
      · exact ⟨q, h2, g⟩
    obtain ⟨n', a1, a2⟩ := g1
    obtain ⟨q', b1, b2⟩ := g2
    exact h.mm x j n' q' a1 b1 ne y a2 b2
theorem Fam.model (h : Fam K CP CL H ks F) {i : Nat} {m : Mem} (hi : F[i]? = some m) {ms' : List Addr} {r' : Pst} (k : Kp (Mt m.b) H H') (p : MdAt K H' (m.b.at_ ms') ks r') (hl : ∀ l ∈ ms', l ∈ m.b.ls ∨ H l = none) :
    Fam K CP CL H' ks (F.set i ⟨m.a, m.b.at_ ms', m.s, r'⟩) := by
  have mi := List.mem_of_getElem? hi
  have mtF : ∀ {b : MdAddr} {y : Addr}, Mt b y → MF b y := fun z => z.elim .inl fun w => .inr (.inr (.inl w))
  have ft : ∀ y, MF (m.b.at_ ms') y → MF m.b y ∨ H y = none := by
    rintro y (z | z | z | z)
    · exact .inl (.inl z)
    · exact .inl (.inr (.inl z))
    · exact .inl (.inr (.inr (.inl z)))
    · exact (hl y z).imp (fun w => .inr (.inr (.inr w))) id
  have old : ∀ n, n ∈ F.set i ⟨m.a, m.b.at_ ms', m.s, r'⟩ → n = ⟨m.a, m.b.at_ ms', m.s, r'⟩ ∨ n ∈ F := fun n hn => (List.mem_or_eq_of_mem_set hn).symm
  have atj : ∀ n, n ∈ F.set i ⟨m.a, m.b.at_ ms', m.s, r'⟩ → n = ⟨m.a, m.b.at_ ms', m.s, r'⟩ ∨ ∃ j, i ≠ j ∧ F[j]? = some n := fun n hn => by
    obtain ⟨j, hj, e⟩ := List.mem_iff_getElem.mp hn
    rcases set_get ((List.getElem?_eq_getElem hj).trans (congrArg some e)) with z | z
    · exact .inl z.2
    · exact .inr ⟨j, z⟩
  refine ⟨fun n hn => ?_, fun n hn => ?_, fun n hn q hq y f g => ?_, fun n hn q hq => ?_, fun x j n q h1 h2 ne y f g => ?_, fun x j n q h1 h2 ne y f g => ?_⟩
  · have : ∃ n' ∈ F, n.a = n'.a ∧ n.s = n'.s := by
      rcases old n hn with rfl | hn
      · exact ⟨m, mi, rfl, rfl⟩
      · exact ⟨n, hn, rfl, rfl⟩
    obtain ⟨n', hn', e1, e2⟩ := this
    rw [e1, e2]
    exact (h.pl n' hn').up k (h.np n' hn' m mi).1.1 (h.np n' hn' m mi).1.2 fun y f z => h.dj n' hn' m mi y (mtF z) f
  · rcases atj n hn with rfl | ⟨j, ne, hj⟩
    · exact p
    · exact (h.md n (List.mem_of_getElem? hj)).up k fun y f z => h.mm i j m n hi hj ne y z f
  · have g2 : ∃ n' ∈ F, Ft n'.a y := by
      rcases old n hn with rfl | hn
      · exact ⟨m, mi, g⟩
      · exact ⟨n, hn, g⟩
    obtain ⟨n', hn', g3⟩ := g2
    rcases old q hq with rfl | hq
    · rcases ft y f with z | z
      · exact h.dj n' hn' m mi y z g3
      · exact (h.pl n' hn').has g3 z
    · exact h.dj n' hn' q hq y f g3
  · have g1 : ∃ n' ∈ F, n.a = n'.a := by
      rcases old n hn with rfl | hn
      · exact ⟨m, mi, rfl⟩
      · exact ⟨n, hn, rfl⟩
    obtain ⟨n', hn', e1⟩ := g1
    rw [e1]
    rcases old q hq with rfl | hq
    · exact h.np n' hn' m mi
    · exact h.np n' hn' q hq
  · have g1 : ∃ n', F[x]? = some n' ∧ Ft n'.a y := by
      rcases set_get h1 with ⟨e1, rfl⟩ | ⟨e1, h1⟩
      · exact ⟨m, e1 ▸ hi, f⟩
      · exact ⟨n, h1, f⟩
    have g2 : ∃ q', F[j]? = some q' ∧ Ft q'.a y := by
      rcases set_get h2 with ⟨e1, rfl⟩ | ⟨e1, h2⟩
      · exact ⟨m, e1 ▸ hi, g⟩
      · exact ⟨q, h2, g⟩
    obtain ⟨n', a1, a2⟩ := g1
    obtain ⟨q', b1, b2⟩ := g2
    exact h.pp x j n' q' a1 b1 ne y a2 b2
  · rcases set_get h1 with ⟨e1, rfl⟩ | ⟨e1, h1⟩
    · rcases set_get h2 with ⟨e2, rfl⟩ | ⟨e2, h2⟩
      · exact ne (e1.symm.trans e2)
      · exact h.mm i j m q hi h2 e2 y f g
    · rcases set_get h2 with ⟨e2, rfl⟩ | ⟨e2, h2⟩
      · rcases ft y g with z | z
        · exact h.mm x i n m h1 hi (Ne.symm e1) y f z
        · exact md_full (h.md n (List.mem_of_getElem? h1)) y (mtF f) z
      · exact h.mm x j n q h1 h2 ne y f g
/-- one more -/
theorem Fam.snoc (h : Fam K CP CL H ks F) {m : Mem} (k : Kp No H H') (p : PlAt K CP CL H' m.a ks m.s) (d : MdAt K H' m.b ks m.r) (f1 : ∀ y, Ft m.a y → H y = none) (f2 : ∀ y, (y = m.b.m ∨ y = m.b.rd ∨ y ∈ m.b.ls) → H y = none)
    (g1 : ∀ y, MF m.b y → ¬ Ft m.a y) (g2 : ¬ Mt m.b m.a.pl ∧ ¬ Mt m.b m.a.pd) (il : H m.b.il ≠ none) (q1 : ∀ n ∈ F, ¬ Ft n.a m.a.pl ∧ ¬ Ft n.a m.a.pd ∧ ¬ Mt n.b m.a.pl ∧ ¬ Mt n.b m.a.pd ∧ ¬ Ft n.a m.b.il ∧ ¬ Mt n.b m.b.il) : Fam K CP CL H' ks (F ++ [m]) := by
  have h' := h.up0 k
  have mtF : ∀ {b : MdAddr} {y : Addr}, Mt b y → MF b y := fun z => z.elim .inl fun w => .inr (.inr (.inl w))
  have own : ∀ y, MF m.b y → y = m.b.il ∨ H y = none := by
    rintro y (z | z | z | z)
    · exact .inr (f2 y (.inl z))
    · exact .inl z
    · exact .inr (f2 y (.inr (.inl z)))
    · exact .inr (f2 y (.inr (.inr z)))
  have ownM : ∀ y, Mt m.b y → H y = none := fun y z => f2 y (z.elim .inl fun w => .inr (.inl w))
  have cs : ∀ n, n ∈ F ++ [m] → n ∈ F ∨ n = m := fun n hn => (List.mem_append.mp hn).imp id List.mem_singleton.mp
  have ix : ∀ (j : Nat) (n : Mem), (F ++ [m])[j]? = some n → F[j]? = some n ∨ (j = F.length ∧ n = m) := fun j n e => by
    by_cases hj : j < F.length
    · rw [List.getElem?_append_left hj] at e; exact .inl e
    · rw [List.getElem?_append_right (by omega)] at e
      have : j - F.length = 0 := by
        cases q : j - F.length with
        | zero => rfl
        | succ t => rw [q] at e; cases e
      rw [this] at e
      exact .inr ⟨by omega, (Option.some.inj e).symm⟩
  refine ⟨fun n hn => ?_, fun n hn => ?_, fun n hn q hq y f g => ?_, fun n hn q hq => ?_, fun x j n q a1 a2 ne y f g => ?_, fun x j n q a1 a2 ne y f g => ?_⟩
  · rcases cs n hn with z | rfl
    · exact h'.pl n z
    · exact p
  · rcases cs n hn with z | rfl
    · exact h'.md n z
    · exact d
  · rcases cs n hn with z | rfl
    · rcases cs q hq with w | rfl
      · exact h.dj n z q w y f g
      · rcases own y f with e | e
        · rw [e] at g; exact (q1 n z).2.2.2.2.1 g
        · exact (h.pl n z).has g e
    · rcases cs q hq with w | rfl
      · exact md_full (h.md q w) y f (f1 y g)
      · exact g1 y f g
  · rcases cs n hn with z | rfl
    · have pf := pal_full (h.pl n z).pal
      rcases cs q hq with w | rfl
      · exact h.np n z q w
      · exact ⟨⟨fun e => pf.1 (ownM _ e), fun e => pf.2 (ownM _ e)⟩, fun e => pf.1 (f1 _ e), fun e => pf.2 (f1 _ e)⟩
    · rcases cs q hq with w | rfl
      · obtain ⟨b1, b2, b3, b4, _⟩ := q1 q w
        exact ⟨⟨b3, b4⟩, b1, b2⟩
      · exact ⟨g2, fun e => (p.out _ e).1 rfl, fun e => (p.out _ e).2 rfl⟩
  · rcases ix x n a1 with z | ⟨e1, rfl⟩
    · rcases ix j q a2 with w | ⟨e2, rfl⟩
      · exact h.pp x j n q z w ne y f g
      · exact (h.pl n (List.mem_of_getElem? z)).has f (f1 y g)
    · rcases ix j q a2 with w | ⟨e2, rfl⟩
      · exact (h.pl q (List.mem_of_getElem? w)).has g (f1 y f)
      · exact ne (e1.trans e2.symm)
  · rcases ix x n a1 with z | ⟨e1, rfl⟩
    · rcases ix j q a2 with w | ⟨e2, rfl⟩
      · exact h.mm x j n q z w ne y f g
      · rcases own y g with e | e
        · rw [e] at f; exact (q1 n (List.mem_of_getElem? z)).2.2.2.2.2 f
        · exact md_full (h.md n (List.mem_of_getElem? z)) y (mtF f) e
    · rcases ix j q a2 with w | ⟨e2, rfl⟩
      · exact md_full (h.md q (List.mem_of_getElem? w)) y g (ownM y f)
      · exact ne (e1.trans e2.symm)
end
end Y

set_option Elab.async false
set_option linter.all false
set_option maxRecDepth 100000
set_option maxHeartbeats 2000000
set_option exponentiation.threshold 600
/-! X6: bounds of states over steps. -/
namespace Y
open PySem PySem.Spec PyProof.Rows L2
def cnt (rows : List (List Lyr)) : Nat := (rows.map List.length).sum
theorem sum_set : ∀ (l : List Nat) (j x : Nat), (l.set j x).sum + l.getD j 0 ≤ l.sum + x
  | [], _, _ => by simp
  | a :: r, 0, x => by
    show (x :: r).sum + a ≤ _
    rw [List.sum_cons, List.sum_cons]; omega
  | a :: r, j + 1, x => by
    have := sum_set r j x
    show (a :: r.set j x).sum + r.getD j 0 ≤ _
    rw [List.sum_cons, List.sum_cons]; omega
theorem cnt_set {rows : List (List Lyr)} {j k : Nat} {r' : List Lyr} (h : r'.length ≤ (rows.getD j []).length + k) : cnt (rows.set j r') ≤ cnt rows + k := by
  have := sum_set (rows.map List.length) j r'.length
  unfold cnt
  rw [List.map_set]
  have e : (rows.map List.length).getD j 0 = (rows.getD j []).length := by
    rw [List.getD_eq_getElem?_getD, List.getD_eq_getElem?_getD, List.getElem?_map]
    cases rows[j]? <;> rfl
  rw [e] at this
  omega
theorem len_le_cnt : ∀ {rows : List (List Lyr)} {r : List Lyr}, r ∈ rows → r.length ≤ cnt rows
  | q :: rows, r, h => by
    unfold cnt
    rw [List.map_cons, List.sum_cons]
    rcases List.mem_cons.mp h with rfl | h
    · omega
    · have := len_le_cnt h
      unfold cnt at this
      omega
theorem cnt_laid (s : Pst) (j : Nat) (y : Lay) : cnt (laidS s j y).rows ≤ cnt s.rows + 1 := cnt_set (by rw [List.length_append]; exact Nat.le_refl _)
theorem cnt_weak (s : Pst) (j : Nat) (n : Int) : cnt (weakS s j n).rows ≤ cnt s.rows := cnt_set (k := 0) (weakR_len _ _)
theorem cnt_wait (ks : List Ink) (t : Int) (s : Pst) : ∀ j, cnt (waitTo ks t s j).rows ≤ cnt s.rows
  | 0 => Nat.le_refl _
  | j + 1 => Nat.le_trans (cnt_weak _ _ _) (cnt_wait ks t s j)
theorem cnt_worn (s : Pst) (n : Int) : cnt (wornS s n).rows ≤ cnt s.rows := by
  unfold wornS
  cases topOf s.rows with
  | none => exact Nat.le_refl _
  | some p =>
    obtain ⟨i, j⟩ := p
    show cnt (if s.wear = 0 then s else _).rows ≤ _
    split
    · exact Nat.le_refl _
    · exact cnt_set (k := 0) (wornR_len _ _ _)
theorem cnt_graftRow (i : Nat) : ∀ (r : List Lyr) (s : Pst), cnt (graftRow s i r).rows ≤ cnt s.rows + r.length
  | [], s => Nat.le_refl _
  | l :: r, s => by
    have h1 := cnt_graftRow i r (laidS s i l.2)
    have h2 := cnt_laid s i l.2
    show cnt (graftRow (laidS s i l.2) i r).rows ≤ _
    rw [List.length_cons]
    omega
theorem take_sum (rows : List (List Lyr)) (i : Nat) : ((rows.take (i + 1)).map List.length).sum = ((rows.take i).map List.length).sum + (rows.getD i []).length := by
  rw [List.take_add_one, List.map_append, List.sum_append, List.getD_eq_getElem?_getD]
  cases rows[i]? <;> simp
theorem take_le (rows : List (List Lyr)) (i : Nat) : ((rows.take i).map List.length).sum ≤ cnt rows := by
  unfold cnt
  have e : rows.map List.length = (rows.take i).map List.length ++ (rows.drop i).map List.length := by rw [← List.map_append, List.take_append_drop]
  rw [e, List.sum_append]
  omega
theorem cnt_graftTo (s s2 : Pst) : ∀ i, cnt (graftTo s s2 i).rows ≤ cnt s.rows + ((s2.rows.take i).map List.length).sum
  | 0 => Nat.le_add_right _ _
  | i + 1 => by
    have h1 := cnt_graftTo s s2 i
    have h2 := cnt_graftRow i (s2.rows.getD i []) (graftTo s s2 i)
    rw [take_sum]
    show cnt (graftRow _ i _).rows ≤ _
    omega
theorem next_graftTo (s s2 : Pst) : ∀ i, (graftTo s s2 i).next = s.next + (((s2.rows.take i).map List.length).sum : Nat)
  | 0 => by show s.next = s.next + ((0 : Nat) : Int); omega
  | i + 1 => by
    rw [take_sum]
    show (graftRow _ i _).next = _
    rw [graftRow_next, next_graftTo s s2 i]
    omega
def StB (rows : List (List Lyr)) (B : Int) : Prop := ∀ r ∈ rows, ∀ l ∈ r, l.2.2 ≤ B
theorem StB.set {rows : List (List Lyr)} {B : Int} (h : StB rows B) {j : Nat} {r' : List Lyr} (h' : ∀ l ∈ r', l.2.2 ≤ B) : StB (rows.set j r') B := fun r hr l hl => by
  rcases List.mem_or_eq_of_mem_set hr with z | z
  · exact h r z l hl
  · rw [z] at hl; exact h' l hl
theorem StB.getD {rows : List (List Lyr)} {B : Int} (h : StB rows B) (j : Nat) : ∀ l ∈ rows.getD j [], l.2.2 ≤ B := fun l hl => by
  rw [List.getD_eq_getElem?_getD] at hl
  cases e : rows[j]? with
  | none => rw [e] at hl; cases hl
  | some r => rw [e] at hl; exact h r (List.mem_of_getElem? e) l hl
theorem StB.mono {rows : List (List Lyr)} {B B' : Int} (h : StB rows B) (hb : B ≤ B') : StB rows B' := fun r hr l hl => Int.le_trans (h r hr l hl) hb
theorem StB.laid {s : Pst} {B : Int} (h : StB s.rows B) (j : Nat) {y : Lay} (hy : y.2 ≤ B) : StB (laidS s j y).rows B := h.set fun l hl => by
  rcases List.mem_append.mp hl with z | z
  · exact h.getD j l z
  · rw [List.mem_singleton.mp z]; exact hy
theorem StB.weak {s : Pst} {B B' : Int} (h : StB s.rows B) (j : Nat) {n : Int} (hb : B ≤ B') (hn : B - n ≤ B') : StB (weakS s j n).rows B' := (h.mono hb).set fun l hl => by
  obtain ⟨l0, h0, _, rfl⟩ := weakR_mem hl
  have := h.getD j l0 h0
  show l0.2.2 - n ≤ _
  omega
theorem StB.wait {ks : List Ink} {t : Int} {s : Pst} {B : Int} (h : StB s.rows B) (hk : ∀ k ∈ ks, 0 ≤ k.2) (ht : 0 < t) : ∀ j, StB (waitTo ks t s j).rows B
  | 0 => h
  | j + 1 => (h.wait hk ht j).weak j (Int.le_refl _) (by
      have : 0 ≤ (ks.getD j (default, 0)).2 := by
        rw [List.getD_eq_getElem?_getD]
        cases e : ks[j]? with
        | none => exact Int.le_refl 0
        | some k => exact hk k (List.mem_of_getElem? e)
      have := Int.mul_nonneg (Int.le_of_lt ht) this
      omega)
theorem StB.worn {s : Pst} {B : Int} (h : StB s.rows B) (n : Int) : StB (wornS s n).rows B := by
  unfold wornS
  cases topOf s.rows with
  | none => exact h
  | some p =>
    obtain ⟨i, j⟩ := p
    show StB (if s.wear = 0 then s else _).rows B
    split
    · exact h
    · refine h.set fun l hl => ?_
      rcases wornR_mem hl with z | ⟨l0, h0, c1, c2, rfl⟩
      · exact h.getD i l z
      · have := h.getD i l0 h0
        show l0.2.2 - n ≤ _
        omega
theorem StB.graftRow {B : Int} (i : Nat) : ∀ (r : List Lyr) (s : Pst), StB s.rows B → (∀ l ∈ r, l.2.2 ≤ B) → StB (graftRow s i r).rows B
  | [], s, h, _ => h
  | l :: r, s, h, hr => StB.graftRow i r (laidS s i l.2) (h.laid i (hr l (List.mem_cons_self ..))) fun z hz => hr z (List.mem_cons_of_mem _ hz)
theorem StB.graftTo {s s2 : Pst} {B : Int} (h : StB s.rows B) (h2 : StB s2.rows B) : ∀ i, StB (graftTo s s2 i).rows B
  | 0 => h
  | i + 1 => StB.graftRow i _ _ (h.graftTo h2 i) (h2.getD i)
/-- the bounds behind i steps -/
structure B8 (s : Pst) (i : Nat) : Prop where
  w0 : 0 ≤ s.wear
  w6 : s.wear ≤ 6
  n0 : 0 ≤ s.next
  n1 : s.next ≤ 1000 * (i : Int)
  ct : cnt s.rows ≤ 80 + i
  st : StB s.rows ((i : Int) * 10 ^ 60)
theorem B8.more {s : Pst} {i : Nat} (h : B8 s i) : B8 s (i + 1) := ⟨h.w0, h.w6, h.n0, by have := h.n1; omega, by have := h.ct; omega, h.st.mono (by omega)⟩
theorem B8.row {s : Pst} {i : Nat} (h : B8 s i) {r : List Lyr} (hr : r ∈ s.rows) : r.length ≤ 80 + i := Nat.le_trans (len_le_cnt hr) h.ct
theorem B8.press {s s2 : Pst} {i : Nat} (h : B8 s i) (h2 : B8 s2 i) : B8 (pressS s s2) (i + 1) := by
  unfold pressS
  cases topOf s2.rows with
  | none => exact h.more
  | some p =>
    obtain ⟨a, b⟩ := p
    show B8 (if 1 < ((s2.rows.getD a []).getD b (0, default, 0)).2.2 then _ else s) (i + 1)
    split
    · rename_i c
      have hb : ((s2.rows.getD a []).getD b (0, default, 0)).2.2 ≤ (i : Int) * 10 ^ 60 := by
        rw [List.getD_eq_getElem?_getD (l := s2.rows.getD a [])] at c ⊢
        cases e : (s2.rows.getD a [])[b]? with
        | none => rw [e] at c; exact absurd c (by decide)
        | some l => exact h2.st.getD a l (List.mem_of_getElem? e)
      refine ⟨h.w0, h.w6, by show 0 ≤ s.next + 1; have := h.n0; omega, by show s.next + 1 ≤ _; have := h.n1; omega, ?_, ?_⟩
      · have := cnt_laid s a (((s2.rows.getD a []).getD b (0, default, 0)).2.1, ((s2.rows.getD a []).getD b (0, default, 0)).2.2 / 2)
        have := h.ct
        omega
      · refine (h.st.mono (show _ ≤ ((i + 1 : Nat) : Int) * 10 ^ 60 by omega)).laid a ?_
        show ((s2.rows.getD a []).getD b (0, default, 0)).2.2 / 2 ≤ _
        omega
    · exact h.more
theorem B8.graft {s s2 : Pst} {i n : Nat} (h : B8 s i) (h2 : B8 s2 i) (hc : cnt s.rows + cnt s2.rows ≤ 80) : B8 (graftS s s2 n) (i + 1) := by
  have a1 := cnt_graftTo s s2 n
  have a2 := take_le s2.rows n
  have a3 := next_graftTo s s2 n
  have b1 := h.n0
  have b2 := h.n1
  have w1 := h.w0
  have w2 := h.w6
  have w3 := h2.w0
  refine ⟨by show 0 ≤ min s.wear s2.wear; omega, by show min s.wear s2.wear ≤ 6; omega, by show 0 ≤ (graftTo s s2 n).next; omega, by show (graftTo s s2 n).next ≤ _; omega, by show cnt (graftTo s s2 n).rows ≤ _; omega, ?_⟩
  exact (h.st.graftTo h2.st n).mono (by omega)
end Y

set_option Elab.async false
set_option linter.all false
set_option maxRecDepth 100000
set_option maxHeartbeats 2000000
/-! XT: try .. except (A, B, ..) as e. -/
namespace Y
open PySem PySem.Spec PyProof.Rows L2
/-- the clause's expression t asks whether the caught exception's class is one of cs -/
def Asks (X : Cx) (t : Expr) (cs : List Value) : Prop := ∀ (a : Addr) (oe : Obj) (pn pins : List (Addr × Obj)) (σ : L2.St) (H : Hp) (s : Shared) (cls : Value) (b : Bool) (Q : Bool → Shared → Prop) (E : Value → Shared → Prop),
  Inv (X.suite a ((a, oe) :: pn)) pins σ H s → PySem.W.Looks (model X.prog X.w) s.heap (typeOf (.ref a)) cls → PySem.W.exmAny X.K cls cs = some b → (∀ h2 tk2, (∀ q o, s.heap.get? q = some o → h2.get? q = some o) → Q b ⟨h2, s.gens, s.drawn, tk2, s.os⟩) →
  wpAny (model X.prog X.w) (X.A.mark (some (.ref a))) (eval t X.env) (fun c s1 => wpAny (model X.prog X.w) (X.A.mark (some (.ref a))) (excMatches (.ref a) c) Q E s1) E s
section
variable {X : Cx} {cs : List Value}
theorem ld_names {x : Str} {c : Value} {np : Pos} {a : Addr} {oe : Obj} {pn pins : List (Addr × Obj)} {σ : L2.St} {H : Hp} {s : Shared} {Q : Value → Shared → Prop} {E : Value → Shared → Prop} (n : Names X x c) (I : Inv (X.suite a ((a, oe) :: pn)) pins σ H s) (q : Q c s) :
    wpAny (model X.prog X.w) (X.A.mark (some (.ref a))) (eval (.Name x np) X.env) Q E s := by
  obtain ⟨hg, db, h⟩ := n
  rcases h with h | ⟨h1, h2, h3⟩
  · exact ld_glob (X := X.suite a ((a, oe) :: pn)) I hg h q db
  · exact ld_blt (X := X.suite a ((a, oe) :: pn)) I hg h1 h2 q h3 db
theorem asks2 {x1 x2 : Str} {c1 c2 : Value} {p1 p2 tp : Pos} {kk : Nat} (n1 : Names X x1 c1) (n2 : Names X x2 c2) : Asks X (.Tuple [.Name x1 p1, .Name x2 p2] kk tp) [c1, c2] := by
  intro a oe pn pins σ H s cls b Q E I LT he q
  refine wpAny_Tuple (wpAny_items_cons (ld_names n1 I (wpAny_items_cons (ld_names n2 I (wpAny_items_nil ⟨by size_fits, ?_⟩)))))
  have kp : ∀ z o, s.heap.get? z = some o → (s.heap.push { cls := .type "tuple", data := .seq [c1, c2].toArray }).get? z = some o := fun _ _ z => Heap.get?_push_of_some _ z
  exact (PySem.W.exm_tup2 (I.kIn.keeps kp) (LT.keeps kp) (Heap.get?_push_size s.heap rfl) he).here (q _ _ kp)
theorem asks3 {x1 x2 x3 : Str} {c1 c2 c3 : Value} {p1 p2 p3 tp : Pos} {kk : Nat} (n1 : Names X x1 c1) (n2 : Names X x2 c2) (n3 : Names X x3 c3) : Asks X (.Tuple [.Name x1 p1, .Name x2 p2, .Name x3 p3] kk tp) [c1, c2, c3] := by
  intro a oe pn pins σ H s cls b Q E I LT he q
  refine wpAny_Tuple (wpAny_items_cons (ld_names n1 I (wpAny_items_cons (ld_names n2 I (wpAny_items_cons (ld_names n3 I (wpAny_items_nil ⟨by size_fits, ?_⟩)))))))
  have kp : ∀ z o, s.heap.get? z = some o → (s.heap.push { cls := .type "tuple", data := .seq [c1, c2, c3].toArray }).get? z = some o := fun _ _ z => Heap.get?_push_of_some _ z
  exact (PySem.W.exm_tup3 (I.kIn.keeps kp) (LT.keeps kp) (Heap.get?_push_size s.heap rfl) he).here (q _ _ kp)
theorem asks4 {x1 x2 x3 x4 : Str} {c1 c2 c3 c4 : Value} {p1 p2 p3 p4 tp : Pos} {kk : Nat} (n1 : Names X x1 c1) (n2 : Names X x2 c2) (n3 : Names X x3 c3) (n4 : Names X x4 c4) : Asks X (.Tuple [.Name x1 p1, .Name x2 p2, .Name x3 p3, .Name x4 p4] kk tp) [c1, c2, c3, c4] := by
  intro a oe pn pins σ H s cls b Q E I LT he q
  refine wpAny_Tuple (wpAny_items_cons (ld_names n1 I (wpAny_items_cons (ld_names n2 I (wpAny_items_cons (ld_names n3 I (wpAny_items_cons (ld_names n4 I (wpAny_items_nil ⟨by size_fits, ?_⟩)))))))))
  have kp : ∀ z o, s.heap.get? z = some o → (s.heap.push { cls := .type "tuple", data := .seq [c1, c2, c3, c4].toArray }).get? z = some o := fun _ _ z => Heap.get?_push_of_some _ z
  exact (PySem.W.exm_tup4 (I.kIn.keeps kp) (LT.keeps kp) (Heap.get?_push_size s.heap rfl) he).here (q _ _ kp)
theorem flies_on {B h h2 : Heap} {l : List Env} {e : Addr} {Z : Obj → Prop} (f : HandSPX.FlyingZ B l e Z h) (k : ∀ b o, h.get? b = some o → h2.get? b = some o) : HandSPX.FlyingZ B l e Z h2 := by
  obtain ⟨g1, g2, g3, oe, vs, T, oT, ts, a1, a2, a3, a4, a5, a6, a7, a8, a9⟩ := f
  exact ⟨fun b o z => k b o (g1 b o z), g2, g3.of_keeps fun b o z _ => ⟨o, k b o z, rfl⟩, oe, vs, T, oT, ts, k _ _ a1, a2, a3, a4, a5, a6, k _ _ a7, a8, a9⟩
/-- what 'except (A, B, ..) as n' wishes of an exception of the body -/
def wAny (K : PySem.W.Frag) (cs : List Value) (i : Nat) (ts : Addr → Value → Option Addr → TS) (Wout : WX) (D : Ends) : WX := fun cls d σ H =>
  ∃ b, PySem.W.exmAny K cls cs = some b ∧ (b = true → ∀ a, H a = none → ts a cls d ⟨fun σ' H' => D.nx (σ'.set i none) H', D.rt, fun σ' H' => D.bk (σ'.set i none) H', fun σ' H' => D.ct (σ'.set i none) H'⟩ (σ.set i (some (.ref a))) H) ∧ (b = false → Wout cls d σ H)
theorem ps_try_any {n : Str} {i : Nat} {t : Expr} {body suite : List Stmt} {b0 : Stmt} {pos pos2 : Pos} {tb : WX → TS} {ts : Addr → Value → Option Addr → TS} {Wout : WX} (hs : X.stack = X.env :: X.outer) (hf : X.env.frame = some X.env.locals) (nd : X.N.Nodup) (hi : X.N[i]? = some n) (hln : X.env.kindOf n = some .local) (as : Asks X t cs) (tk : Takes X Wout)
    (hb : ∀ (W : WX) (pn : List (Addr × Obj)) (xe : Value → Shared → Prop), Takes (X.tr pn xe) W → PassesOwn (model X.prog X.w) X.A X.env xe → PSs (X.tr pn xe) body (tb W))
    (hsu : ∀ (a : Addr) (oe : Obj) (cls : Value) (d : Option Addr) (pn : List (Addr × Obj)), Zc cls d oe → (∃ vs, oe.data = .fields vs) → PSs (X.suite a ((a, oe) :: pn)) (b0 :: suite) (ts a cls d)) :
    PS X (.Try body [.ExceptHandler (some t) (some n) (b0 :: suite) pos2] [] [] pos) (fun D σ H => tb (wAny X.K cs i ts Wout D) D σ H) := by
  constructor
  intro pins s σ H D I h
  have ok := I.ok
  have frames : X.A.frames = some (X.env :: X.outer) := by rw [ok.frames, hs]
  refine wpAny_Try_except ?_
  let xe : Value → Shared → Prop := fun e s1 => wpAny (model X.prog X.w) X.A (noteFrame e X.env) (fun _ s2 => wpAny (model X.prog X.w) X.A (setFlight e none) (fun _ s3 => wpAny (model X.prog X.w) X.A (handleBy e X.env [.ExceptHandler (some t) (some n) (b0 :: suite) pos2]) (SP X pins D) X.xe s3) X.xe s2) X.xe s1
  have caught : Takes (X.tr (X.pn ++ pins) xe) (wAny X.K cs i ts Wout D) := by
    rintro u s1 ⟨a, B, sI, pins', σ1, H1, cls, d, rfl, J0, nb, up, sky, na, os, ag, b, hb1, yes, no⟩
    have J : Inv X pins σ1 H1 sI := J0.ofTry ok
    have sky2 : Sky B (X.env :: X.outer) a (Zc cls d) X.env.locals s1.heap := by rw [← hs]; exact sky
    show wpAny (model X.prog X.w) X.A (noteFrame (.ref a) X.env) _ _ _
    refine Sky.land Zc.steady frames hf sky2 ?_
    intro h3 fl3 up3
    have J3 : Inv X pins σ1 H1 { s1 with heap := h3 } := J.landed nb fl3.1 (up.trans up3) os ag
    obtain ⟨oe3, vs3, at3, z3, d3⟩ := fl3.there
    have noFrame : a ∉ frs (X.env :: X.outer) := fun hm => by
      obtain ⟨_, o2, e2, hn⟩ := fl3.2.2.1.mem hm
      rw [at3] at e2
      cases e2
      exact hn _ d3
    have nL : a ≠ X.env.locals := fun e => noFrame (List.mem_filterMap.mpr ⟨X.env, List.mem_cons_self, by rw [hf, e]⟩)
    have nF : a ∉ X.fs := fun hm => by
      obtain ⟨e, he, z⟩ := List.mem_filterMap.mp hm
      exact noFrame (List.mem_filterMap.mpr ⟨e, List.mem_cons_of_mem _ he, z⟩)
    have S3 := J3.suite at3 d3 na nL nF
    have LT : PySem.W.Looks (model X.prog X.w) h3 (typeOf (.ref a)) cls := fun A Q E s k z => wpAny_typeOf_ref (k _ _ at3) (by rw [z3.1]; exact z)
    refine wpAny_handleBy_cons (codeAny_handlers_test (as a oe3 _ _ _ _ _ cls b _ _ S3 LT hb1 ?_)) (by intro z; cases z)
    intro h4 tk4 kp
    have fl4 := flies_on fl3 kp
    have up4 := (up.trans up3).trans (Heap.UpToSlots.of_keeps kp)
    cases b with
    | true =>
      refine codeAny_handlers_suite_as (HandSPX.lands_againZ fl4 ?_)
      intro h5 fl5 up5
      have J5 : Inv X pins σ1 H1 ⟨h5, s1.gens, s1.drawn, tk4, s1.os⟩ := J.landed nb fl5.1 (up4.trans up5) os ag
      obtain ⟨oe5, vs5, at5, z5, d5⟩ := fl5.there
      have S5 := J5.suite at5 d5 na nL nF
      refine store_ok (X := X.suite a ((a, oe5) :: (X.pn ++ pins))) (v := .ref a) S5 nd hi (.inl hln) rfl (fun s6 S6 => ?_) (.inr hln)
      refine wpAny_mono ((hsu a oe5 cls d (X.pn ++ pins) z5 ⟨_, d5⟩).run [] s6 _ H1 _ S6 (yes rfl a na)) ?_ (fun _ _ z => z.elim)
      intro fl s7 hsp
      have fin : ∀ {σ7 : L2.St} {H7 : Hp} {R : Shared → Prop}, Inv (X.suite a ((a, oe5) :: (X.pn ++ pins))) [] σ7 H7 s7 → (∀ s8, Inv X pins (σ7.set i none) H7 s8 → R s8) →
          wpAny (model X.prog X.w) X.A (do bindName X.env n .none; unbindBehindTheSuite X.env n pos2) (fun _ s8 => R s8) X.xe s7 := fun S7 hR => gone_ok (S7.unsuite ok) nd hi hln hR
      cases fl with
      | next => exact let ⟨_, _, S7, q7⟩ := hsp; fin S7 fun _ J8 => ⟨_, _, J8, q7⟩
      | brk => exact let ⟨_, _, S7, q7⟩ := hsp; fin S7 fun _ J8 => ⟨_, _, J8, q7⟩
      | cont => exact let ⟨_, _, S7, q7⟩ := hsp; fin S7 fun _ J8 => ⟨_, _, J8, q7⟩
      | ret u => exact let ⟨_, _, _, S7, r7, q7⟩ := hsp; fin S7 fun _ J8 => ⟨_, _, _, J8, r7, q7⟩
    | false =>
      show wpAny _ X.A (handleBy (.ref a) X.env []) _ _ _
      refine wpAny_handleBy_nil ?_
      obtain ⟨g1, g2, g3, oe, vs, T, oT, ts2, a1, a2, a3, a4, a5⟩ := id fl4
      unfold PySem.passOn
      refine wpAny_bind (wpAny_field a1 a3 a4 ?_)
      rw [if_neg (show ¬ ((Value.ref T == Value.none) = true) by simp)]
      have last : wpAny (model X.prog X.w) X.A (setFlight (.ref a) X.env.frame) (fun _ s5 => wpAny (model X.prog X.w) X.A (throw (.ref a) : Sem Flow) (SP X pins D) X.xe s5) X.xe ⟨h4, s1.gens, s1.drawn, tk4, s1.os⟩ := by
        rw [hf]
        refine HandSPX.setFlight_upZ fl4 ?_
        intro h5 hh5 up5
        refine wpAny_throw (tk _ _ ⟨a, B, sI, pins, σ1, H1, cls, d, rfl, J, nb, up4.trans up5, ?_, na, os, ag, no rfl⟩)
        exact .inr (.inr (by rw [hs]; exact hh5))
      first
        | exact wpAny_bind (wpAny_pure (wpAny_bind last))
        | exact wpAny_bind last
  refine wpAny_mono ((hb (wAny X.K cs i ts Wout D) (X.pn ++ pins) xe caught PassesOwn.looking).run [] s σ H D (I.toTry _) h) ?_ fun e s1 z => z
  intro fl s1 hsp
  cases fl with
  | next => exact let ⟨_, _, J, q⟩ := hsp; wpAny_execs_nil ⟨_, _, J.ofTry ok, q⟩
  | brk => exact let ⟨_, _, J, q⟩ := hsp; ⟨_, _, J.ofTry ok, q⟩
  | cont => exact let ⟨_, _, J, q⟩ := hsp; ⟨_, _, J.ofTry ok, q⟩
  | ret u => exact let ⟨_, _, _, J, r, q⟩ := hsp; ⟨_, _, _, J.ofTry ok, r, q⟩
end
end Y

set_option Elab.async false
set_option linter.all false
set_option maxRecDepth 100000
set_option maxHeartbeats 2000000
/-! XU: C(e, ..) where keyword-only parameters take their defaults, beside C(e, .., k = v). -/
namespace Y
open PySem PySem.Spec PyProof.Rows L2
/-- made with its keywords, or without them *(dvs: their defaults)* -/
def CalKJ (P : Program) (w : World) (K : PySem.W.Frag) (mg : Str → Option Value) (base : Heap) (k : Nat) (x : Str) (C : Addr) (n : Nat) (ks : List Str) (dvs : List V) (sp : Sp) : Prop :=
  ∃ f fd ps g ds, FnG P w K mg base CX0 k f fd ps sp ∧ Mk K C f ∧ mg x = some (.ref C) ∧ KBn K fd ps (n + 1) ks g (fun vs zs => vs ++ zs) ∧ Vals dvs ds ∧ Binds K fd ps ds
theorem CalKJ.k {P : Program} {w : World} {K : PySem.W.Frag} {mg : Str → Option Value} {base : Heap} {k : Nat} {x : Str} {C : Addr} {n : Nat} {ks : List Str} {dvs : List V} {sp : Sp} (c : CalKJ P w K mg base k x C n ks dvs sp) : CalK P w K mg base k x C n ks (fun vs zs => vs ++ zs) sp := by
  obtain ⟨f, fd, ps, g, ds, F, M, hm, kb, _⟩ := c
  exact ⟨f, fd, ps, g, F, M, hm, kb⟩
theorem calKJ_of {P : Program} {w : World} {K : PySem.W.Frag} {mg : Str → Option Value} {base : Heap} {k n : Nat} {C : Addr} {q x : Str} {sp : Sp} {kws : List (Str × V)} {st : Stmt} {N ps ks : List Str} (D : IniAt K mg x C q st kws) (hk : kws ≠ []) (S : FnScope N ps (defScope st))
    (bnd : ∀ (D : Addr) (doc pm : Value) (an : Option Addr) (cdv ct : Value) (us ws : List Value), us.length = n + 1 → ws.length = ks.length → KwChain D [] (bindArgs (PySem.W.fnOf "__init__" q (defArgs st) (defBody st) (defScope st) .none (.ref D) doc pm an cdv ct) ⟨us, ks.zip ws⟩) (ps.zip (us ++ ws)))
    (ln : n + 1 + kws.length = ps.length)
    (bnd0 : ∀ (D : Addr) (doc pm : Value) (an : Option Addr) (cdv ct : Value) (us zs : List Value), us.length = n + 1 → zs.length = kws.length → KwChain D ((kws.map (·.1)).zip zs) (bindArgs (PySem.W.fnOf "__init__" q (defArgs st) (defBody st) (defScope st) .none (.ref D) doc pm an cdv ct) ⟨us, []⟩) (ps.zip (us ++ zs)))
    (ar : ∀ vs H Q E, sp vs H Q E → vs.length = ps.length)
    (hb : ∀ (f : Addr) (cd : Value) (A : Around) (out : List Env) (s : Shared) (H : Hp) (vs : List V) (Q : VK) (E : XK), Room k (A.deeper (envOfC q (defScope st) s.heap.objs.size f cd)) → (A.deeper (envOfC q (defScope st) s.heap.objs.size f cd)).guards = some [] → sp vs H Q E →
      ∃ t, PSs (cxOf CX0 P w K mg base N q (defScope st) f cd A out s H E).nox (defBody st) t ∧ t { nx := fun _ H' => Q .non H', rt := Q } (start N vs) H) : CalKJ P w K mg base (k + 1) x C n ks (kws.map (·.2)) sp := by
  obtain ⟨f, fd, F, hm, hx⟩ := D
  obtain ⟨mv, kb⟩ := FunD.kbinds0 F (n + 1) ks [] (fun us _ ws => us ++ ws) hk (fun q hq => (nomatch hq)) (fun r1 _ r3 => r1.append r3) fun D doc pm an cdv ct us mv ws l1 l2 l3 => by
    cases mv with
    | nil => exact bnd D doc pm an cdv ct us ws l1 l3
    | cons a b => cases l2
  obtain ⟨ds, vd, bd⟩ := FunD.binds0 F (n + 1) hk ln bnd0
  exact ⟨f, fd, ps, _, ds, body_of F S ar hb, hm, hx, kb, vd, bd⟩
section
variable {X : Cx} {k j n : Nat} {C : Addr} {x : Str} {sp : Sp} {p pos : Pos} {e : Expr} {es : List Expr} {t : TA} {ks : List Str} {dvs : List V}
def yMakeD (C : Addr) (n : Nat) (sp : Sp) (dvs : List V) (t : TA) : TE := fun σ H Q => t σ H fun vs H1 => vs.length = n ∧ ∀ x dx, H1 x = none → H1 dx = none → dx ≠ x →
  sp ((.ref x :: vs) ++ dvs) (fresh2 H1 C x dx) (fun v H2 => v = .non ∧ Q (.ref x) H2) E0
theorem ye_makeD (c : CalKJ X.prog X.w X.K X.mg X.base k x C n ks dvs sp) (room : Room j X.A) (gd : X.A.guards = some []) (hg : Gl X x) (ha : PA X (e :: es) t) (hk : k + 1 ≤ j := by decide) (hdb : (x == ("__debug__" : Str)) = false := by decide)
    (h1 : starEach (e :: es) X.env = (false, eval e X.env) :: starEach es X.env := by rfl) (h2 : (backTo pos (starEach es X.env)).any (·.1) = false := by rfl) :
    PE X (.Call (.Name x p) (e :: es) [] pos) (yMakeD C n sp dvs t) := by
  obtain ⟨f, fd, ps, g, ds, F, M, hm, _, vd, bd⟩ := c
  constructor
  intro pins s σ H Q I h
  refine wpAny_Call_Name_kw (ld_glob I hg hm ?_ hdb)
  refine PySem.W.callWith_K (h₀ := X.base) I.ok.mod.kin M.kp (thn (ha.run pos pins s σ H _ I h) ?_) h1 h2
  rintro us s1 ⟨vs, H1, I1, r, ln, q⟩
  refine ⟨I1.kIn, ?_⟩
  have hq := q (s1.heap.objs.size + 1) s1.heap.objs.size (I1.hok.fresh (Nat.le_succ _)) (I1.hok.fresh (Nat.le_refl _)) (Nat.ne_of_lt (Nat.lt_succ_self _))
  have el := F.arity _ _ _ _ hq
  have kb : KBn X.K fd ps (n + 1) [] (fun us _ => us ++ ds) (fun vs _ => vs ++ dvs) := by
    refine ⟨fun s us ws hK l1 _ => ?_, fun r _ => r.append vd⟩
    have := bd s us hK (by rw [List.length_append, l1, ← vd.length, ← el, List.length_append, List.length_cons, ln])
    exact this
  exact goes_make (ks := []) (us := us) (ws := []) (zs := []) M F (room.mono hk) gd kb I1 r .nil ln rfl q
end
end Y

set_option Elab.async false
set_option linter.all false
set_option maxRecDepth 100000
set_option maxHeartbeats 4000000
set_option exponentiation.threshold 600
namespace K26
open PySem PySem.Spec PyProof.Rows L2 Y LamX NdefX
--C CPalette CPlace
--X want_like Place.graft Place.wear_off Place.scrape
--L Unlike Worn
--D Unlike
--H _law_sort
--ALL
def topS (i : Nat) : Stmt := PySem.Challenge.pw_fadeleaf_k26_grafted.main.body.getD i (.Pass ⟨0, 0, 0, 0⟩)
abbrev s_NoPalette___init__ : Stmt := inClass (topS 3) 0
abbrev n_NoPalette___init__ : List Str := ["self", "at"]
theorem sc_NoPalette___init__ : FnScope n_NoPalette___init__ ["self", "at"] (defScope s_NoPalette___init__) := ⟨rfl, rfl, rfl, by decide +kernel, rfl, by decide +kernel, by decide +kernel⟩
abbrev s_NoTag___init__ : Stmt := inClass (topS 4) 0
abbrev n_NoTag___init__ : List Str := ["self", "who"]
theorem sc_NoTag___init__ : FnScope n_NoTag___init__ ["self", "who"] (defScope s_NoTag___init__) := ⟨rfl, rfl, rfl, by decide +kernel, rfl, by decide +kernel, by decide +kernel⟩
abbrev s_NoText___init__ : Stmt := inClass (topS 9) 0
abbrev n_NoText___init__ : List Str := ["self", "at"]
theorem sc_NoText___init__ : FnScope n_NoText___init__ ["self", "at"] (defScope s_NoText___init__) := ⟨rfl, rfl, rfl, by decide +kernel, rfl, by decide +kernel, by decide +kernel⟩
abbrev s_Halted___init__ : Stmt := inClass (topS 12) 0
abbrev n_Halted___init__ : List Str := ["self", "at", "told"]
theorem sc_Halted___init__ : FnScope n_Halted___init__ ["self", "at", "told"] (defScope s_Halted___init__) := ⟨rfl, rfl, rfl, by decide +kernel, rfl, by decide +kernel, by decide +kernel⟩
abbrev s_NoInk___init__ : Stmt := inClass (topS 13) 0
abbrev n_NoInk___init__ : List Str := ["self", "who"]
theorem sc_NoInk___init__ : FnScope n_NoInk___init__ ["self", "who"] (defScope s_NoInk___init__) := ⟨rfl, rfl, rfl, by decide +kernel, rfl, by decide +kernel, by decide +kernel⟩
abbrev s_NoLayer___init__ : Stmt := inClass (topS 14) 0
abbrev n_NoLayer___init__ : List Str := ["self", "who"]
theorem sc_NoLayer___init__ : FnScope n_NoLayer___init__ ["self", "who"] (defScope s_NoLayer___init__) := ⟨rfl, rfl, rfl, by decide +kernel, rfl, by decide +kernel, by decide +kernel⟩
abbrev s_NoName___init__ : Stmt := inClass (topS 15) 0
abbrev n_NoName___init__ : List Str := ["self", "who"]
theorem sc_NoName___init__ : FnScope n_NoName___init__ ["self", "who"] (defScope s_NoName___init__) := ⟨rfl, rfl, rfl, by decide +kernel, rfl, by decide +kernel, by decide +kernel⟩
abbrev s_NoAmount___init__ : Stmt := inClass (topS 16) 0
abbrev n_NoAmount___init__ : List Str := ["self", "who"]
theorem sc_NoAmount___init__ : FnScope n_NoAmount___init__ ["self", "who"] (defScope s_NoAmount___init__) := ⟨rfl, rfl, rfl, by decide +kernel, rfl, by decide +kernel, by decide +kernel⟩
abbrev s_Worn___init__ : Stmt := inClass (topS 17) 0
abbrev n_Worn___init__ : List Str := ["self", "at"]
theorem sc_Worn___init__ : FnScope n_Worn___init__ ["self", "at"] (defScope s_Worn___init__) := ⟨rfl, rfl, rfl, by decide +kernel, rfl, by decide +kernel, by decide +kernel⟩
abbrev s_is_whole : Stmt := topS 24
abbrev n_is_whole : List Str := ["thing"]
theorem sc_is_whole : FnScope n_is_whole ["thing"] (defScope s_is_whole) := ⟨rfl, rfl, rfl, by decide +kernel, rfl, by decide +kernel, by decide +kernel⟩
abbrev s_is_name : Stmt := topS 25
abbrev n_is_name : List Str := ["thing", "sign"]
theorem sc_is_name : FnScope n_is_name ["thing"] (defScope s_is_name) := ⟨rfl, rfl, rfl, by decide +kernel, rfl, by decide +kernel, by decide +kernel⟩
abbrev s_is_amount : Stmt := topS 26
abbrev n_is_amount : List Str := ["thing"]
theorem sc_is_amount : FnScope n_is_amount ["thing"] (defScope s_is_amount) := ⟨rfl, rfl, rfl, by decide +kernel, rfl, by decide +kernel, by decide +kernel⟩
abbrev s_is_ink : Stmt := topS 27
abbrev n_is_ink : List Str := ["thing"]
theorem sc_is_ink : FnScope n_is_ink ["thing"] (defScope s_is_ink) := ⟨rfl, rfl, rfl, by decide +kernel, rfl, by decide +kernel, by decide +kernel⟩
abbrev s_first_wrong : Stmt := topS 28
abbrev n_first_wrong : List Str := ["inks", "seen", "at", "thing"]
theorem sc_first_wrong : FnScope n_first_wrong ["inks"] (defScope s_first_wrong) := ⟨rfl, rfl, rfl, by decide +kernel, rfl, by decide +kernel, by decide +kernel⟩
abbrev s_Palette___init__ : Stmt := inClass (topS 29) 0
abbrev n_Palette___init__ : List Str := ["self", "inks", "wrong"]
theorem sc_Palette___init__ : FnScope n_Palette___init__ ["self", "inks"] (defScope s_Palette___init__) := ⟨rfl, rfl, rfl, by decide +kernel, rfl, by decide +kernel, by decide +kernel⟩
abbrev s_Palette_inks : Stmt := inClass (topS 29) 1
abbrev n_Palette_inks : List Str := ["self", "name", "fade"]
theorem sc_Palette_inks : FnScope n_Palette_inks ["self"] (defScope s_Palette_inks) := ⟨rfl, rfl, rfl, by decide +kernel, rfl, by decide +kernel, by decide +kernel⟩
abbrev s_Palette_names : Stmt := inClass (topS 29) 2
abbrev n_Palette_names : List Str := ["self"]
theorem sc_Palette_names : FnScope n_Palette_names ["self"] (defScope s_Palette_names) := ⟨rfl, rfl, rfl, by decide +kernel, rfl, by decide +kernel, by decide +kernel⟩
abbrev s_Palette_has : Stmt := inClass (topS 29) 3
abbrev n_Palette_has : List Str := ["self", "name"]
theorem sc_Palette_has : FnScope n_Palette_has ["self", "name"] (defScope s_Palette_has) := ⟨rfl, rfl, rfl, by decide +kernel, rfl, by decide +kernel, by decide +kernel⟩
abbrev s_Palette_fade : Stmt := inClass (topS 29) 4
abbrev n_Palette_fade : List Str := ["self", "name"]
theorem sc_Palette_fade : FnScope n_Palette_fade ["self", "name"] (defScope s_Palette_fade) := ⟨rfl, rfl, rfl, by decide +kernel, rfl, by decide +kernel, by decide +kernel⟩
abbrev s_Palette_order : Stmt := inClass (topS 29) 5
abbrev n_Palette_order : List Str := ["self", "name"]
theorem sc_Palette_order : FnScope n_Palette_order ["self", "name"] (defScope s_Palette_order) := ⟨rfl, rfl, rfl, by decide +kernel, rfl, by decide +kernel, by decide +kernel⟩
abbrev s_Palette___eq__ : Stmt := inClass (topS 29) 6
abbrev n_Palette___eq__ : List Str := ["self", "other"]
theorem sc_Palette___eq__ : FnScope n_Palette___eq__ ["self", "other"] (defScope s_Palette___eq__) := ⟨rfl, rfl, rfl, by decide +kernel, rfl, by decide +kernel, by decide +kernel⟩
abbrev s_Palette___len__ : Stmt := inClass (topS 29) 7
abbrev n_Palette___len__ : List Str := ["self"]
theorem sc_Palette___len__ : FnScope n_Palette___len__ ["self"] (defScope s_Palette___len__) := ⟨rfl, rfl, rfl, by decide +kernel, rfl, by decide +kernel, by decide +kernel⟩
abbrev s_ranked : Stmt := topS 31
abbrev n_ranked : List Str := ["row"]
theorem sc_ranked : FnScope n_ranked ["row"] (defScope s_ranked) := ⟨rfl, rfl, rfl, by decide +kernel, rfl, by decide +kernel, by decide +kernel⟩
abbrev s_first : Stmt := topS 32
abbrev n_first : List Str := ["row"]
theorem sc_first : FnScope n_first ["row"] (defScope s_first) := ⟨rfl, rfl, rfl, by decide +kernel, rfl, by decide +kernel, by decide +kernel⟩
abbrev s_is_wear : Stmt := topS 34
abbrev n_is_wear : List Str := ["thing"]
theorem sc_is_wear : FnScope n_is_wear ["thing"] (defScope s_is_wear) := ⟨rfl, rfl, rfl, by decide +kernel, rfl, by decide +kernel, by decide +kernel⟩
abbrev s_want_amount : Stmt := topS 35
abbrev n_want_amount : List Str := ["thing"]
theorem sc_want_amount : FnScope n_want_amount ["thing"] (defScope s_want_amount) := ⟨rfl, rfl, rfl, by decide +kernel, rfl, by decide +kernel, by decide +kernel⟩
abbrev s_want_like : Stmt := topS 36
abbrev n_want_like : List Str := ["one", "other"]
theorem sc_want_like : FnScope n_want_like ["one", "other"] (defScope s_want_like) := ⟨rfl, rfl, rfl, by decide +kernel, rfl, by decide +kernel, by decide +kernel⟩
abbrev s_Place___init__ : Stmt := inClass (topS 37) 0
abbrev n_Place___init__ : List Str := ["self", "palette", "wear", "ink"]
theorem sc_Place___init__ : FnScope n_Place___init__ ["self", "palette", "wear"] (defScope s_Place___init__) := ⟨rfl, rfl, rfl, by decide +kernel, rfl, by decide +kernel, by decide +kernel⟩
abbrev s_Place_palette : Stmt := inClass (topS 37) 1
abbrev n_Place_palette : List Str := ["self"]
theorem sc_Place_palette : FnScope n_Place_palette ["self"] (defScope s_Place_palette) := ⟨rfl, rfl, rfl, by decide +kernel, rfl, by decide +kernel, by decide +kernel⟩
abbrev s_Place_wear : Stmt := inClass (topS 37) 2
abbrev n_Place_wear : List Str := ["self"]
theorem sc_Place_wear : FnScope n_Place_wear ["self"] (defScope s_Place_wear) := ⟨rfl, rfl, rfl, by decide +kernel, rfl, by decide +kernel, by decide +kernel⟩
abbrev s_Place_want_ink : Stmt := inClass (topS 37) 3
abbrev n_Place_want_ink : List Str := ["self", "ink"]
theorem sc_Place_want_ink : FnScope n_Place_want_ink ["self", "ink"] (defScope s_Place_want_ink) := ⟨rfl, rfl, rfl, by decide +kernel, rfl, by decide +kernel, by decide +kernel⟩
abbrev s_Place_row : Stmt := inClass (topS 37) 4
abbrev n_Place_row : List Str := ["self", "ink", "mark", "tag", "strength"]
theorem sc_Place_row : FnScope n_Place_row ["self", "ink"] (defScope s_Place_row) := ⟨rfl, rfl, rfl, by decide +kernel, rfl, by decide +kernel, by decide +kernel⟩
abbrev s_Place_marks : Stmt := inClass (topS 37) 5
abbrev n_Place_marks : List Str := ["self", "ink", "mark", "tag", "strength"]
theorem sc_Place_marks : FnScope n_Place_marks ["self", "ink"] (defScope s_Place_marks) := ⟨rfl, rfl, rfl, by decide +kernel, rfl, by decide +kernel, by decide +kernel⟩
abbrev s_Place_top : Stmt := inClass (topS 37) 6
abbrev n_Place_top : List Str := ["self", "found", "most", "ink", "number"]
theorem sc_Place_top : FnScope n_Place_top ["self"] (defScope s_Place_top) := ⟨rfl, rfl, rfl, by decide +kernel, rfl, by decide +kernel, by decide +kernel⟩
abbrev s_Place_seen : Stmt := inClass (topS 37) 7
abbrev n_Place_seen : List Str := ["self", "top", "ink", "number", "mark", "tag", "strength"]
theorem sc_Place_seen : FnScope n_Place_seen ["self"] (defScope s_Place_seen) := ⟨rfl, rfl, rfl, by decide +kernel, rfl, by decide +kernel, by decide +kernel⟩
abbrev s_Place_seen_mark : Stmt := inClass (topS 37) 8
abbrev n_Place_seen_mark : List Str := ["self", "top"]
theorem sc_Place_seen_mark : FnScope n_Place_seen_mark ["self"] (defScope s_Place_seen_mark) := ⟨rfl, rfl, rfl, by decide +kernel, rfl, by decide +kernel, by decide +kernel⟩
abbrev s_Place_put_on : Stmt := inClass (topS 37) 9
abbrev n_Place_put_on : List Str := ["self", "ink", "tag", "strength", "mark"]
theorem sc_Place_put_on : FnScope n_Place_put_on ["self", "ink", "tag", "strength"] (defScope s_Place_put_on) := ⟨rfl, rfl, rfl, by decide +kernel, rfl, by decide +kernel, by decide +kernel⟩
abbrev s_Place_lay : Stmt := inClass (topS 37) 10
abbrev n_Place_lay : List Str := ["self", "ink", "tag", "strength"]
theorem sc_Place_lay : FnScope n_Place_lay ["self", "ink", "tag", "strength"] (defScope s_Place_lay) := ⟨rfl, rfl, rfl, by decide +kernel, rfl, by decide +kernel, by decide +kernel⟩
abbrev s_Place_weaken : Stmt := inClass (topS 37) 11
abbrev n_Place_weaken : List Str := ["self", "ink", "n"]
theorem sc_Place_weaken : FnScope n_Place_weaken ["self", "ink", "n"] (defScope s_Place_weaken) := ⟨rfl, rfl, rfl, by decide +kernel, rfl, by decide +kernel, by decide +kernel⟩
abbrev s_Place_wait : Stmt := inClass (topS 37) 12
abbrev n_Place_wait : List Str := ["self", "ticks"]
theorem sc_Place_wait : FnScope n_Place_wait ["self", "ticks"] (defScope s_Place_wait) := ⟨rfl, rfl, rfl, by decide +kernel, rfl, by decide +kernel, by decide +kernel⟩
abbrev s_Place_wash : Stmt := inClass (topS 37) 13
abbrev n_Place_wash : List Str := ["self", "ink", "n"]
theorem sc_Place_wash : FnScope n_Place_wash ["self", "ink", "n"] (defScope s_Place_wash) := ⟨rfl, rfl, rfl, by decide +kernel, rfl, by decide +kernel, by decide +kernel⟩
abbrev s_Place_warm : Stmt := inClass (topS 37) 14
abbrev n_Place_warm : List Str := ["self", "ink", "n"]
theorem sc_Place_warm : FnScope n_Place_warm ["self", "ink", "n"] (defScope s_Place_warm) := ⟨rfl, rfl, rfl, by decide +kernel, rfl, by decide +kernel, by decide +kernel⟩
abbrev s_Place_wear_off : Stmt := inClass (topS 37) 15
abbrev n_Place_wear_off : List Str := ["self", "n", "top", "ink", "number", "mark", "tag", "strength"]
theorem sc_Place_wear_off : FnScope n_Place_wear_off ["self", "n"] (defScope s_Place_wear_off) := ⟨rfl, rfl, rfl, by decide +kernel, rfl, by decide +kernel, by decide +kernel⟩
abbrev s_Place_scrape : Stmt := inClass (topS 37) 16
abbrev n_Place_scrape : List Str := ["self"]
theorem sc_Place_scrape : FnScope n_Place_scrape ["self"] (defScope s_Place_scrape) := ⟨rfl, rfl, rfl, by decide +kernel, rfl, by decide +kernel, by decide +kernel⟩
abbrev s_Place_rub : Stmt := inClass (topS 37) 17
abbrev n_Place_rub : List Str := ["self", "n"]
theorem sc_Place_rub : FnScope n_Place_rub ["self", "n"] (defScope s_Place_rub) := ⟨rfl, rfl, rfl, by decide +kernel, rfl, by decide +kernel, by decide +kernel⟩
abbrev s_Place_do : Stmt := inClass (topS 37) 18
abbrev n_Place_do : List Str := ["self", "deed"]
theorem sc_Place_do : FnScope n_Place_do ["self", "deed"] (defScope s_Place_do) := ⟨rfl, rfl, rfl, by decide +kernel, rfl, by decide +kernel, by decide +kernel⟩
abbrev s_Place_graft : Stmt := inClass (topS 37) 19
abbrev n_Place_graft : List Str := ["self", "other", "ink", "tag", "strength"]
theorem sc_Place_graft : FnScope n_Place_graft ["self", "other"] (defScope s_Place_graft) := ⟨rfl, rfl, rfl, by decide +kernel, rfl, by decide +kernel, by decide +kernel⟩
abbrev s_Place_press : Stmt := inClass (topS 37) 20
abbrev n_Place_press : List Str := ["self", "other"]
theorem sc_Place_press : FnScope n_Place_press ["self", "other"] (defScope s_Place_press) := ⟨rfl, rfl, rfl, by decide +kernel, rfl, by decide +kernel, by decide +kernel⟩
abbrev s_Place_copied : Stmt := inClass (topS 37) 21
abbrev n_Place_copied : List Str := ["self"]
theorem sc_Place_copied : FnScope n_Place_copied ["self"] (defScope s_Place_copied) := ⟨rfl, rfl, rfl, by decide +kernel, rfl, by decide +kernel, by decide +kernel⟩
abbrev s_Place___eq__ : Stmt := inClass (topS 37) 22
abbrev n_Place___eq__ : List Str := ["self", "other"]
theorem sc_Place___eq__ : FnScope n_Place___eq__ ["self", "other"] (defScope s_Place___eq__) := ⟨rfl, rfl, rfl, by decide +kernel, rfl, by decide +kernel, by decide +kernel⟩
abbrev s_l_at : Stmt := topS 39
abbrev n_l_at : List Str := ["_law_script", "_law_k"]
theorem sc_l_at : FnScope n_l_at ["_law_script", "_law_k"] (defScope s_l_at) := ⟨rfl, rfl, rfl, by decide +kernel, rfl, by decide +kernel, by decide +kernel⟩
abbrev s_l_pot : Stmt := topS 40
abbrev n_l_pot : List Str := ["_law_cell"]
theorem sc_l_pot : FnScope n_l_pot ["_law_cell"] (defScope s_l_pot) := ⟨rfl, rfl, rfl, by decide +kernel, rfl, by decide +kernel, by decide +kernel⟩
abbrev s_l_take : Stmt := topS 41
abbrev n_l_take : List Str := ["_law_pot_here", "_law_many_here", "_law_digit"]
theorem sc_l_take : FnScope n_l_take ["_law_pot_here", "_law_many_here"] (defScope s_l_take) := ⟨rfl, rfl, rfl, by decide +kernel, rfl, by decide +kernel, by decide +kernel⟩
abbrev s_l_word : Stmt := topS 42
abbrev n_l_word : List Str := ["_law_pot_here", "_law_found", "_law_letters", "_law_word_here", "_law_k", "_law_letter"]
theorem sc_l_word : FnScope n_l_word ["_law_pot_here", "_law_found"] (defScope s_l_word) := ⟨rfl, rfl, rfl, by decide +kernel, rfl, by decide +kernel, by decide +kernel⟩
abbrev s_l_words : Stmt := topS 43
abbrev n_l_words : List Str := ["_law_pot_here", "_law_many_here", "_law_found", "_law_k"]
theorem sc_l_words : FnScope n_l_words ["_law_pot_here", "_law_many_here"] (defScope s_l_words) := ⟨rfl, rfl, rfl, by decide +kernel, rfl, by decide +kernel, by decide +kernel⟩
abbrev s_l_amount : Stmt := topS 44
abbrev n_l_amount : List Str := ["_law_pot_here"]
theorem sc_l_amount : FnScope n_l_amount ["_law_pot_here"] (defScope s_l_amount) := ⟨rfl, rfl, rfl, by decide +kernel, rfl, by decide +kernel, by decide +kernel⟩
abbrev s_l_inks : Stmt := topS 45
abbrev n_l_inks : List Str := ["_law_pot_here", "_law_most", "_law_names", "_law_found", "_law_name"]
theorem sc_l_inks : FnScope n_l_inks ["_law_pot_here", "_law_most"] (defScope s_l_inks) := ⟨rfl, rfl, rfl, by decide +kernel, rfl, by decide +kernel, by decide +kernel⟩
abbrev s_l_model : Stmt := topS 46
abbrev n_l_model : List Str := ["_law_inks_here", "_law_lives", "_law_ink", "_law_fade"]
theorem sc_l_model : FnScope n_l_model ["_law_inks_here", "_law_lives"] (defScope s_l_model) := ⟨rfl, rfl, rfl, by decide +kernel, rfl, by decide +kernel, by decide +kernel⟩
abbrev s_l_put : Stmt := topS 47
abbrev n_l_put : List Str := ["_law_model_here", "_law_ink", "_law_tag", "_law_strength"]
theorem sc_l_put : FnScope n_l_put ["_law_model_here", "_law_ink", "_law_tag", "_law_strength"] (defScope s_l_put) := ⟨rfl, rfl, rfl, by decide +kernel, rfl, by decide +kernel, by decide +kernel⟩
abbrev s_l_first : Stmt := topS 48
abbrev n_l_first : List Str := ["_law_row", "_law_found", "_law_number"]
theorem sc_l_first : FnScope n_l_first ["_law_row"] (defScope s_l_first) := ⟨rfl, rfl, rfl, by decide +kernel, rfl, by decide +kernel, by decide +kernel⟩
abbrev s_l_top : Stmt := topS 49
abbrev n_l_top : List Str := ["_law_model_here", "_law_found", "_law_most", "_law_ink", "_law_fade", "_law_row"]
theorem sc_l_top : FnScope n_l_top ["_law_model_here"] (defScope s_l_top) := ⟨rfl, rfl, rfl, by decide +kernel, rfl, by decide +kernel, by decide +kernel⟩
abbrev s_l_worn : Stmt := topS 50
abbrev n_l_worn : List Str := ["_law_model_here", "_law_n", "_law_top_here", "_law_ink", "_law_number", "_law_row", "_law_mark", "_law_tag", "_law_strength", "_law_left"]
theorem sc_l_worn : FnScope n_l_worn ["_law_model_here", "_law_n"] (defScope s_l_worn) := ⟨rfl, rfl, rfl, by decide +kernel, rfl, by decide +kernel, by decide +kernel⟩
abbrev s_l_seen : Stmt := topS 51
abbrev n_l_seen : List Str := ["_law_model_here", "_law_top_here", "_law_mark", "_law_tag", "_law_strength"]
theorem sc_l_seen : FnScope n_l_seen ["_law_model_here"] (defScope s_l_seen) := ⟨rfl, rfl, rfl, by decide +kernel, rfl, by decide +kernel, by decide +kernel⟩
abbrev s_l_stands : Stmt := topS 52
abbrev n_l_stands : List Str := ["_law_place", "_law_model_here", "_law_ink", "_law_fade", "_law_row", "_law_marks", "_law_due", "_law_mark", "_law_tag", "_law_strength", "_law_seen_here"]
theorem sc_l_stands : FnScope n_l_stands ["_law_place", "_law_model_here"] (defScope s_l_stands) := ⟨rfl, rfl, rfl, by decide +kernel, rfl, by decide +kernel, by decide +kernel⟩
abbrev s_l_sort : Stmt := topS 53
abbrev n_l_sort : List Str := ["_law_e", "_law_some", "_law_told", "_law_bases", "_law_due"]
theorem sc_l_sort : FnScope n_l_sort ["_law_e"] (defScope s_l_sort) := ⟨rfl, rfl, rfl, by decide +kernel, rfl, by decide +kernel, by decide +kernel⟩
abbrev s_l_other_inks : Stmt := topS 54
abbrev n_l_other_inks : List Str := ["_law_pot_here", "_law_inks_here", "_law_at_here", "_law_word_here", "_law_ink", "_law_much", "_law_name", "_law_fade", "_law_some", "_law_found"]
theorem sc_l_other_inks : FnScope n_l_other_inks ["_law_pot_here", "_law_inks_here"] (defScope s_l_other_inks) := ⟨rfl, rfl, rfl, by decide +kernel, rfl, by decide +kernel, by decide +kernel⟩
abbrev s_l_many : Stmt := topS 55
abbrev n_l_many : List Str := ["_law_model_here", "_law_row"]
theorem sc_l_many : FnScope n_l_many ["_law_model_here"] (defScope s_l_many) := ⟨rfl, rfl, rfl, by decide +kernel, rfl, by decide +kernel, by decide +kernel⟩
abbrev s_l_grafted : Stmt := topS 56
abbrev n_l_grafted : List Str := ["_law_model_here", "_law_other", "_law_ink", "_law_fade", "_law_mark", "_law_tag", "_law_strength"]
theorem sc_l_grafted : FnScope n_l_grafted ["_law_model_here", "_law_other"] (defScope s_l_grafted) := ⟨rfl, rfl, rfl, by decide +kernel, rfl, by decide +kernel, by decide +kernel⟩
abbrev s_l_is_refused : Stmt := topS 57
abbrev n_l_is_refused : List Str := ["_law_one", "_law_other", "_law_told", "_law_e"]
theorem sc_l_is_refused : FnScope n_l_is_refused ["_law_one", "_law_other"] (defScope s_l_is_refused) := ⟨rfl, rfl, rfl, by decide +kernel, rfl, by decide +kernel, by decide +kernel⟩
abbrev s_l_step : Stmt := topS 58
abbrev n_l_step : List Str := ["_law_pot_here", "_law_places", "_law_models", "_law_tags", "_law_way", "_law_one", "_law_other", "_law_place", "_law_model_here", "_law_ink", "_law_tag", "_law_strength"]
theorem sc_l_step : FnScope n_l_step ["_law_pot_here", "_law_places", "_law_models", "_law_tags"] (defScope s_l_step) := ⟨rfl, rfl, rfl, by decide +kernel, rfl, by decide +kernel, by decide +kernel⟩
abbrev s_law : Stmt := topS 59
abbrev n_law : List Str := ["_law_script", "_law_pot_here", "_law_inks_here", "_law_places", "_law_models", "_law_tags", "_law_k", "_law_lives", "_law_far", "_law_place", "_law_model_here"]
theorem sc_law : FnScope n_law ["_law_script"] (defScope s_law) := ⟨rfl, rfl, rfl, by decide +kernel, rfl, by decide +kernel, by decide +kernel⟩
structure Fr (mg : Str → Option Value) : Prop where
  ArithmeticError_ : mg "ArithmeticError" = none
  LookupError_ : mg "LookupError" = none
  RuntimeError_ : mg "RuntimeError" = none
  ValueError_ : mg "ValueError" = none
  abs_ : mg "abs" = none
  all_ : mg "all" = none
  bool_ : mg "bool" = none
  dict_ : mg "dict" = none
  divmod_ : mg "divmod" = none
  enumerate_ : mg "enumerate" = none
  int_ : mg "int" = none
  isinstance_ : mg "isinstance" = none
  len_ : mg "len" = none
  list_ : mg "list" = none
  max_ : mg "max" = none
  min_ : mg "min" = none
  range_ : mg "range" = none
  repr_ : mg "repr" = none
  sorted_ : mg "sorted" = none
  str_ : mg "str" = none
  sum_ : mg "sum" = none
  tuple_ : mg "tuple" = none
  zip_ : mg "zip" = none
  LETTERS_ : ∃ t, mg "LETTERS" = some (.str "abcdefghijklmnopqrstuvwxyz" t)
  MOST_INKS_ : ∃ t, mg "MOST_INKS" = some (.int (8) t)
  MOST_LETTERS_ : ∃ t, mg "MOST_LETTERS" = some (.int (8) t)
  MOST_WEAR_ : ∃ t, mg "MOST_WEAR" = some (.int (6) t)
structure Cf (K : PySem.W.Frag) (mg : Str → Option Value) (CPalette CPlace : Addr) : Prop where
  cls_Palette : Cls K CPalette
  mg_Palette : mg "Palette" = some (.ref CPalette)
  is_Palette : IsC K CPalette
  na_Palette_fades : NoAttr K CPalette "fades"
  cls_Place : Cls K CPlace
  mg_Place : mg "Place" = some (.ref CPlace)
  na_Place_layers : NoAttr K CPlace "layers"
  na_Place_next_mark : NoAttr K CPlace "next_mark"
  na_Place_own_palette : NoAttr K CPlace "own_palette"
  na_Place_wear_left : NoAttr K CPlace "wear_left"
abbrev xNs : List String := ["FadeError", "NoPalette", "NoTag", "NoWear", "NoDeed", "NoPlaces", "Unlike", "NoText", "NoRow", "NoBook", "Halted", "NoInk", "NoLayer", "NoName", "NoAmount", "Worn"]
abbrev xDs : List String := ["Unlike"]
structure Xs (K : PySem.W.Frag) (mg : Str → Option Value) : Prop where
  sf : Srt K mg xNs xDs
  nx_Unlike : NxC K mg tailV "ValueError.__new__" "Unlike"
  na_Worn_at : PySem.W.findIn K (.ref (gx K "Worn")) "at" = some none
  ox_Worn : OxC K tailR "RuntimeError.__new__" (gx K "Worn")
section
variable [Tb] {P : Program} {w : World} {K : PySem.W.Frag} {mg : Str → Option Value} {base : Heap} {CPalette CPlace aS aI : Addr}
theorem Kd.ty {K : PySem.W.Frag} {H : Hp} {a : Addr} {o : HO} {m : String} (h : H a = some o) (e : tyO o = some m) : TyX K H (.ref a) (.type m) := by
  cases o with
  | lst xs => cases e; exact .base (.lst h)
  | tup xs => cases e; exact .base (.tup h)
  | dK kvs => cases e; exact .base (.dK h)
  | _ => cases e
theorem tyO_str {o : HO} {m : String} (e : tyO o = some m) : kitB m "str" = some false ∧ kitB m "int" = some false ∧ kitB m "bool" = some false := by
  cases o with
  | lst xs => cases e; decide +kernel
  | tup xs => cases e; decide +kernel
  | dK kvs => cases e; decide +kernel
  | _ => cases e
def spIsWhole [Tb] (K : PySem.W.Frag) : Sp := fun vs H Q _ => ∃ v : V, vs = [v] ∧ Kd H v ∧ Q (.bl (whV v)) H
theorem ok_is_whole (D : DefAt K mg "is_whole" s_is_whole) (fr : Fr mg) : Cal P w K mg base 1 "is_whole" (spIsWhole K) := by
  refine cal_of D sc_is_whole (fun _ _ _ _ _ _ us hl => match us, hl with | [_], _ => rfl) (fun vs H Q E h => by obtain ⟨v, rfl, _⟩ := h; rfl) fun f cd A out s H vs Q E room gd h => ?_
  obtain ⟨v, rfl, kd, q⟩ := h
  refine ⟨_, (pss_one (ps_ret (ye_and (pe_callB (kIsi (K := K) (by rfl)) (by rfl) fr.isinstance_ (by decide +kernel) (pa_cons (yv 0) (pa_cons (ye_ty (n := "int") (by rfl) fr.int_ (by decide +kernel)) pa_nil))) (pe_one (ye_not (pe_callB (kIsi (K := K) (by rfl)) (by rfl) fr.isinstance_ (by decide +kernel) (pa_cons (yv 0) (pa_cons (ye_ty (n := "bool") (by rfl) fr.bool_ (by decide +kernel)) pa_nil)))))))), ?_⟩
  cases kd with
  | str z hz hf => exact ⟨"str", false, .base (.str _), by decide +kernel, q⟩
  | int i => exact ⟨"int", true, .base (.int _), by decide +kernel, "int", false, .base (.int _), by decide +kernel, q⟩
  | bl b => exact ⟨"bool", true, .base (.bl _), by decide +kernel, "bool", true, .base (.bl _), by decide +kernel, q⟩
  | non => exact ⟨"NoneType", false, .base .non, by decide +kernel, q⟩
  | ref h e => exact ⟨_, false, Kd.ty h e, (tyO_str e).2.1, q⟩
def spIsName [Tb] (K : PySem.W.Frag) : Sp := fun vs H Q _ => ∃ v : V, vs = [v] ∧ Kd H v ∧ ∀ H', Kp No H H' → Q (.bl (nmV v)) H'
theorem ok_is_name (D : DefAt K mg "is_name" s_is_name) (fr : Fr mg) : Cal P w K mg base 1 "is_name" (spIsName K) := by
  refine cal_of D sc_is_name (fun _ _ _ _ _ _ us hl => match us, hl with | [_], _ => rfl) (fun vs H Q E h => by obtain ⟨v, rfl, _⟩ := h; rfl) fun f cd A out s H vs Q E room gd h => ?_
  obtain ⟨v, rfl, kd, q⟩ := h
  refine ⟨_, (pss_cons (ps_if (PW.pt (pw_or (pt_not (yt_val (pe_callB (kIsi (K := K) (by rfl)) (by rfl) fr.isinstance_ (by decide +kernel) (pa_cons (yv 0) (pa_cons (ye_ty (n := "str") (by rfl) fr.str_ (by decide +kernel)) pa_nil))))) (pw_or1 (pt_not (pt_chain oLe oLe pe_int (pe_callB (kLen (K := K) (by rfl)) (by rfl) fr.len_ (by decide +kernel) (pa_cons (yv 0) pa_nil)) (ye_gint fr.MOST_LETTERS_ (by rfl))))))) (pss_one (ps_ret pe_bl)) pss_nil)
    (pss_one (ps_ret (pe_callB (kAll (K := K) (by rfl) rfl) (by rfl) fr.all_ (by decide +kernel) (pa_cons (pe_lc (own := [("sign", 1)]) rfl sc_is_name.nd (yi_str (yv 0)) (blkOk_by (own := [("sign", 1)]) (N := n_is_name) (sc := defScope s_is_name) (by decide +kernel)) (fun _ _ _ _ _ => (yg_name 1 sc_is_name.nd)) (fun _ _ _ _ _ => pts_nil) (fun _ _ _ _ _ => (pe_cmpR (kIn (K := K) (by rfl)) (yv 1) (ye_gstr fr.LETTERS_ (by rfl)) (by rfl)))) pa_nil))))), ?_⟩
  cases kd with
  | str z hz hf =>
    have hzl : z.length ≤ sizeLine := Nat.le_trans hz (by decide)
    refine ⟨"str", true, .base (.str _), by decide +kernel, iteNb rfl ⟨hzl, _, rfl, ?_⟩⟩
    have qf : nmB z = false → ∀ H', Kp No H H' → Q (.bl false) H' := fun e H' k => by
      have := q H' k
      rw [show nmV (.str z) = nmB z from rfl, e] at this
      exact this
    refine iteD (fun h1 => ⟨_, rfl, ?_⟩) fun h1 => ⟨_, rfl, qf (nmB_no (.inl (by omega))) _ (Kp.refl _)⟩
    have key : z.length ≤ 8 → (∀ Dd, H Dd = none → LcGoal (Its z) (gName 1) tYes (tOp (yIn K false) (yVar 1) (tC (.str "abcdefghijklmnopqrstuvwxyz"))) [1] [some (.str z), none] H Dd fun H1 => ∃ bs : List Bool, SqL K H1 Dd (bs.map V.bl) ∧ Q (.bl (bs.all id)) H1) := by
      intro h8 Dd hD
      refine lc_mapS (K := K) PyData.bool (fun c => some (decide (c ∈ abc.cps.toList))) hD (by have := len_tl z; omega) (fun c Hc k kn hc kc hk hkn => ?_) (fun ys H2 h2 k2 im => ?_)
      · exact ⟨rfl, c, rfl, hk _ (decide (c ∈ abc.cps.toList)) _ rfl (Kp.refl _) (.bl _)⟩
      · have e2 := ImAll.bools im
        subst e2
        refine ⟨_, .inl (.inl h2), ?_⟩
        have := q H2 k2
        rw [show nmV (.str z) = nmB z from rfl, nmB_yes (by omega) h8] at this
        rw [List.filterMap_eq_map' (f := fun c : Nat => decide (c ∈ abc.cps.toList))]
        exact this
    by_cases h2 : z.length ≤ 8
    · have e2 : decide (((z.length : Nat) : Int) ≤ 8) = true := decide_eq_true (by omega)
      refine iteNb e2 ?_
      exact fun Dd hD => key h2 Dd hD
    · have e2 : decide (((z.length : Nat) : Int) ≤ 8) = false := decide_eq_false (by omega)
      exact iteN0 e2 (qf (nmB_no (.inr (by omega))) _ (Kp.refl _))
  | int i => exact ⟨"int", false, .base (.int _), by decide +kernel, q _ (Kp.refl _)⟩
  | bl b => exact ⟨"bool", false, .base (.bl _), by decide +kernel, q _ (Kp.refl _)⟩
  | non => exact ⟨"NoneType", false, .base .non, by decide +kernel, q _ (Kp.refl _)⟩
  | ref h e => exact ⟨_, false, Kd.ty h e, (tyO_str e).1, q _ (Kp.refl _)⟩
def spIsAmount [Tb] (K : PySem.W.Frag) : Sp := fun vs H Q _ => ∃ v : V, vs = [v] ∧ Kd H v ∧ Q (.bl (amV v)) H
theorem ok_is_amount (D : DefAt K mg "is_amount" s_is_amount) (fr : Fr mg) (c_is_whole : Cal P w K mg base 1 "is_whole" (spIsWhole K)) : Cal P w K mg base 2 "is_amount" (spIsAmount K) := by
  refine cal_of D sc_is_amount (fun _ _ _ _ _ _ us hl => match us, hl with | [_], _ => rfl) (fun vs H Q E h => by obtain ⟨v, rfl, _⟩ := h; rfl) fun f cd A out s H vs Q E room gd h => ?_
  obtain ⟨v, rfl, kd, q⟩ := h
  refine ⟨_, (pss_one (ps_ret (ye_and (ye_call c_is_whole room gd (by rfl) (pa_cons (yv 0) pa_nil)) (pe_one (pe_cmpR oGt (yv 0) pe_int (nomark _)))))), ?_⟩
  refine ⟨v, rfl, kd, ?_⟩
  cases kd with
  | str z hz hf => exact q
  | int i => exact q
  | bl b => exact q
  | non => exact q
  | ref h e => exact q

def spCell [Tb] (K : PySem.W.Frag) : Sp := fun vs H Q _ => ∃ (a : Addr) (ns : List Int) (k : Int), vs = [.ref a, .int k] ∧ SqL K H a (ns.map V.int) ∧ 0 ≤ k ∧ ∀ c : Int, Q (.int c) H
theorem ok_l_at (D : DefAt K mg "_law_at" s_l_at) (fr : Fr mg) : Cal P w K mg base 1 "_law_at" (spCell K) := by
  refine cal_of D sc_l_at (fun _ _ _ _ _ _ us hl => match us, hl with | [_, _], _ => rfl) (fun vs H Q E h => by obtain ⟨p, m, k, rfl, _⟩ := h; rfl) fun f cd A out s H vs Q E room gd h => ?_
  obtain ⟨a, ns, k, rfl, hS, hk, q⟩ := h
  refine ⟨_, (pss_cons (ps_if (yt_cmp oLt (yv 1) (pe_callB (kLen (K := K) (by rfl)) (by rfl) fr.len_ (by decide +kernel) (pa_cons (yv 0) pa_nil)) (nomark _)) (pss_one (ps_ret (kIx (K := K) (by rfl) (yv 0) (yv 1)))) pss_nil)
    (pss_one (ps_ret pe_int))), ?_⟩
  refine ⟨_, .inl hS, iteD (fun h1 => ?_) fun h0 => q _⟩
  have h2 : k.toNat < ns.length := by rw [List.length_map] at h1; omega
  refine ⟨_, .int ns[k.toNat], .inl hS, at_of (j := k.toNat) (by omega) ?_, q _⟩
  rw [List.getElem?_map, List.getElem?_eq_getElem h2]; rfl
def spPot [Tb] : Sp := fun vs H Q _ => ∃ (c : Int), vs = [.int c] ∧ ∀ (p : Addr) H', H p = none → Kp No H H' → Pot H' p → Q (.ref p) H'
theorem ok_l_pot (D : DefAt K mg "_law_pot" s_l_pot) (fr : Fr mg) : Cal P w K mg base 1 "_law_pot" spPot := by
  refine cal_of D sc_l_pot (fun _ _ _ _ _ _ us hl => match us, hl with | [_], _ => rfl) (fun vs H Q E h => by obtain ⟨p, rfl, _⟩ := h; rfl) fun f cd A out s H vs Q E room gd h => ?_
  obtain ⟨c, rfl, q⟩ := h
  refine ⟨_, (pss_one (ps_ret (ye_lst (pa_cons (pe_callB (cMax2 rfl) (by rfl) fr.max_ (by decide +kernel) (pa_cons pe_int (pa_cons (pe_op oSub (yv 0) (pe_op oPow pe_int pe_int)) pa_nil))) (pa_cons (pe_op (kAdd (K := K) (by rfl)) (pe_op oMod (pe_op oPow (pe_op (kAdd (K := K) (by rfl)) (pe_op oMod (pe_callB cAbs (by rfl) fr.abs_ (by decide +kernel) (pa_cons (yv 0) pa_nil)) pe_int) pe_int) pe_int) pe_int) pe_int) pa_nil))))), ?_⟩
  have e1 : 0 ≤ (c.natAbs : Int) % 2147483563 := Int.emod_nonneg _ (by decide)
  have e2 : (c.natAbs : Int) % 2147483563 < 2147483563 := Int.emod_lt_of_pos _ (by decide)
  refine ⟨⟨by decide, by decide, by decide⟩, by decide, ⟨by decide, by decide, by omega⟩, by decide, fun p hp => ?_⟩
  refine q p _ hp (Kp.new hp) ⟨_, _, upd_same, by omega, ?_, ?_⟩
  · have := Int.emod_nonneg (((c.natAbs : Int) % 2147483563 + 3) ^ ((2 : Int).toNat)) (show (2147483549 : Int) ≠ 0 by decide)
    omega
  · have := Int.emod_lt_of_pos (((c.natAbs : Int) % 2147483563 + 3) ^ ((2 : Int).toNat)) (show (0 : Int) < 2147483549 by decide)
    omega
def spTake [Tb] : Sp := fun vs H Q _ => ∃ (p : Addr) (m : Int), vs = [.ref p, .int m] ∧ Pot H p ∧ 0 < m ∧ m < 10 ^ 70 ∧ ∀ (d : Int) H', Kp (At p) H H' → Pot H' p → 0 ≤ d → d < m → Q (.int d) H'
theorem ok_l_take (D : DefAt K mg "_law_take" s_l_take) (fr : Fr mg) : Cal P w K mg base 1 "_law_take" spTake := by
  refine cal_of D sc_l_take (fun _ _ _ _ _ _ us hl => match us, hl with | [_, _], _ => rfl) (fun vs H Q E h => by obtain ⟨p, m, rfl, _⟩ := h; rfl) fun f cd A out s H vs Q E room gd h => ?_
  obtain ⟨p, m, rfl, ⟨a, b, hp, ha, hb, hb2⟩, hm, hm2, q⟩ := h
  refine ⟨_, (pss_cons (ps_if (yt_cmp oGt (kIx (K := K) (by rfl) (yv 0) pe_int) pe_int (nomark _)) (pss_cons (ps_asg (pe_callB cDivmod (by rfl) fr.divmod_ (by decide +kernel) (pa_cons (kIx (K := K) (by rfl) (yv 0) pe_int) (pa_cons (yv 1) pa_nil))) (kgTup (K := K) (n := 2) (by rfl) rfl (yg_cons (pg_sub (yv 0) pe_int oSetI) (yg_cons (yg_name 2 sc_l_take.nd) yg_nil))))
    (pss_one (ps_ret (yv 2)))) pss_nil)
    (pss_cons (ps_asg (pe_op oMod (pe_op (kAdd (K := K) (by rfl)) (pe_op oMul (kIx (K := K) (by rfl) (yv 0) pe_int) pe_int) pe_int) pe_int) (pg_sub (yv 0) pe_int oSetI))
    (pss_one (ps_ret (pe_op oMod (pe_op oFdv (pe_op oMod (pe_op oMul (kIx (K := K) (by rfl) (yv 0) pe_int) (kIx (K := K) (by rfl) (yv 0) pe_int)) pe_int) pe_int) (yv 1)))))), ?_⟩
  refine ⟨_, _, .inl (.inl (.inl hp)), rfl, ite2 (fun h0 => ?_) fun h0 => ?_⟩
  · refine ⟨_, _, .inl (.inl (.inl hp)), rfl, ⟨hm, hm2⟩, fun t ht => ?_⟩
    have np : p ≠ t := ne_of_none hp ht
    have hp2 : upd H t (.tup [.int (a / m), .int (a % m)]) p = some (.lst [.int a, .int b]) := by rw [upd_ne np]; exact hp
    refine ⟨_, .inl (.inl upd_same), rfl, _, 0, hp2, rfl, ?_⟩
    exact q _ _ ((Kp.new ht).trans (Kp.set rfl hp2)) ⟨a / m, b, upd_same, Int.ediv_nonneg ha (Int.le_of_lt hm), hb, hb2⟩ (Int.emod_nonneg _ (by omega)) (Int.emod_lt_of_pos _ hm)
  · refine ⟨_, _, .inl (.inl (.inl hp)), rfl, mid64 (by omega) (by omega), mid64 (by omega) (by omega), by decide, _, 1, hp, rfl, ?_⟩
    have e1 : 0 ≤ (b * 48271 + 9973) % 2147483647 := Int.emod_nonneg _ (by decide)
    have e2 : (b * 48271 + 9973) % 2147483647 < 2147483647 := Int.emod_lt_of_pos _ (by decide)
    have hp2 : ∀ l, upd H p (.lst l) p = some (.lst l) := fun l => upd_same
    refine ⟨_, _, .inl (.inl (.inl (hp2 _))), rfl, _, _, .inl (.inl (.inl (hp2 _))), rfl, mid64 (by omega) (by omega), mid64 (by omega) (by omega), by decide, by decide, by decide, hm, ?_⟩
    exact q _ _ (Kp.set rfl hp) ⟨a, _, upd_same, ha, e1, by omega⟩ (Int.emod_nonneg _ (by omega)) (Int.emod_lt_of_pos _ hm)
/-- a word that is not among those found -/
def spWord2 [Tb] : Sp := fun vs H Q _ => ∃ (p f : Addr) (ns : List Str), vs = [.ref p, .ref f] ∧ Pot H p ∧ H f = some (.lst (ns.map V.str)) ∧ ns.length < 26 ∧ f ≠ p ∧ ∀ (z : Str) H', Kp (At p) H H' → Pot H' p → Nm z → z ∉ ns → Q (.str z) H'
theorem inV_strs (a : Str) (ns : List Str) : inV (.str a) (ns.map V.str) = decide (a ∈ ns) := by
  unfold inV
  rw [Bool.eq_iff_iff, List.any_map, List.any_eq_true, decide_eq_true_eq]
  constructor
  · rintro ⟨y, hy, e⟩
    have : y = a := eq_of_beq e
    exact this ▸ hy
  · intro h
    exact ⟨a, h, beq_self_eq_true a⟩
theorem free_letter {ns : List Str} (h : ns.length < 26) : ∃ c cs, (abc.cps.toList.filter fun c => !decide ((⟨#[c]⟩ : Str) ∈ ns)) = c :: cs := by
  cases e : abc.cps.toList.filter fun c => !decide ((⟨#[c]⟩ : Str) ∈ ns) with
  | cons c cs => exact ⟨c, cs, rfl⟩
  | nil =>
    exfalso
    rw [List.filter_eq_nil_iff] at e
    have nd : (abc.cps.toList.map fun c => (⟨#[c]⟩ : Str)).Nodup := by decide +kernel
    have := nodup_le nd (m := ns) fun x hx => by
      obtain ⟨c, hc, rfl⟩ := List.mem_map.mp hx
      have := e c hc
      simpa using this
    have l26 : (abc.cps.toList.map fun c => (⟨#[c]⟩ : Str)).length = 26 := by decide +kernel
    omega
theorem ok_l_word (D : DefAt K mg "_law_word" s_l_word) (fr : Fr mg) (c_l_take : Cal P w K mg base 1 "_law_take" spTake) : Cal P w K mg base 2 "_law_word" spWord2 := by
  refine cal_of D sc_l_word (fun _ _ _ _ _ _ us hl => match us, hl with | [_, _], _ => rfl) (fun vs H Q E h => by obtain ⟨p, f, ns, rfl, _⟩ := h; rfl) fun f cd A out s H vs Q E room gd h => ?_
  obtain ⟨p, fo, ns, rfl, pot, hf, hn, nfp, q⟩ := h
  refine ⟨_, (pss_cons (ys_set 2 sc_l_word.nd pe_str)
    (pss_cons (ys_set 3 sc_l_word.nd (kJoin (K := K) (by rfl) pe_str (pe_lc (own := [("_law_k", 4)]) rfl sc_l_word.nd (yi_range1 (by rfl) fr.range_ (pa_cons (pe_op (kAdd (K := K) (by rfl)) pe_int (ye_call c_l_take room gd (by rfl) (pa_cons (yv 0) (pa_cons pe_int pa_nil)))) pa_nil)) (blkOk_by (own := [("_law_k", 4)]) (N := n_l_word) (sc := defScope s_l_word) (by decide +kernel)) (fun _ _ _ _ _ => (yg_name 4 sc_l_word.nd)) (fun _ _ _ _ _ => pts_nil) (fun _ _ _ _ _ => (kIx (K := K) (by rfl) (yv 2) (ye_call c_l_take room gd (by rfl) (pa_cons (yv 0) (pa_cons pe_int pa_nil))))))))
    (pss_cons (ps_if (yt_cmp (kIn (K := K) (by rfl)) (yv 3) (yv 1) (by rfl)) (pss_one (ys_set 3 sc_l_word.nd (kIx (K := K) (by rfl) (pe_lc (own := [("_law_letter", 5)]) rfl sc_l_word.nd (yi_str (yv 2)) (blkOk_by (own := [("_law_letter", 5)]) (N := n_l_word) (sc := defScope s_l_word) (by decide +kernel)) (fun _ _ _ _ _ => (yg_name 5 sc_l_word.nd)) (fun _ _ _ _ _ => (pts_one (yt_cmp (kNotIn (K := K) (by rfl)) (yv 5) (yv 1) (by rfl)))) (fun _ _ _ _ _ => (yv 5))) pe_int))) pss_nil)
    (pss_one (ps_ret (yv 3)))))), ?_⟩
  refine ⟨p, 8, rfl, pot, by decide, by decide, fun d H1 k1 pot1 d0 d1 => ⟨⟨by omega, by omega⟩, fun Dd hD => ?_⟩⟩
  refine lc_draw (K := K) (fun c : Nat => PyData.str ⟨#[c]⟩) (fun c => 97 ≤ c ∧ c ≤ 122) hD pot1 (by omega) (fun i Ha k kn hi ka pa hk => ?_) (fun ys bs H2 h2 k2 pot2 hl hP im => ?_)
  · refine ⟨rfl, p, 26, rfl, pa, by decide, by decide, fun e H4 k4 pot4 e0 e1 => ⟨by decide, _, abc_at e0 e1, ?_⟩⟩
    exact hk _ _ _ (by omega) k4 pot4 (.str _)
  · have e : bs.map (fun c : Nat => PyData.str ⟨#[c]⟩) = (bs.map fun c => (⟨#[c]⟩ : Str)).map PyData.str := by rw [List.map_map]; rfl
    rw [e] at im
    have e2 := im.strs
    subst e2
    have k02 := k1.trans k2
    have hf2 := k02.all fo _ hf nfp
    refine ⟨_, .inl (.inl (.inl h2)), ?_, ?_⟩
    · rw [signs_len]
      show _ + _ * 0 ≤ _
      omega
    · rw [join_signs]
      have nm : Nm ⟨bs.toArray⟩ := nm_of_codes (by omega) (by omega) hP
      refine ⟨fo, _, rfl, .inl (.inl (.inl hf2)), rfl, flat_strs _, ?_⟩
      rw [inV_strs]
      refine iteD (fun hm => fun D2 hD2 => ?_) fun hm => q _ _ k02 pot2 nm hm
      refine lc_mapS (K := K) (fun c : Nat => PyData.str ⟨#[c]⟩) (fun c => if (!decide ((⟨#[c]⟩ : Str) ∈ ns)) = true then some c else none) hD2 (by decide) (fun c Hc k kn hc kc hk hkn => ?_) (fun ys H3 h3 k3 im => ?_)
      · refine ⟨rfl, fo, _, rfl, .inl (.inl (.inl (kc.all fo _ hf2 id))), rfl, flat_strs _, ?_⟩
        show if (!inV (.str ⟨#[c]⟩) (ns.map V.str)) = true then _ else _
        rw [inV_strs]
        exact ite2 (fun h => hk _ c _ (if_pos h) (Kp.refl _) (.str _)) fun h => hkn _ (if_neg h) (Kp.refl _)
      · rw [fm_filter] at im
        obtain ⟨c, cs, ec⟩ := free_letter hn
        have hc : c ∈ abc.cps.toList.filter fun c => !decide ((⟨#[c]⟩ : Str) ∈ ns) := by rw [ec]; exact List.mem_cons_self
        rw [List.mem_filter] at hc
        have im : ImAll K H3 ys ((abc.cps.toList.filter fun c => !decide ((⟨#[c]⟩ : Str) ∈ ns)).map fun c : Nat => PyData.str ⟨#[c]⟩) := im
        rw [ec] at im
        cases im with
        | cons z1 z2 =>
        obtain rfl := z1.strInv
        refine ⟨_, _, .inl (.inl (.inl h3)), at_of (j := 0) rfl rfl, q _ _ (k02.trans k3.no) (pot2.keep k3 id) ?_ ?_⟩
        · have hr : c ∈ (List.range 26).map (97 + ·) := abc_list ▸ hc.1
          obtain ⟨j, hj, rfl⟩ := List.mem_map.mp hr
          have := List.mem_range.mp hj
          exact nm_of_codes (cs := [97 + j]) (by simp) (by simp) fun x hx => by rw [List.mem_singleton.mp hx]; omega
        · simpa using hc.2
def spNames [Tb] : Sp := fun vs H Q _ => ∃ (p : Addr) (m : Int), vs = [.ref p, .int m] ∧ Pot H p ∧ 0 ≤ m ∧ m ≤ 25 ∧
  ∀ (l : Addr) (ns : List Str) H', H l = none → Kp (At p) H H' → Pot H' p → H' l = some (.lst (ns.map V.str)) → (ns.length : Int) = m → (∀ z ∈ ns, Nm z) → ns.Nodup → Q (.ref l) H'
theorem ok_l_words (D : DefAt K mg "_law_words" s_l_words) (fr : Fr mg) (c_l_word : Cal P w K mg base 2 "_law_word" spWord2) : Cal P w K mg base 3 "_law_words" spNames := by
  refine cal_of D sc_l_words (fun _ _ _ _ _ _ us hl => match us, hl with | [_, _], _ => rfl) (fun vs H Q E h => by obtain ⟨p, m, rfl, _⟩ := h; rfl) fun f cd A out s H vs Q E room gd h => ?_
  obtain ⟨p, m, rfl, pot, m0, m1, q⟩ := h
  refine ⟨_, (pss_cons (ys_set 2 sc_l_words.nd (ye_lst pa_nil))
    (pss_cons (ps_for PassesOwn.never rfl (yi_range1 (by rfl) fr.range_ (pa_cons (yv 1) pa_nil)) (yg_name 3 sc_l_words.nd) (pss_one (ps_expr (ye_append (pe_bm PySem.F.plainAttrs_list PySem.F.slot_list_append PySem.F.type_list_append mt_append (PE.cl (yv 2)) (pa_cons (PE.cl (ye_call c_l_word room gd (by rfl) (pa_cons (yv 0) (pa_cons (yv 2) pa_nil)))) pa_nil))))))
    (pss_one (ps_ret (yv 2))))), ?_⟩
  intro l hl
  have npl : p ≠ l := pot.ne hl
  refine ⟨⟨by omega, by omega⟩, ?_⟩
  refine for_it walk_range (fun i σ H' => ∃ (ns : List Str) (y3 : Option V), σ = [some (.ref p), some (.int m), some (.ref l), y3] ∧ Kp (At p) H H' ∧ Pot H' p ∧ H' l = some (.lst (ns.map V.str)) ∧ ns.length = i ∧ (∀ z ∈ ns, Nm z) ∧ ns.Nodup)
    ⟨[], none, rfl, Kp.new hl, pot.upd_ npl, upd_same, rfl, fun z hz => (nomatch hz), List.nodup_nil⟩ (fun _ _ _ _ _ => trivial) ?_ ?_
  · rintro i x σ Ha Hb hi ⟨ns, y3, rfl, ka, pa, la, hn, hN, hd⟩ ⟨rfl, rfl⟩
    refine ⟨⟨_, la⟩, p, l, ns, rfl, pa, la, by omega, fun e => npl e.symm, fun z H1 k1 p1 hz hzn => ?_⟩
    have l1 := k1.all l _ la fun e => npl e.symm
    have hset : Kp (At l) H1 (upd H1 l (.lst (ns.map V.str ++ [.str z]))) := Kp.set rfl l1
    refine ⟨_, l1, by rw [List.length_map, hn]; exact Nat.lt_of_lt_of_le (show i < 1000 by omega) (by decide), ns ++ [z], _, rfl, (ka.trans k1).put hl l1, p1.keep hset npl, by rw [upd_same]; simp, by simp [hn], ?_, ?_⟩
    · intro c hc
      rcases List.mem_append.mp hc with hc | hc
      · exact hN c hc
      · rw [List.mem_singleton.mp hc]; exact hz
    · rw [List.nodup_append]
      refine ⟨hd, by simp, ?_⟩
      intro a ha b hb e
      rw [List.mem_singleton.mp hb] at e
      exact hzn (e ▸ ha)
  · rintro σ H' ⟨ns, y3, rfl, ka, pa, la, hn, hN, hd⟩
    exact q l ns H' hl ka pa la (by omega) hN hd
def spAmount [Tb] : Sp := fun vs H Q _ => ∃ (p : Addr), vs = [.ref p] ∧ Pot H p ∧ ∀ (n : Int) H', Kp (At p) H H' → Pot H' p → 1 ≤ n → n ≤ 10 ^ 59 → Q (.int n) H'
theorem ok_l_amount (D : DefAt K mg "_law_amount" s_l_amount) (fr : Fr mg) (c_l_take : Cal P w K mg base 1 "_law_take" spTake) : Cal P w K mg base 2 "_law_amount" spAmount := by
  refine cal_of D sc_l_amount (fun _ _ _ _ _ _ us hl => match us, hl with | [_], _ => rfl) (fun vs H Q E h => by obtain ⟨p, rfl, _⟩ := h; rfl) fun f cd A out s H vs Q E room gd h => ?_
  obtain ⟨p, rfl, pot, q⟩ := h
  refine ⟨_, (pss_one (ps_ret (pe_op (kAdd (K := K) (by rfl)) pe_int (ye_call c_l_take room gd (by rfl) (pa_cons (yv 0) (pa_cons (kIx (K := K) (by rfl) (ye_lst (pa_cons pe_int (pa_cons pe_int (pa_cons pe_int (pa_cons (pe_op oPow pe_int pe_int) pa_nil))))) (ye_call c_l_take room gd (by rfl) (pa_cons (yv 0) (pa_cons pe_int pa_nil)))) pa_nil)))))), ?_⟩
  refine ⟨⟨by decide, by decide, by decide⟩, fun l hl => ?_⟩
  have kl : Kp (At p) H (upd H l (.lst [.int 3, .int 3, .int 9, .int (10 ^ 59)])) := Kp.new hl
  have npl := pot.ne hl
  refine ⟨p, 4, rfl, pot.upd_ npl, by decide, by decide, fun d H1 k1 p1 d0 d1 => ?_⟩
  have l1 := k1.all l _ upd_same fun e => npl e.symm
  obtain ⟨m, hm1, hm2, hm3⟩ : ∃ m : Int, atI [V.int 3, .int 3, .int 9, .int (10 ^ 59)] d = some (.int m) ∧ 0 < m ∧ m ≤ 10 ^ 59 := by
    have c : d = 0 ∨ d = 1 ∨ d = 2 ∨ d = 3 := by omega
    rcases c with rfl | rfl | rfl | rfl
    · exact ⟨3, at_of (j := 0) rfl rfl, by decide, by decide⟩
    · exact ⟨3, at_of (j := 1) rfl rfl, by decide, by decide⟩
    · exact ⟨9, at_of (j := 2) rfl rfl, by decide, by decide⟩
    · exact ⟨10 ^ 59, at_of (j := 3) rfl rfl, by decide, by decide⟩
  exact ⟨_, _, .inl (.inl (.inl l1)), hm1, p, m, rfl, p1, hm2, by omega, fun e H2 k2 p2 e0 e1 => q _ _ ((kl.trans k1).trans k2) p2 (by omega) (by omega)⟩
def spInks [Tb] (K : PySem.W.Frag) : Sp := fun vs H Q _ => ∃ (p : Addr) (m : Int), vs = [.ref p, .int m] ∧ Pot H p ∧ 1 ≤ m ∧ m ≤ 8 ∧ ∀ (l : Addr) (ys : List V) (ks : List Ink) H', H l = none → Kp (At p) H H' → Pot H' p → H' l = some (.lst ys) → ImAll K H' ys (ks.map inkD) → InkOk ks → (∀ k ∈ ks, k.2 < 10 ^ 30) → (ks.length : Int) ≤ m → Q (.ref l) H'
theorem ok_l_inks (D : DefAt K mg "_law_inks" s_l_inks) (fr : Fr mg) (c_l_take : Cal P w K mg base 1 "_law_take" spTake) (c_l_words : Cal P w K mg base 3 "_law_words" spNames) : Cal P w K mg base 4 "_law_inks" (spInks K) := by
  refine cal_of D sc_l_inks (fun _ _ _ _ _ _ us hl => match us, hl with | [_, _], _ => rfl) (fun vs H Q E h => by obtain ⟨p, m, rfl, _⟩ := h; rfl) fun f cd A out s H vs Q E room gd h => ?_
  obtain ⟨p, m, rfl, pot, m1, m8, q⟩ := h
  refine ⟨_, (pss_cons (ys_set 2 sc_l_inks.nd (ye_call c_l_words room gd (by rfl) (pa_cons (yv 0) (pa_cons (pe_op (kAdd (K := K) (by rfl)) pe_int (ye_call c_l_take room gd (by rfl) (pa_cons (yv 0) (pa_cons (yv 1) pa_nil)))) pa_nil))))
    (pss_cons (ys_set 3 sc_l_inks.nd (ye_lst pa_nil))
    (pss_cons (ps_for PassesOwn.never rfl (kiList (K := K) (by rfl) (yv 2)) (yg_name 4 sc_l_inks.nd) (pss_one (ps_expr (ye_append (pe_bm PySem.F.plainAttrs_list PySem.F.slot_list_append PySem.F.type_list_append mt_append (PE.cl (yv 3)) (pa_cons (PE.cl (ye_tup (pa_cons (yv 4) (pa_cons (kIx (K := K) (by rfl) (ye_lst (pa_cons pe_int (pa_cons pe_int (pa_cons (ye_call c_l_take room gd (by rfl) (pa_cons (yv 0) (pa_cons pe_int pa_nil))) (pa_cons (ye_call c_l_take room gd (by rfl) (pa_cons (yv 0) (pa_cons (pe_op oPow pe_int pe_int) pa_nil))) pa_nil))))) (ye_call c_l_take room gd (by rfl) (pa_cons (yv 0) (pa_cons pe_int pa_nil)))) pa_nil)))) pa_nil))))))
    (pss_one (ps_ret (yv 3)))))), ?_⟩
  refine ⟨p, m, rfl, pot, by omega, by omega, fun d H1 k1 p1 d0 d1 => ⟨p, _, rfl, p1, by omega, by omega, fun l ns H2 hl k2 p2 l2 hn hN hd => ?_⟩⟩
  have k02 := k1.trans k2
  have nlp : l ≠ p := fun e => (p1.ne hl) e.symm
  intro fo hfo
  have kf : Kp No H2 (upd H2 fo (.lst [])) := Kp.new hfo
  have lf := kf.all l _ l2 id
  have hfoH : H fo = none := k02.dom fo hfo
  have nfp : fo ≠ p := fun e => (pot.ne hfoH) e.symm
  have nlf : l ≠ fo := ne_of_none l2 hfo
  refine ⟨⟨_, .inl (.inl lf)⟩, ?_⟩
  have en : (ns.map V.str).length = ns.length := List.length_map ..
  have wl : Walk (Itl K l) ns.length (fun H => SqL K H l (ns.map V.str)) (YAt (ns.map V.str)) := en ▸ walk_list
  refine for_it wl (fun i σ H' => ∃ (ys : List V) (ks : List Ink) (y4 : Option V), σ = [some (.ref p), some (.int m), some (.ref l), some (.ref fo), y4] ∧ Kp (At p) H H' ∧ Pot H' p ∧ H' l = some (.lst (ns.map V.str)) ∧ H' fo = some (.lst ys) ∧ ImAll K H' ys (ks.map inkD) ∧ ks.map (·.1) = ns.take i ∧ (∀ k ∈ ks, 0 ≤ k.2 ∧ k.2 < 10 ^ 30))
    ⟨[], [], none, rfl, k02.trans kf.no, p2.keep kf id, lf, upd_same, .nil, rfl, fun k hk => (nomatch hk)⟩ (fun i σ H' _ ⟨_, _, _, _, _, _, h, _⟩ => .inl (.inl h)) ?_ ?_
  · rintro i x σ Ha Hb hi ⟨ys, ks, y4, rfl, ka, pa, la, fa, im, ek, hk⟩ ⟨rfl, hx⟩
    rw [List.getElem?_map, List.getElem?_eq_getElem hi] at hx
    obtain rfl := Option.some.inj hx
    refine ⟨⟨_, fa⟩, p, 5, rfl, pa, by decide, by decide, fun c2 H4 k4 p4 a2 b2 => ⟨⟨by decide, by decide, by decide⟩, p, _, rfl, p4, by decide, by decide, fun c3 H5 k5 p5 a3 b3 => fun u hu => ?_⟩⟩
    have b3' : c3 < 10 ^ 30 := b3
    have ku : Kp (At p) H5 (upd H5 u (.lst [.int 0, .int 1, .int c2, .int c3])) := Kp.new hu
    have nup : u ≠ p := fun e => (p5.ne hu) e.symm
    refine ⟨p, 4, rfl, p5.upd_ (p5.ne hu), by decide, by decide, fun c4 H6 k6 p6 a4 b4 => ?_⟩
    have u6 := k6.all u _ upd_same nup
    obtain ⟨n, hn1, hn2, hn3⟩ : ∃ n : Int, atI [V.int 0, .int 1, .int c2, .int c3] c4 = some (.int n) ∧ 0 ≤ n ∧ n < 10 ^ 30 := by
      have c : c4 = 0 ∨ c4 = 1 ∨ c4 = 2 ∨ c4 = 3 := by omega
      rcases c with rfl | rfl | rfl | rfl
      · exact ⟨0, at_of (j := 0) rfl rfl, by decide, by decide⟩
      · exact ⟨1, at_of (j := 1) rfl rfl, by decide, by decide⟩
      · exact ⟨c2, at_of (j := 2) rfl rfl, a2, by omega⟩
      · exact ⟨c3, at_of (j := 3) rfl rfl, a3, by omega⟩
    refine ⟨_, _, .inl (.inl (.inl u6)), hn1, fun w hw => ?_⟩
    have kw : Kp (At p) H6 (upd H6 w (.tup [.str ns[i], .int n])) := Kp.new hw
    have k46 := ((k4.trans k5).trans (ku.trans k6)).trans kw
    have f8 := k46.all fo _ fa nfp
    have ey : ys.length = i := by
      rw [im.length, List.length_map, ← List.length_map (f := fun k : Ink => k.1) (as := ks), ek, List.length_take]
      omega
    have kS : Kp (At fo) _ (upd (upd H6 w (.tup [.str ns[i], .int n])) fo (.lst (ys ++ [.ref w]))) := Kp.set rfl f8
    refine ⟨ys, f8, by rw [ey]; exact Nat.lt_of_lt_of_le (show i < 1000 by omega) (by decide), ys ++ [.ref w], ks ++ [(ns[i], n)], _, rfl, (ka.trans k46).put hfoH f8, (p6.upd_ (p6.ne hw)).keep kS fun e => nfp e.symm, kS.all l _ (k46.all l _ la nlp) nlf, upd_same, ?_, ?_, ?_⟩
    · rw [List.map_append]
      exact (ImAll.up kS _ _ (ImAll.up k46 _ _ im)).snoc (Im.mk (kS.tup _ _ upd_same) (.cons (.str _) (.cons (.int _) .nil)))
    · rw [List.map_append, ek, List.take_add_one, List.getElem?_eq_getElem hi]
      rfl
    · intro k hk2
      rcases List.mem_append.mp hk2 with z | z
      · exact hk k z
      · rw [List.mem_singleton.mp z]; exact ⟨hn2, hn3⟩
  · rintro σ H' ⟨ys, ks, y4, rfl, ka, pa, la, fa, im, ek, hk⟩
    rw [List.take_length] at ek
    have el : ks.length = ns.length := by rw [← ek, List.length_map]
    refine q fo ys ks H' hfoH ka pa fa im ⟨by omega, by omega, fun k hk2 => ⟨hN _ (ek ▸ List.mem_map_of_mem hk2), (hk k hk2).1, by have := (hk k hk2).2; omega⟩, by rw [ek]; exact hd⟩ (fun k hk2 => (hk k hk2).2) (by omega)

def spIsInk [Tb] (K : PySem.W.Frag) : Sp := fun vs H Q _ => ∃ (v : V) (p : Ink), vs = [v] ∧ Im K H v (inkD p) ∧ Nm p.1 ∧ 0 ≤ p.2 ∧ ∀ H', Kp No H H' → Q (.bl true) H'
theorem ok_is_ink (D : DefAt K mg "is_ink" s_is_ink) (fr : Fr mg) (c_is_name : Cal P w K mg base 1 "is_name" (spIsName K)) (c_is_whole : Cal P w K mg base 1 "is_whole" (spIsWhole K)) : Cal P w K mg base 2 "is_ink" (spIsInk K) := by
  refine cal_of D sc_is_ink (fun _ _ _ _ _ _ us hl => match us, hl with | [_], _ => rfl) (fun vs H Q E h => by obtain ⟨v, p, rfl, _⟩ := h; rfl) fun f cd A out s H vs Q E room gd h => ?_
  obtain ⟨v, p, rfl, im, nm, p0, q⟩ := h
  obtain ⟨a, rfl, ta⟩ := im.inkInv
  refine ⟨_, (pss_cons (ps_if (PW.pt (pw_or (pt_not (yt_val (pe_callB (kIsi (K := K) (by rfl)) (by rfl) fr.isinstance_ (by decide +kernel) (pa_cons (yv 0) (pa_cons (ye_ty (n := "tuple") (by rfl) fr.tuple_ (by decide +kernel)) pa_nil))))) (pw_or (yt_cmp (kNe (K := K) (by rfl) room.units) (pe_callB (kLen (K := K) (by rfl)) (by rfl) fr.len_ (by decide +kernel) (pa_cons (yv 0) pa_nil)) pe_int (nomark _)) (pw_or1 (pt_not (yt_val (ye_call c_is_name room gd (by rfl) (pa_cons (kIx (K := K) (by rfl) (yv 0) pe_int) pa_nil)))))))) (pss_one (ps_ret pe_bl)) pss_nil)
    (pss_one (ps_ret (ye_and (ye_call c_is_whole room gd (by rfl) (pa_cons (kIx (K := K) (by rfl) (yv 0) pe_int) pa_nil)) (pe_one (pe_cmpR oGe (kIx (K := K) (by rfl) (yv 0) pe_int) pe_int (nomark _))))))), ?_⟩
  have e2 : decide (((([V.str p.1, V.int p.2] : List V).length : Nat) : Int) = 2) = true := decide_eq_true rfl
  refine ⟨"tuple", true, tp_ty ta, by decide +kernel, iteNb rfl ⟨_, .inr ta.sq, _, _, .inr ta.sq, at_of (j := 0) rfl rfl, .str p.1, rfl, .str _ (Nat.le_trans nm.eight (by decide)) (nm_fine nm), fun H1 k1 => ?_⟩⟩
  refine iteNb (nm_nmB nm) ⟨_, _, .inr (ta.up k1).sq, at_of (j := 1) rfl rfl, .int p.2, rfl, .int _, ?_⟩
  refine ⟨_, _, .inr (ta.up k1).sq, at_of (j := 1) rfl rfl, ?_⟩
  have e : decide (0 ≤ p.2) = true := decide_eq_true p0
  show Q (.bl (decide (0 ≤ p.2))) H1
  rw [e]
  exact q _ k1
def spFirstWrong [Tb] (K : PySem.W.Frag) : Sp := fun vs H Q _ => ∃ (a : Addr) (xs : List V) (ks : List Ink), vs = [.ref a] ∧ SqL K H a xs ∧ ImAll K H xs (ks.map inkD) ∧ InkOk ks ∧ ∀ H', Kp No H H' → Q .non H'
theorem ok_first_wrong (D : DefAt K mg "first_wrong" s_first_wrong) (fr : Fr mg) (c_is_ink : Cal P w K mg base 2 "is_ink" (spIsInk K)) : Cal P w K mg base 3 "first_wrong" (spFirstWrong K) := by
  refine cal_of D sc_first_wrong (fun _ _ _ _ _ _ us hl => match us, hl with | [_], _ => rfl) (fun vs H Q E h => by obtain ⟨a, xs, ks, rfl, _⟩ := h; rfl) fun f cd A out s H vs Q E room gd h => ?_
  obtain ⟨a, xs, ks, rfl, hS, im, ok, q⟩ := h
  have el : xs.length = ks.length := by rw [im.length, List.length_map]
  refine ⟨_, (pss_cons (ys_set 1 sc_first_wrong.nd (ye_lst pa_nil))
    (pss_cons (ps_for PassesOwn.never rfl (pi_enum (by rfl) fr.enumerate_ (pa_cons (yv 0) pa_nil)) (kgTup (K := K) (n := 2) (by rfl) rfl (yg_cons (yg_name 2 sc_first_wrong.nd) (yg_cons (yg_name 3 sc_first_wrong.nd) yg_nil))) (pss_cons (ps_if (PW.pt (pw_or (pt_not (yt_val (ye_call c_is_ink room gd (by rfl) (pa_cons (yv 3) pa_nil)))) (pw_or1 (yt_cmp (kIn (K := K) (by rfl)) (kIx (K := K) (by rfl) (yv 3) pe_int) (yv 1) (by rfl))))) (pss_one (ps_ret (yv 2))) pss_nil)
    (pss_one (ps_expr (ye_append (pe_bm PySem.F.plainAttrs_list PySem.F.slot_list_append PySem.F.type_list_append mt_append (PE.cl (yv 1)) (pa_cons (PE.cl (kIx (K := K) (by rfl) (yv 3) pe_int)) pa_nil)))))))
    (pss_one (ps_ret pe_non)))), ?_⟩
  intro l hl
  have kl : Kp No H (upd H l (.lst [])) := Kp.new hl
  refine ⟨a, xs, rfl, kl.seq hS, ?_⟩
  refine for_it (el ▸ walk_enum (xs := xs)) (fun i σ H' => ∃ y2 y3, σ = [some (.ref a), some (.ref l), y2, y3] ∧ Kp No H H' ∧ H' l = some (.lst (((ks.take i).map (·.1)).map V.str)))
    ⟨none, none, rfl, kl, upd_same⟩ (fun i σ H' _ ⟨_, _, _, k, _⟩ => k.seq hS) ?_ ?_
  · rintro i x σ Ha Hb hi ⟨y2, y3, rfl, ka, la⟩ ⟨T, x1, x2, rfl, hT, rfl, h1, h2⟩
    obtain rfl : .int (i : Int) = x1 := Option.some.inj h1
    obtain ⟨d, e1, imx⟩ := im.get h2
    rw [List.getElem?_map, List.getElem?_eq_getElem hi] at e1
    obtain rfl := Option.some.inj e1
    have okp := ok.nm _ (List.getElem_mem hi)
    have kT : Kp No Ha (upd Ha T (.tup [.int (i : Int), x2])) := Kp.new hT
    have kb := ka.trans kT
    have imb := Im.up kb _ _ imx
    refine ⟨_, .inl (.inl upd_same), rfl, _, _, rfl, imb, okp.1, okp.2.1, fun H1 k1 => iteNb rfl ?_⟩
    obtain ⟨b, rfl, tb⟩ := (Im.up k1 _ _ imb).inkInv
    have l1 := (kT.trans k1).all l _ la id
    refine ⟨_, _, .inr tb.sq, at_of (j := 0) rfl rfl, l, _, rfl, .inl (.inl (.inl l1)), rfl, flat_strs _, ?_⟩
    have ni : inV (.str ks[i].1) (((ks.take i).map (·.1)).map V.str) = false := by
      rw [Bool.eq_false_iff]
      intro z
      unfold inV at z
      rw [List.any_map, List.any_eq_true] at z
      obtain ⟨y, hy, e⟩ := z
      have : y = ks[i].1 := eq_of_beq e
      obtain ⟨pj, hpj, e2⟩ := List.mem_map.mp hy
      obtain ⟨j, hj, e3⟩ := List.mem_iff_getElem.mp hpj
      rw [List.length_take] at hj
      have hji : j < i := by omega
      have := ok.ne hji hi
      rw [List.getElem_take] at e3
      rw [e3, e2] at this
      exact this (by assumption)
    show if (inV (.str ks[i].1) (((ks.take i).map (·.1)).map V.str)) = true then _ else _
    rw [ni]
    refine ⟨⟨_, l1⟩, _, _, .inr tb.sq, at_of (j := 0) rfl rfl, _, l1, ?_, _, _, rfl, (kb.trans k1).put hl l1, ?_⟩
    · rw [List.length_map, List.length_map, List.length_take]
      exact Nat.lt_of_le_of_lt (show min i ks.length ≤ 1000 by have := ok.len8; omega) (by decide)
    · rw [upd_same, List.take_add_one, List.getElem?_eq_getElem hi, List.map_append, List.map_append]
      rfl
  · rintro σ H' ⟨y2, y3, rfl, ka, la⟩
    exact q _ ka
def spPalInit [Tb] (K : PySem.W.Frag) (CPalette : Addr) : Sp := fun vs H Q _ => ∃ (x dx a : Addr) (xs : List V) (ks : List Ink), vs = [.ref x, .ref a] ∧ H x = some (.ins CPalette dx []) ∧ SqL K H a xs ∧ H a = some (.lst xs) ∧ ImAll K H xs (ks.map inkD) ∧ InkOk ks ∧ ∀ d H', H d = none → Kp (At x) H H' → PalAt CPalette H' x dx d ks → Q .non H'
theorem ok_Palette___init__ (D : IniAt K mg "Palette" CPalette "Palette.__init__" s_Palette___init__ []) (fr : Fr mg) (cf : Cf K mg CPalette CPlace) (c_first_wrong : Cal P w K mg base 3 "first_wrong" (spFirstWrong K)) : CalI P w K mg base 4 "Palette" CPalette (spPalInit K CPalette) := by
  refine calI_of D sc_Palette___init__ (fun _ _ _ _ _ _ us hl => match us, hl with | [_, _], _ => rfl) (fun vs H Q E h => by obtain ⟨x, dx, a, xs, ks, rfl, _⟩ := h; rfl) fun f cd A out s H vs Q E room gd h => ?_
  obtain ⟨x, dx, a, xs, ks, rfl, hx, hS, hL, im, ok, q⟩ := h
  have el : xs.length = ks.length := by rw [im.length, List.length_map]
  have l1 := ok.len1
  have l8 := ok.len8
  refine ⟨_, (pss_cons (ps_if (PW.pt (pw_or (pt_not (yt_val (pe_callB (kIsi (K := K) (by rfl)) (by rfl) fr.isinstance_ (by decide +kernel) (pa_cons (yv 1) (pa_cons (ye_ty (n := "list") (by rfl) fr.list_ (by decide +kernel)) pa_nil))))) (pw_or1 (pt_not (pt_chain oLe oLe pe_int (pe_callB (kLen (K := K) (by rfl)) (by rfl) fr.len_ (by decide +kernel) (pa_cons (yv 1) pa_nil)) (ye_gint fr.MOST_INKS_ (by rfl))))))) (pss_one ps_never) pss_nil)
    (pss_cons (ys_set 2 sc_Palette___init__.nd (ye_call c_first_wrong room gd (by rfl) (pa_cons (yv 1) pa_nil)))
    (pss_cons (ps_if (yt_cmp oIsNot (yv 2) pe_non (nomark _)) (pss_one ps_never) pss_nil)
    (pss_one (ys_fld cf.cls_Palette cf.na_Palette_fades (yv 0) (pe_callTy (kDict (K := K) (by rfl) rfl) (by rfl) fr.dict_ (by decide +kernel) (pa_cons (yv 1) pa_nil))))))), ?_⟩
  refine ⟨"list", true, .base (.lst hL), by decide +kernel, iteNb rfl ⟨_, .inl hS, _, rfl, ?_⟩⟩
  have e1 : decide ((1 : Int) ≤ ((xs.length : Nat) : Int)) = true := decide_eq_true (by omega)
  have e2 : decide (((xs.length : Nat) : Int) ≤ 8) = true := decide_eq_true (by omega)
  refine iteB e1 ⟨_, rfl, iteNb e2 ⟨a, xs, ks, rfl, hS, im, ok, fun H1 k1 => ?_⟩⟩
  have hx1 := k1.all x _ hx id
  obtain ⟨ps, ep, hp⟩ := inks_paired (ImAll.up k1 _ _ im)
  refine ⟨ps, fadK ks, by rw [← ep]; exact k1.seq hS, hp, fun d hd => ?_⟩
  have kd : Kp No H1 (upd H1 d (.dK (mergeK [] (fadK ks)))) := Kp.new hd
  have em : mergeK [] (fadK ks) = fadK ks := merge_nodup (by rw [List.nil_append]; exact ok.keys)
  have hx2 := kd.all x _ hx1 id
  refine ⟨dx, [], hx2, by decide, ?_⟩
  refine q d _ (k1.dom d hd) ((k1.trans kd).no.trans (Kp.set rfl hx2)) ⟨upd_same, ?_, ok⟩
  rw [upd_ne (fun e => ne_of_none hx1 hd e.symm), upd_same, em]
def spPalNames [Tb] (CPalette : Addr) : Sp := fun vs H Q _ => ∃ (x dx d : Addr) (ks : List Ink), vs = [.ref x] ∧ PalAt CPalette H x dx d ks ∧ ∀ l H', Kp No H H' → H l = none → H' l = some (.lst ((ks.map (·.1)).map V.str)) → Q (.ref l) H'
theorem ok_Palette_names (D : MetAt K CPalette "names" "Palette.names" s_Palette_names) (fr : Fr mg) (cf : Cf K mg CPalette CPlace) : CalM P w K mg base 1 CPalette "names" (spPalNames CPalette) := by
  refine calM_of D cf.cls_Palette sc_Palette_names (fun _ _ _ _ _ _ us hl => match us, hl with | [_], _ => rfl) (fun vs H Q E h => by obtain ⟨x, dx, d, ks, rfl, _⟩ := h; rfl) fun f cd A out s H vs Q E room gd h => ?_
  obtain ⟨x, dx, d, ks, rfl, pa, q⟩ := h
  refine ⟨_, (pss_one (ps_ret (pe_callTy (kListD rfl) (by rfl) fr.list_ (by decide +kernel) (pa_cons (ye_fld cf.cls_Palette cf.na_Palette_fades (yv 0)) pa_nil)))), ?_⟩
  refine ⟨dx, _, _, pa.ins, rfl, _, pa.dct, fun l hl => q l _ (Kp.new hl) hl ?_⟩
  rw [upd_same, fadK_keys]
def spPalInks [Tb] (K : PySem.W.Frag) (CPalette : Addr) : Sp := fun vs H Q _ => ∃ (x dx d : Addr) (ks : List Ink), vs = [.ref x] ∧ PalAt CPalette H x dx d ks ∧ ∀ l ys H', Kp No H H' → H l = none → H' l = some (.lst ys) → ImAll K H' ys (ks.map inkD) → Q (.ref l) H'
theorem ok_Palette_inks (D : MetAt K CPalette "inks" "Palette.inks" s_Palette_inks) (fr : Fr mg) (cf : Cf K mg CPalette CPlace) : CalM P w K mg base 1 CPalette "inks" (spPalInks K CPalette) := by
  refine calM_of D cf.cls_Palette sc_Palette_inks (fun _ _ _ _ _ _ us hl => match us, hl with | [_], _ => rfl) (fun vs H Q E h => by obtain ⟨x, dx, d, ks, rfl, _⟩ := h; rfl) fun f cd A out s H vs Q E room gd h => ?_
  obtain ⟨x, dx, d, ks, rfl, pa, q⟩ := h
  refine ⟨_, (pss_one (ps_ret (pe_lock (pe_lc (own := [("name", 1), ("fade", 2)]) rfl sc_Palette_inks.nd (pi_items (ye_fld cf.cls_Palette cf.na_Palette_fades (yv 0))) (blkOk_by (own := [("name", 1), ("fade", 2)]) (N := n_Palette_inks) (sc := defScope s_Palette_inks) (by decide +kernel)) (fun _ _ _ _ _ => (kgTup (K := K) (n := 2) (by rfl) rfl (yg_cons (yg_name 1 sc_Palette_inks.nd) (yg_cons (yg_name 2 sc_Palette_inks.nd) yg_nil)))) (fun _ _ _ _ _ => pts_nil) (fun _ _ _ _ _ => (ye_tup (pa_cons (yv 1) (pa_cons (yv 2) pa_nil)))))))), ?_⟩
  have nxd : x ≠ d := ne_of pa.ins pa.dct (by intro z; cases z)
  have ok := pa.ok
  refine ⟨d, _, pa.dct, trivial, fun od => ?_⟩
  refine ⟨dx, _, _, by rw [upd_ne nxd]; exact pa.ins, rfl, d, od, _, rfl, upd_same, fun Dd hD => ?_⟩
  have nDd : d ≠ Dd := fun e => by rw [← e, upd_same] at hD; cases hD
  have hDH : H Dd = none := by rw [upd_ne (fun e => nDd e.symm)] at hD; exact hD
  refine lc_it walk_items (fun i H' => ∃ ys, H' Dd = some (.lst ys) ∧ Kp (At d) H H' ∧ H' d = some (.frz od (.dK (fadK ks))) ∧ ImAll K H' ys ((ks.take i).map inkD)) ⟨[], upd_same, (Kp.set (S := At d) rfl pa.dct).trans (Kp.new hD), by rw [upd_ne nDd, upd_same], .nil⟩ (fun i H' _ ⟨_, _, _, h, _⟩ => h) ?_ ?_
  · rintro i z Ha Hb hi ⟨ys, h1, h2, h3, h4⟩ ⟨T, x1, x2, rfl, hT, rfl, g1, g2⟩
    have hi' : i < ks.length := by rw [fadK, List.length_map] at hi; exact hi
    have f1 : x1 = .str ks[i].1 := by
      have : ((fadK ks)[i]?.map fun kv => kV kv.1) = some x1 := g1
      unfold fadK at this
      rw [List.getElem?_map, List.getElem?_eq_getElem hi'] at this
      exact (Option.some.inj this).symm
    have f2 : x2 = .int ks[i].2 := by
      have : ((fadK ks)[i]?.map Prod.snd) = some x2 := g2
      unfold fadK at this
      rw [List.getElem?_map, List.getElem?_eq_getElem hi'] at this
      exact (Option.some.inj this).symm
    subst f1
    subst f2
    have kT : Kp No Ha (upd Ha T (.tup [.str ks[i].1, .int ks[i].2])) := Kp.new hT
    refine ⟨_, .inl (.inl upd_same), rfl, rfl, fun u hu => ?_⟩
    have ku : Kp No _ (upd (upd Ha T (.tup [.str ks[i].1, .int ks[i].2])) u (.tup [.str ks[i].1, .int ks[i].2])) := Kp.new hu
    have kk := kT.trans ku
    have h1' := kk.all Dd _ h1 id
    have kS : Kp (At Dd) _ (upd (upd (upd Ha T (.tup [.str ks[i].1, .int ks[i].2])) u (.tup [.str ks[i].1, .int ks[i].2])) Dd (.lst (ys ++ [.ref u]))) := Kp.set rfl h1'
    have ey : ys.length = min i ks.length := by rw [h4.length, List.length_map, List.length_take]
    refine ⟨ys, h1', Nat.lt_of_le_of_lt (show ys.length ≤ 1000 by have := ok.len8; omega) (by decide), ys ++ [.ref u], upd_same, (h2.trans kk.no).put hDH h1', kS.all d _ (kk.all d _ h3 id) nDd, ?_⟩
    rw [List.take_add_one, List.getElem?_eq_getElem hi', List.map_append]
    exact (ImAll.up kS _ _ (ImAll.up kk _ _ h4)).snoc (Im.mk (kS.tup _ _ upd_same) (.cons (.str _) (.cons (.int _) .nil)))
  · rintro H' ⟨ys, h1, h2, h3, h4⟩
    have e0 : (fadK ks).length = ks.length := by rw [fadK, List.length_map]
    rw [e0, List.take_length] at h4
    refine ⟨h3, q Dd ys _ ?_ hDH ?_ ?_⟩
    · exact ⟨fun b o e _ nt => by
        by_cases hb : b = d
        · rw [hb, upd_same, ← pa.dct, ← hb]; exact e
        · rw [upd_ne hb]; exact h2.all b o e hb nt, fun b xs e => by
        rw [upd_ne (fun z => by rw [z, pa.dct] at e; cases e)]; exact h2.tup b xs e, fun b e => by
        by_cases hb : b = d
        · rw [hb, upd_same] at e; cases e
        · rw [upd_ne hb] at e; exact h2.dom b e, fun t => tab_upd (o := .dK (fadK ks)) h3 trivial (h2.tab t)⟩
    · rw [upd_ne (fun e => nDd e.symm)]; exact h1
    · exact ImAll.up (Kp.set (S := At d) rfl h3) _ _ h4
def spPalHas [Tb] (CPalette : Addr) : Sp := fun vs H Q _ => ∃ (x dx d : Addr) (ks : List Ink) (v : V), vs = [.ref x, v] ∧ PalAt CPalette H x dx d ks ∧ Kd H v ∧ Q (.bl (hasV ks v)) H
theorem ok_Palette_has (D : MetAt K CPalette "has" "Palette.has" s_Palette_has) (fr : Fr mg) (cf : Cf K mg CPalette CPlace) : CalM P w K mg base 1 CPalette "has" (spPalHas CPalette) := by
  refine calM_of D cf.cls_Palette sc_Palette_has (fun _ _ _ _ _ _ us hl => match us, hl with | [_, _], _ => rfl) (fun vs H Q E h => by obtain ⟨x, dx, d, ks, v, rfl, _⟩ := h; rfl) fun f cd A out s H vs Q E room gd h => ?_
  obtain ⟨x, dx, d, ks, v, rfl, pa, kd, q⟩ := h
  refine ⟨_, (pss_one (ps_ret (ye_and (pe_callB (kIsi (K := K) (by rfl)) (by rfl) fr.isinstance_ (by decide +kernel) (pa_cons (yv 1) (pa_cons (ye_ty (n := "str") (by rfl) fr.str_ (by decide +kernel)) pa_nil))) (pe_one (ye_din room (yv 1) (ye_fld cf.cls_Palette cf.na_Palette_fades (yv 0))))))), ?_⟩
  cases kd with
  | str z hz hf =>
    refine ⟨"str", true, .base (.str _), by decide +kernel, dx, _, _, pa.ins, rfl, _, pa.dct, ?_⟩
    rw [has_is] at q
    exact q
  | int i => exact ⟨"int", false, .base (.int _), by decide +kernel, q⟩
  | bl b => exact ⟨"bool", false, .base (.bl _), by decide +kernel, q⟩
  | non => exact ⟨"NoneType", false, .base .non, by decide +kernel, q⟩
  | ref h e => exact ⟨_, false, Kd.ty h e, (tyO_str e).1, q⟩

def spIsWear [Tb] (K : PySem.W.Frag) : Sp := fun vs H Q _ => ∃ v : V, vs = [v] ∧ Kd H v ∧ Q (.bl (wearV v)) H
theorem ok_is_wear (D : DefAt K mg "is_wear" s_is_wear) (fr : Fr mg) : Cal P w K mg base 1 "is_wear" (spIsWear K) := by
  refine cal_of D sc_is_wear (fun _ _ _ _ _ _ us hl => match us, hl with | [_], _ => rfl) (fun vs H Q E h => by obtain ⟨v, rfl, _⟩ := h; rfl) fun f cd A out s H vs Q E room gd h => ?_
  obtain ⟨v, rfl, kd, q⟩ := h
  refine ⟨_, (pss_one (ps_ret (ye_and (pe_callB (kIsi (K := K) (by rfl)) (by rfl) fr.isinstance_ (by decide +kernel) (pa_cons (yv 0) (pa_cons (ye_ty (n := "int") (by rfl) fr.int_ (by decide +kernel)) pa_nil))) (ye_and (ye_not (pe_callB (kIsi (K := K) (by rfl)) (by rfl) fr.isinstance_ (by decide +kernel) (pa_cons (yv 0) (pa_cons (ye_ty (n := "bool") (by rfl) fr.bool_ (by decide +kernel)) pa_nil)))) (pe_one (pe_chain oLe oLe pe_int (yv 0) (ye_gint fr.MOST_WEAR_ (by rfl)))))))), ?_⟩
  cases kd with
  | str z hz hf => exact ⟨"str", false, .base (.str _), by decide +kernel, q⟩
  | int i =>
    refine ⟨"int", true, .base (.int _), by decide +kernel, "int", false, .base (.int _), by decide +kernel, _, rfl, ?_⟩
    have q : Q (.bl (decide (0 ≤ i) && decide (i ≤ 6))) H := q
    refine iteD (fun h => ?_) fun h => ?_
    · rw [decide_eq_true h, Bool.true_and] at q
      exact q
    · rw [decide_eq_false h, Bool.false_and] at q
      exact q
  | bl b => exact ⟨"bool", true, .base (.bl _), by decide +kernel, "bool", true, .base (.bl _), by decide +kernel, q⟩
  | non => exact ⟨"NoneType", false, .base .non, by decide +kernel, q⟩
  | ref h e => exact ⟨_, false, Kd.ty h e, (tyO_str e).2.1, q⟩
def spPlaceInit [Tb] (K : PySem.W.Frag) (CPalette CPlace : Addr) : Sp := fun vs H Q _ => ∃ (x dx pl pdx pd : Addr) (ks : List Ink) (wear : Int), vs = [.ref x, .ref pl, .int wear] ∧ H x = some (.ins CPlace dx []) ∧ PalAt CPalette H pl pdx pd ks ∧ 0 ≤ wear ∧ wear ≤ 6 ∧
  ∀ (d : Addr) (ls : List Addr) H', Kp (At x) H H' → PlAt K CPalette CPlace H' ⟨x, dx, d, pl, pdx, pd, ls⟩ ks (newS wear ks.length) → (∀ b, Ft ⟨x, dx, d, pl, pdx, pd, ls⟩ b → b = x ∨ H b = none) → Q .non H'
theorem ok_Place___init__ (D : IniAt K mg "Place" CPlace "Place.__init__" s_Place___init__ [("wear", .int 3)]) (fr : Fr mg) (cf : Cf K mg CPalette CPlace) (c_is_wear : Cal P w K mg base 1 "is_wear" (spIsWear K)) (m_Palette_names : CalM P w K mg base 1 CPalette "names" (spPalNames CPalette)) : CalKJ P w K mg base 2 "Place" CPlace 1 ["wear"] [.int 3] (spPlaceInit K CPalette CPlace) := by
  refine calKJ_of D (by simp) sc_Place___init__ (fun _ _ _ _ _ _ us ws h1 h2 => match us, ws, h1, h2 with | [_, _], [_], _, _ => rfl) rfl (fun _ _ _ _ _ _ us zs h1 h2 => match us, zs, h1, h2 with | [_, _], [_], _, _ => ⟨_, _, _, _, _, _, rfl, rfl, rfl⟩) (fun vs H Q E h => by obtain ⟨x, dx, pl, pdx, pd, ks, wear, rfl, _⟩ := h; rfl) fun f cd A out s H vs Q E room gd h => ?_
  obtain ⟨x, dx, pl, pdx, pd, ks, wear, rfl, hx, pa, w0, w6, q⟩ := h
  refine ⟨_, (pss_cons (ps_if (pt_not (yt_val (ye_call c_is_wear room gd (by rfl) (pa_cons (yv 2) pa_nil)))) (pss_one ps_never) pss_nil)
    (pss_cons (ys_fld cf.cls_Place cf.na_Place_own_palette (yv 0) (yv 1))
    (pss_cons (ys_fld cf.cls_Place cf.na_Place_wear_left (yv 0) (yv 2))
    (pss_cons (ys_fld cf.cls_Place cf.na_Place_layers (yv 0) (pe_dc (own := [("ink", 3)]) rfl sc_Place___init__.nd (kiList (K := K) (by rfl) (ye_meth0 m_Palette_names room gd (yv 1))) (blkOk_by (own := [("ink", 3)]) (N := n_Place___init__) (sc := defScope s_Place___init__) (by decide +kernel)) (fun _ _ _ _ _ => (yg_name 3 sc_Place___init__.nd)) (fun _ _ _ _ _ => pts_nil) (fun _ _ _ _ _ => (yv 3)) (fun _ _ _ _ _ => (ye_lst pa_nil))))
    (pss_one (ys_fld cf.cls_Place cf.na_Place_next_mark (yv 0) pe_int)))))), ?_⟩
  have ew : wearV (.int wear) = true := by
    show (decide (0 ≤ wear) && decide (wear ≤ 6)) = true
    rw [decide_eq_true w0, decide_eq_true w6]
    rfl
  refine ⟨.int wear, rfl, .int _, iteNb ew ⟨dx, _, hx, by decide, dx, _, upd_same, by show 1 < 1000; decide, ?_⟩⟩
  have nxl : pl ≠ x := ne_of pa.ins hx (by intro z; cases z)
  have nxd : pd ≠ x := ne_of pa.dct hx (by intro z; cases z)
  have k1 : Kp (At x) H (upd H x (.ins CPlace dx [("own_palette", .ref pl)])) := Kp.set rfl hx
  have k2 : Kp (At x) _ (upd (upd H x (.ins CPlace dx [("own_palette", .ref pl)])) x (.ins CPlace dx [("own_palette", .ref pl), ("wear_left", .int wear)])) := Kp.set rfl upd_same
  have k02 := k1.trans k2
  have pa2 := pa.up k02 nxl nxd
  have hx2 := upd_same (H := upd H x (.ins CPlace dx [("own_palette", .ref pl)])) (a := x) (o := .ins CPlace dx [("own_palette", .ref pl), ("wear_left", .int wear)])
  refine ⟨pdx, _, pa2.ins, rfl, pl, pdx, pd, ks, rfl, pa2, fun l H1 kl hl h1 => ⟨⟨_, .inl (.inl h1)⟩, fun Dd hD => ?_⟩⟩
  have hx3 := kl.all x _ hx2 id
  have ek : ((ks.map (·.1)).map V.str).length = ks.length := by rw [List.length_map, List.length_map]
  have ok := pa.ok
  have wl : Walk (Itl K l) ks.length (fun H => SqL K H l ((ks.map (·.1)).map V.str)) (YAt ((ks.map (·.1)).map V.str)) := ek ▸ walk_list
  refine dc_it wl (fun i H' => ∃ ls : List Addr, ls.length = i ∧ Kp No H1 H' ∧ H' Dd = some (.dK (layK (ks.take i) ls)) ∧ (∀ u ∈ ls, H' u = some (.lst [])) ∧ ls.Nodup ∧ (∀ u ∈ ls, H1 u = none)) ⟨[], rfl, Kp.new hD, by rw [upd_same]; rfl, fun u hu => (nomatch hu), List.nodup_nil, fun u hu => (nomatch hu)⟩ (fun i H' _ ⟨_, _, k, _⟩ => .inl (.inl (k.all l _ h1 id))) ?_ ?_
  · rintro i z Ha Hb hi ⟨ls, e1, ka, da, la, nd, fr1⟩ ⟨rfl, hz⟩
    rw [List.getElem?_map, List.getElem?_map, List.getElem?_eq_getElem hi] at hz
    obtain rfl := Option.some.inj hz
    refine ⟨rfl, fun u hu => ⟨_, .inr ks[i].1, rfl, (Kp.new (S := No) hu).all Dd _ da id, ?_, ls ++ [u], by rw [List.length_append, e1]; rfl, ?_⟩⟩
    · unfold layK
      rw [List.length_map, List.length_zip]
      exact Nat.lt_of_le_of_lt (show min (ks.take i).length ls.length ≤ 1000 by have := ok.len8; rw [List.length_take]; omega) (by decide)
    have ku : Kp No Hb (upd Hb u (.lst [])) := Kp.new hu
    have da' := ku.all Dd _ da id
    have nuD : u ≠ Dd := fun e => ne_of_none da hu e.symm
    have eL : (ks.take i).length = i := by rw [List.length_take]; omega
    have eP : putK (layK (ks.take i) ls) (.inr ks[i].1) (.ref u) = layK (ks.take (i + 1)) (ls ++ [u]) := by
      rw [put_new, List.take_add_one, List.getElem?_eq_getElem hi]
      · exact (layK_snoc (by omega)).symm
      · rw [layK_keys (by omega)]
        intro hm
        obtain ⟨y, hy, e⟩ := List.mem_map.mp hm
        obtain ⟨pj, hpj, e2⟩ := List.mem_map.mp hy
        obtain ⟨j, hj, e3⟩ := List.mem_iff_getElem.mp hpj
        rw [List.length_take] at hj
        rw [List.getElem_take] at e3
        have := ok.ne (show j < i by omega) hi
        rw [e3, e2] at this
        exact this (Sum.inr.inj e)
    rw [eP]
    have hDH1 : H1 Dd = none := hD
    refine ⟨(ka.trans ku).put hD da', upd_same, fun v hv => ?_, ?_, fun v hv => ?_⟩
    · rcases List.mem_append.mp hv with hv | hv
      · have nv : v ≠ Dd := ne_of (la v hv) da (by intro z; cases z)
        rw [upd_ne nv]
        exact ku.all v _ (la v hv) id
      · rw [List.mem_singleton.mp hv, upd_ne nuD, upd_same]
    · rw [List.nodup_append]
      refine ⟨nd, by simp, fun v hv y hy e => ?_⟩
      rw [List.mem_singleton.mp hy] at e
      exact ne_of_none (la v hv) hu e
    · rcases List.mem_append.mp hv with hv | hv
      · exact fr1 v hv
      · rw [List.mem_singleton.mp hv]
        exact ka.dom u hu
  · rintro H2 ⟨ls, e1, ka, da, la, nd, fr1⟩
    rw [List.take_length] at da
    have hx4 := ka.all x _ hx3 id
    refine ⟨dx, _, hx4, by show 2 < 1000; decide, dx, _, upd_same, by show 3 < 1000; decide, ?_⟩
    have k3 : Kp (At x) H2 (upd H2 x (.ins CPlace dx [("own_palette", .ref pl), ("wear_left", .int wear), ("layers", .ref Dd)])) := Kp.set rfl hx4
    have k4 : Kp (At x) _ (upd (upd H2 x (.ins CPlace dx [("own_palette", .ref pl), ("wear_left", .int wear), ("layers", .ref Dd)])) x (.ins CPlace dx [("own_palette", .ref pl), ("wear_left", .int wear), ("layers", .ref Dd), ("next_mark", .int 0)])) := Kp.set rfl upd_same
    have k34 := k3.trans k4
    have k04 : Kp (At x) H _ := (k02.trans (kl.trans ka).no).trans k34
    have hD0 : H Dd = none := (k02.trans kl.no).dom Dd hD
    have hl0 : ∀ u ∈ ls, H u = none := fun u hu => (k02.trans kl.no).dom u (fr1 u hu)
    refine q Dd ls _ k04 ⟨pa.up k04 nxl nxd, upd_same, k34.all Dd _ da fun e => ne_of_none hx hD0 e.symm, e1, by show (List.replicate ks.length []).length = _; rw [List.length_replicate], fun i l r h1 h2 => ?_, nd, fun r hr => ?_, fun b hb => ?_⟩ fun b hb => ?_
    · have hr : r = [] := List.eq_of_mem_replicate (List.mem_of_getElem? h2)
      have hl : l ∈ ls := List.mem_of_getElem? h1
      exact ⟨[], k34.all l _ (la l hl) fun e => ne_of_none hx (hl0 l hl) e.symm, by rw [hr]; exact .nil⟩
    · rw [List.eq_of_mem_replicate hr]
      exact ⟨by decide, fun l hl => (nomatch hl)⟩
    · have : b = x ∨ H b = none := by
        rcases hb with hb | hb | hb
        · exact .inl hb
        · rw [hb]; exact .inr hD0
        · exact .inr (hl0 b hb)
      rcases this with z | z
      · rw [z]; exact ⟨fun e => nxl e.symm, fun e => nxd e.symm⟩
      · exact ⟨fun e => (by rw [e, pa.ins] at z; cases z), fun e => (by rw [e, pa.dct] at z; cases z)⟩
    · rcases hb with hb | hb | hb
      · exact .inl hb
      · rw [hb]; exact .inr hD0
      · exact .inr (hl0 b hb)
def spSelf0 [Tb] (K : PySem.W.Frag) (CPalette CPlace : Addr) (R : PlAddr → List Ink → Pst → Hp → VK → Prop) : Sp := fun vs H Q _ => ∃ (a : PlAddr) (ks : List Ink) (s : Pst), vs = [.ref a.x] ∧ PlAt K CPalette CPlace H a ks s ∧ R a ks s H Q
theorem ok_Place_palette (D : MetAt K CPlace "palette" "Place.palette" s_Place_palette) (fr : Fr mg) (cf : Cf K mg CPalette CPlace) : CalM P w K mg base 1 CPlace "palette" (spSelf0 K CPalette CPlace fun a _ _ H Q => Q (.ref a.pl) H) := by
  refine calM_of D cf.cls_Place sc_Place_palette (fun _ _ _ _ _ _ us hl => match us, hl with | [_], _ => rfl) (fun vs H Q E h => by obtain ⟨a, ks, s, rfl, _⟩ := h; rfl) fun f cd A out s H vs Q E room gd h => ?_
  obtain ⟨a, ks, st, rfl, pa, q⟩ := h
  exact ⟨_, (pss_one (ps_ret (ye_fld cf.cls_Place cf.na_Place_own_palette (yv 0)))), a.dx, _, _, pa.ins, rfl, q⟩
theorem ok_Place_wear (D : MetAt K CPlace "wear" "Place.wear" s_Place_wear) (fr : Fr mg) (cf : Cf K mg CPalette CPlace) : CalM P w K mg base 1 CPlace "wear" (spSelf0 K CPalette CPlace fun _ _ s H Q => Q (.int s.wear) H) := by
  refine calM_of D cf.cls_Place sc_Place_wear (fun _ _ _ _ _ _ us hl => match us, hl with | [_], _ => rfl) (fun vs H Q E h => by obtain ⟨a, ks, s, rfl, _⟩ := h; rfl) fun f cd A out s H vs Q E room gd h => ?_
  obtain ⟨a, ks, st, rfl, pa, q⟩ := h
  exact ⟨_, (pss_one (ps_ret (ye_fld cf.cls_Place cf.na_Place_wear_left (yv 0)))), a.dx, _, _, pa.ins, rfl, q⟩
/-- a method asked of an ink that is there, the i-th -/
def spInk [Tb] (K : PySem.W.Frag) (CPalette CPlace : Addr) (R : PlAddr → List Ink → Pst → Nat → Hp → VK → Prop) : Sp := fun vs H Q _ => ∃ (a : PlAddr) (ks : List Ink) (s : Pst) (i : Nat) (z : Str), vs = [.ref a.x, .str z] ∧ PlAt K CPalette CPlace H a ks s ∧ (∃ h : i < ks.length, ks[i].1 = z) ∧ R a ks s i H Q
theorem ok_Place_want_ink (D : MetAt K CPlace "want_ink" "Place.want_ink" s_Place_want_ink) (fr : Fr mg) (cf : Cf K mg CPalette CPlace) (m_Palette_has : CalM P w K mg base 1 CPalette "has" (spPalHas CPalette)) : CalM P w K mg base 2 CPlace "want_ink" (spInk K CPalette CPlace fun _ _ _ _ H Q => Q .non H) := by
  refine calM_of D cf.cls_Place sc_Place_want_ink (fun _ _ _ _ _ _ us hl => match us, hl with | [_, _], _ => rfl) (fun vs H Q E h => by obtain ⟨a, ks, s, i, z, rfl, _⟩ := h; rfl) fun f cd A out s H vs Q E room gd h => ?_
  obtain ⟨a, ks, st, i, z, rfl, pa, ⟨hi, rfl⟩, q⟩ := h
  have nm := pa.pal.ok.nm _ (List.getElem_mem hi)
  refine ⟨_, (pss_one (ps_if (pt_not (yt_val (ye_meth m_Palette_has room gd (ye_fld cf.cls_Place cf.na_Place_own_palette (yv 0)) (pa_cons (yv 1) pa_nil)))) (pss_one ps_never) pss_nil)), a.dx, _, _, pa.ins, rfl, a.pdx, _, pa.pal.ins, rfl, a.pl, a.pdx, a.pd, ks, .str ks[i].1, rfl, pa.pal, .str _ (Nat.le_trans nm.1.eight (by decide)) (nm_fine nm.1), iteNb (has_there hi) q⟩
theorem ok_Place_row (D : MetAt K CPlace "row" "Place.row" s_Place_row) (fr : Fr mg) (cf : Cf K mg CPalette CPlace) (m_Place_want_ink : CalM P w K mg base 2 CPlace "want_ink" (spInk K CPalette CPlace fun _ _ _ _ H Q => Q .non H)) : CalM P w K mg base 3 CPlace "row" (spInk K CPalette CPlace fun a ks s i H Q => ∀ v r H', s.rows[i]? = some r → Kp No H H' → Im K H' v (rowD (layR r)) → Q v H') := by
  refine calM_of D cf.cls_Place sc_Place_row (fun _ _ _ _ _ _ us hl => match us, hl with | [_, _], _ => rfl) (fun vs H Q E h => by obtain ⟨a, ks, s, i, z, rfl, _⟩ := h; rfl) fun f cd A out s H vs Q E room gd h => ?_
  obtain ⟨a, ks, st, i, z, rfl, pa, ⟨hi, rfl⟩, q⟩ := h
  obtain ⟨l, r, ws, e1, e2, e3, e4, e5, e6, e7, e8⟩ := pa.at_ hi
  refine ⟨_, (pss_cons (ps_expr (ye_meth m_Place_want_ink room gd (yv 0) (pa_cons (yv 1) pa_nil)))
    (pss_one (ps_ret (pe_callTy (kTuple (K := K) (by rfl)) (by rfl) fr.tuple_ (by decide +kernel) (pa_cons (pe_lc (own := [("mark", 2), ("tag", 3), ("strength", 4)]) rfl sc_Place_row.nd (kiList (K := K) (by rfl) (ye_dg room (ye_fld cf.cls_Place cf.na_Place_layers (yv 0)) (yv 1))) (blkOk_by (own := [("mark", 2), ("tag", 3), ("strength", 4)]) (N := n_Place_row) (sc := defScope s_Place_row) (by decide +kernel)) (fun _ _ _ _ _ => (kgTup (K := K) (n := 3) (by rfl) rfl (yg_cons (yg_name 2 sc_Place_row.nd) (yg_cons (yg_name 3 sc_Place_row.nd) (yg_cons (yg_name 4 sc_Place_row.nd) yg_nil))))) (fun _ _ _ _ _ => pts_nil) (fun _ _ _ _ _ => (ye_tup (pa_cons (yv 3) (pa_cons (yv 4) pa_nil))))) pa_nil))))), a.dx, _, pa.ins, rfl, a, ks, st, i, _, rfl, pa, ⟨hi, rfl⟩, a.dx, _, _, pa.ins, rfl, _, _, pa.dct, e3, ⟨_, .inl (.inl e4)⟩, fun Dd hD => ?_⟩
  refine lc_mapL (K := K) lyrD layD (fun l : Lyr => some l.2) r hD (.inl (.inl e4)) e5 (by omega) (fun x l Ha k kn hl im ka hk hkn => ?_) (fun ys H2 h2 k2 im => ?_)
  · obtain ⟨b, rfl, tb⟩ := im.lyrInv
    exact ⟨_, tb.sq, rfl, rfl, fun u hu => hk _ l.2 _ rfl (Kp.new hu) (Im.layMk upd_same)⟩
  · rw [List.filterMap_eq_map' (f := fun l : Lyr => l.2)] at im
    refine ⟨_, .inl ⟨.inl (.inl h2), fun u hu => ?_⟩⟩
    have ku : Kp No H2 (upd H2 u (.tup ys)) := Kp.new hu
    exact q _ r _ e2 (k2.trans ku) (Im.mk upd_same (ImAll.up ku _ _ im))
theorem ok_Place_marks (D : MetAt K CPlace "marks" "Place.marks" s_Place_marks) (fr : Fr mg) (cf : Cf K mg CPalette CPlace) (m_Place_want_ink : CalM P w K mg base 2 CPlace "want_ink" (spInk K CPalette CPlace fun _ _ _ _ H Q => Q .non H)) : CalM P w K mg base 3 CPlace "marks" (spInk K CPalette CPlace fun a ks s i H Q => ∀ l r H', s.rows[i]? = some r → Kp No H H' → H l = none → H' l = some (.lst ((r.map (·.1)).map V.int)) → Q (.ref l) H') := by
  refine calM_of D cf.cls_Place sc_Place_marks (fun _ _ _ _ _ _ us hl => match us, hl with | [_, _], _ => rfl) (fun vs H Q E h => by obtain ⟨a, ks, s, i, z, rfl, _⟩ := h; rfl) fun f cd A out s H vs Q E room gd h => ?_
  obtain ⟨a, ks, st, i, z, rfl, pa, ⟨hi, rfl⟩, q⟩ := h
  obtain ⟨l, r, ws, e1, e2, e3, e4, e5, e6, e7, e8⟩ := pa.at_ hi
  refine ⟨_, (pss_cons (ps_expr (ye_meth m_Place_want_ink room gd (yv 0) (pa_cons (yv 1) pa_nil)))
    (pss_one (ps_ret (pe_lc (own := [("mark", 2), ("tag", 3), ("strength", 4)]) rfl sc_Place_marks.nd (kiList (K := K) (by rfl) (ye_dg room (ye_fld cf.cls_Place cf.na_Place_layers (yv 0)) (yv 1))) (blkOk_by (own := [("mark", 2), ("tag", 3), ("strength", 4)]) (N := n_Place_marks) (sc := defScope s_Place_marks) (by decide +kernel)) (fun _ _ _ _ _ => (kgTup (K := K) (n := 3) (by rfl) rfl (yg_cons (yg_name 2 sc_Place_marks.nd) (yg_cons (yg_name 3 sc_Place_marks.nd) (yg_cons (yg_name 4 sc_Place_marks.nd) yg_nil))))) (fun _ _ _ _ _ => pts_nil) (fun _ _ _ _ _ => (yv 2)))))), a.dx, _, pa.ins, rfl, a, ks, st, i, _, rfl, pa, ⟨hi, rfl⟩, a.dx, _, _, pa.ins, rfl, _, _, pa.dct, e3, ⟨_, .inl (.inl e4)⟩, fun Dd hD => ?_⟩
  refine lc_mapL (K := K) lyrD PyData.int (fun l : Lyr => some l.1) r hD (.inl (.inl e4)) e5 (by omega) (fun x l Ha k kn hl im ka hk hkn => ?_) (fun ys H2 h2 k2 im => ?_)
  · obtain ⟨b, rfl, tb⟩ := im.lyrInv
    exact ⟨_, tb.sq, rfl, rfl, hk _ l.1 _ rfl (Kp.refl _) (.int _)⟩
  · rw [List.filterMap_eq_map' (f := fun l : Lyr => l.1)] at im
    have e9 := ImAll.ints im
    subst e9
    exact q _ r _ e2 k2 hD h2

def spRanked [Tb] (K : PySem.W.Frag) : Sp := fun vs H Q _ => ∃ (v : V) (r : List Lay), vs = [v] ∧ Im K H v (rowD r) ∧ r.length ≤ 10000 ∧ TbOk H ∧ ∀ (p : Addr) H', Kp No H H' → H p = none → H' p = some (.lst (natV (rankM r))) → Q (.ref p) H'
theorem ok_ranked (D : LamAt K mg base "ranked" s_ranked) (fr : Fr mg) : Cal P w K mg base 4 "ranked" (spRanked K) := by
  obtain ⟨cL, Pt, D, hTB, hTm, hTu⟩ := D
  refine cal_ofL D sc_ranked (fun _ _ _ _ _ _ us hl => match us, hl with | [_], _ => rfl) (fun vs H Q E h => by obtain ⟨v, r, rfl, _⟩ := h; rfl) fun f A out s H vs Q E room gd h => ?_
  obtain ⟨v, r, rfl, him, hl, hT, q⟩ := h
  obtain ⟨t, xs, rfl, ht, hxs⟩ := id him.tupInv
  refine ⟨_, (pss_one (ps_ret (ye_sortL (ye_sortI (fr := ["row"]) (js := [0]) (N := ["number", "row"]) (p0 := "number") hTB rfl hTm hTu (by rfl) (by rfl) (by rfl) room (by rfl) fr.sorted_ (fun f c' => ⟨nscope_by (by rfl), fun _ _ us hl => match us, hl with | [_], _ => rfl, fun A out s H E room => (ye_tup (pa_cons (pe_op oSub pe_int (kIx (K := K) (by rfl) (kIx (K := K) (by rfl) (yv 1) (yv 0)) pe_int)) (pa_cons (pe_op oSub pe_int (yv 0)) pa_nil)))⟩) (PE.cl (pe_callTy cRange1 (by rfl) fr.range_ (by decide +kernel) (pa_cons (pe_callB (kLen (K := K) (by rfl)) (by rfl) fr.len_ (by decide +kernel) (pa_cons (yv 0) pa_nil)) pa_nil))))))), ?_⟩
  have el : xs.length = r.length := by rw [hxs.length, List.length_map]
  refine ⟨_, .inr ht.sq, fun p hp => ⟨(Kp.new (S := No) hp).tab hT, natV (List.range r.length), true, rkey r, ⟨p, rfl, .inr ⟨xs.length, upd_same, by omega, by rw [el]⟩⟩, fun x hx Hc kc => ?_, fun ys p' H' p1 p2 k1 n1 h1 => ?_⟩⟩
  · obtain ⟨i, hi, rfl⟩ := List.mem_map.mp hx
    have hi := List.mem_range.mp hi
    have k0 := (Kp.new (S := No) (o := .rng 0 (xs.length : Int)) hp).trans kc
    obtain ⟨v, e1, e2⟩ := hxs.at_ (i := i) (d := layD r[i]) (by rw [List.getElem?_map, List.getElem?_eq_getElem hi]; rfl)
    obtain ⟨a, rfl, ha⟩ := (Im.up k0 _ _ e2).layInv
    refine ⟨_, .ref a, .inr (ht.up k0).sq, at_of (j := i) (by omega) e1, _, .int r[i].2, .inr ha.sq, at_of (j := 1) rfl rfl, fun u hu => ⟨Kp.new hu, u, rfl, ?_⟩⟩
    rw [upd_same]
    show _ = some (HO.tup [V.int (0 - stg r ((i : Int).toNat)), V.int (0 - (i : Int))])
    rw [Int.toNat_natCast, stg_at hi]
  · rw [ranked_is p1 p2] at h1
    exact q p' H' ((Kp.new hp).trans k1) (upd_none n1) h1

def spFirst [Tb] (K : PySem.W.Frag) : Sp := fun vs H Q _ => ∃ (v : V) (r : List Lay), vs = [v] ∧ Im K H v (rowD r) ∧ r.length ≤ 10000 ∧ (∀ l ∈ r, LayOk l) ∧ TbOk H ∧ ∀ H', Kp No H H' → Q (firstV r) H'
theorem ok_first (D : DefAt K mg "first" s_first) (fr : Fr mg) (c_ranked : Cal P w K mg base 4 "ranked" (spRanked K)) : Cal P w K mg base 5 "first" (spFirst K) := by
  refine cal_of D sc_first (fun _ _ _ _ _ _ us hl => match us, hl with | [_], _ => rfl) (fun vs H Q E h => by obtain ⟨v, r, rfl, _⟩ := h; rfl) fun f cd A out s H vs Q E room gd h => ?_
  obtain ⟨v, r, rfl, him, hl, hok, hT, q⟩ := h
  obtain ⟨t, xs, rfl, ht, hxs⟩ := id him.tupInv
  refine ⟨_, (pss_cons (ps_if (yt_cmp (kEq (K := K) (by rfl) room.units) (yv 0) (ye_tup pa_nil) (nomark _)) (pss_one (ps_ret pe_non)) pss_nil)
    (pss_one (ps_ret (kIx (K := K) (by rfl) (ye_call c_ranked room gd (by rfl) (pa_cons (yv 0) pa_nil)) pe_int)))), ?_⟩
  intro u hu
  have ku : Kp No H (upd H u (.tup [])) := Kp.new hu
  have imu := Im.up ku _ _ him
  refine ⟨_, _, Im.dp _ _ imu, kT upd_same, rowD_shaped hok, sh_nil, ite2 (fun h0 => ?_) fun h0 => ?_⟩
  · rw [rowD, eqv_nil] at h0
    have e : r = [] := by
      cases r with
      | nil => rfl
      | cons a r => simp at h0
    subst e
    have q' := q _ ku
    simp only [firstV, rankM_nil] at q'
    exact q'
  · refine ⟨_, r, rfl, imu, hl, ku.tab hT, fun p H' k1 n1 hp => ?_⟩
    rw [rowD, eqv_nil] at h0
    have hne : rankM r ≠ [] := fun z => by
      have := rankM_length r
      rw [z] at this
      cases r with
      | nil => simp at h0
      | cons a r => simp at this
    cases e : rankM r with
    | nil => exact absurd e hne
    | cons i m =>
      rw [e] at hp
      have q' := q H' (ku.trans k1)
      simp only [firstV, e] at q'
      exact ⟨_, .int (i : Nat), .inl (.inl (.inl hp)), at_of (j := 0) rfl rfl, q'⟩

theorem ok_Place_top (D : MetAt K CPlace "top" "Place.top" s_Place_top) (fr : Fr mg) (cf : Cf K mg CPalette CPlace) (m_Palette_names : CalM P w K mg base 1 CPalette "names" (spPalNames CPalette)) (m_Place_row : CalM P w K mg base 3 CPlace "row" (spInk K CPalette CPlace fun a ks s i H Q => ∀ v r H', s.rows[i]? = some r → Kp No H H' → Im K H' v (rowD (layR r)) → Q v H')) (c_first : Cal P w K mg base 5 "first" (spFirst K)) :
    CalM P w K mg base 6 CPlace "top" (spSelf0 K CPalette CPlace fun a ks s H Q => TbOk H ∧ ∀ v H', Kp No H H' → Im K H' v (topDat ks (topOf s.rows)) → Q v H') := by
  refine calM_of D cf.cls_Place sc_Place_top (fun _ _ _ _ _ _ us hl => match us, hl with | [_], _ => rfl) (fun vs H Q E h => by obtain ⟨a, ks, s, rfl, _⟩ := h; rfl) fun f cd A out s H vs Q E room gd h => ?_
  obtain ⟨a, ks, st, rfl, pa, hT, q⟩ := h
  refine ⟨_, (pss_cons (ys_set 1 sc_Place_top.nd pe_non)
    (pss_cons (ys_set 2 sc_Place_top.nd pe_int)
    (pss_cons (ps_for PassesOwn.never rfl (kiList (K := K) (by rfl) (ye_meth0 m_Palette_names room gd (ye_fld cf.cls_Place cf.na_Place_own_palette (yv 0)))) (yg_name 3 sc_Place_top.nd) (pss_cons (ys_set 4 sc_Place_top.nd (ye_call c_first room gd (by rfl) (pa_cons (ye_meth m_Place_row room gd (yv 0) (pa_cons (yv 3) pa_nil)) pa_nil)))
    (pss_one (ps_if (PW.pt (pw_and (yt_cmp oIsNot (yv 4) pe_non (nomark _)) (pw_and1 (yt_cmp oGt (kIx (K := K) (by rfl) (kIx (K := K) (by rfl) (ye_dg room (ye_fld cf.cls_Place cf.na_Place_layers (yv 0)) (yv 3)) (yv 4)) pe_int) (yv 2) (nomark _))))) (pss_cons (ys_set 1 sc_Place_top.nd (ye_tup (pa_cons (yv 3) (pa_cons (yv 4) pa_nil))))
    (pss_one (ys_set 2 sc_Place_top.nd (kIx (K := K) (by rfl) (kIx (K := K) (by rfl) (ye_dg room (ye_fld cf.cls_Place cf.na_Place_layers (yv 0)) (yv 3)) (yv 4)) pe_int)))) pss_nil))))
    (pss_one (ps_ret (yv 1)))))), ?_⟩
  refine ⟨a.dx, _, _, pa.ins, rfl, a.pdx, _, pa.pal.ins, rfl, a.pl, a.pdx, a.pd, ks, rfl, pa.pal, fun l H1 k1 hl h1 => ⟨⟨_, .inl (.inl h1)⟩, ?_⟩⟩
  have ek : ((ks.map (·.1)).map V.str).length = ks.length := by rw [List.length_map, List.length_map]
  have wl : Walk (Itl K l) ks.length (fun H => SqL K H l ((ks.map (·.1)).map V.str)) (YAt ((ks.map (·.1)).map V.str)) := ek ▸ walk_list
  refine for_it wl (fun i σ H' => ∃ v y3 y4, σ = [some (.ref a.x), some v, some (.int (topTo st.rows i).2), y3, y4] ∧ Kp No H H' ∧ Kp No H1 H' ∧ Im K H' v (topDat ks (topTo st.rows i).1)) ⟨.non, none, none, rfl, k1, Kp.refl _, .non⟩ (fun i σ H' _ ⟨_, _, _, _, _, k, _⟩ => .inl (.inl (k.all l _ h1 id))) ?_ ?_
  · rintro i x σ Ha Hb hi ⟨v, y3, y4, rfl, ka, kb, im⟩ ⟨rfl, hx⟩
    rw [List.getElem?_map, List.getElem?_map, List.getElem?_eq_getElem hi] at hx
    obtain rfl := Option.some.inj hx
    have pb := pa.up0 ka
    obtain ⟨l2, r, ws, e1, e2, e3, e4, e5, e6, e7, e8⟩ := pb.at_ hi
    refine ⟨a.dx, _, pb.ins, rfl, a, ks, st, i, _, rfl, pb, ⟨hi, rfl⟩, fun v2 r2 H2 er k2 im2 => ?_⟩
    obtain rfl : r = r2 := Option.some.inj (e2.symm.trans er)
    refine ⟨v2, layR r, rfl, im2, by rw [layR_len]; omega, fun z hz => ?_, (ka.trans k2).tab hT, fun H3 k3 => ?_⟩
    · obtain ⟨y, hy, rfl⟩ := List.mem_map.mp hz
      exact (e7 y hy).lay
    have k23 := k2.trans k3
    have pc := pb.up0 k23
    have im3 := Im.up k23 _ _ im
    have es : topTo st.rows (i + 1) = topStep (topTo st.rows i) i r := by
      show (match st.rows[i]? with | some r => topStep (topTo st.rows i) i r | none => topTo st.rows i) = _
      rw [e2]
    by_cases hr : r = []
    · have ev : firstV (layR r) = .non := by rw [hr]; exact firstV_nil
      rw [ev]
      have e9 : topTo st.rows (i + 1) = topTo st.rows i := by
        rw [es]
        unfold topStep
        rw [if_neg fun z => z.1 hr]
      rw [e9]
      exact ⟨v, _, _, rfl, ka.trans k23, kb.trans k23, im3⟩
    · have hne : layR r ≠ [] := fun z => hr (layR_nil.mp z)
      have hlt := topN_lt hne
      rw [layR_len] at hlt
      rw [firstV_top hne]
      have e10 : stg (layR r) (topN (layR r)) = r[topN (layR r)].2.2 := by
        rw [stg_at (by rw [layR_len]; exact hlt)]
        unfold layR
        rw [List.getElem_map]
        rfl
      have e4c := k23.all l2 _ e4 id
      obtain ⟨wv, g1, g2⟩ := (ImAll.up k23 _ _ e5).at_ (i := topN (layR r)) (d := lyrD r[topN (layR r)]) (by rw [List.getElem?_map, List.getElem?_eq_getElem hlt]; rfl)
      obtain ⟨b, rfl, tb⟩ := g2.lyrInv
      refine ⟨a.dx, _, _, pc.ins, rfl, _, _, pc.dct, e3, _, .ref b, .inl (.inl (.inl e4c)), at_of (j := topN (layR r)) rfl g1, _, _, .inr tb.sq, at_of (j := 2) rfl rfl, iteD (fun hb => ?_) fun hb => ?_⟩
      · intro u hu
        have ku : Kp No H3 (upd H3 u (.tup [.str ks[i].1, .int (topN (layR r) : Nat)])) := Kp.new hu
        have pd := pc.up0 ku
        have e9 : topTo st.rows (i + 1) = (some (i, topN (layR r)), r[topN (layR r)].2.2) := by
          rw [es]
          unfold topStep
          rw [e10, if_pos ⟨hr, hb⟩]
        refine ⟨a.dx, _, _, pd.ins, rfl, _, _, pd.dct, e3, _, .ref b, .inl (.inl (.inl (ku.all l2 _ e4c id))), at_of (j := topN (layR r)) rfl g1, _, _, .inr (tb.up ku).sq, at_of (j := 2) rfl rfl, ?_⟩
        rw [e9]
        refine ⟨.ref u, _, _, rfl, (ka.trans k23).trans ku, (kb.trans k23).trans ku, ?_⟩
        · skip
          have eg : (ks.getD i (default, 0)).1 = ks[i].1 := by rw [List.getD_eq_getElem?_getD, List.getElem?_eq_getElem hi]; rfl
          show Im K _ (.ref u) (.tuple [.str (ks.getD i (default, 0)).1, .int ((topN (layR r) : Nat) : Int)])
          rw [eg]
          exact Im.mk upd_same (.cons (.str _) (.cons (.int _) .nil))
      · have e9 : topTo st.rows (i + 1) = topTo st.rows i := by
          rw [es]
          unfold topStep
          rw [e10, if_neg fun z => hb z.2]
        rw [e9]
        exact ⟨v, _, _, rfl, ka.trans k23, kb.trans k23, im3⟩
  · rintro σ H' ⟨v, y3, y4, rfl, ka, kb, im⟩
    refine q v H' ka ?_
    unfold topOf
    rw [pa.rws]
    exact im
theorem top_at {ks : List Ink} {H : Hp} {a : PlAddr} {st : Pst} (pa : PlAt K CPalette CPlace H a ks st) {i n : Nat} (h : topOf st.rows = some (i, n)) : ∃ (hi : i < ks.length) (l : Addr) (r : List Lyr) (ws : List V) (b : Addr) (hn : n < r.length), (ks.getD i (default, 0)).1 = ks[i].1 ∧ (st.rows.getD i []).getD n (0, default, 0) = r[n] ∧ valV (layK ks a.ls) (.inr ks[i].1) = some (.ref l) ∧ H l = some (.lst ws) ∧ ws[n]? = some (.ref b) ∧ Tp K H b [.int r[n].1, .str r[n].2.1, .int r[n].2.2] := by
  obtain ⟨r, h1, h2, h3⟩ := topTo_in _ _ _ _ h
  rw [pa.rws] at h3
  obtain ⟨l, r', ws, e1, e2, e3, e4, e5, e6, e7, e8⟩ := pa.at_ h3
  obtain rfl : r = r' := Option.some.inj (h1.symm.trans e2)
  obtain ⟨wv, g1, g2⟩ := e5.at_ (i := n) (d := lyrD r[n]) (by rw [List.getElem?_map, List.getElem?_eq_getElem h2]; rfl)
  obtain ⟨b, rfl, tb⟩ := g2.lyrInv
  refine ⟨h3, l, r, ws, b, h2, by rw [List.getD_eq_getElem?_getD, List.getElem?_eq_getElem h3]; rfl, ?_, e3, e4, g1, tb⟩
  rw [List.getD_eq_getElem?_getD (l := st.rows), e2]
  show r.getD n (0, default, 0) = r[n]
  rw [List.getD_eq_getElem?_getD, List.getElem?_eq_getElem h2]
  rfl
theorem ok_Place_seen (D : MetAt K CPlace "seen" "Place.seen" s_Place_seen) (fr : Fr mg) (cf : Cf K mg CPalette CPlace) (m_Place_top : CalM P w K mg base 6 CPlace "top" (spSelf0 K CPalette CPlace fun a ks s H Q => TbOk H ∧ ∀ v H', Kp No H H' → Im K H' v (topDat ks (topOf s.rows)) → Q v H')) :
    CalM P w K mg base 7 CPlace "seen" (spSelf0 K CPalette CPlace fun a ks s H Q => TbOk H ∧ ∀ v H', Kp No H H' → Im K H' v (seenD ks s.rows) → Q v H') := by
  refine calM_of D cf.cls_Place sc_Place_seen (fun _ _ _ _ _ _ us hl => match us, hl with | [_], _ => rfl) (fun vs H Q E h => by obtain ⟨a, ks, s, rfl, _⟩ := h; rfl) fun f cd A out s H vs Q E room gd h => ?_
  obtain ⟨a, ks, st, rfl, pa, hT, q⟩ := h
  refine ⟨_, (pss_cons (ys_set 1 sc_Place_seen.nd (ye_meth0 m_Place_top room gd (yv 0)))
    (pss_cons (ps_if (yt_cmp oIs (yv 1) pe_non (nomark _)) (pss_one (ps_ret pe_non)) pss_nil)
    (pss_cons (ps_asg (yv 1) (kgTup (K := K) (n := 2) (by rfl) rfl (yg_cons (yg_name 2 sc_Place_seen.nd) (yg_cons (yg_name 3 sc_Place_seen.nd) yg_nil))))
    (pss_cons (ps_asg (kIx (K := K) (by rfl) (ye_dg room (ye_fld cf.cls_Place cf.na_Place_layers (yv 0)) (yv 2)) (yv 3)) (kgTup (K := K) (n := 3) (by rfl) rfl (yg_cons (yg_name 4 sc_Place_seen.nd) (yg_cons (yg_name 5 sc_Place_seen.nd) (yg_cons (yg_name 6 sc_Place_seen.nd) yg_nil)))))
    (pss_one (ps_ret (ye_tup (pa_cons (yv 2) (pa_cons (yv 5) (pa_cons (yv 6) pa_nil)))))))))), a.dx, _, pa.ins, rfl, a, ks, st, rfl, pa, hT, fun v H1 k1 im => ?_⟩
  unfold seenD at q
  cases ht : topOf st.rows with
  | none =>
    rw [ht] at im q
    obtain rfl := Im.noneInv im
    exact q .non _ k1 .non
  | some p =>
    obtain ⟨i, n⟩ := p
    rw [ht] at im q
    have pb := pa.up0 k1
    obtain ⟨hi, l, r, ws, b, hn, f1, f2, f3, f4, f5, f6⟩ := top_at pb ht
    have im : Im K H1 v (.tuple [.str (ks.getD i (default, 0)).1, .int (n : Int)]) := im
    rw [f1] at im
    obtain ⟨t, xs, rfl, h1, h2⟩ := id im.tupInv
    cases h2 with
    | cons z1 z2 =>
    cases z2 with
    | cons z2 z3 =>
    cases z3
    obtain rfl := z1.strInv
    obtain rfl := z2.intInv
    refine ⟨_, h1.sq, rfl, a.dx, _, _, pb.ins, rfl, _, _, pb.dct, f3, _, .ref b, .inl (.inl (.inl f4)), at_of (j := n) rfl f5, _, f6.sq, rfl, fun u hu => ?_⟩
    have ku : Kp No H1 (upd H1 u (.tup [.str ks[i].1, .str r[n].2.1, .int r[n].2.2])) := Kp.new hu
    refine q _ _ (k1.trans ku) ?_
    show Im K _ (.ref u) (.tuple [.str (ks.getD i (default, 0)).1, .str ((st.rows.getD i []).getD n (0, default, 0)).2.1, .int ((st.rows.getD i []).getD n (0, default, 0)).2.2])
    rw [f1, f2]
    exact Im.mk upd_same (.cons (.str _) (.cons (.str _) (.cons (.int _) .nil)))
theorem ok_Place_seen_mark (D : MetAt K CPlace "seen_mark" "Place.seen_mark" s_Place_seen_mark) (fr : Fr mg) (cf : Cf K mg CPalette CPlace) (m_Place_top : CalM P w K mg base 6 CPlace "top" (spSelf0 K CPalette CPlace fun a ks s H Q => TbOk H ∧ ∀ v H', Kp No H H' → Im K H' v (topDat ks (topOf s.rows)) → Q v H')) :
    CalM P w K mg base 7 CPlace "seen_mark" (spSelf0 K CPalette CPlace fun a ks s H Q => TbOk H ∧ ∀ H', Kp No H H' → Q (seenM s.rows) H') := by
  refine calM_of D cf.cls_Place sc_Place_seen_mark (fun _ _ _ _ _ _ us hl => match us, hl with | [_], _ => rfl) (fun vs H Q E h => by obtain ⟨a, ks, s, rfl, _⟩ := h; rfl) fun f cd A out s H vs Q E room gd h => ?_
  obtain ⟨a, ks, st, rfl, pa, hT, q⟩ := h
  refine ⟨_, (pss_cons (ys_set 1 sc_Place_seen_mark.nd (ye_meth0 m_Place_top room gd (yv 0)))
    (pss_one (ps_ret (pe_ifExp (yt_cmp oIs (yv 1) pe_non (nomark _)) pe_non (kIx (K := K) (by rfl) (kIx (K := K) (by rfl) (ye_dg room (ye_fld cf.cls_Place cf.na_Place_layers (yv 0)) (kIx (K := K) (by rfl) (yv 1) pe_int)) (kIx (K := K) (by rfl) (yv 1) pe_int)) pe_int))))), a.dx, _, pa.ins, rfl, a, ks, st, rfl, pa, hT, fun v H1 k1 im => ?_⟩
  unfold seenM at q
  cases ht : topOf st.rows with
  | none =>
    rw [ht] at im q
    obtain rfl := Im.noneInv im
    exact q _ k1
  | some p =>
    obtain ⟨i, n⟩ := p
    rw [ht] at im q
    have pb := pa.up0 k1
    obtain ⟨hi, l, r, ws, b, hn, f1, f2, f3, f4, f5, f6⟩ := top_at pb ht
    have im : Im K H1 v (.tuple [.str (ks.getD i (default, 0)).1, .int (n : Int)]) := im
    rw [f1] at im
    obtain ⟨t, xs, rfl, h1, h2⟩ := id im.tupInv
    cases h2 with
    | cons z1 z2 =>
    cases z2 with
    | cons z2 z3 =>
    cases z3
    obtain rfl := z1.strInv
    obtain rfl := z2.intInv
    have q : ∀ H', Kp No H H' → Q (.int ((st.rows.getD i []).getD n (0, default, 0)).1) H' := q
    rw [f2] at q
    exact ⟨a.dx, _, _, pb.ins, rfl, _, _, .inr h1.sq, at_of (j := 0) rfl rfl, _, _, pb.dct, f3, _, _, .inr h1.sq, at_of (j := 1) rfl rfl, _, .ref b, .inl (.inl (.inl f4)), at_of (j := n) rfl f5, _, _, .inr f6.sq, at_of (j := 0) rfl rfl, q _ k1⟩

def spPut [Tb] (K : PySem.W.Frag) (CPalette CPlace : Addr) : Sp := fun vs H Q _ => ∃ (a : PlAddr) (ks : List Ink) (s : Pst) (i : Nat) (z : Str) (y : Lay), vs = [.ref a.x, .str z, .str y.1, .int y.2] ∧ PlAt K CPalette CPlace H a ks s ∧ (∃ h : i < ks.length, ks[i].1 = z) ∧ LyOk (s.next, y) ∧ (∀ r, s.rows[i]? = some r → r.length < 1000) ∧ ∀ H', Kp (Ft a) H H' → PlAt K CPalette CPlace H' a ks (laidS s i y) → Q (.int s.next) H'
theorem ok_Place_put_on (D : MetAt K CPlace "put_on" "Place.put_on" s_Place_put_on) (fr : Fr mg) (cf : Cf K mg CPalette CPlace) : CalM P w K mg base 1 CPlace "put_on" (spPut K CPalette CPlace) := by
  refine calM_of D cf.cls_Place sc_Place_put_on (fun _ _ _ _ _ _ us hl => match us, hl with | [_, _, _, _], _ => rfl) (fun vs H Q E h => by obtain ⟨a, ks, s, i, z, y, rfl, _⟩ := h; rfl) fun f cd A out s H vs Q E room gd h => ?_
  obtain ⟨a, ks, st, i, z, y, rfl, pa, ⟨hi, rfl⟩, lok, hlen, q⟩ := h
  obtain ⟨l, r, ws, e1, e2, e3, e4, e5, e6, e7, e8⟩ := pa.at_ hi
  refine ⟨_, (pss_cons (ys_set 4 sc_Place_put_on.nd (ye_fld cf.cls_Place cf.na_Place_next_mark (yv 0)))
    (pss_cons (ps_expr (ye_append (pe_bm PySem.F.plainAttrs_list PySem.F.slot_list_append PySem.F.type_list_append mt_append (PE.cl (ye_dg room (ye_fld cf.cls_Place cf.na_Place_layers (yv 0)) (yv 1))) (pa_cons (PE.cl (ye_tup (pa_cons (yv 4) (pa_cons (yv 2) (pa_cons (yv 3) pa_nil))))) pa_nil))))
    (pss_cons (ys_faug cf.cls_Place cf.na_Place_next_mark (yv 0) pe_int in_add)
    (pss_one (ps_ret (yv 4)))))), a.dx, _, _, pa.ins, rfl, a.dx, _, _, pa.ins, rfl, _, _, pa.dct, e3, ⟨_, e4⟩, fun u hu => ?_⟩
  have k1 : Kp No H (upd H u (.tup [.int st.next, .str y.1, .int y.2])) := Kp.new hu
  have hl1 := k1.all l _ e4 id
  have ml : l ∈ a.ls := List.mem_of_getElem? e1
  have hx2 : upd (upd H u (.tup [.int st.next, .str y.1, .int y.2])) l (.lst (ws ++ [.ref u])) a.x = some (.ins CPlace a.dx [("own_palette", .ref a.pl), ("wear_left", .int st.wear), ("layers", .ref a.d), ("next_mark", .int st.next)]) := by
    rw [upd_ne fun e => (pa.ne_l ml).1 e.symm]
    exact k1.all a.x _ pa.ins id
  obtain ⟨pb, kb⟩ := pa.laid e1 e2 e4 e5 hu lok (hlen r e2)
  refine ⟨ws, hl1, Nat.lt_of_le_of_lt (show ws.length ≤ 1000 by omega) (by decide), a.dx, _, _, hx2, rfl, a.dx, _, hx2, by show 4 < 1000; decide, q _ kb pb⟩
def spWantAmount [Tb] (K : PySem.W.Frag) : Sp := fun vs H Q _ => ∃ n : Int, vs = [.int n] ∧ 0 < n ∧ Q .non H
theorem ok_want_amount (D : DefAt K mg "want_amount" s_want_amount) (fr : Fr mg) (c_is_amount : Cal P w K mg base 2 "is_amount" (spIsAmount K)) : Cal P w K mg base 3 "want_amount" (spWantAmount K) := by
  refine cal_of D sc_want_amount (fun _ _ _ _ _ _ us hl => match us, hl with | [_], _ => rfl) (fun vs H Q E h => by obtain ⟨v, rfl, _⟩ := h; rfl) fun f cd A out s H vs Q E room gd h => ?_
  obtain ⟨n, rfl, h0, q⟩ := h
  exact ⟨_, (pss_one (ps_if (pt_not (yt_val (ye_call c_is_amount room gd (by rfl) (pa_cons (yv 0) pa_nil)))) (pss_one ps_never) pss_nil)), .int n, rfl, .int _, iteNb (show amV (.int n) = true from decide_eq_true h0) q⟩
theorem ok_Place_lay (D : MetAt K CPlace "lay" "Place.lay" s_Place_lay) (fr : Fr mg) (cf : Cf K mg CPalette CPlace) (m_Place_want_ink : CalM P w K mg base 2 CPlace "want_ink" (spInk K CPalette CPlace fun _ _ _ _ H Q => Q .non H)) (c_is_name : Cal P w K mg base 1 "is_name" (spIsName K)) (c_want_amount : Cal P w K mg base 3 "want_amount" (spWantAmount K)) (m_Place_put_on : CalM P w K mg base 1 CPlace "put_on" (spPut K CPalette CPlace)) : CalM P w K mg base 4 CPlace "lay" (spPut K CPalette CPlace) := by
  refine calM_of D cf.cls_Place sc_Place_lay (fun _ _ _ _ _ _ us hl => match us, hl with | [_, _, _, _], _ => rfl) (fun vs H Q E h => by obtain ⟨a, ks, s, i, z, y, rfl, _⟩ := h; rfl) fun f cd A out s H vs Q E room gd h => ?_
  obtain ⟨a, ks, st, i, z, y, rfl, pa, ⟨hi, rfl⟩, lok, hlen, q⟩ := h
  refine ⟨_, (pss_cons (ps_expr (ye_meth m_Place_want_ink room gd (yv 0) (pa_cons (yv 1) pa_nil)))
    (pss_cons (ps_if (pt_not (yt_val (ye_call c_is_name room gd (by rfl) (pa_cons (yv 2) pa_nil)))) (pss_one ps_never) pss_nil)
    (pss_cons (ps_expr (ye_call c_want_amount room gd (by rfl) (pa_cons (yv 3) pa_nil)))
    (pss_one (ps_ret (ye_meth m_Place_put_on room gd (yv 0) (pa_cons (yv 1) (pa_cons (yv 2) (pa_cons (yv 3) pa_nil))))))))), a.dx, _, pa.ins, rfl, a, ks, st, i, _, rfl, pa, ⟨hi, rfl⟩, .str y.1, rfl, .str _ (Nat.le_trans lok.lay.nm.eight (by decide)) (nm_fine lok.lay.nm), fun H1 k1 => iteNb (nm_nmB lok.lay.nm) ⟨y.2, rfl, lok.lay.pos, ?_⟩⟩
  have pb := pa.up0 k1
  exact ⟨a.dx, _, pb.ins, rfl, a, ks, st, i, _, y, rfl, pb, ⟨hi, rfl⟩, lok, hlen, fun H' k' p' => q H' (k1.no.trans k') p'⟩

def spModel [Tb] (K : PySem.W.Frag) : Sp := fun vs H Q _ => ∃ (il : Addr) (ys : List V) (ks : List Ink) (wear : Int), vs = [.ref il, .int wear] ∧ H il = some (.lst ys) ∧ ImAll K H ys (ks.map inkD) ∧ InkOk ks ∧ ∀ (m rd : Addr) (ls : List Addr) H', Kp No H H' → MdAt K H' ⟨m, il, rd, ls⟩ ks (newS wear ks.length) → (∀ y, y = m ∨ y = rd ∨ y ∈ ls → H y = none) → Q (.ref m) H'
theorem ok_l_model (D : DefAt K mg "_law_model" s_l_model) (fr : Fr mg) : Cal P w K mg base 1 "_law_model" (spModel K) := by
  refine cal_of D sc_l_model (fun _ _ _ _ _ _ us hl => match us, hl with | [_, _], _ => rfl) (fun vs H Q E h => by obtain ⟨il, ys, ks, wear, rfl, _⟩ := h; rfl) fun f cd A out s H vs Q E room gd h => ?_
  obtain ⟨il, ys, ks, wear, rfl, hil, im, ok, q⟩ := h
  have el : ys.length = ks.length := by rw [im.length, List.length_map]
  refine ⟨_, (pss_one (ps_ret (pe_disp (pps_cons pe_str (yv 0) (pps_cons pe_str (yv 1) (pps_cons pe_str pe_int (pps_cons pe_str (pe_callTy (kDict (K := K) (by rfl) rfl) (by rfl) fr.dict_ (by decide +kernel) (pa_cons (pe_lc (own := [("_law_ink", 2), ("_law_fade", 3)]) rfl sc_l_model.nd (kiList (K := K) (by rfl) (yv 0)) (blkOk_by (own := [("_law_ink", 2), ("_law_fade", 3)]) (N := n_l_model) (sc := defScope s_l_model) (by decide +kernel)) (fun _ _ _ _ _ => (kgTup (K := K) (n := 2) (by rfl) rfl (yg_cons (yg_name 2 sc_l_model.nd) (yg_cons (yg_name 3 sc_l_model.nd) yg_nil)))) (fun _ _ _ _ _ => pts_nil) (fun _ _ _ _ _ => (ye_tup (pa_cons (yv 2) (pa_cons (ye_lst pa_nil) pa_nil))))) pa_nil)) pps_nil)))) (by rfl) (by rfl) (fun z => by cases z) (by decide)))), ?_⟩
  refine fun m hm => ?_
  have km : Kp No H (upd H m (.dK [])) := Kp.new hm
  have hil1 := km.all il _ hil id
  refine ⟨⟨_, .inl (.inl hil1)⟩, fun Dd hD => ?_⟩
  have wl : Walk (Itl K il) ks.length (fun H => SqL K H il ys) (YAt ys) := el ▸ walk_list
  refine lc_it wl (fun i H' => ∃ (ps us : List Addr), us.length = i ∧ Kp No (upd H m (.dK [])) H' ∧ H' Dd = some (.lst (ps.map V.ref)) ∧ ps.length = i ∧ Paired (fun p (kv : Key × V) => H' p = some (.tup [kV kv.1, kv.2])) ps (layK (ks.take i) us) ∧ (∀ u ∈ us, H' u = some (.lst [])) ∧ (∀ u ∈ us, H u = none))
    ⟨[], [], rfl, Kp.new hD, upd_same, rfl, .nil, fun u hu => (nomatch hu), fun u hu => (nomatch hu)⟩ (fun i H' _ ⟨_, _, _, k, _⟩ => .inl (.inl (k.all il _ hil1 id))) ?_ ?_
  · rintro i x Ha Hb hi ⟨ps, us, e1, ka, da, e2, hp, hu, fu⟩ ⟨rfl, hx⟩
    obtain ⟨b, g1, tb⟩ := ink_at (ImAll.up (km.trans ka) _ _ im) hi
    obtain rfl : V.ref b = x := Option.some.inj (g1.symm.trans hx)
    refine ⟨_, tb.sq, rfl, rfl, fun u hu' t ht => ?_⟩
    have ku : Kp No Hb (upd Hb u (.lst [])) := Kp.new hu'
    have kt : Kp No _ (upd (upd Hb u (.lst [])) t (.tup [.str ks[i].1, .ref u])) := Kp.new ht
    have kk := ku.trans kt
    have da' := kk.all Dd _ da id
    have kS : Kp (At Dd) _ (upd (upd (upd Hb u (.lst [])) t (.tup [.str ks[i].1, .ref u])) Dd (.lst (ps.map V.ref ++ [.ref t]))) := Kp.set rfl da'
    have eL : (ks.take i).length = i := by rw [List.length_take]; omega
    refine ⟨_, da', by rw [List.length_map, e2]; exact Nat.lt_of_lt_of_le (show i < 1000 by have := ok.len8; omega) (by decide), ps ++ [t], us ++ [u], by rw [List.length_append, e1]; rfl, (ka.trans kk).put hD da', by rw [upd_same, List.map_append]; rfl, by rw [List.length_append, e2]; rfl, ?_, fun v hv => ?_, fun v hv => ?_⟩
    · rw [List.take_add_one, List.getElem?_eq_getElem hi]
      show Paired _ (ps ++ [t]) (layK (ks.take i ++ [ks[i]]) (us ++ [u]))
      rw [layK_snoc (by omega)]
      refine Paired.snoc (L2.Paired.mapP hp fun p kv z => kS.tup _ _ (kk.tup _ _ z)) (kS.tup _ _ upd_same)
    · rcases List.mem_append.mp hv with hv | hv
      · have h1 := kk.all v _ (hu v hv) id
        refine kS.all v _ h1 (ne_of (hu v hv) da ?_)
        intro z
        cases ps with
        | nil =>
          rw [← e1] at e2
          have : us = [] := List.length_eq_zero_iff.mp e2.symm
          rw [this] at hv
          cases hv
        | cons a ps => cases z
      · rw [List.mem_singleton.mp hv]
        exact kS.all u _ (kt.all u _ upd_same id) fun e => ne_of_none da hu' e.symm
    · rcases List.mem_append.mp hv with hv | hv
      · exact fu v hv
      · rw [List.mem_singleton.mp hv]
        exact (km.trans ka).dom u hu'
  · rintro H2 ⟨ps, us, e1, ka, da, e2, hp, hu, fu⟩
    rw [List.take_length] at hp
    refine ⟨ps, layK ks us, .inl (.inl da), L2.Paired.mapP hp fun p kv z => .inl (.inl z), fun rd hrd => ?_⟩
    have kr : Kp No H2 (upd H2 rd (.dK (mergeK [] (layK ks us)))) := Kp.new hrd
    have em : mergeK [] (layK ks us) = layK ks us := merge_nodup (by rw [List.nil_append]; exact layK_nodup (b := ⟨m, il, rd, us⟩) e1 ok)
    have hm2 := (ka.trans kr).all m _ upd_same id
    refine ⟨hm2, [(.inr "inks", .ref il), (.inr "wear", .int wear), (.inr "next", .int 0), (.inr "rows", .ref rd)], rfl, by show 4 ≤ 15; decide, ?_⟩
    have kS : Kp (At m) _ (upd (upd H2 rd (.dK (mergeK [] (layK ks us)))) m (.dK (mdK ⟨m, il, rd, us⟩ (newS wear ks.length)))) := Kp.set rfl hm2
    have kA : Kp No H _ := ((km.trans ka).trans kr).put (o := .dK (mdK ⟨m, il, rd, us⟩ (newS wear ks.length))) hm hm2
    have nrm : rd ≠ m := fun e => by
      rw [e, ka.all m _ upd_same id] at hrd
      cases hrd
    have hrd0 : H rd = none := (km.trans ka).dom rd hrd
    refine q m rd us _ kA ⟨upd_same, ⟨ys, kA.all il _ hil id, ImAll.up kA _ _ im⟩, by show upd _ m _ rd = _; rw [upd_ne nrm, upd_same, em], e1, by show (List.replicate ks.length []).length = _; rw [List.length_replicate], fun i l r h1 h2 => ?_, ok, fun r hr => ?_⟩ fun y hy => ?_
    · have hr : r = [] := List.eq_of_mem_replicate (List.mem_of_getElem? h2)
      have hl : l ∈ us := List.mem_of_getElem? h1
      exact ⟨[], kS.all l _ (kr.all l _ (hu l hl) id) (ne_of (hu l hl) (ka.all m _ upd_same id) (by intro z; cases z)), by rw [hr]; exact .nil⟩
    · rw [List.eq_of_mem_replicate hr]
      exact ⟨by decide, fun l hl => (nomatch hl)⟩
    · rcases hy with z | z | z
      · rw [z]; exact hm
      · rw [z]; exact hrd0
      · exact fu y z
def spMPut [Tb] (K : PySem.W.Frag) : Sp := fun vs H Q _ => ∃ (b : MdAddr) (ks : List Ink) (s : Pst) (i : Nat) (z : Str) (y : Lay), vs = [.ref b.m, .str z, .str y.1, .int y.2] ∧ MdAt K H b ks s ∧ (∃ h : i < ks.length, ks[i].1 = z) ∧ LyOk (s.next, y) ∧ (∀ r, s.rows[i]? = some r → r.length < 1000) ∧
  ∀ (u : Addr) H', H u = none → Kp (Mt b) H H' → MdAt K H' ⟨b.m, b.il, b.rd, b.ls.set i u⟩ ks (laidS s i y) → Q .non H'
theorem ok_l_put (D : DefAt K mg "_law_put" s_l_put) (fr : Fr mg) : Cal P w K mg base 1 "_law_put" (spMPut K) := by
  refine cal_of D sc_l_put (fun _ _ _ _ _ _ us hl => match us, hl with | [_, _, _, _], _ => rfl) (fun vs H Q E h => by obtain ⟨b, ks, s, i, z, y, rfl, _⟩ := h; rfl) fun f cd A out s H vs Q E room gd h => ?_
  obtain ⟨b, ks, st, i, z, y, rfl, pa, ⟨hi, rfl⟩, lok, hlen, q⟩ := h
  obtain ⟨l, r, ws, e1, e2, e3, e4, e5, e6, e7, e8⟩ := pa.at_ hi
  refine ⟨_, (pss_cons (ys_dput room (ye_dg room (yv 0) pe_str) (yv 1) (pe_op (kAdd (K := K) (by rfl)) (ye_dg room (ye_dg room (yv 0) pe_str) (yv 1)) (ye_lst (pa_cons (ye_tup (pa_cons (ye_dg room (yv 0) pe_str) (pa_cons (yv 2) (pa_cons (yv 3) pa_nil)))) pa_nil))))
    (pss_one (ys_dput room (yv 0) pe_str (pe_op (kAdd (K := K) (by rfl)) (ye_dg room (yv 0) pe_str) pe_int)))), ?_⟩
  refine ⟨_, _, pa.dct, val_rows b st, _, _, pa.rd, e3, _, _, pa.dct, val_next b st, fun t ht n hn => ?_⟩
  have k1 : Kp No H (upd H t (.tup [.int st.next, .str y.1, .int y.2])) := Kp.new ht
  have k2 : Kp No _ (upd (upd H t (.tup [.int st.next, .str y.1, .int y.2])) n (.lst [.ref t])) := Kp.new hn
  have k12 := k1.trans k2
  refine .inl ⟨l, n, _, _, rfl, rfl, k12.all l _ e4 id, upd_same, Nat.le_trans (show ws.length + 1 ≤ 1001 by omega) (by decide), fun u hu => ?_⟩
  have k3 : Kp No _ (upd (upd (upd H t (.tup [.int st.next, .str y.1, .int y.2])) n (.lst [.ref t])) u (.lst (ws ++ [.ref t]))) := Kp.new hu
  have k13 := k12.trans k3
  have pb := pa.up0 k13
  have imu : ImAll K (upd (upd (upd H t (.tup [.int st.next, .str y.1, .int y.2])) n (.lst [.ref t])) u (.lst (ws ++ [.ref t]))) (ws ++ [.ref t]) ((r ++ [(st.next, y)]).map lyrD) := by
    rw [List.map_append]
    exact (ImAll.up k13 _ _ e5).snoc (Im.up (k2.trans k3) _ _ (Im.mk upd_same (.cons (.int _) (.cons (.str _) (.cons (.int _) .nil)))))
  generalize hH3 : upd (upd (upd H t (.tup [.int st.next, .str y.1, .int y.2])) n (.lst [.ref t])) u (.lst (ws ++ [.ref t])) = H3 at *
  have hu3 : H3 u = some (.lst (ws ++ [.ref t])) := by rw [← hH3, upd_same]
  refine ⟨_, _, pb.dct, val_rows b st, _, pb.rd, ?_, ?_⟩
  · unfold layK
    rw [List.length_map, List.length_zip]
    have := pa.iok.len8
    omega
  rw [put_row pa.len pa.iok hi]
  have nmr : b.m ≠ b.rd := ne_of pa.dct pa.rd (by
    intro z
    have := congrArg (fun o => match o with | HO.dK kvs => kvs.length | _ => 0) z
    unfold layK at z
    have z2 := HO.dK.inj z
    have z3 := congrArg (fun l : List (Key × V) => l.head?.map (·.2)) z2
    cases hk : ks.zip b.ls with
    | nil => rw [hk] at z2; cases z2
    | cons p ps =>
      rw [hk] at z2
      have z4 := congrArg (fun l : List (Key × V) => (l[1]?).map (·.2)) z2
      cases ps with
      | nil => cases z4
      | cons p2 ps => cases z4)
  have k4 : Kp (At b.rd) H3 (upd H3 b.rd (.dK (layK ks (b.ls.set i u)))) := Kp.set rfl pb.rd
  have hm4 : upd H3 b.rd (.dK (layK ks (b.ls.set i u))) b.m = some (.dK (mdK b st)) := by rw [upd_ne nmr]; exact pb.dct
  refine ⟨_, _, hm4, val_next b st, _, hm4, by show 4 < 1000; decide, ?_⟩
  rw [put_next]
  have k5 : Kp (At b.m) _ (upd (upd H3 b.rd (.dK (layK ks (b.ls.set i u)))) b.m (.dK (mdK b ⟨st.wear, st.rows, st.next + 1⟩))) := Kp.set rfl hm4
  have k45 : Kp (Mt b) H3 _ := (k4.mono fun y z => .inr z).trans (k5.mono fun y z => .inl z)
  have huH : H u = none := k12.dom u hu
  have nl : ∀ l', (∃ vs, H3 l' = some (.lst vs)) → ¬ Mt b l' := by
    rintro l' ⟨vs, h⟩ (z | z)
    · rw [z, pb.dct] at h; cases h
    · rw [z, pb.rd] at h; cases h
  refine q u _ huH (k13.no.trans k45) ⟨upd_same, ?_, by show upd _ b.m _ b.rd = _; rw [upd_ne nmr.symm, upd_same], by show (b.ls.set i u).length = _; rw [List.length_set]; exact pa.len, by show (st.rows.set _ _).length = _; rw [List.length_set]; exact pa.rws, fun j l' r' h1 h2 => ?_, pa.iok, fun r' hr' => ?_⟩
  · obtain ⟨ys, g1, g2⟩ := pb.inks
    exact ⟨ys, k45.all _ _ g1 (nl _ ⟨_, g1⟩), ImAll.up k45 _ _ g2⟩
  · have h1 : (b.ls.set i u)[j]? = some l' := h1
    have h2 : (st.rows.set i ((st.rows.getD i []) ++ [(st.next, y)]))[j]? = some r' := h2
    have hil : i < st.rows.length := (List.getElem?_eq_some_iff.mp e2).1
    by_cases e : i = j
    · subst e
      rw [List.getElem?_set_self (by rw [pa.len]; exact hi)] at h1
      obtain rfl := Option.some.inj h1
      rw [List.getElem?_set_self hil, List.getD_eq_getElem?_getD, e2] at h2
      obtain rfl : r ++ [(st.next, y)] = r' := Option.some.inj h2
      exact ⟨_, k45.all u _ hu3 (nl _ ⟨_, hu3⟩), ImAll.up k45 _ _ imu⟩
    · rw [List.getElem?_set_ne e] at h1 h2
      obtain ⟨vs, g1, g2⟩ := pb.row j l' r' h1 h2
      exact ⟨vs, k45.all _ _ g1 (nl _ ⟨_, g1⟩), ImAll.up k45 _ _ g2⟩
  · have hr' : r' ∈ st.rows.set i ((st.rows.getD i []) ++ [(st.next, y)]) := hr'
    rcases List.mem_or_eq_of_mem_set hr' with z | z
    · exact pa.ok r' z
    · rw [List.getD_eq_getElem?_getD, e2] at z
      have z : r' = r ++ [(st.next, y)] := z
      rw [z]
      refine ⟨by rw [List.length_append]; have := hlen r e2; show r.length + 1 ≤ 1000; omega, fun q hq => ?_⟩
      rcases List.mem_append.mp hq with hq | hq
      · exact e7 q hq
      · rw [List.mem_singleton.mp hq]; exact lok

def spMFirst [Tb] (K : PySem.W.Frag) : Sp := fun vs H Q _ => ∃ (l : Addr) (ws : List V) (r : List Lyr), vs = [.ref l] ∧ H l = some (.lst ws) ∧ ImAll K H ws (r.map lyrD) ∧ r ≠ [] ∧ r.length ≤ 1000 ∧ Q (.int (topN (layR r) : Nat)) H
theorem ok_l_first (D : DefAt K mg "_law_first" s_l_first) (fr : Fr mg) : Cal P w K mg base 1 "_law_first" (spMFirst K) := by
  refine cal_of D sc_l_first (fun _ _ _ _ _ _ us hl => match us, hl with | [_], _ => rfl) (fun vs H Q E h => by obtain ⟨l, ws, r, rfl, _⟩ := h; rfl) fun f cd A out s H vs Q E room gd h => ?_
  obtain ⟨l, ws, r, rfl, hl, im, hne, hlen, q⟩ := h
  have el : ws.length = r.length := by rw [im.length, List.length_map]
  have hpos : 0 < (layR r).length := by
    rw [layR_len]
    exact List.length_pos_iff.mpr hne
  refine ⟨_, (pss_cons (ys_set 1 sc_l_first.nd pe_int)
    (pss_cons (ps_for PassesOwn.never rfl (yi_range1 (by rfl) fr.range_ (pa_cons (pe_callB (kLen (K := K) (by rfl)) (by rfl) fr.len_ (by decide +kernel) (pa_cons (yv 0) pa_nil)) pa_nil)) (yg_name 2 sc_l_first.nd) (pss_one (ps_if (yt_cmp oGe (kIx (K := K) (by rfl) (kIx (K := K) (by rfl) (yv 0) (yv 2)) pe_int) (kIx (K := K) (by rfl) (kIx (K := K) (by rfl) (yv 0) (yv 1)) pe_int) (nomark _)) (pss_one (ys_set 1 sc_l_first.nd (yv 2))) pss_nil)))
    (pss_one (ps_ret (yv 1))))), ?_⟩
  refine ⟨_, .inl (.inl (.inl hl)), ⟨by omega, by omega⟩, ?_⟩
  refine for_it walk_range (fun i σ H' => ∃ (y2 : Option V) (b : Nat), σ = [some (.ref l), some (.int (b : Nat)), y2] ∧ H' = H ∧ TopAt (layR r) i b)
    ⟨none, 0, rfl, rfl, hpos, fun _ => rfl, fun z => absurd z (by decide), fun j hj => absurd hj (Nat.not_lt_zero j)⟩ (fun _ _ _ _ _ => trivial) ?_ ?_
  · rintro i x σ Ha Hb hi ⟨y2, b, rfl, rfl, tb⟩ ⟨rfl, rfl⟩
    have hi' : i < r.length := by omega
    have hi2 : i < (layR r).length := by rw [layR_len]; exact hi'
    have hb' : b < r.length := by have := tb.lt; rw [layR_len] at this; exact this
    obtain ⟨a1, f1, t1⟩ := lyr_at im hi'
    obtain ⟨a2, f2, t2⟩ := lyr_at im hb'
    refine ⟨_, _, .inl (.inl (.inl hl)), at_of (j := i) (by omega) f1, _, _, .inr t1.sq, at_of (j := 2) rfl rfl, _, _, .inl (.inl (.inl hl)), at_of (j := b) rfl f2, _, _, .inr t2.sq, at_of (j := 2) rfl rfl, iteD (fun h0 => ?_) fun h0 => ?_⟩
    · have h0 : stg (layR r) b ≤ stg (layR r) i := by rw [stg_lyr hb', stg_lyr hi']; exact h0
      exact ⟨some (.int (0 + (i : Int))), i, (show [some (V.ref l), some (V.int (0 + (i : Int))), some (V.int (0 + (i : Int)))] = [some (V.ref l), some (V.int (i : Nat)), some (V.int (0 + (i : Int)))] by rw [Int.zero_add]), rfl, tb.take hi2 h0⟩
    · have h0 : ¬ stg (layR r) b ≤ stg (layR r) i := by rw [stg_lyr hb', stg_lyr hi']; exact h0
      exact ⟨_, b, rfl, rfl, tb.keep hi2 h0⟩
  · rintro σ H' ⟨y2, b, rfl, rfl, tb⟩
    have en : (((ws.length : Nat) : Int)).toNat = (layR r).length := by rw [layR_len]; omega
    rw [en] at tb
    rw [tb.is] at q
    exact q
def spMd [Tb] (K : PySem.W.Frag) (R : List Ink → Pst → Hp → VK → Prop) : Sp := fun vs H Q _ => ∃ (b : MdAddr) (ks : List Ink) (s : Pst), vs = [.ref b.m] ∧ MdAt K H b ks s ∧ R ks s H Q
theorem ok_l_top (D : DefAt K mg "_law_top" s_l_top) (fr : Fr mg) (c_l_first : Cal P w K mg base 1 "_law_first" (spMFirst K)) : Cal P w K mg base 2 "_law_top" (spMd K fun ks s H Q => ∀ v H', Kp No H H' → Im K H' v (topDat ks (topOf s.rows)) → Q v H') := by
  refine cal_of D sc_l_top (fun _ _ _ _ _ _ us hl => match us, hl with | [_], _ => rfl) (fun vs H Q E h => by obtain ⟨b, ks, s, rfl, _⟩ := h; rfl) fun f cd A out s H vs Q E room gd h => ?_
  obtain ⟨a, ks, st, rfl, pa, q⟩ := h
  obtain ⟨ys, hy, imy⟩ := pa.inks
  have el : ys.length = ks.length := by rw [imy.length, List.length_map]
  refine ⟨_, (pss_cons (ys_set 1 sc_l_top.nd pe_non)
    (pss_cons (ys_set 2 sc_l_top.nd pe_int)
    (pss_cons (ps_for PassesOwn.never rfl (kiList (K := K) (by rfl) (ye_dg room (yv 0) pe_str)) (kgTup (K := K) (n := 2) (by rfl) rfl (yg_cons (yg_name 3 sc_l_top.nd) (yg_cons (yg_name 4 sc_l_top.nd) yg_nil))) (pss_cons (ys_set 5 sc_l_top.nd (ye_dg room (ye_dg room (yv 0) pe_str) (yv 3)))
    (pss_one (ps_if (PW.pt (pw_and (yt_cmp (kNe (K := K) (by rfl) room.units) (yv 5) (ye_lst pa_nil) (nomark _)) (pw_and1 (yt_cmp oGt (kIx (K := K) (by rfl) (kIx (K := K) (by rfl) (yv 5) (ye_call c_l_first room gd (by rfl) (pa_cons (yv 5) pa_nil))) pe_int) (yv 2) (nomark _))))) (pss_cons (ys_set 1 sc_l_top.nd (ye_tup (pa_cons (yv 3) (pa_cons (ye_call c_l_first room gd (by rfl) (pa_cons (yv 5) pa_nil)) pa_nil))))
    (pss_one (ys_set 2 sc_l_top.nd (kIx (K := K) (by rfl) (kIx (K := K) (by rfl) (yv 5) (kIx (K := K) (by rfl) (yv 1) pe_int)) pe_int)))) pss_nil))))
    (pss_one (ps_ret (yv 1)))))), ?_⟩
  refine ⟨_, _, pa.dct, val_inks a st, ⟨_, .inl (.inl hy)⟩, ?_⟩
  have wl : Walk (Itl K a.il) ks.length (fun H => SqL K H a.il ys) (YAt ys) := el ▸ walk_list
  refine for_it wl (fun i σ H' => ∃ v y3 y4 y5, σ = [some (.ref a.m), some v, some (.int (topTo st.rows i).2), y3, y4, y5] ∧ Kp No H H' ∧ Im K H' v (topDat ks (topTo st.rows i).1)) ⟨.non, none, none, none, rfl, Kp.refl _, .non⟩ (fun i σ H' _ ⟨_, _, _, _, _, k, _⟩ => .inl (.inl (k.all a.il _ hy id))) ?_ ?_
  · rintro i x σ Ha Hb hi ⟨v, y3, y4, y5, rfl, ka, im⟩ ⟨rfl, hx⟩
    obtain ⟨b, g1, tb⟩ := ink_at (ImAll.up ka _ _ imy) hi
    obtain rfl : V.ref b = x := Option.some.inj (g1.symm.trans hx)
    have pb := pa.up0 ka
    obtain ⟨l, r, ws, e1, e2, e3, e4, e5, e6, e7, e8⟩ := pb.at_ hi
    have es := topTo_succ (rows := st.rows) e2
    refine ⟨_, tb.sq, rfl, _, _, pb.dct, val_rows a st, _, _, pb.rd, e3, fun u0 hu0 => ?_⟩
    have k0 : Kp No Hb (upd Hb u0 (.lst [])) := Kp.new hu0
    have e40 := k0.all l _ e4 id
    have e50 := ImAll.up k0 _ _ e5
    refine ⟨_, _, .lst (.inl (.inl e40)) (ImAll.dp _ _ e50), .lst (.inl (.inl upd_same)) .nil, lyrs_shaped e7, by decide, ?_⟩
    by_cases hr : r = []
    · have e9 : topTo st.rows (i + 1) = topTo st.rows i := by
        rw [es]
        unfold topStep
        rw [if_neg fun z => z.1 hr]
      rw [e9]
      exact iteNb (by rw [eqv_nilL, hr]; rfl) ⟨v, _, _, _, rfl, ka.trans k0, Im.up k0 _ _ im⟩
    · have hne : layR r ≠ [] := fun z => hr (layR_nil.mp z)
      have hlt := topN_lt hne
      rw [layR_len] at hlt
      have e10 : stg (layR r) (topN (layR r)) = r[topN (layR r)].2.2 := stg_lyr hlt
      obtain ⟨b2, f1, t2⟩ := lyr_at e50 hlt
      refine iteN0 (by rw [eqv_nilL, List.isEmpty_map]; cases r with | nil => exact absurd rfl hr | cons a b => rfl) ?_
      refine ⟨l, ws, r, rfl, e40, e50, hr, e6, _, .ref b2, .inl (.inl (.inl e40)), at_of (j := topN (layR r)) rfl f1, _, _, .inr t2.sq, at_of (j := 2) rfl rfl, iteD (fun hb => ?_) fun hb => ?_⟩
      · refine ⟨l, ws, r, rfl, e40, e50, hr, e6, fun u hu => ?_⟩
        have ku : Kp No _ (upd (upd Hb u0 (.lst [])) u (.tup [.str ks[i].1, .int (topN (layR r) : Nat)])) := Kp.new hu
        have e9 : topTo st.rows (i + 1) = (some (i, topN (layR r)), r[topN (layR r)].2.2) := by
          rw [es]
          unfold topStep
          rw [e10, if_pos ⟨hr, hb⟩]
        refine ⟨_, _, .inr (.inl (.inl upd_same)), at_of (j := 1) rfl rfl, _, .ref b2, .inl (.inl (.inl (ku.all l _ e40 id))), at_of (j := topN (layR r)) rfl f1, _, _, .inr (t2.up ku).sq, at_of (j := 2) rfl rfl, ?_⟩
        rw [e9]
        refine ⟨.ref u, _, _, _, rfl, (ka.trans k0).trans ku, ?_⟩
        have eg : (ks.getD i (default, 0)).1 = ks[i].1 := by rw [List.getD_eq_getElem?_getD, List.getElem?_eq_getElem hi]; rfl
        show Im K _ (.ref u) (.tuple [.str (ks.getD i (default, 0)).1, .int ((topN (layR r) : Nat) : Int)])
        rw [eg]
        exact Im.mk upd_same (.cons (.str _) (.cons (.int _) .nil))
      · have e9 : topTo st.rows (i + 1) = topTo st.rows i := by
          rw [es]
          unfold topStep
          rw [e10, if_neg fun z => hb z.2]
        rw [e9]
        exact ⟨v, _, _, _, rfl, ka.trans k0, Im.up k0 _ _ im⟩
  · rintro σ H' ⟨v, y3, y4, y5, rfl, ka, im⟩
    refine q v H' ka ?_
    unfold topOf
    rw [pa.rws]
    exact im
theorem mtop_at {ks : List Ink} {H : Hp} {a : MdAddr} {st : Pst} (pa : MdAt K H a ks st) {i n : Nat} (h : topOf st.rows = some (i, n)) : ∃ (hi : i < ks.length) (l : Addr) (r : List Lyr) (ws : List V) (b : Addr) (hn : n < r.length), (ks.getD i (default, 0)).1 = ks[i].1 ∧ (st.rows.getD i []).getD n (0, default, 0) = r[n] ∧ valV (layK ks a.ls) (.inr ks[i].1) = some (.ref l) ∧ H l = some (.lst ws) ∧ ws[n]? = some (.ref b) ∧ Tp K H b [.int r[n].1, .str r[n].2.1, .int r[n].2.2] := by
  obtain ⟨r, h1, h2, h3⟩ := topTo_in _ _ _ _ h
  rw [pa.rws] at h3
  obtain ⟨l, r', ws, e1, e2, e3, e4, e5, e6, e7, e8⟩ := pa.at_ h3
  obtain rfl : r = r' := Option.some.inj (h1.symm.trans e2)
  obtain ⟨b, g1, tb⟩ := lyr_at e5 h2
  refine ⟨h3, l, r, ws, b, h2, by rw [List.getD_eq_getElem?_getD, List.getElem?_eq_getElem h3]; rfl, ?_, e3, e4, g1, tb⟩
  rw [List.getD_eq_getElem?_getD (l := st.rows), e2]
  show r.getD n (0, default, 0) = r[n]
  rw [List.getD_eq_getElem?_getD, List.getElem?_eq_getElem h2]
  rfl
theorem ok_l_seen (D : DefAt K mg "_law_seen" s_l_seen) (fr : Fr mg) (c_l_top : Cal P w K mg base 2 "_law_top" (spMd K fun ks s H Q => ∀ v H', Kp No H H' → Im K H' v (topDat ks (topOf s.rows)) → Q v H')) : Cal P w K mg base 3 "_law_seen" (spMd K fun ks s H Q => ∀ t v H', Kp No H H' → H' t = some (.tup [v, seenM s.rows]) → Im K H' v (seenD ks s.rows) → Q (.ref t) H') := by
  refine cal_of D sc_l_seen (fun _ _ _ _ _ _ us hl => match us, hl with | [_], _ => rfl) (fun vs H Q E h => by obtain ⟨b, ks, s, rfl, _⟩ := h; rfl) fun f cd A out s H vs Q E room gd h => ?_
  obtain ⟨a, ks, st, rfl, pa, q⟩ := h
  refine ⟨_, (pss_cons (ys_set 1 sc_l_seen.nd (ye_call c_l_top room gd (by rfl) (pa_cons (yv 0) pa_nil)))
    (pss_cons (ps_if (yt_cmp oIs (yv 1) pe_non (nomark _)) (pss_one (ps_ret (ye_tup (pa_cons pe_non (pa_cons pe_non pa_nil))))) pss_nil)
    (pss_cons (ps_asg (kIx (K := K) (by rfl) (ye_dg room (ye_dg room (yv 0) pe_str) (kIx (K := K) (by rfl) (yv 1) pe_int)) (kIx (K := K) (by rfl) (yv 1) pe_int)) (kgTup (K := K) (n := 3) (by rfl) rfl (yg_cons (yg_name 2 sc_l_seen.nd) (yg_cons (yg_name 3 sc_l_seen.nd) (yg_cons (yg_name 4 sc_l_seen.nd) yg_nil)))))
    (pss_one (ps_ret (ye_tup (pa_cons (ye_tup (pa_cons (kIx (K := K) (by rfl) (yv 1) pe_int) (pa_cons (yv 3) (pa_cons (yv 4) pa_nil)))) (pa_cons (yv 2) pa_nil)))))))), a, ks, st, rfl, pa, fun v H1 k1 im => ?_⟩
  unfold seenD seenM at q
  cases ht : topOf st.rows with
  | none =>
    rw [ht] at im q
    obtain rfl := Im.noneInv im
    exact fun u hu => q u .non _ (k1.trans (Kp.new hu)) upd_same .non
  | some p =>
    obtain ⟨i, n⟩ := p
    rw [ht] at im q
    have pb := pa.up0 k1
    obtain ⟨hi, l, r, ws, b, hn, f1, f2, f3, f4, f5, f6⟩ := mtop_at pb ht
    have im : Im K H1 v (.tuple [.str (ks.getD i (default, 0)).1, .int (n : Int)]) := im
    rw [f1] at im
    obtain ⟨t, xs, rfl, h1, h2⟩ := id im.tupInv
    cases h2 with
    | cons z1 z2 =>
    cases z2 with
    | cons z2 z3 =>
    cases z3
    obtain rfl := z1.strInv
    obtain rfl := z2.intInv
    have q : ∀ t v H', Kp No H H' → H' t = some (.tup [v, .int ((st.rows.getD i []).getD n (0, default, 0)).1]) → Im K H' v (.tuple [.str (ks.getD i (default, 0)).1, .str ((st.rows.getD i []).getD n (0, default, 0)).2.1, .int ((st.rows.getD i []).getD n (0, default, 0)).2.2]) → Q (.ref t) H' := q
    rw [f1, f2] at q
    refine ⟨_, _, pb.dct, val_rows a st, _, _, .inr h1.sq, at_of (j := 0) rfl rfl, _, _, pb.rd, f3, _, _, .inr h1.sq, at_of (j := 1) rfl rfl, _, .ref b, .inl (.inl (.inl f4)), at_of (j := n) rfl f5, _, f6.sq, rfl, _, _, .inr h1.sq, at_of (j := 0) rfl rfl, fun u hu u2 hu2 => ?_⟩
    have ku : Kp No H1 (upd H1 u (.tup [.str ks[i].1, .str r[n].2.1, .int r[n].2.2])) := Kp.new hu
    have ku2 : Kp No _ (upd (upd H1 u (.tup [.str ks[i].1, .str r[n].2.1, .int r[n].2.2])) u2 (.tup [.ref u, .int r[n].1])) := Kp.new hu2
    exact q u2 (.ref u) _ ((k1.trans ku).trans ku2) upd_same (Im.up ku2 _ _ (Im.mk upd_same (.cons (.str _) (.cons (.str _) (.cons (.int _) .nil)))))

def spPalEq [Tb] (CPalette : Addr) : Sp := fun vs H Q _ => ∃ (x dx d x' dx' d' : Addr) (ks ks' : List Ink), vs = [.ref x, .ref x'] ∧ PalAt CPalette H x dx d ks ∧ PalAt CPalette H x' dx' d' ks' ∧ ∀ H', Kp No H H' → Q (.bl (decide (ks = ks'))) H'
theorem ok_Palette___eq__ (D : MetAt K CPalette "__eq__" "Palette.__eq__" s_Palette___eq__) (fr : Fr mg) (cf : Cf K mg CPalette CPlace) (m_Palette_inks : CalM P w K mg base 1 CPalette "inks" (spPalInks K CPalette)) : CalM P w K mg base 2 CPalette "__eq__" (spPalEq CPalette) := by
  refine calM_of D cf.cls_Palette sc_Palette___eq__ (fun _ _ _ _ _ _ us hl => match us, hl with | [_, _], _ => rfl) (fun vs H Q E h => by obtain ⟨x, dx, d, x', dx', d', ks, ks', rfl, _⟩ := h; rfl) fun f cd A out s H vs Q E room gd h => ?_
  obtain ⟨x, dx, d, x', dx', d', ks, ks', rfl, pa, pb, q⟩ := h
  refine ⟨_, (pss_one (ps_ret (ye_and (pe_callB (kIsC cf.is_Palette cf.cls_Palette (by rfl)) (by rfl) fr.isinstance_ (by decide +kernel) (pa_cons (yv 1) (pa_cons (ye_cls cf.mg_Palette (by rfl)) pa_nil))) (pe_one (pe_cmpR (kEq (K := K) (by rfl) room.units) (ye_meth0 m_Palette_inks room gd (yv 0)) (ye_meth0 m_Palette_inks room gd (yv 1)) (nomark _)))))), ?_⟩
  refine ⟨rfl, dx', _, pb.ins, dx, _, pa.ins, rfl, x, dx, d, ks, rfl, pa, fun l ys H1 k1 n1 h1 im1 => ?_⟩
  have pb1 := pb.up k1 id id
  refine ⟨dx', _, pb1.ins, rfl, x', dx', d', ks', rfl, pb1, fun l2 ys2 H2 k2 n2 h2 im2 => ?_⟩
  refine ⟨_, _, .lst (.inl (.inl (k2.all l _ h1 id))) (ImAll.dp _ _ (ImAll.up k2 _ _ im1)), .lst (.inl (.inl h2)) (ImAll.dp _ _ im2), inks_shaped pa.ok, inks_shaped pb.ok, ?_⟩
  rw [eqv_inks]
  exact q _ (k1.trans k2)

def spStands [Tb] (K : PySem.W.Frag) (CPalette CPlace : Addr) : Sp := fun vs H Q _ => ∃ (a : PlAddr) (b : MdAddr) (ks : List Ink) (s : Pst), vs = [.ref a.x, .ref b.m] ∧ PlAt K CPalette CPlace H a ks s ∧ MdAt K H b ks s ∧ TbOk H ∧ 0 ≤ s.wear ∧ s.wear ≤ 6 ∧ ∀ H', Kp No H H' → Q (.bl true) H'
theorem ok_l_stands (D : DefAt K mg "_law_stands" s_l_stands) (fr : Fr mg) (cf : Cf K mg CPalette CPlace) (m_Place_row : CalM P w K mg base 3 CPlace "row" (spInk K CPalette CPlace fun a ks s i H Q => ∀ v r H', s.rows[i]? = some r → Kp No H H' → Im K H' v (rowD (layR r)) → Q v H')) (m_Place_marks : CalM P w K mg base 3 CPlace "marks" (spInk K CPalette CPlace fun a ks s i H Q => ∀ l r H', s.rows[i]? = some r → Kp No H H' → H l = none → H' l = some (.lst ((r.map (·.1)).map V.int)) → Q (.ref l) H')) (m_Place_wear : CalM P w K mg base 1 CPlace "wear" (spSelf0 K CPalette CPlace fun _ _ s H Q => Q (.int s.wear) H)) (m_Place_seen : CalM P w K mg base 7 CPlace "seen" (spSelf0 K CPalette CPlace fun a ks s H Q => TbOk H ∧ ∀ v H', Kp No H H' → Im K H' v (seenD ks s.rows) → Q v H')) (m_Place_seen_mark : CalM P w K mg base 7 CPlace "seen_mark" (spSelf0 K CPalette CPlace fun a ks s H Q => TbOk H ∧ ∀ H', Kp No H H' → Q (seenM s.rows) H')) (c_l_seen : Cal P w K mg base 3 "_law_seen" (spMd K fun ks s H Q => ∀ t v H', Kp No H H' → H' t = some (.tup [v, seenM s.rows]) → Im K H' v (seenD ks s.rows) → Q (.ref t) H')) : Cal P w K mg base 8 "_law_stands" (spStands K CPalette CPlace) := by
  refine cal_of D sc_l_stands (fun _ _ _ _ _ _ us hl => match us, hl with | [_, _], _ => rfl) (fun vs H Q E h => by obtain ⟨a, b, ks, s, rfl, _⟩ := h; rfl) fun f cd A out s H vs Q E room gd h => ?_
  obtain ⟨a, b, ks, st, rfl, pa, md, hT, w0, w6, q⟩ := h
  obtain ⟨ys, hy, imy⟩ := md.inks
  have el : ys.length = ks.length := by rw [imy.length, List.length_map]
  refine ⟨_, (pss_cons (ps_for PassesOwn.never rfl (kiList (K := K) (by rfl) (ye_dg room (yv 1) pe_str)) (kgTup (K := K) (n := 2) (by rfl) rfl (yg_cons (yg_name 2 sc_l_stands.nd) (yg_cons (yg_name 3 sc_l_stands.nd) yg_nil))) (pss_cons (ps_par (i := 4) (j := 5) (by rfl) sc_l_stands.nd rfl rfl (by decide) rfl rfl (pa_cons (ye_meth m_Place_row room gd (yv 0) (pa_cons (yv 2) pa_nil)) (pa_cons (ye_meth m_Place_marks room gd (yv 0) (pa_cons (yv 2) pa_nil)) pa_nil)) (by rfl))
    (pss_cons (ys_set 6 sc_l_stands.nd (ye_dg room (ye_dg room (yv 1) pe_str) (yv 2)))
    (pss_cons (ps_if (yt_cmp (kNe (K := K) (by rfl) room.units) (pe_callB (kRepr (K := K) (by rfl) room.units gd) (by rfl) fr.repr_ (by decide +kernel) (pa_cons (yv 4) pa_nil)) (pe_callB (kRepr (K := K) (by rfl) room.units gd) (by rfl) fr.repr_ (by decide +kernel) (pa_cons (pe_callTy (kTuple (K := K) (by rfl)) (by rfl) fr.tuple_ (by decide +kernel) (pa_cons (pe_lc (own := [("_law_mark", 7), ("_law_tag", 8), ("_law_strength", 9)]) rfl sc_l_stands.nd (kiList (K := K) (by rfl) (yv 6)) (blkOk_by (own := [("_law_mark", 7), ("_law_tag", 8), ("_law_strength", 9)]) (N := n_l_stands) (sc := defScope s_l_stands) (by decide +kernel)) (fun _ _ _ _ _ => (kgTup (K := K) (n := 3) (by rfl) rfl (yg_cons (yg_name 7 sc_l_stands.nd) (yg_cons (yg_name 8 sc_l_stands.nd) (yg_cons (yg_name 9 sc_l_stands.nd) yg_nil))))) (fun _ _ _ _ _ => pts_nil) (fun _ _ _ _ _ => (ye_tup (pa_cons (yv 8) (pa_cons (yv 9) pa_nil))))) pa_nil)) pa_nil)) (nomark _)) (pss_one (ps_ret pe_bl)) pss_nil)
    (pss_cons (ps_if (yt_cmp (kNe (K := K) (by rfl) room.units) (pe_callB (kRepr (K := K) (by rfl) room.units gd) (by rfl) fr.repr_ (by decide +kernel) (pa_cons (yv 5) pa_nil)) (pe_callB (kRepr (K := K) (by rfl) room.units gd) (by rfl) fr.repr_ (by decide +kernel) (pa_cons (pe_lc (own := [("_law_mark", 7), ("_law_tag", 8), ("_law_strength", 9)]) rfl sc_l_stands.nd (kiList (K := K) (by rfl) (yv 6)) (blkOk_by (own := [("_law_mark", 7), ("_law_tag", 8), ("_law_strength", 9)]) (N := n_l_stands) (sc := defScope s_l_stands) (by decide +kernel)) (fun _ _ _ _ _ => (kgTup (K := K) (n := 3) (by rfl) rfl (yg_cons (yg_name 7 sc_l_stands.nd) (yg_cons (yg_name 8 sc_l_stands.nd) (yg_cons (yg_name 9 sc_l_stands.nd) yg_nil))))) (fun _ _ _ _ _ => pts_nil) (fun _ _ _ _ _ => (yv 7))) pa_nil)) (nomark _)) (pss_one (ps_ret pe_bl)) pss_nil)
    (pss_one (ps_expr (ye_append (pe_bm PySem.F.plainAttrs_list PySem.F.slot_list_append PySem.F.type_list_append mt_append (PE.cl (yv 5)) (pa_cons (PE.cl (yv 5)) pa_nil))))))))))
    (pss_cons (ps_asg (ye_call c_l_seen room gd (by rfl) (pa_cons (yv 1) pa_nil)) (kgTup (K := K) (n := 2) (by rfl) rfl (yg_cons (yg_name 10 sc_l_stands.nd) (yg_cons (yg_name 7 sc_l_stands.nd) yg_nil))))
    (pss_one (ps_ret (pe_cmpR (kEq (K := K) (by rfl) room.units) (pe_callB (kRepr (K := K) (by rfl) room.units gd) (by rfl) fr.repr_ (by decide +kernel) (pa_cons (ye_lst (pa_cons (ye_meth0 m_Place_wear room gd (yv 0)) (pa_cons (ye_meth0 m_Place_seen room gd (yv 0)) (pa_cons (ye_meth0 m_Place_seen_mark room gd (yv 0)) pa_nil)))) pa_nil)) (pe_callB (kRepr (K := K) (by rfl) room.units gd) (by rfl) fr.repr_ (by decide +kernel) (pa_cons (ye_lst (pa_cons (ye_dg room (yv 1) pe_str) (pa_cons (yv 10) (pa_cons (yv 7) pa_nil)))) pa_nil)) (nomark _)))))), ?_⟩
  refine ⟨_, _, md.dct, val_inks b st, ⟨_, .inl (.inl hy)⟩, ?_⟩
  have wl : Walk (Itl K b.il) ks.length (fun H => SqL K H b.il ys) (YAt ys) := el ▸ walk_list
  refine for_it wl (fun i σ H' => ∃ y2 y3 y4 y5 y6 y7 y8 y9 y10, σ = [some (.ref a.x), some (.ref b.m), y2, y3, y4, y5, y6, y7, y8, y9, y10] ∧ Kp No H H') ⟨none, none, none, none, none, none, none, none, none, rfl, Kp.refl _⟩ (fun i σ H' _ ⟨_, _, _, _, _, _, _, _, _, _, k⟩ => .inl (.inl (k.all b.il _ hy id))) ?_ ?_
  · rintro i x σ Ha Hb hi ⟨y2, y3, y4, y5, y6, y7, y8, y9, y10, rfl, ka⟩ ⟨rfl, hx⟩
    obtain ⟨c, g1, tc⟩ := ink_at (ImAll.up ka _ _ imy) hi
    obtain rfl : V.ref c = x := Option.some.inj (g1.symm.trans hx)
    have pb := pa.up0 ka
    have mb := md.up0 ka
    obtain ⟨l, r, ws, e1, e2, e3, e4, e5, e6, e7, e8⟩ := mb.at_ hi
    refine ⟨_, tc.sq, rfl, a.dx, _, pb.ins, rfl, a, ks, st, i, _, rfl, pb, ⟨hi, rfl⟩, fun v r1 H1 er1 k1 im1 => ?_⟩
    obtain rfl : r = r1 := Option.some.inj (e2.symm.trans er1)
    have pc := pb.up0 k1
    refine ⟨a.dx, _, pc.ins, rfl, a, ks, st, i, _, rfl, pc, ⟨hi, rfl⟩, fun lm r2 H2 er2 k2 nlm hlm => ⟨_, _, rfl, ?_⟩⟩
    obtain rfl : r = r2 := Option.some.inj (e2.symm.trans er2)
    have k12 := k1.trans k2
    have mc := mb.up0 k12
    have okl : ∀ z ∈ layR r, LayOk z := fun z hz => by
      obtain ⟨y, hy, rfl⟩ := List.mem_map.mp hz
      exact (e7 y hy).lay
    have sh1 := rowD_sh okl (by rw [layR_len]; exact e6)
    have e4c := k12.all l _ e4 id
    refine ⟨_, _, mc.dct, val_rows b st, _, _, mc.rd, e3, _, Im.dp _ _ (Im.up k2 _ _ im1), sh1, ⟨_, .inl (.inl e4c)⟩, fun D1 hD1 => ?_⟩
    refine lc_mapL (K := K) lyrD layD (fun l : Lyr => some l.2) r hD1 (.inl (.inl e4c)) (ImAll.up k12 _ _ e5) (by omega) (fun x y Hc k kn hl im kc hk hkn => ?_) (fun zs H3 h3 k3 im3 => ?_)
    · obtain ⟨b1, rfl, tb⟩ := im.lyrInv
      exact ⟨_, tb.sq, rfl, rfl, fun u hu => hk _ y.2 _ rfl (Kp.new hu) (Im.layMk upd_same)⟩
    rw [List.filterMap_eq_map' (f := fun l : Lyr => l.2)] at im3
    refine ⟨_, .inl ⟨.inl (.inl h3), fun u hu => ?_⟩⟩
    have ku : Kp No H3 (upd H3 u (.tup zs)) := Kp.new hu
    refine ⟨_, .tup (.inl (.inl upd_same)) (ImAll.dp _ _ (ImAll.up ku _ _ im3)), sh1, iteNS rfl ?_⟩
    have k3u := k3.trans ku
    have hlm3 := k3u.all lm _ hlm id
    have okm : ∀ i ∈ r.map (·.1), 0 ≤ i ∧ i < 10 ^ 400 := fun i hi => by
      obtain ⟨y, hy, rfl⟩ := List.mem_map.mp hi
      exact ⟨(e7 y hy).lo, (e7 y hy).hi⟩
    have sh2 := ints_sh okm (by rw [List.length_map]; exact e6)
    refine ⟨_, intsL_dp hlm3, sh2, ⟨_, .inl (.inl (k3u.all l _ e4c id))⟩, fun D2 hD2 => ?_⟩
    refine lc_mapL (K := K) lyrD PyData.int (fun l : Lyr => some l.1) r hD2 (.inl (.inl (k3u.all l _ e4c id))) (ImAll.up (k12.trans k3u) _ _ e5) (by omega) (fun x y Hc k kn hl im kc hk hkn => ?_) (fun zs2 H4 h4 k4 im4 => ?_)
    · obtain ⟨b1, rfl, tb⟩ := im.lyrInv
      exact ⟨_, tb.sq, rfl, rfl, hk _ y.1 _ rfl (Kp.refl _) (.int _)⟩
    rw [List.filterMap_eq_map' (f := fun l : Lyr => l.1)] at im4
    have e9 := ImAll.ints im4
    subst e9
    refine ⟨_, intsL_dp h4, sh2, iteNS rfl ?_⟩
    have hlm4 := k4.all lm _ hlm3 id
    refine ⟨⟨_, hlm4⟩, _, hlm4, by rw [List.length_map, List.length_map]; exact Nat.lt_of_le_of_lt e6 (by decide), ?_⟩
    have kH4 : Kp No H H4 := (ka.trans k12).trans (k3u.trans k4)
    exact ⟨_, _, _, _, _, _, _, _, _, rfl, kH4.put ((ka.trans k1).dom lm nlm) hlm4⟩
  · rintro σ H' ⟨y2, y3, y4, y5, y6, y7, y8, y9, y10, rfl, ka⟩
    have md1 := md.up0 ka
    refine ⟨b, ks, st, rfl, md1, fun t v H1 k1 ht im1 => ⟨_, .inl (.inl ht), rfl, ?_⟩⟩
    have k01 := ka.trans k1
    have pb := pa.up0 k01
    refine ⟨a.dx, _, pb.ins, rfl, a, ks, st, rfl, pb, a.dx, _, pb.ins, rfl, a, ks, st, rfl, pb, k01.tab hT, fun v2 H2 k2 im2 => ?_⟩
    have pc := pb.up0 k2
    refine ⟨a.dx, _, pc.ins, rfl, a, ks, st, rfl, pc, (k01.trans k2).tab hT, fun H3 k3 u hu => ?_⟩
    have ku : Kp No H3 (upd H3 u (.lst [.int st.wear, v2, seenM st.rows])) := Kp.new hu
    have sh := fin_sh w0 w6 pa.pal.ok pa.rws pa.ok
    refine ⟨finD st.wear ks st.rows, .lst (.inl (.inl upd_same)) (.cons (.int _) (.cons (Im.dp _ _ (Im.up (k3.trans ku) _ _ im2)) (.cons (Im.dp _ _ (seenM_im _)) .nil))), sh, ?_⟩
    have k13 := (k2.trans k3).trans ku
    have md2 := md1.up0 (k1.trans k13)
    refine ⟨_, _, md2.dct, val_wear b st, fun u2 hu2 => ?_⟩
    have ku2 : Kp No _ (upd (upd H3 u (.lst [.int st.wear, v2, seenM st.rows])) u2 (.lst [.int st.wear, v, seenM st.rows])) := Kp.new hu2
    refine ⟨finD st.wear ks st.rows, .lst (.inl (.inl upd_same)) (.cons (.int _) (.cons (Im.dp _ _ (Im.up (k13.trans ku2) _ _ im1)) (.cons (Im.dp _ _ (seenM_im _)) .nil))), sh, ?_⟩
    exact yEq_str (K := K) (q _ (k01.trans (k13.trans ku2)))

--SPLIT
theorem ok_Worn___init__ (D : ExAt K mg "Worn" (gx K "Worn") "Worn.__init__" s_Worn___init__ [.int 0]) (fr : Fr mg) (xs : Xs K mg) : CalE P w K mg base 1 "Worn" (gx K "Worn") "at" := by
  refine calE_of D baseR xs.ox_Worn sc_Worn___init__ rfl (fun g fd F => ?_) fun f cd A out s H vs Q E room gd h => ?_
  · obtain ⟨ds, v, b⟩ := F.binds1 (ps := ["self", "at"]) 2 1 (by simp) rfl (fun T kV doc pm an cdv ct us its l1 l2 => match us, its, l1, l2 with | [_, _], [_], _, _ => ⟨_, rfl, rfl⟩)
    cases v
    exact b
  · obtain ⟨a, v, rfl, ha, q⟩ := h
    exact ⟨_, pss_one (ys_ost baseR xs.ox_Worn xs.na_Worn_at (yv 0) (yv 1)), ha, q⟩
omit [Tb] in
theorem im_erase {H : Hp} {ws : List V} {r : List Lyr} {j : Nat} (im : ImAll K H ws (r.map lyrD)) : ImAll K H (ws.eraseIdx j) ((r.take j ++ r.drop (j + 1)).map lyrD) := by
  rw [List.eraseIdx_eq_take_drop_succ, List.map_append, List.map_take, List.map_drop]
  exact ImAll.app (ImAll.take j im) (ImAll.drop (j + 1) im)
omit [Tb] in
theorem im_ins {H : Hp} {ws : List V} {r : List Lyr} {j : Nat} {u : V} {l : Lyr} (im : ImAll K H ws (r.map lyrD)) (hj : j < ws.length) (hu : Im K H u (lyrD l)) : ImAll K H ((ws.eraseIdx j).take j ++ [u] ++ (ws.eraseIdx j).drop j) ((r.take j ++ (l :: r.drop (j + 1))).map lyrD) := by
  have t1 : (ws.eraseIdx j).take j = ws.take j := by rw [List.eraseIdx_eq_take_drop_succ]; exact List.take_left' (by rw [List.length_take]; omega)
  have t2 : (ws.eraseIdx j).drop j = ws.drop (j + 1) := by rw [List.eraseIdx_eq_take_drop_succ]; exact List.drop_left' (by rw [List.length_take]; omega)
  rw [t1, t2, List.append_assoc, List.map_append, List.map_take, List.map_cons, List.map_drop]
  exact ImAll.app (ImAll.take j im) (.cons hu (ImAll.drop (j + 1) im))
def Wrn [Tb] (K : PySem.W.Frag) (CPalette CPlace : Addr) (a : PlAddr) (ks : List Ink) (s : Pst) (n : Int) (H : Hp) (Q : VK) (E : XK) : Prop :=
  (isWorn s = false → ∀ H', Kp (Ft a) H H' → PlAt K CPalette CPlace H' a ks (wornS s n) → Q .non H') ∧
  (isWorn s = true → ∀ dd H', Kp No H H' → H' dd = some (.xd [("at", .int 0)]) → E (.ref (gx K "Worn")) (some dd) H')
def spWearOff [Tb] (K : PySem.W.Frag) (CPalette CPlace : Addr) : Sp := fun vs H Q E => ∃ (a : PlAddr) (ks : List Ink) (s : Pst) (n : Int) (v : V), vs = [.ref a.x, v] ∧ PlAt K CPalette CPlace H a ks s ∧ TbOk H ∧ ((v = .non ∧ n = 0) ∨ (v = .int n ∧ 0 < n)) ∧ Wrn K CPalette CPlace a ks s n H Q E
theorem ok_Place_wear_off (D : MetAt K CPlace "wear_off" "Place.wear_off" s_Place_wear_off) (fr : Fr mg) (cf : Cf K mg CPalette CPlace) (xs : Xs K mg) (e_Worn : CalE P w K mg base 1 "Worn" (gx K "Worn") "at") (m_Place_top : CalM P w K mg base 6 CPlace "top" (spSelf0 K CPalette CPlace fun a ks s H Q => TbOk H ∧ ∀ v H', Kp No H H' → Im K H' v (topDat ks (topOf s.rows)) → Q v H')) : CalMX P w K mg base 7 CPlace "wear_off" (spWearOff K CPalette CPlace) := by
  refine calMX_of D cf.cls_Place sc_Place_wear_off (fun _ _ _ _ _ _ us hl => match us, hl with | [_, _], _ => rfl) (fun vs H Q E h => by obtain ⟨a, ks, s, n, v, rfl, _⟩ := h; rfl) fun f cd A out s H vs Q E room gd tk h => ?_
  obtain ⟨a, ks, st, n, nv, rfl, pa, hT, hn, q1, q2⟩ := h
  refine ⟨_, (pss_cons (ys_set 2 sc_Place_wear_off.nd (ye_meth0 m_Place_top room gd (yv 0)))
    (pss_one (ps_if (yt_cmp oIsNot (yv 2) pe_non (nomark _)) (pss_cons (ps_if (yt_cmp (kEq (K := K) (by rfl) room.units) (ye_fld cf.cls_Place cf.na_Place_wear_left (yv 0)) pe_int (nomark _)) (pss_one (ps_raise rfl tk (pmkE e_Worn room gd (by rfl) (pa_cons pe_int pa_nil)))) pss_nil)
    (pss_cons (ps_asg (yv 2) (kgTup (K := K) (n := 2) (by rfl) rfl (yg_cons (yg_name 3 sc_Place_wear_off.nd) (yg_cons (yg_name 4 sc_Place_wear_off.nd) yg_nil))))
    (pss_cons (ps_asg (ye_popAt (pe_bm PySem.F.plainAttrs_list PySem.F.slot_list_pop PySem.F.type_list_pop mt_popAt (PE.cl (ye_dg room (ye_fld cf.cls_Place cf.na_Place_layers (yv 0)) (yv 3))) (pa_cons (PE.cl (yv 4)) pa_nil))) (kgTup (K := K) (n := 3) (by rfl) rfl (yg_cons (yg_name 5 sc_Place_wear_off.nd) (yg_cons (yg_name 6 sc_Place_wear_off.nd) (yg_cons (yg_name 7 sc_Place_wear_off.nd) yg_nil)))))
    (pss_cons (ps_if (PW.pt (pw_and (yt_cmp oIsNot (yv 1) pe_non (nomark _)) (pw_and1 (yt_cmp oGt (yv 7) (yv 1) (nomark _))))) (pss_one (ps_expr (ye_insert (pe_bm PySem.F.plainAttrs_list PySem.F.slot_list_insert PySem.F.type_list_insert mt_insert (PE.cl (ye_dg room (ye_fld cf.cls_Place cf.na_Place_layers (yv 0)) (yv 3))) (pa_cons (PE.cl (yv 4)) (pa_cons (PE.cl (ye_tup (pa_cons (yv 5) (pa_cons (yv 6) (pa_cons (pe_op oSub (yv 7) (yv 1)) pa_nil))))) pa_nil)))))) pss_nil)
    (pss_one (ys_faug cf.cls_Place cf.na_Place_wear_left (yv 0) pe_int in_sub)))))) pss_nil))), a.dx, _, pa.ins, rfl, a, ks, st, rfl, pa, hT, fun v H1 k1 im => ?_⟩
  have pb := pa.up0 k1
  unfold isWorn wornS at q1
  unfold isWorn at q2
  cases ht : topOf st.rows with
  | none =>
    rw [ht] at im q1 q2
    obtain rfl := Im.noneInv im
    exact q1 rfl _ k1.no pb
  | some p =>
    obtain ⟨i, j⟩ := p
    rw [ht] at im q1 q2
    obtain ⟨hi, l, r, ws, b, hj, f1, f2, f3, f4, f5, f6⟩ := top_at pb ht
    have im : Im K H1 v (.tuple [.str (ks.getD i (default, 0)).1, .int (j : Int)]) := im
    rw [f1] at im
    obtain ⟨t, xs, rfl, h1, h2⟩ := id im.tupInv
    cases h2 with
    | cons z1 z2 =>
    cases z2 with
    | cons z2 z3 =>
    cases z3
    obtain rfl := z1.strInv
    obtain rfl := z2.intInv
    refine ⟨a.dx, _, _, pb.ins, rfl, iteD (fun c => ?_) fun c => ?_⟩
    · intro dd hdd
      exact q2 (by rw [c]; rfl) dd _ (k1.trans (Kp.new hdd)) upd_same
    · have q1 : ∀ H', Kp (Ft a) H H' → PlAt K CPalette CPlace H' a ks (if st.wear = 0 then st else ⟨st.wear - 1, st.rows.set i (wornR (st.rows.getD i []) j n), st.next⟩) → Q .non H' := q1 (by show (true && decide (st.wear = 0)) = false; rw [decide_eq_false c]; rfl)
      rw [if_neg c] at q1
      obtain ⟨l2, r2, ws2, e1, e2, e3, e4, e5, e6, e7, e8⟩ := pb.at_ hi
      obtain rfl : l2 = l := by have := e3.symm.trans f3; cases this; rfl
      obtain rfl : ws2 = ws := by have := e4.symm.trans f4; cases this; rfl
      have er : st.rows.getD i [] = r2 := by rw [List.getD_eq_getElem?_getD, e2]; rfl
      rw [er] at q1
      have hj2 : j < r2.length := by
        rw [← e8]
        exact (List.getElem?_eq_some_iff.mp f5).1
      have hjr : r2[j]? = some r[j] := by
        rw [er] at f2
        rw [List.getElem?_eq_getElem hj2, ← f2, List.getD_eq_getElem?_getD, List.getElem?_eq_getElem hj2]
        rfl
      have ml : l2 ∈ a.ls := List.mem_of_getElem? e1
      obtain ⟨nlx, nld⟩ := pb.ne_l ml
      have k2 : Kp (At l2) H1 (upd H1 l2 (.lst (ws2.eraseIdx j))) := Kp.set rfl f4
      have tb2 := f6.up k2
      have hins := k2.all a.x _ pb.ins fun e => nlx e.symm
      have hdct := k2.all a.d _ pb.dct fun e => nld e.symm
      refine ⟨_, h1.sq, rfl, a.dx, _, _, pb.ins, rfl, _, _, pb.dct, f3, ⟨_, f4⟩, _, f4, by omega, by omega, .ref b, f5, _, tb2.sq, rfl, ?_⟩
      have fin : ∀ (vs : List V) (H2 : Hp), H2 l2 = some (.lst vs) → Kp (At l2) H1 H2 → ImAll K H2 vs ((wornR r2 j n).map lyrD) → Q .non (upd H2 a.x (.ins CPlace a.dx [("own_palette", .ref a.pl), ("wear_left", .int (st.wear - 1)), ("layers", .ref a.d), ("next_mark", .int st.next)])) := fun vs H2 g1 kk im2 => by
        have k3 : Kp (At a.x) H2 (upd H2 a.x (.ins CPlace a.dx [("own_palette", .ref a.pl), ("wear_left", .int (st.wear - 1)), ("layers", .ref a.d), ("next_mark", .int st.next)])) := Kp.set rfl (kk.all a.x _ pb.ins fun e => nlx e.symm)
        obtain ⟨pc, kc⟩ := pb.rewrote hi e1 ((kk.mono fun _ z => .inl z).trans (k3.mono fun _ z => .inr z)) (k3.all l2 _ g1 nlx) upd_same (ImAll.up k3 _ _ im2) (Nat.le_trans (wornR_len _ _ _) e6) (wornR_ok e7)
        exact q1 _ (k1.no.trans kc) pc
      have imE : ImAll K (upd H1 l2 (.lst (ws2.eraseIdx j))) (ws2.eraseIdx j) ((r2.take j ++ r2.drop (j + 1)).map lyrD) := im_erase (ImAll.up k2 _ _ e5)
      rcases hn with ⟨rfl, rfl⟩ | ⟨rfl, n0⟩
      · have w0 := wornR_out hjr (n := 0) (fun z => absurd z.1 (by decide))
        exact ⟨a.dx, _, _, hins, rfl, a.dx, _, hins, by show 4 < 1000; decide, fin _ _ upd_same k2 (by rw [w0]; exact imE)⟩
      · refine iteD (fun c2 => ?_) fun c2 => ?_
        · refine ⟨a.dx, _, _, hins, rfl, _, _, hdct, f3, ⟨_, upd_same⟩, fun u hu => ?_⟩
          have ku : Kp No (upd H1 l2 (.lst (ws2.eraseIdx j))) (upd (upd H1 l2 (.lst (ws2.eraseIdx j))) u (.tup [.int r[j].1, .str r[j].2.1, .int (r[j].2.2 - n)])) := Kp.new hu
          have g1 := ku.all l2 _ upd_same id
          have k4 : Kp (At l2) (upd (upd H1 l2 (.lst (ws2.eraseIdx j))) u (.tup [.int r[j].1, .str r[j].2.1, .int (r[j].2.2 - n)])) (upd (upd (upd H1 l2 (.lst (ws2.eraseIdx j))) u (.tup [.int r[j].1, .str r[j].2.1, .int (r[j].2.2 - n)])) l2 (.lst ((ws2.eraseIdx j).take j ++ [.ref u] ++ (ws2.eraseIdx j).drop j))) := Kp.set rfl g1
          have kk := k2.trans (ku.no.trans k4)
          have hins2 := kk.all a.x _ pb.ins fun e => nlx e.symm
          have w1 := wornR_in hjr n0 c2
          have hjw : j < ws2.length := by omega
          refine ⟨_, g1, ?_, by omega, by omega, a.dx, _, _, hins2, rfl, a.dx, _, hins2, by show 4 < 1000; decide, fin _ _ upd_same kk ?_⟩
          · have := List.length_eraseIdx_le ws2 j
            exact Nat.lt_of_le_of_lt (show (ws2.eraseIdx j).length ≤ 1000 by omega) (by decide)
          · rw [w1]
            exact im_ins (ImAll.up kk _ _ e5) hjw (Im.mk (k4.tup _ _ upd_same) (.cons (.int _) (.cons (.str _) (.cons (.int _) .nil))))
        · have w0 := wornR_out hjr (n := n) (fun z => c2 z.2)
          exact ⟨a.dx, _, _, hins, rfl, a.dx, _, hins, by show 4 < 1000; decide, fin _ _ upd_same k2 (by rw [w0]; exact imE)⟩
def spScrape [Tb] (K : PySem.W.Frag) (CPalette CPlace : Addr) : Sp := fun vs H Q E => ∃ (a : PlAddr) (ks : List Ink) (s : Pst), vs = [.ref a.x] ∧ PlAt K CPalette CPlace H a ks s ∧ TbOk H ∧ Wrn K CPalette CPlace a ks s 0 H Q E
def spRub [Tb] (K : PySem.W.Frag) (CPalette CPlace : Addr) : Sp := fun vs H Q E => ∃ (a : PlAddr) (ks : List Ink) (s : Pst) (n : Int), vs = [.ref a.x, .int n] ∧ PlAt K CPalette CPlace H a ks s ∧ TbOk H ∧ 0 < n ∧ Wrn K CPalette CPlace a ks s n H Q E
theorem ok_Place_scrape (D : MetAt K CPlace "scrape" "Place.scrape" s_Place_scrape) (fr : Fr mg) (cf : Cf K mg CPalette CPlace) (m_Place_wear_off : CalMX P w K mg base 7 CPlace "wear_off" (spWearOff K CPalette CPlace)) : CalMX P w K mg base 8 CPlace "scrape" (spScrape K CPalette CPlace) := by
  refine calMX_of D cf.cls_Place sc_Place_scrape (fun _ _ _ _ _ _ us hl => match us, hl with | [_], _ => rfl) (fun vs H Q E h => by obtain ⟨a, ks, s, rfl, _⟩ := h; rfl) fun f cd A out s H vs Q E room gd tk h => ?_
  obtain ⟨a, ks, st, rfl, pa, hT, q⟩ := h
  exact ⟨_, (pss_one (ps_expr (ye_methX tk m_Place_wear_off room gd (yv 0) (pa_cons pe_non pa_nil)))), a.dx, _, pa.ins, rfl, a, ks, st, 0, .non, rfl, pa, hT, .inl ⟨rfl, rfl⟩, q⟩

--SPLIT
theorem cut_drop {xs : List V} {m : Int} (h : 0 ≤ m) : cutV xs (some m) none = xs.drop m.toNat := by
  obtain ⟨n, rfl⟩ : ∃ n : Nat, m = n := ⟨m.toNat, by omega⟩
  unfold cutV
  rw [show HT.sIx xs.length xs.length none = xs.length from rfl, HT.sIx_nat, Int.toNat_natCast]
  by_cases hn : n ≤ xs.length
  · rw [Nat.min_eq_left hn]
    exact List.take_of_length_le (by rw [List.length_drop]; omega)
  · rw [Nat.min_eq_right (by omega), List.drop_length, List.take_nil, List.drop_of_length_le (by omega)]
theorem small_of {n : Nat} (h : n ≤ 3000) : n ≤ sizeLine := Nat.le_trans h (by decide)
omit [Tb] in
theorem im_to {H : Hp} {ws : List V} {ds : List PyData} {i j : Nat} (e : i = j) (im : ImAll K H ws ds) : ImAll K H (ws.take i) (ds.take j) := e ▸ ImAll.take i im
omit [Tb] in
theorem im_from {H : Hp} {ws : List V} {ds : List PyData} {i j : Nat} (e : i = j) (im : ImAll K H ws ds) : ImAll K H (ws.drop i) (ds.drop j) := e ▸ ImAll.drop i im
def spMWorn [Tb] (K : PySem.W.Frag) : Sp := fun vs H Q _ => ∃ (b : MdAddr) (ks : List Ink) (s : Pst) (n : Int), vs = [.ref b.m, .int n] ∧ MdAt K H b ks s ∧ (isWorn s = true → ∀ H', Kp No H H' → Q (.str "worn") H') ∧ (isWorn s = false → ∀ ms' H', Kp (Mt b) H H' → MdAt K H' (b.at_ ms') ks (wornS s n) → (∀ l ∈ ms', l ∈ b.ls ∨ H l = none) → Q (.str "told") H')
theorem ok_l_worn (D : DefAt K mg "_law_worn" s_l_worn) (fr : Fr mg) (c_l_top : Cal P w K mg base 2 "_law_top" (spMd K fun ks s H Q => ∀ v H', Kp No H H' → Im K H' v (topDat ks (topOf s.rows)) → Q v H')) : Cal P w K mg base 3 "_law_worn" (spMWorn K) := by
  refine cal_of D sc_l_worn (fun _ _ _ _ _ _ us hl => match us, hl with | [_, _], _ => rfl) (fun vs H Q E h => by obtain ⟨b, ks, s, n, rfl, _⟩ := h; rfl) fun f cd A out s H vs Q E room gd h => ?_
  obtain ⟨b, ks, st, n, rfl, pa, q2, q1⟩ := h
  refine ⟨_, (pss_cons (ys_set 2 sc_l_worn.nd (ye_call c_l_top room gd (by rfl) (pa_cons (yv 0) pa_nil)))
    (pss_cons (ps_if (yt_cmp oIs (yv 2) pe_non (nomark _)) (pss_one (ps_ret pe_str)) pss_nil)
    (pss_cons (ps_if (yt_cmp (kEq (K := K) (by rfl) room.units) (ye_dg room (yv 0) pe_str) pe_int (nomark _)) (pss_one (ps_ret pe_str)) pss_nil)
    (pss_cons (ps_asg (yv 2) (kgTup (K := K) (n := 2) (by rfl) rfl (yg_cons (yg_name 3 sc_l_worn.nd) (yg_cons (yg_name 4 sc_l_worn.nd) yg_nil))))
    (pss_cons (ys_set 5 sc_l_worn.nd (ye_dg room (ye_dg room (yv 0) pe_str) (yv 3)))
    (pss_cons (ps_asg (kIx (K := K) (by rfl) (yv 5) (yv 4)) (kgTup (K := K) (n := 3) (by rfl) rfl (yg_cons (yg_name 6 sc_l_worn.nd) (yg_cons (yg_name 7 sc_l_worn.nd) (yg_cons (yg_name 8 sc_l_worn.nd) yg_nil)))))
    (pss_cons (ys_set 9 sc_l_worn.nd (pe_ifExp (pt_chain oLt oLt pe_int (yv 1) (yv 8)) (ye_lst (pa_cons (ye_tup (pa_cons (yv 6) (pa_cons (yv 7) (pa_cons (pe_op oSub (yv 8) (yv 1)) pa_nil)))) pa_nil)) (ye_lst pa_nil)))
    (pss_cons (ys_dput room (ye_dg room (yv 0) pe_str) (yv 3) (pe_op (kAdd (K := K) (by rfl)) (pe_op (kAdd (K := K) (by rfl)) (kSl (K := K) (by rfl) (yv 5) po_none (yo_some (yv 4))) (yv 9)) (kSl (K := K) (by rfl) (yv 5) (yo_some (pe_op (kAdd (K := K) (by rfl)) (yv 4) pe_int)) po_none)))
    (pss_cons (ys_dput room (yv 0) pe_str (pe_op oSub (ye_dg room (yv 0) pe_str) pe_int))
    (pss_one (ps_ret pe_str))))))))))), b, ks, st, rfl, pa, fun v H1 k1 im => ?_⟩
  have pb := pa.up0 k1
  unfold isWorn wornS at q1
  unfold isWorn at q2
  cases ht : topOf st.rows with
  | none =>
    rw [ht] at im q1 q2
    obtain rfl := Im.noneInv im
    exact q1 rfl b.ls _ k1.no pb fun l hl => .inl hl
  | some p =>
    obtain ⟨i, j⟩ := p
    rw [ht] at im q1 q2
    obtain ⟨r, g1, hj, hi⟩ := topTo_in _ _ _ _ ht
    rw [pb.rws] at hi
    obtain ⟨l, r2, ws, e1, e2, e3, e4, e5, e6, e7, e8⟩ := pb.at_ hi
    obtain rfl : r2 = r := Option.some.inj (e2.symm.trans g1)
    have f1 : (ks.getD i (default, 0)).1 = ks[i].1 := by rw [List.getD_eq_getElem?_getD, List.getElem?_eq_getElem hi]; rfl
    have im : Im K H1 v (.tuple [.str (ks.getD i (default, 0)).1, .int (j : Int)]) := im
    rw [f1] at im
    obtain ⟨t, ts, rfl, h1, h2⟩ := id im.tupInv
    cases h2 with
    | cons z1 z2 =>
    cases z2 with
    | cons z2 z3 =>
    cases z3
    obtain rfl := z1.strInv
    obtain rfl := z2.intInv
    refine ⟨_, _, pb.dct, val_wear b st, iteD (fun c => ?_) fun c => ?_⟩
    · exact q2 (by rw [c]; rfl) _ k1
    · have q1 : ∀ ms' H', Kp (Mt b) H H' → MdAt K H' (b.at_ ms') ks (if st.wear = 0 then st else ⟨st.wear - 1, st.rows.set i (wornR (st.rows.getD i []) j n), st.next⟩) → (∀ l ∈ ms', l ∈ b.ls ∨ H l = none) → Q (.str "told") H' := q1 (by show (true && decide (st.wear = 0)) = false; rw [decide_eq_false c]; rfl)
      rw [if_neg c] at q1
      have er : st.rows.getD i [] = r2 := by rw [List.getD_eq_getElem?_getD, e2]; rfl
      rw [er] at q1
      have hjr : r2[j]? = some r2[j] := List.getElem?_eq_getElem hj
      obtain ⟨tb, g5, tb2⟩ := lyr_at e5 hj
      refine ⟨_, h1.sq, rfl, _, _, pb.dct, val_rows b st, _, _, pb.rd, e3, _, .ref tb, .inl (.inl (.inl e4)), at_of (j := j) rfl g5, _, tb2.sq, rfl, ?_⟩
      refine ⟨_, rfl, iteD (fun c1 => ⟨_, rfl, iteD (fun c2 => ?_) fun c2 => ?_⟩) fun c1 => ⟨false, rfl, ?_⟩⟩
      · intro u hu g hg0
        have ku : Kp No H1 (upd H1 u (.tup [.int r2[j].1, .str r2[j].2.1, .int (r2[j].2.2 - n)])) := Kp.new hu
        have kg : Kp No (upd H1 u (.tup [.int r2[j].1, .str r2[j].2.1, .int (r2[j].2.2 - n)])) (upd (upd H1 u (.tup [.int r2[j].1, .str r2[j].2.1, .int (r2[j].2.2 - n)])) g (.lst [.ref u])) := Kp.new hg0
        have imL : ImAll K (upd (upd H1 u (.tup [.int r2[j].1, .str r2[j].2.1, .int (r2[j].2.2 - n)])) g (.lst [.ref u])) [.ref u] ([(r2[j].1, (r2[j].2.1, r2[j].2.2 - n))].map lyrD) := .cons (Im.mk (kg.tup _ _ upd_same) (.cons (.int _) (.cons (.str _) (.cons (.int _) .nil)))) .nil
        have eL : wornR r2 j n = (r2.take j ++ [(r2[j].1, (r2[j].2.1, r2[j].2.2 - n))]) ++ r2.drop (j + 1) := by rw [wornR_in hjr c1 c2, List.append_assoc]; rfl
        have kL := ku.trans kg
        have hg : (upd (upd H1 u (.tup [.int r2[j].1, .str r2[j].2.1, .int (r2[j].2.2 - n)])) g (.lst [.ref u])) g = some (.lst [.ref u]) := upd_same
        generalize hH2 : upd (upd H1 u (.tup [.int r2[j].1, .str r2[j].2.1, .int (r2[j].2.2 - n)])) g (.lst [.ref u]) = H2 at *
        have lv : ([.ref u] : List V).length ≤ 1 := Nat.le_refl 1
        have e4b := kL.all l _ e4 id
        refine .inl ⟨ws, .inl (.inl e4b), fun p1 hp1 => ?_⟩
        rw [cut_take (Int.natCast_nonneg j)]
        have k3 : Kp No H2 (upd H2 p1 (.lst (ws.take (j : Int).toNat))) := Kp.new hp1
        refine .inl ⟨p1, g, _, ([.ref u] : List V), rfl, rfl, upd_same, k3.all g _ hg id, small_of (by rw [List.length_take]; omega), fun p2 hp2 => ?_⟩
        have k4 : Kp No (upd H2 p1 (.lst (ws.take (j : Int).toNat))) (upd (upd H2 p1 (.lst (ws.take (j : Int).toNat))) p2 (.lst (ws.take (j : Int).toNat ++ ([.ref u] : List V)))) := Kp.new hp2
        have k34 := k3.trans k4
        refine .inl ⟨ws, .inl (.inl (k34.all l _ e4b id)), fun p3 hp3 => ?_⟩
        rw [cut_drop (show (0 : Int) ≤ (j : Int) + 1 by omega)]
        have k5 : Kp No (upd (upd H2 p1 (.lst (ws.take (j : Int).toNat))) p2 (.lst (ws.take (j : Int).toNat ++ ([.ref u] : List V)))) (upd (upd (upd H2 p1 (.lst (ws.take (j : Int).toNat))) p2 (.lst (ws.take (j : Int).toNat ++ ([.ref u] : List V)))) p3 (.lst (ws.drop ((j : Int) + 1).toNat))) := Kp.new hp3
        have g2 := k5.all p2 _ upd_same id
        refine .inl ⟨p2, p3, _, _, rfl, rfl, g2, upd_same, small_of (by rw [List.length_append, List.length_take, List.length_drop]; omega), fun p4 hp4 => ?_⟩
        have k6 : Kp No (upd (upd (upd H2 p1 (.lst (ws.take (j : Int).toNat))) p2 (.lst (ws.take (j : Int).toNat ++ ([.ref u] : List V)))) p3 (.lst (ws.drop ((j : Int) + 1).toNat))) (upd (upd (upd (upd H2 p1 (.lst (ws.take (j : Int).toNat))) p2 (.lst (ws.take (j : Int).toNat ++ ([.ref u] : List V)))) p3 (.lst (ws.drop ((j : Int) + 1).toNat))) p4 (.lst ((ws.take (j : Int).toNat ++ ([.ref u] : List V)) ++ ws.drop ((j : Int) + 1).toNat))) := Kp.new hp4
        have kk := kL.trans (k34.trans (k5.trans k6))
        have pc := pb.up0 kk
        have t1 : (j : Int).toNat = j := Int.toNat_natCast j
        have t2 : ((j : Int) + 1).toNat = j + 1 := by omega
        have imW : ImAll K (upd (upd (upd (upd H2 p1 (.lst (ws.take (j : Int).toNat))) p2 (.lst (ws.take (j : Int).toNat ++ ([.ref u] : List V)))) p3 (.lst (ws.drop ((j : Int) + 1).toNat))) p4 (.lst ((ws.take (j : Int).toNat ++ ([.ref u] : List V)) ++ ws.drop ((j : Int) + 1).toNat))) ((ws.take (j : Int).toNat ++ ([.ref u] : List V)) ++ ws.drop ((j : Int) + 1).toNat) ((wornR r2 j n).map lyrD) := by
          have i1 := ImAll.up kk _ _ e5
          have i2 := ImAll.up (k34.trans (k5.trans k6)) _ _ imL
          rw [eL, List.map_append, List.map_append]
          refine ImAll.app (ImAll.app ?_ i2) ?_
          · rw [List.map_take]; exact im_to t1 i1
          · rw [List.map_drop]; exact im_from t2 i1
        obtain ⟨pd, kd⟩ := pb.swapped hi kk upd_same imW (Nat.le_trans (wornR_len _ _ _) e6) (wornR_ok e7)
        refine ⟨_, _, pc.dct, val_rows b st, _, pc.rd, ?_, ?_⟩
        · unfold layK
          rw [List.length_map, List.length_zip]
          have := pa.iok.len8
          omega
        rw [put_row pa.len pa.iok hi]
        refine ⟨_, _, pd.dct, val_wear _ _, _, pd.dct, by show 4 < 1000; decide, ?_⟩
        rw [put_wear]
        obtain ⟨pe, ke⟩ := pd.wearSet (st.wear - 1)
        refine q1 (b.ls.set i p4) _ ((k1.no.trans (kd.mono fun _ z => .inr z)).trans (ke.mono fun _ z => .inl z)) pe fun y hy => ?_
        rcases List.mem_or_eq_of_mem_set hy with z | z
        · exact .inl z
        · rw [z]; exact .inr (k1.dom p4 ((kL.trans (k34.trans k5)).dom p4 hp4))
      · intro g hg0
        have kL : Kp No H1 (upd H1 g (.lst [])) := Kp.new hg0
        have eL : wornR r2 j n = (r2.take j ++ []) ++ r2.drop (j + 1) := by rw [List.append_nil]; exact wornR_out hjr fun z => c2 z.2
        have imL : ImAll K (upd H1 g (.lst [])) [] (([] : List Lyr).map lyrD) := .nil
        have hg : (upd H1 g (.lst [])) g = some (.lst []) := upd_same
        have lv : ([] : List V).length ≤ 1 := Nat.zero_le 1
        generalize hH2 : upd H1 g (.lst []) = H2 at *
        have e4b := kL.all l _ e4 id
        refine .inl ⟨ws, .inl (.inl e4b), fun p1 hp1 => ?_⟩
        rw [cut_take (Int.natCast_nonneg j)]
        have k3 : Kp No H2 (upd H2 p1 (.lst (ws.take (j : Int).toNat))) := Kp.new hp1
        refine .inl ⟨p1, g, _, ([] : List V), rfl, rfl, upd_same, k3.all g _ hg id, small_of (by rw [List.length_take]; omega), fun p2 hp2 => ?_⟩
        have k4 : Kp No (upd H2 p1 (.lst (ws.take (j : Int).toNat))) (upd (upd H2 p1 (.lst (ws.take (j : Int).toNat))) p2 (.lst (ws.take (j : Int).toNat ++ ([] : List V)))) := Kp.new hp2
        have k34 := k3.trans k4
        refine .inl ⟨ws, .inl (.inl (k34.all l _ e4b id)), fun p3 hp3 => ?_⟩
        rw [cut_drop (show (0 : Int) ≤ (j : Int) + 1 by omega)]
        have k5 : Kp No (upd (upd H2 p1 (.lst (ws.take (j : Int).toNat))) p2 (.lst (ws.take (j : Int).toNat ++ ([] : List V)))) (upd (upd (upd H2 p1 (.lst (ws.take (j : Int).toNat))) p2 (.lst (ws.take (j : Int).toNat ++ ([] : List V)))) p3 (.lst (ws.drop ((j : Int) + 1).toNat))) := Kp.new hp3
        have g2 := k5.all p2 _ upd_same id
        refine .inl ⟨p2, p3, _, _, rfl, rfl, g2, upd_same, small_of (by rw [List.length_append, List.length_take, List.length_drop]; omega), fun p4 hp4 => ?_⟩
        have k6 : Kp No (upd (upd (upd H2 p1 (.lst (ws.take (j : Int).toNat))) p2 (.lst (ws.take (j : Int).toNat ++ ([] : List V)))) p3 (.lst (ws.drop ((j : Int) + 1).toNat))) (upd (upd (upd (upd H2 p1 (.lst (ws.take (j : Int).toNat))) p2 (.lst (ws.take (j : Int).toNat ++ ([] : List V)))) p3 (.lst (ws.drop ((j : Int) + 1).toNat))) p4 (.lst ((ws.take (j : Int).toNat ++ ([] : List V)) ++ ws.drop ((j : Int) + 1).toNat))) := Kp.new hp4
        have kk := kL.trans (k34.trans (k5.trans k6))
        have pc := pb.up0 kk
        have t1 : (j : Int).toNat = j := Int.toNat_natCast j
        have t2 : ((j : Int) + 1).toNat = j + 1 := by omega
        have imW : ImAll K (upd (upd (upd (upd H2 p1 (.lst (ws.take (j : Int).toNat))) p2 (.lst (ws.take (j : Int).toNat ++ ([] : List V)))) p3 (.lst (ws.drop ((j : Int) + 1).toNat))) p4 (.lst ((ws.take (j : Int).toNat ++ ([] : List V)) ++ ws.drop ((j : Int) + 1).toNat))) ((ws.take (j : Int).toNat ++ ([] : List V)) ++ ws.drop ((j : Int) + 1).toNat) ((wornR r2 j n).map lyrD) := by
          have i1 := ImAll.up kk _ _ e5
          have i2 := ImAll.up (k34.trans (k5.trans k6)) _ _ imL
          rw [eL, List.map_append, List.map_append]
          refine ImAll.app (ImAll.app ?_ i2) ?_
          · rw [List.map_take]; exact im_to t1 i1
          · rw [List.map_drop]; exact im_from t2 i1
        obtain ⟨pd, kd⟩ := pb.swapped hi kk upd_same imW (Nat.le_trans (wornR_len _ _ _) e6) (wornR_ok e7)
        refine ⟨_, _, pc.dct, val_rows b st, _, pc.rd, ?_, ?_⟩
        · unfold layK
          rw [List.length_map, List.length_zip]
          have := pa.iok.len8
          omega
        rw [put_row pa.len pa.iok hi]
        refine ⟨_, _, pd.dct, val_wear _ _, _, pd.dct, by show 4 < 1000; decide, ?_⟩
        rw [put_wear]
        obtain ⟨pe, ke⟩ := pd.wearSet (st.wear - 1)
        refine q1 (b.ls.set i p4) _ ((k1.no.trans (kd.mono fun _ z => .inr z)).trans (ke.mono fun _ z => .inl z)) pe fun y hy => ?_
        rcases List.mem_or_eq_of_mem_set hy with z | z
        · exact .inl z
        · rw [z]; exact .inr (k1.dom p4 ((kL.trans (k34.trans k5)).dom p4 hp4))
      · intro g hg0
        have kL : Kp No H1 (upd H1 g (.lst [])) := Kp.new hg0
        have eL : wornR r2 j n = (r2.take j ++ []) ++ r2.drop (j + 1) := by rw [List.append_nil]; exact wornR_out hjr fun z => c1 z.1
        have imL : ImAll K (upd H1 g (.lst [])) [] (([] : List Lyr).map lyrD) := .nil
        have hg : (upd H1 g (.lst [])) g = some (.lst []) := upd_same
        have lv : ([] : List V).length ≤ 1 := Nat.zero_le 1
        generalize hH2 : upd H1 g (.lst []) = H2 at *
        have e4b := kL.all l _ e4 id
        refine .inl ⟨ws, .inl (.inl e4b), fun p1 hp1 => ?_⟩
        rw [cut_take (Int.natCast_nonneg j)]
        have k3 : Kp No H2 (upd H2 p1 (.lst (ws.take (j : Int).toNat))) := Kp.new hp1
        refine .inl ⟨p1, g, _, ([] : List V), rfl, rfl, upd_same, k3.all g _ hg id, small_of (by rw [List.length_take]; omega), fun p2 hp2 => ?_⟩
        have k4 : Kp No (upd H2 p1 (.lst (ws.take (j : Int).toNat))) (upd (upd H2 p1 (.lst (ws.take (j : Int).toNat))) p2 (.lst (ws.take (j : Int).toNat ++ ([] : List V)))) := Kp.new hp2
        have k34 := k3.trans k4
        refine .inl ⟨ws, .inl (.inl (k34.all l _ e4b id)), fun p3 hp3 => ?_⟩
        rw [cut_drop (show (0 : Int) ≤ (j : Int) + 1 by omega)]
        have k5 : Kp No (upd (upd H2 p1 (.lst (ws.take (j : Int).toNat))) p2 (.lst (ws.take (j : Int).toNat ++ ([] : List V)))) (upd (upd (upd H2 p1 (.lst (ws.take (j : Int).toNat))) p2 (.lst (ws.take (j : Int).toNat ++ ([] : List V)))) p3 (.lst (ws.drop ((j : Int) + 1).toNat))) := Kp.new hp3
        have g2 := k5.all p2 _ upd_same id
        refine .inl ⟨p2, p3, _, _, rfl, rfl, g2, upd_same, small_of (by rw [List.length_append, List.length_take, List.length_drop]; omega), fun p4 hp4 => ?_⟩
        have k6 : Kp No (upd (upd (upd H2 p1 (.lst (ws.take (j : Int).toNat))) p2 (.lst (ws.take (j : Int).toNat ++ ([] : List V)))) p3 (.lst (ws.drop ((j : Int) + 1).toNat))) (upd (upd (upd (upd H2 p1 (.lst (ws.take (j : Int).toNat))) p2 (.lst (ws.take (j : Int).toNat ++ ([] : List V)))) p3 (.lst (ws.drop ((j : Int) + 1).toNat))) p4 (.lst ((ws.take (j : Int).toNat ++ ([] : List V)) ++ ws.drop ((j : Int) + 1).toNat))) := Kp.new hp4
        have kk := kL.trans (k34.trans (k5.trans k6))
        have pc := pb.up0 kk
        have t1 : (j : Int).toNat = j := Int.toNat_natCast j
        have t2 : ((j : Int) + 1).toNat = j + 1 := by omega
        have imW : ImAll K (upd (upd (upd (upd H2 p1 (.lst (ws.take (j : Int).toNat))) p2 (.lst (ws.take (j : Int).toNat ++ ([] : List V)))) p3 (.lst (ws.drop ((j : Int) + 1).toNat))) p4 (.lst ((ws.take (j : Int).toNat ++ ([] : List V)) ++ ws.drop ((j : Int) + 1).toNat))) ((ws.take (j : Int).toNat ++ ([] : List V)) ++ ws.drop ((j : Int) + 1).toNat) ((wornR r2 j n).map lyrD) := by
          have i1 := ImAll.up kk _ _ e5
          have i2 := ImAll.up (k34.trans (k5.trans k6)) _ _ imL
          rw [eL, List.map_append, List.map_append]
          refine ImAll.app (ImAll.app ?_ i2) ?_
          · rw [List.map_take]; exact im_to t1 i1
          · rw [List.map_drop]; exact im_from t2 i1
        obtain ⟨pd, kd⟩ := pb.swapped hi kk upd_same imW (Nat.le_trans (wornR_len _ _ _) e6) (wornR_ok e7)
        refine ⟨_, _, pc.dct, val_rows b st, _, pc.rd, ?_, ?_⟩
        · unfold layK
          rw [List.length_map, List.length_zip]
          have := pa.iok.len8
          omega
        rw [put_row pa.len pa.iok hi]
        refine ⟨_, _, pd.dct, val_wear _ _, _, pd.dct, by show 4 < 1000; decide, ?_⟩
        rw [put_wear]
        obtain ⟨pe, ke⟩ := pd.wearSet (st.wear - 1)
        refine q1 (b.ls.set i p4) _ ((k1.no.trans (kd.mono fun _ z => .inr z)).trans (ke.mono fun _ z => .inl z)) pe fun y hy => ?_
        rcases List.mem_or_eq_of_mem_set hy with z | z
        · exact .inl z
        · rw [z]; exact .inr (k1.dom p4 ((kL.trans (k34.trans k5)).dom p4 hp4))

--SPLIT
def UnE [Tb] (K : PySem.W.Frag) (H : Hp) (E : XK) : Prop := ∀ H', Kp No H H' → E (.ref (gx K "Unlike")) none H'
def spWantLike [Tb] (K : PySem.W.Frag) (CPalette CPlace : Addr) : Sp := fun vs H Q E => ∃ (a a2 : PlAddr) (ks ks2 : List Ink) (s s2 : Pst), vs = [.ref a.x, .ref a2.x] ∧ PlAt K CPalette CPlace H a ks s ∧ PlAt K CPalette CPlace H a2 ks2 s2 ∧ (ks = ks2 → ∀ H', Kp No H H' → Q .non H') ∧ (ks ≠ ks2 → UnE K H E)
theorem ok_want_like (D : DefAt K mg "want_like" s_want_like) (fr : Fr mg) (cf : Cf K mg CPalette CPlace) (xs : Xs K mg) (nc : NeC K CPalette) (m_Place_palette : CalM P w K mg base 1 CPlace "palette" (spSelf0 K CPalette CPlace fun a _ _ H Q => Q (.ref a.pl) H)) (m_Palette___eq__ : CalM P w K mg base 2 CPalette "__eq__" (spPalEq CPalette)) : CalX P w K mg base 4 "want_like" (spWantLike K CPalette CPlace) := by
  refine calX_of D sc_want_like (fun _ _ _ _ _ _ us hl => match us, hl with | [_, _], _ => rfl) (fun vs H Q E h => by obtain ⟨a, a2, ks, ks2, s, s2, rfl, _⟩ := h; rfl) fun f cd A out s H vs Q E room gd tk h => ?_
  obtain ⟨a, a2, ks, ks2, s1, s2, rfl, pa, pb, q1, q2⟩ := h
  refine ⟨_, (pss_one (ps_if (yt_cmp (kNeI (by rfl) nc m_Palette___eq__ room gd) (ye_meth0 m_Place_palette room gd (yv 0)) (ye_meth0 m_Place_palette room gd (yv 1)) (nomark _)) (pss_one (ps_raise rfl tk (pmkN PySem.F.excBase_ValueError rfl rfl xs.nx_Unlike (by rfl)))) pss_nil)), ?_⟩
  refine ⟨a.dx, _, pa.ins, rfl, a, ks, s1, rfl, pa, a2.dx, _, pb.ins, rfl, a2, ks2, s2, rfl, pb, a.pdx, _, a2.pdx, _, pa.pal.ins, pb.pal.ins, a.pl, a.pdx, a.pd, a2.pl, a2.pdx, a2.pd, ks, ks2, rfl, pa.pal, pb.pal, fun H1 k1 => ⟨_, rfl, ?_⟩⟩
  by_cases e : ks = ks2
  · exact iteNb (decide_eq_true e) (q1 e H1 k1)
  · exact iteN0 (decide_eq_false e) (q2 e H1 k1)
/-- room for layers more -/
structure More (s : Pst) (n : Nat) : Prop where
  n0 : 0 ≤ s.next
  nx : s.next + (n : Int) < 10 ^ 400
  rw : ∀ r ∈ s.rows, r.length + n ≤ 1000
theorem plWearSet {H : Hp} {a : PlAddr} {ks : List Ink} {s : Pst} (h : PlAt K CPalette CPlace H a ks s) (w' : Int) : PlAt K CPalette CPlace (upd H a.x (.ins CPlace a.dx [("own_palette", .ref a.pl), ("wear_left", .int w'), ("layers", .ref a.d), ("next_mark", .int s.next)])) a ks ⟨w', s.rows, s.next⟩ := by
  have k : Kp (At a.x) H (upd H a.x (.ins CPlace a.dx [("own_palette", .ref a.pl), ("wear_left", .int w'), ("layers", .ref a.d), ("next_mark", .int s.next)])) := Kp.set rfl h.ins
  have o := h.out a.x (.inl rfl)
  refine ⟨h.pal.up k (fun z => o.1 z.symm) (fun z => o.2 z.symm), upd_same, k.all a.d _ h.dct (fun z => h.ne_xd z.symm), h.len, h.rws, fun i l r h1 h2 => ?_, h.nd, h.ok, h.out⟩
  obtain ⟨vs, g1, g2⟩ := h.row i l r h1 h2
  exact ⟨vs, k.all l _ g1 (h.ne_l (List.mem_of_getElem? h1)).1, ImAll.up k _ _ g2⟩
/-- another place, or itself -/
def Beside (a a2 : PlAddr) (s s2 : Pst) : Prop := (a2 = a ∧ s2 = s) ∨ ((∀ y, Ft a2 y → ¬ Ft a y) ∧ ¬ Ft a a2.pl ∧ ¬ Ft a a2.pd)
structure GrOk (s s2 : Pst) : Prop where
  n0 : 0 ≤ s.next
  nx : s.next + 8000 < 10 ^ 400
  le : ∀ (i : Nat) (r r2 : List Lyr), s.rows[i]? = some r → s2.rows[i]? = some r2 → r.length + r2.length ≤ 900
def spGraft [Tb] (K : PySem.W.Frag) (CPalette CPlace : Addr) : Sp := fun vs H Q E => ∃ (a a2 : PlAddr) (ks ks2 : List Ink) (s s2 : Pst), vs = [.ref a.x, .ref a2.x] ∧ PlAt K CPalette CPlace H a ks s ∧ PlAt K CPalette CPlace H a2 ks2 s2 ∧ (ks = ks2 → Beside a a2 s s2 ∧ GrOk s s2 ∧ ∀ H', Kp (Ft a) H H' → PlAt K CPalette CPlace H' a ks (graftS s s2 ks.length) → Q .non H') ∧ (ks ≠ ks2 → UnE K H E)
theorem graft_next {s s2 : Pst} (h : GrOk s s2) (hl : s2.rows.length = s.rows.length) : ∀ i, i ≤ s.rows.length → s.next ≤ (graftTo s s2 i).next ∧ (graftTo s s2 i).next ≤ s.next + 900 * i
  | 0, _ => ⟨Int.le_refl _, by show s.next ≤ s.next + 900 * ((0 : Nat) : Int); omega⟩
  | i + 1, hi => by
    obtain ⟨h1, h2⟩ := graft_next h hl i (by omega)
    have e1 := List.getElem?_eq_getElem (show i < s.rows.length by omega)
    have e2 := List.getElem?_eq_getElem (show i < s2.rows.length by omega)
    have := h.le i _ _ e1 e2
    show s.next ≤ (graftRow (graftTo s s2 i) i (s2.rows.getD i [])).next ∧ _
    rw [graftTo]
    rw [graftRow_next, List.getD_eq_getElem?_getD, e2]
    show s.next ≤ _ + ((s2.rows[i].length : Nat) : Int) ∧ _ + ((s2.rows[i].length : Nat) : Int) ≤ _
    omega
theorem ok_Place_graft (D : MetAt K CPlace "graft" "Place.graft" s_Place_graft) (fr : Fr mg) (cf : Cf K mg CPalette CPlace) (c_want_like : CalX P w K mg base 4 "want_like" (spWantLike K CPalette CPlace)) (m_Palette_names : CalM P w K mg base 1 CPalette "names" (spPalNames CPalette)) (m_Place_row : CalM P w K mg base 3 CPlace "row" (spInk K CPalette CPlace fun a ks s i H Q => ∀ v r H', s.rows[i]? = some r → Kp No H H' → Im K H' v (rowD (layR r)) → Q v H')) (m_Place_put_on : CalM P w K mg base 1 CPlace "put_on" (spPut K CPalette CPlace)) (m_Place_wear : CalM P w K mg base 1 CPlace "wear" (spSelf0 K CPalette CPlace fun _ _ s H Q => Q (.int s.wear) H)) : CalMX P w K mg base 5 CPlace "graft" (spGraft K CPalette CPlace) := by
  refine calMX_of D cf.cls_Place sc_Place_graft (fun _ _ _ _ _ _ us hl => match us, hl with | [_, _], _ => rfl) (fun vs H Q E h => by obtain ⟨a, a2, ks, ks2, s, s2, rfl, _⟩ := h; rfl) fun f cd A out s H vs Q E room gd tk h => ?_
  obtain ⟨a, a2, ks, ks2, s1, s2, rfl, pa, pb, q1, q2⟩ := h
  refine ⟨_, (pss_cons (ps_expr (ye_callX tk c_want_like room gd (by rfl) (pa_cons (yv 0) (pa_cons (yv 1) pa_nil))))
    (pss_cons (ps_for (passes_of rfl) rfl (kiList (K := K) (by rfl) (ye_meth0 m_Palette_names room gd (ye_fld cf.cls_Place cf.na_Place_own_palette (yv 0)))) (yg_name 2 sc_Place_graft.nd) (pss_one (ps_for (passes_of rfl) rfl (kiTup (K := K) (by rfl) (ye_meth m_Place_row room gd (yv 1) (pa_cons (yv 2) pa_nil))) (kgTup (K := K) (n := 2) (by rfl) rfl (yg_cons (yg_name 3 sc_Place_graft.nd) (yg_cons (yg_name 4 sc_Place_graft.nd) yg_nil))) (pss_one (ps_expr (ye_meth m_Place_put_on room gd (yv 0) (pa_cons (yv 2) (pa_cons (yv 3) (pa_cons (yv 4) pa_nil)))))))))
    (pss_one (ys_fld cf.cls_Place cf.na_Place_wear_left (yv 0) (pe_callB (cMin2 rfl) (by rfl) fr.min_ (by decide +kernel) (pa_cons (ye_fld cf.cls_Place cf.na_Place_wear_left (yv 0)) (pa_cons (ye_meth0 m_Place_wear room gd (yv 1)) pa_nil))))))), a, a2, ks, ks2, s1, s2, rfl, pa, pb, fun ek H1 k1 => ?_, q2⟩
  subst ek
  obtain ⟨bs, gr, q⟩ := q1 rfl
  have pa1 := pa.up0 k1
  have l8 := pa.pal.ok.len8
  have hl2 : s2.rows.length = s1.rows.length := pb.rws.trans pa.rws.symm
  refine ⟨a.dx, _, _, pa1.ins, rfl, a.pdx, _, pa1.pal.ins, rfl, a.pl, a.pdx, a.pd, ks, rfl, pa1.pal, fun l H2 k2 hl h2 => ⟨⟨_, .inl (.inl h2)⟩, ?_⟩⟩
  have k02 := k1.trans k2
  have ek : ((ks.map (·.1)).map V.str).length = ks.length := by rw [List.length_map, List.length_map]
  have wl : Walk (Itl K l) ks.length (fun H => SqL K H l ((ks.map (·.1)).map V.str)) (YAt ((ks.map (·.1)).map V.str)) := ek ▸ walk_list
  have nlF : ¬ Ft a l := fun z => pa1.has z hl
  have other : ∀ i H' , Kp (Ft a) H2 H' → PlAt K CPalette CPlace H' a ks (graftTo s1 s2 i) → ∃ s3, PlAt K CPalette CPlace H' a2 ks s3 ∧ s3.rows[i]? = s2.rows[i]? ∧ (s3.wear = s2.wear) := fun i H' k p => by
    rcases bs with ⟨rfl, rfl⟩ | ⟨b1, b2, b3⟩
    · exact ⟨_, p, graftTo_late _ _ i i (Nat.le_refl i), graftTo_wear _ _ i⟩
    · exact ⟨s2, (pb.up0 k02).up k b2 b3 b1, rfl, rfl⟩
  refine for_it wl (fun i σ H' => ∃ y2 y3 y4, σ = [some (.ref a.x), some (.ref a2.x), y2, y3, y4] ∧ Kp (Ft a) H2 H' ∧ PlAt K CPalette CPlace H' a ks (graftTo s1 s2 i)) ⟨none, none, none, rfl, Kp.refl _, pa.up0 k02⟩ (fun i σ H' _ ⟨_, _, _, _, k, _⟩ => .inl (.inl (k.all l _ h2 nlF))) ?_ ?_
  · rintro i x σ Ha Hb hi ⟨y2, y3, y4, rfl, ka, pc⟩ ⟨rfl, hx⟩
    rw [List.getElem?_map, List.getElem?_map, List.getElem?_eq_getElem hi] at hx
    obtain rfl := Option.some.inj hx
    obtain ⟨s3, pd, e3, _⟩ := other i _ ka pc
    refine ⟨a2.dx, _, pd.ins, rfl, a2, ks, s3, i, _, rfl, pd, ⟨hi, rfl⟩, fun v r H3 er k3 im => ?_⟩
    rw [e3] at er
    obtain ⟨t, ts, rfl, ht, hts⟩ := id im.tupInv
    have elen : ts.length = r.length := by rw [hts.length, List.length_map, layR_len]
    have hir1 : i < s1.rows.length := by rw [pa.rws]; exact hi
    have er1 := List.getElem?_eq_getElem hir1
    have le := gr.le i _ _ er1 er
    have er2 : s2.rows.getD i [] = r := by rw [List.getD_eq_getElem?_getD, er]; rfl
    obtain ⟨nx0, nx1⟩ := graft_next gr hl2 i (by omega)
    have g0 := gr.n0
    have g1 := gr.nx
    have okr : ∀ z ∈ r, LyOk z := fun z hz => (pb.ok r (List.mem_of_getElem? er)).2 z hz
    have late : (graftTo s1 s2 i).rows.getD i [] = s1.rows[i] := by rw [List.getD_eq_getElem?_getD, graftTo_late _ _ i i (Nat.le_refl i), er1]; rfl
    refine ⟨⟨_, ht.sq⟩, ?_⟩
    refine for_it (walk_tup (xs := ts)) (fun j σ H' => ∃ y3 y4, σ = [some (.ref a.x), some (.ref a2.x), some (.str ks[i].1), y3, y4] ∧ Kp (Ft a) H3 H' ∧ PlAt K CPalette CPlace H' a ks (graftRow (graftTo s1 s2 i) i (r.take j))) ⟨_, _, rfl, Kp.refl _, pc.up0 k3⟩ (fun j σ H' _ ⟨_, _, _, k, _⟩ => (ht.up k).sq) ?_ ?_
    · rintro j x σ Hc Hd hj ⟨y3, y4, rfl, kc, pe⟩ ⟨rfl, hx⟩
      have hjr : j < r.length := by omega
      obtain ⟨dd, h1, h2⟩ := hts.get hx
      rw [List.getElem?_map, layR_get hjr] at h1
      obtain rfl := Option.some.inj h1
      obtain ⟨b, rfl, tb⟩ := (Im.up kc _ _ h2).layInv
      have okj := okr _ (List.getElem_mem hjr)
      have en : (graftRow (graftTo s1 s2 i) i (r.take j)).next = (graftTo s1 s2 i).next + (j : Int) := by rw [graftRow_next, List.length_take, Nat.min_eq_left (by omega)]
      have lc : i < (graftTo s1 s2 i).rows.length := by rw [graftTo_len]; exact hir1
      obtain ⟨la, _⟩ := graftRow_at (r.take j) (graftTo s1 s2 i) lc
      refine ⟨_, tb.sq, rfl, a.dx, _, pe.ins, rfl, a, ks, _, i, _, r[j].2, rfl, pe, ⟨hi, rfl⟩, ⟨okj.lay, by rw [en]; show 0 ≤ _; omega, by rw [en]; show _ < (10 : Int) ^ 400; omega⟩, fun r3 hr3 => ?_, fun H' k' p' => ⟨_, _, rfl, kc.trans k', ?_⟩⟩
      · rw [List.getD_eq_getElem?_getD, hr3, late, List.length_take] at la
        have la : r3.length = _ := la
        omega
      · rw [List.take_add_one, List.getElem?_eq_getElem hjr]
        show PlAt K CPalette CPlace H' a ks (graftRow _ i (r.take j ++ [r[j]]))
        rw [graftRow_snoc]
        exact p'
    · rintro σ H' ⟨y3, y4, rfl, kc, pe⟩
      rw [elen, List.take_length] at pe
      refine ⟨_, _, _, rfl, ka.trans (k3.no.trans kc), ?_⟩
      show PlAt K CPalette CPlace H' a ks (graftRow (graftTo s1 s2 i) i (s2.rows.getD i []))
      rw [er2]
      exact pe
  · rintro σ H' ⟨y2, y3, y4, rfl, ka, pc⟩
    obtain ⟨s3, pd, _, ew⟩ := other ks.length _ ka pc
    refine ⟨a.dx, _, _, pc.ins, rfl, a2.dx, _, pd.ins, rfl, a2, ks, s3, rfl, pd, ?_⟩
    have kx : Kp (At a.x) H' (upd H' a.x (.ins CPlace a.dx [("own_palette", .ref a.pl), ("wear_left", .int (min (graftTo s1 s2 ks.length).wear s3.wear)), ("layers", .ref a.d), ("next_mark", .int (graftTo s1 s2 ks.length).next)])) := Kp.set rfl pc.ins
    refine ⟨a.dx, _, pc.ins, by show 4 < 1000; decide, q _ (k02.no.trans (ka.trans (kx.mono fun _ z => .inl z))) ?_⟩
    have pf := plWearSet pc (min (graftTo s1 s2 ks.length).wear s3.wear)
    rw [graftTo_wear, ew] at pf
    show PlAt K CPalette CPlace (upd H' a.x (.ins CPlace a.dx [("own_palette", .ref a.pl), ("wear_left", .int (min (graftTo s1 s2 ks.length).wear s3.wear)), ("layers", .ref a.d), ("next_mark", .int (graftTo s1 s2 ks.length).next)])) a ks (graftS s1 s2 ks.length)
    rw [graftTo_wear, ew]
    exact pf

--SPLIT
def sortOf : String → Str
  | "NoInk" => "ink" | "NoTag" => "tag" | "NoAmount" => "amount" | "NoWear" => "wear" | "NoDeed" => "deed" | "Unlike" => "unlike" | _ => "worn"
theorem dct_up {d : Option Addr} {H H' : Hp} (h : DctOk d H) (k : Kp No H H') : DctOk d H' := h.imp id fun ⟨dd, fs, e, z⟩ => ⟨dd, fs, e, k.all dd _ z id⟩
omit [Tb] in
theorem kit_none {t : Value} : ∀ {cs : List Value}, (∀ c ∈ cs, PySem.W.kitOne K t c = some false) → PySem.W.kitAny K t cs = some false
  | [], _ => rfl
  | c :: r, h => by
    unfold PySem.W.kitAny
    rw [h c (List.mem_cons_self ..)]
    exact kit_none fun z hz => h z (List.mem_cons_of_mem _ hz)
def spSort [Tb] (K : PySem.W.Frag) : Addr → Value → Option Addr → Sp := fun a c d vs H Q _ => ∃ D ∈ xDs, c = .ref (gx K D) ∧ vs = [.ref a] ∧ DctOk d H ∧ ∀ H', Kp No H H' → Q (.str (sortOf D)) H'
theorem ok_l_sort (D : DefAt K mg "_law_sort" s_l_sort) (fr : Fr mg) (xs : Xs K mg) : CalH P w K mg base 1 "_law_sort" (spSort K) := by
  refine calH_of D sc_l_sort (fun _ _ _ _ _ _ us hl => match us, hl with | [_], _ => rfl) (fun a c d vs H Q E h => by obtain ⟨_, _, _, rfl, _⟩ := h; rfl) fun f cd A out s H vs Q E p c d room gd ie h => ?_
  obtain ⟨N, hD, rfl, rfl, dk, q⟩ := h
  refine ⟨_, (pss_cons (ys_set 1 sc_l_sort.nd (ye_lst (pa_cons (pe_callB (kIsE (by rfl) ie (xs.sf.exc _ hD)) (by rfl) fr.isinstance_ (by decide +kernel) (pa_cons (yv 0) (pa_cons (ye_cls (xs.sf.mg_ "NoInk" (by simp)) (by rfl)) pa_nil))) (pa_cons (pe_callB (kIsE (by rfl) ie (xs.sf.exc _ hD)) (by rfl) fr.isinstance_ (by decide +kernel) (pa_cons (yv 0) (pa_cons (ye_cls (xs.sf.mg_ "NoTag" (by simp)) (by rfl)) pa_nil))) (pa_cons (pe_callB (kIsE (by rfl) ie (xs.sf.exc _ hD)) (by rfl) fr.isinstance_ (by decide +kernel) (pa_cons (yv 0) (pa_cons (ye_cls (xs.sf.mg_ "NoAmount" (by simp)) (by rfl)) pa_nil))) (pa_cons (pe_callB (kIsE (by rfl) ie (xs.sf.exc _ hD)) (by rfl) fr.isinstance_ (by decide +kernel) (pa_cons (yv 0) (pa_cons (ye_cls (xs.sf.mg_ "NoWear" (by simp)) (by rfl)) pa_nil))) pa_nil))))))
    (pss_cons (ys_set 1 sc_l_sort.nd (pe_op (kAdd (K := K) (by rfl)) (yv 1) (ye_lst (pa_cons (pe_callB (kIsE (by rfl) ie (xs.sf.exc _ hD)) (by rfl) fr.isinstance_ (by decide +kernel) (pa_cons (yv 0) (pa_cons (ye_cls (xs.sf.mg_ "NoDeed" (by simp)) (by rfl)) pa_nil))) (pa_cons (pe_callB (kIsE (by rfl) ie (xs.sf.exc _ hD)) (by rfl) fr.isinstance_ (by decide +kernel) (pa_cons (yv 0) (pa_cons (ye_cls (xs.sf.mg_ "Unlike" (by simp)) (by rfl)) pa_nil))) (pa_cons (pe_callB (kIsE (by rfl) ie (xs.sf.exc _ hD)) (by rfl) fr.isinstance_ (by decide +kernel) (pa_cons (yv 0) (pa_cons (ye_cls (xs.sf.mg_ "Worn" (by simp)) (by rfl)) pa_nil))) pa_nil))))))
    (pss_cons (ps_if (PW.pt (pw_or (yt_val (pe_callB (kIsE (by rfl) ie (xs.sf.exc _ hD)) (by rfl) fr.isinstance_ (by decide +kernel) (pa_cons (yv 0) (pa_cons (ye_tup (pa_cons (ye_cls (xs.sf.mg_ "NoPalette" (by simp)) (by rfl)) (pa_cons (ye_cls (xs.sf.mg_ "NoPlaces" (by simp)) (by rfl)) (pa_cons (ye_cls (xs.sf.mg_ "NoText" (by simp)) (by rfl)) (pa_cons (ye_cls (xs.sf.mg_ "NoRow" (by simp)) (by rfl)) (pa_cons (ye_cls (xs.sf.mg_ "NoBook" (by simp)) (by rfl)) (pa_cons (ye_cls (xs.sf.mg_ "Halted" (by simp)) (by rfl)) (pa_cons (ye_cls (xs.sf.mg_ "NoLayer" (by simp)) (by rfl)) (pa_cons (ye_cls (xs.sf.mg_ "NoName" (by simp)) (by rfl)) pa_nil))))))))) pa_nil)))) (pw_or1 (yt_cmp (kNe (K := K) (by rfl) room.units) (ye_cnt (K := K) (by rfl) (pe_bm PySem.F.plainAttrs_list PySem.F.slot_list_count PySem.F.type_list_count mt_cntV (PE.cl (yv 1)) (pa_cons (PE.cl pe_bl) pa_nil))) pe_int (nomark _))))) (pss_one (ps_ret pe_str)) pss_nil)
    (pss_cons (ys_set 2 sc_l_sort.nd (kIx (K := K) (by rfl) (ye_lst (pa_cons pe_str (pa_cons pe_str (pa_cons pe_str (pa_cons pe_str (pa_cons pe_str (pa_cons pe_str (pa_cons pe_str pa_nil)))))))) (ye_idx (K := K) (by rfl) (pe_bm PySem.F.plainAttrs_list PySem.F.slot_list_index PySem.F.type_list_index mt_index (PE.cl (yv 1)) (pa_cons (PE.cl pe_bl) pa_nil)))))
    (pss_cons (ys_set 3 sc_l_sort.nd (ye_lst (pa_cons (pe_callB (kIsE (by rfl) ie (xs.sf.exc _ hD)) (by rfl) fr.isinstance_ (by decide +kernel) (pa_cons (yv 0) (pa_cons (ye_cls (xs.sf.mg_ "FadeError" (by simp)) (by rfl)) pa_nil))) (pa_cons (pe_callB (kIsE (by rfl) ie (xs.sf.exc _ hD)) (by rfl) fr.isinstance_ (by decide +kernel) (pa_cons (yv 0) (pa_cons (ye_ty (n := "ValueError") (by rfl) fr.ValueError_ (by decide +kernel)) pa_nil))) (pa_cons (pe_callB (kIsE (by rfl) ie (xs.sf.exc _ hD)) (by rfl) fr.isinstance_ (by decide +kernel) (pa_cons (yv 0) (pa_cons (ye_ty (n := "LookupError") (by rfl) fr.LookupError_ (by decide +kernel)) pa_nil))) pa_nil)))))
    (pss_cons (ys_set 3 sc_l_sort.nd (pe_op (kAdd (K := K) (by rfl)) (yv 3) (ye_lst (pa_cons (pe_callB (kIsE (by rfl) ie (xs.sf.exc _ hD)) (by rfl) fr.isinstance_ (by decide +kernel) (pa_cons (yv 0) (pa_cons (ye_ty (n := "ArithmeticError") (by rfl) fr.ArithmeticError_ (by decide +kernel)) pa_nil))) (pa_cons (pe_callB (kIsE (by rfl) ie (xs.sf.exc _ hD)) (by rfl) fr.isinstance_ (by decide +kernel) (pa_cons (yv 0) (pa_cons (ye_ty (n := "RuntimeError") (by rfl) fr.RuntimeError_ (by decide +kernel)) pa_nil))) pa_nil)))))
    (pss_cons (ys_set 4 sc_l_sort.nd (ye_get room.units (pe_disp (pps_cons pe_str pe_int (pps_cons pe_str pe_int (pps_cons pe_str pe_int pps_nil))) (by rfl) (by rfl) (fun z => by cases z) (by decide)) (yv 2) pe_int))
    (pss_cons (ps_if (yt_cmp (kNe (K := K) (by rfl) room.units) (yv 3) (ye_lst (pa_cons (pe_cmpR (kEq (K := K) (by rfl) room.units) (yv 4) pe_int (nomark _)) (pa_cons (pe_cmpR (kEq (K := K) (by rfl) room.units) (yv 4) pe_int (nomark _)) (pa_cons (pe_cmpR (kEq (K := K) (by rfl) room.units) (yv 4) pe_int (nomark _)) (pa_cons (pe_cmpR (kEq (K := K) (by rfl) room.units) (yv 4) pe_int (nomark _)) (pa_cons (pe_cmpR (kEq (K := K) (by rfl) room.units) (yv 4) pe_int (nomark _)) pa_nil)))))) (nomark _)) (pss_one (ps_ret pe_str)) pss_nil)
    (pss_one (ps_ret (yv 2))))))))))), ?_⟩
  have own := fun c hc => xs.sf.own N hD c hc
  have blt := fun c hc => xs.sf.blt N hD c hc
  have cases_ : N = "Unlike" := by simpa [xDs] using hD
  rcases cases_ with rfl
  · refine ⟨rfl, dk, .inl ⟨_, (own "NoInk" (by simp)).trans (show some (isT "Unlike" "NoInk") = some false by decide), rfl, dk, .inl ⟨_, (own "NoTag" (by simp)).trans (show some (isT "Unlike" "NoTag") = some false by decide), rfl, dk, .inl ⟨_, (own "NoAmount" (by simp)).trans (show some (isT "Unlike" "NoAmount") = some false by decide), rfl, dk, .inl ⟨_, (own "NoWear" (by simp)).trans (show some (isT "Unlike" "NoWear") = some false by decide), fun u1 hu1 => ?_⟩⟩⟩⟩⟩
    have k1 : Kp No H (upd H u1 (.lst [V.bl false, V.bl false, V.bl false, V.bl false])) := Kp.new hu1
    have dk1 := dct_up dk k1
    refine ⟨rfl, dk1, .inl ⟨_, (own "NoDeed" (by simp)).trans (show some (isT "Unlike" "NoDeed") = some false by decide), rfl, dk1, .inl ⟨_, (own "Unlike" (by simp)).trans (show some (isT "Unlike" "Unlike") = some true by decide), rfl, dk1, .inl ⟨_, (own "Worn" (by simp)).trans (show some (isT "Unlike" "Worn") = some false by decide), fun u2 hu2 => ?_⟩⟩⟩⟩
    have k2 : Kp No (upd H u1 (.lst [V.bl false, V.bl false, V.bl false, V.bl false])) (upd (upd H u1 (.lst [V.bl false, V.bl false, V.bl false, V.bl false])) u2 (.lst [V.bl false, V.bl true, V.bl false])) := Kp.new hu2
    refine .inl ⟨u1, u2, _, _, rfl, rfl, k2.all u1 _ upd_same id, upd_same, by decide, fun u3 hu3 => ?_⟩
    have k3 : Kp No (upd (upd H u1 (.lst [V.bl false, V.bl false, V.bl false, V.bl false])) u2 (.lst [V.bl false, V.bl true, V.bl false])) (upd (upd (upd H u1 (.lst [V.bl false, V.bl false, V.bl false, V.bl false])) u2 (.lst [V.bl false, V.bl true, V.bl false])) u3 (.lst ([V.bl false, V.bl false, V.bl false, V.bl false] ++ [V.bl false, V.bl true, V.bl false]))) := Kp.new hu3
    have k03 := k1.trans (k2.trans k3)
    intro t1 ht1
    have k4 : Kp No (upd (upd (upd H u1 (.lst [V.bl false, V.bl false, V.bl false, V.bl false])) u2 (.lst [V.bl false, V.bl true, V.bl false])) u3 (.lst ([V.bl false, V.bl false, V.bl false, V.bl false] ++ [V.bl false, V.bl true, V.bl false]))) (upd (upd (upd (upd H u1 (.lst [V.bl false, V.bl false, V.bl false, V.bl false])) u2 (.lst [V.bl false, V.bl true, V.bl false])) u3 (.lst ([V.bl false, V.bl false, V.bl false, V.bl false] ++ [V.bl false, V.bl true, V.bl false]))) t1 (.tup [.ref (gx K "NoPalette"), .ref (gx K "NoPlaces"), .ref (gx K "NoText"), .ref (gx K "NoRow"), .ref (gx K "NoBook"), .ref (gx K "Halted"), .ref (gx K "NoLayer"), .ref (gx K "NoName")])) := Kp.new ht1
    have g3 := k4.all u3 _ upd_same id
    have k04 := k03.trans k4
    have dk4 := dct_up dk k04
    generalize hH4 : upd (upd (upd (upd H u1 (.lst [V.bl false, V.bl false, V.bl false, V.bl false])) u2 (.lst [V.bl false, V.bl true, V.bl false])) u3 (.lst ([V.bl false, V.bl false, V.bl false, V.bl false] ++ [V.bl false, V.bl true, V.bl false]))) t1 (.tup [.ref (gx K "NoPalette"), .ref (gx K "NoPlaces"), .ref (gx K "NoText"), .ref (gx K "NoRow"), .ref (gx K "NoBook"), .ref (gx K "Halted"), .ref (gx K "NoLayer"), .ref (gx K "NoName")]) = H4 at *
    have gt : H4 t1 = some (.tup [.ref (gx K "NoPalette"), .ref (gx K "NoPlaces"), .ref (gx K "NoText"), .ref (gx K "NoRow"), .ref (gx K "NoBook"), .ref (gx K "Halted"), .ref (gx K "NoLayer"), .ref (gx K "NoName")]) := by rw [← hH4]; exact upd_same
    refine ⟨rfl, dk4, .inr ⟨_, false, gt, fun y hy => ?_, kit_none fun c hc => ?_, ?_⟩⟩
    · simp only [List.mem_cons, List.not_mem_nil, or_false] at hy
      rcases hy with rfl | rfl | rfl | rfl | rfl | rfl | rfl | rfl <;> exact ⟨_, rfl⟩
    · simp only [List.map_cons, List.map_nil, clsV, List.mem_cons, List.not_mem_nil, or_false] at hc
      rcases hc with rfl | rfl | rfl | rfl | rfl | rfl | rfl | rfl
      · exact (own "NoPalette" (by simp)).trans (show some (isT "Unlike" "NoPalette") = some false by decide)
      · exact (own "NoPlaces" (by simp)).trans (show some (isT "Unlike" "NoPlaces") = some false by decide)
      · exact (own "NoText" (by simp)).trans (show some (isT "Unlike" "NoText") = some false by decide)
      · exact (own "NoRow" (by simp)).trans (show some (isT "Unlike" "NoRow") = some false by decide)
      · exact (own "NoBook" (by simp)).trans (show some (isT "Unlike" "NoBook") = some false by decide)
      · exact (own "Halted" (by simp)).trans (show some (isT "Unlike" "Halted") = some false by decide)
      · exact (own "NoLayer" (by simp)).trans (show some (isT "Unlike" "NoLayer") = some false by decide)
      · exact (own "NoName" (by simp)).trans (show some (isT "Unlike" "NoName") = some false by decide)
    refine ⟨_, .inl (.inl g3), rfl, .inl (.inl g3), rfl, ?_⟩
    intro u4 hu4
    have k5 : Kp No H4 (upd H4 u4 (.lst [.str "ink", .str "tag", .str "amount", .str "wear", .str "deed", .str "unlike", .str "worn"])) := Kp.new hu4
    have g4 := k5.all u3 _ g3 id
    refine ⟨_, .inl (.inl g4), rfl, .inl (.inl g4), rfl, 5, .bl true, rfl, rfl, fun m z hm h => ?_, _, _, .inl (.inl (.inl upd_same)), at_of (j := 5) rfl rfl, ?_⟩
    · have : m = 0 ∨ m = 1 ∨ m = 2 ∨ m = 3 ∨ m = 4 := by omega
      rcases this with rfl | rfl | rfl | rfl | rfl <;> cases h <;> rfl
    have k05 := k04.trans k5
    have dk5 := dct_up dk k05
    generalize hH5 : upd H4 u4 (.lst [.str "ink", .str "tag", .str "amount", .str "wear", .str "deed", .str "unlike", .str "worn"]) = H5 at *
    refine ⟨rfl, dk5, .inl ⟨_, (own "FadeError" (by simp)).trans (show some (isT "Unlike" "FadeError") = some true by decide), rfl, dk5, _, (blt "ValueError" (by simp)).trans (show some (isT "Unlike" "ValueError") = some true by decide), rfl, dk5, _, (blt "LookupError" (by simp)).trans (show some (isT "Unlike" "LookupError") = some false by decide), fun u5 hu5 => ?_⟩⟩
    have k6 : Kp No H5 (upd H5 u5 (.lst [V.bl true, V.bl true, V.bl false])) := Kp.new hu5
    have dk6 := dct_up dk5 k6
    refine ⟨rfl, dk6, _, (blt "ArithmeticError" (by simp)).trans (show some (isT "Unlike" "ArithmeticError") = some false by decide), rfl, dk6, _, (blt "RuntimeError" (by simp)).trans (show some (isT "Unlike" "RuntimeError") = some false by decide), fun u6 hu6 => ?_⟩
    have k7 : Kp No (upd H5 u5 (.lst [V.bl true, V.bl true, V.bl false])) (upd (upd H5 u5 (.lst [V.bl true, V.bl true, V.bl false])) u6 (.lst [V.bl false, V.bl false])) := Kp.new hu6
    refine .inl ⟨u5, u6, _, _, rfl, rfl, k7.all u5 _ upd_same id, upd_same, by decide, fun u7 hu7 => ?_⟩
    have k8 : Kp No (upd (upd H5 u5 (.lst [V.bl true, V.bl true, V.bl false])) u6 (.lst [V.bl false, V.bl false])) (upd (upd (upd H5 u5 (.lst [V.bl true, V.bl true, V.bl false])) u6 (.lst [V.bl false, V.bl false])) u7 (.lst ([V.bl true, V.bl true, V.bl false] ++ [V.bl false, V.bl false]))) := Kp.new hu7
    have k08 := k05.trans (k6.trans (k7.trans k8))
    have g7 : (upd (upd (upd H5 u5 (.lst [V.bl true, V.bl true, V.bl false])) u6 (.lst [V.bl false, V.bl false])) u7 (.lst ([V.bl true, V.bl true, V.bl false] ++ [V.bl false, V.bl false]))) u7 = some (.lst ([V.bl true, V.bl true, V.bl false] ++ [V.bl false, V.bl false])) := upd_same
    generalize hH8 : upd (upd (upd H5 u5 (.lst [V.bl true, V.bl true, V.bl false])) u6 (.lst [V.bl false, V.bl false])) u7 (.lst ([V.bl true, V.bl true, V.bl false] ++ [V.bl false, V.bl false])) = H8 at *
    intro d9 hd9
    refine ⟨upd_same, [(Sum.inr "ink", V.int 2), (Sum.inr "amount", V.int 3), (Sum.inr "worn", V.int 4)], rfl, by decide, ⟨_, upd_same⟩, _, upd_same, ?_⟩
    have ev : (valV (mergeK [] ([(Sum.inr "ink", V.int 2), (Sum.inr "amount", V.int 3), (Sum.inr "worn", V.int 4)] : List (Key × V))) (Sum.inr "unlike")).getD (V.int 0) = V.int 0 := by decide
    rw [ev]
    have k9 : Kp No H8 (upd H8 d9 (.dK [])) := Kp.new hd9
    have k10 : Kp (At d9) (upd H8 d9 (.dK [])) (upd (upd H8 d9 (.dK [])) d9 (.dK (mergeK [] ([(Sum.inr "ink", V.int 2), (Sum.inr "amount", V.int 3), (Sum.inr "worn", V.int 4)] : List (Key × V))))) := Kp.set rfl upd_same
    have k010 := k08.trans ((k9).drop hd9 k10)
    have g10 := (k9.drop hd9 k10).all u7 _ g7 id
    generalize hH10 : upd (upd H8 d9 (.dK [])) d9 (.dK (mergeK [] ([(Sum.inr "ink", V.int 2), (Sum.inr "amount", V.int 3), (Sum.inr "worn", V.int 4)] : List (Key × V)))) = H10 at *
    intro u11 hu11
    have k11 : Kp No H10 (upd H10 u11 (.lst [V.bl true, V.bl true, V.bl false, V.bl false, V.bl false])) := Kp.new hu11
    refine ⟨.list [.bool true, .bool true, .bool false, .bool false, .bool false], .list [.bool true, .bool true, .bool false, .bool false, .bool false], .lst (.inl (.inl (k11.all u7 _ g10 id))) (.cons (.bl true) (.cons (.bl true) (.cons (.bl false) (.cons (.bl false) (.cons (.bl false) .nil))))), .lst (.inl (.inl upd_same)) (.cons (.bl true) (.cons (.bl true) (.cons (.bl false) (.cons (.bl false) (.cons (.bl false) .nil))))), by decide, by decide, ?_⟩
    refine iteNb (b := PyData.eqv (.list [.bool true, .bool true, .bool false, .bool false, .bool false]) (.list [.bool true, .bool true, .bool false, .bool false, .bool false])) (by decide) ?_
    exact q _ (k010.trans k11)

--SPLIT
def spRefused [Tb] (K : PySem.W.Frag) (CPalette CPlace : Addr) : Sp := fun vs H Q _ => ∃ (a a2 : PlAddr) (ks ks2 : List Ink) (s s2 : Pst), vs = [.ref a.x, .ref a2.x] ∧ PlAt K CPalette CPlace H a ks s ∧ PlAt K CPalette CPlace H a2 ks2 s2 ∧ ks ≠ ks2 ∧ ∀ H', Kp No H H' → Q (.bl true) H'
theorem ok_l_is_refused (D : DefAt K mg "_law_is_refused" s_l_is_refused) (fr : Fr mg) (cf : Cf K mg CPalette CPlace) (xs : Xs K mg) (m_Place_graft : CalMX P w K mg base 5 CPlace "graft" (spGraft K CPalette CPlace)) (c_l_sort : CalH P w K mg base 1 "_law_sort" (spSort K)) : Cal P w K mg base 9 "_law_is_refused" (spRefused K CPalette CPlace) := by
  refine cal_of D sc_l_is_refused (fun _ _ _ _ _ _ us hl => match us, hl with | [_, _], _ => rfl) (fun vs H Q E h => by obtain ⟨a, a2, ks, ks2, s, s2, rfl, _⟩ := h; rfl) fun f cd A out s H vs Q E room gd h => ?_
  obtain ⟨a, a2, ks, ks2, s1, s2, rfl, pa, pb, ne, q⟩ := h
  have em := fun c hc => xs.sf.exm "Unlike" (by simp) c hc
  have ex : PySem.W.exmAny K (.ref (gx K "Unlike")) [.ref (gx K "FadeError"), .ref (gx K "NoInk"), .ref (gx K "NoAmount"), .ref (gx K "Worn")] = some true := by
    unfold PySem.W.exmAny PySem.W.exmAny PySem.W.exmAny PySem.W.exmAny PySem.W.exmAny
    rw [em "FadeError" (by simp), em "NoInk" (by simp), em "NoAmount" (by simp), em "Worn" (by simp)]
    decide
  refine ⟨_, (pss_cons (ys_set 2 sc_l_is_refused.nd pe_str)
    (pss_cons (ps_try_any (i := 3) rfl rfl sc_l_is_refused.nd rfl rfl (asks4 ⟨by rfl, by decide, .inl (xs.sf.mg_ "FadeError" (by simp))⟩ ⟨by rfl, by decide, .inl (xs.sf.mg_ "NoInk" (by simp))⟩ ⟨by rfl, by decide, .inl (xs.sf.mg_ "NoAmount" (by simp))⟩ ⟨by rfl, by decide, .inl (xs.sf.mg_ "Worn" (by simp))⟩) L2.takes0 (fun W pn xe tk pw =>
    (pss_one (ps_expr (ye_methX tk m_Place_graft room gd (yv 0) (pa_cons (yv 1) pa_nil)))))
    (fun a oe cls d pn hz hf =>
    (pss_one (ys_set 2 sc_l_is_refused.nd (ye_callH (ie_suite hz hf) c_l_sort (hotRoom room) (hotGd gd) (by rfl) (pa_cons (yv 3) pa_nil))))))
    (pss_one (ps_ret (pe_cmpR (kEq (K := K) (by rfl) room.units) (yv 2) pe_str (nomark _)))))), ?_⟩
  refine ⟨a.dx, _, pa.ins, rfl, a, a2, ks, ks2, s1, s2, rfl, pa, pb, fun e => absurd e ne, fun _ H1 k1 => ⟨true, ex, fun _ e he => ⟨"Unlike", by simp, rfl, rfl, .inl rfl, fun H2 k2 => q _ (k1.trans k2)⟩, fun z => nomatch z⟩⟩

--SPLIT
theorem ink_perm {ks ks2 : List Ink} (ok : InkOk ks) (p : ks2.Perm ks) : InkOk ks2 :=
  ⟨by rw [p.length_eq]; exact ok.len1, by rw [p.length_eq]; exact ok.len8, fun k hk => ok.nm k (p.mem_iff.mp hk), ((p.map (·.1)).nodup_iff).mpr ok.nd⟩
theorem ink_rot {ks : List Ink} (ok : InkOk ks) : InkOk (ks.drop 1 ++ ks.take 1) := ink_perm ok (by
  have := List.perm_append_comm (l₁ := ks.drop 1) (l₂ := ks.take 1)
  rw [List.take_append_drop] at this
  exact this)
theorem ink_cons {ks : List Ink} {z : Str} {f : Int} (ok : ∀ k ∈ ks, Nm k.1 ∧ 0 ≤ k.2 ∧ k.2 < 10 ^ 400) (nd : (ks.map (·.1)).Nodup) (l7 : ks.length ≤ 7) (hz : Nm z) (f0 : 0 ≤ f) (f1 : f < 10 ^ 400) (hn : z ∉ ks.map (·.1)) : InkOk ((z, f) :: ks) := by
  refine ⟨by rw [List.length_cons]; omega, by rw [List.length_cons]; omega, fun k hk => ?_, ?_⟩
  · rcases List.mem_cons.mp hk with rfl | hk
    · exact ⟨hz, f0, f1⟩
    · exact ok k hk
  · rw [List.map_cons, List.nodup_cons]
    exact ⟨hn, nd⟩
theorem ink_snoc {ks : List Ink} {z : Str} (ok : InkOk ks) (l7 : ks.length ≤ 7) (hz : Nm z) (hn : z ∉ ks.map (·.1)) : InkOk (ks ++ [(z, 0)]) := ink_perm (ink_cons (f := 0) ok.nm ok.nd l7 hz (by decide) (by decide) hn) (List.perm_append_singleton _ _)
theorem ink_at_ok {ks : List Ink} {j : Nat} {z : Str} {f : Int} (ok : InkOk ks) (hj : j < ks.length) (hz : Nm z) (f0 : 0 ≤ f) (f1 : f < 10 ^ 400) (hn : z = ks[j].1 ∨ z ∉ ks.map (·.1)) : InkOk ((ks.take j ++ [(z, f)]) ++ ks.drop (j + 1)) := by
  have e1 : (ks.take j ++ [(z, f)]) ++ ks.drop (j + 1) = ks.take j ++ (z, f) :: ks.drop (j + 1) := by rw [List.append_assoc]; rfl
  have e2 : ks = ks.take j ++ ks[j] :: ks.drop (j + 1) := by rw [← List.drop_eq_getElem_cons hj, List.take_append_drop]
  have p2 : ks.Perm (ks[j] :: (ks.take j ++ ks.drop (j + 1))) := by
    have := List.perm_middle (a := ks[j]) (l₁ := ks.take j) (l₂ := ks.drop (j + 1))
    rw [← e2] at this
    exact this
  have nd2 := ((p2.map (·.1)).nodup_iff).mp ok.nd
  rw [List.map_cons, List.nodup_cons] at nd2
  have ln : (ks.take j ++ ks.drop (j + 1)).length ≤ 7 := by
    have := p2.length_eq
    rw [List.length_cons] at this
    have := ok.len8
    omega
  rw [e1]
  refine ink_perm (ink_cons (z := z) (f := f) (ks := ks.take j ++ ks.drop (j + 1)) (fun k hk => ok.nm k (p2.mem_iff.mpr (List.mem_cons_of_mem _ hk))) nd2.2 ln hz f0 f1 ?_) List.perm_middle
  rcases hn with rfl | hn
  · exact nd2.1
  · intro h
    obtain ⟨k, hk, e⟩ := List.mem_map.mp h
    exact hn (List.mem_map.mpr ⟨k, p2.mem_iff.mpr (List.mem_cons_of_mem _ hk), e⟩)
def spOther [Tb] (K : PySem.W.Frag) : Sp := fun vs H Q _ => ∃ (p il : Addr) (ys : List V) (ks : List Ink), vs = [.ref p, .ref il] ∧ Pot H p ∧ H il = some (.lst ys) ∧ ImAll K H ys (ks.map inkD) ∧ InkOk ks ∧ ks.length ≤ 7 ∧ (∀ k ∈ ks, k.2 < 10 ^ 30) ∧ il ≠ p ∧ ∀ l ys2 ks2 H', Kp (At p) H H' → Pot H' p → H' l = some (.lst ys2) → ImAll K H' ys2 (ks2.map inkD) → InkOk ks2 → ks ≠ ks2 → (∀ k ∈ ks2, k.2 ≤ 10 ^ 30) → Q (.ref l) H'
theorem ok_l_other_inks (D : DefAt K mg "_law_other_inks" s_l_other_inks) (fr : Fr mg) (c_l_take : Cal P w K mg base 1 "_law_take" spTake) (c_l_word : Cal P w K mg base 2 "_law_word" spWord2) : Cal P w K mg base 3 "_law_other_inks" (spOther K) := by
  refine cal_of D sc_l_other_inks (fun _ _ _ _ _ _ us hl => match us, hl with | [_, _], _ => rfl) (fun vs H Q E h => by obtain ⟨p, il, ys, ks, rfl, _⟩ := h; rfl) fun f cd A out s H vs Q E room gd h => ?_
  obtain ⟨p, il, ys, ks, rfl, pot, hil, im, ok, l7, f30, nip, q⟩ := h
  have el : ys.length = ks.length := by rw [im.length, List.length_map]
  have l1 := ok.len1
  refine ⟨_, (pss_cons (ps_par (i := 2) (j := 3) (by rfl) sc_l_other_inks.nd rfl rfl (by decide) rfl rfl (pa_cons (ye_call c_l_take room gd (by rfl) (pa_cons (yv 0) (pa_cons (pe_callB (kLen (K := K) (by rfl)) (by rfl) fr.len_ (by decide +kernel) (pa_cons (yv 1) pa_nil)) pa_nil))) (pa_cons (ye_call c_l_word room gd (by rfl) (pa_cons (yv 0) (pa_cons (pe_lc (own := [("_law_ink", 4), ("_law_much", 5)]) rfl sc_l_other_inks.nd (kiList (K := K) (by rfl) (yv 1)) (blkOk_by (own := [("_law_ink", 4), ("_law_much", 5)]) (N := n_l_other_inks) (sc := defScope s_l_other_inks) (by decide +kernel)) (fun _ _ _ _ _ => (kgTup (K := K) (n := 2) (by rfl) rfl (yg_cons (yg_name 4 sc_l_other_inks.nd) (yg_cons (yg_name 5 sc_l_other_inks.nd) yg_nil)))) (fun _ _ _ _ _ => pts_nil) (fun _ _ _ _ _ => (yv 4))) pa_nil))) pa_nil)) (by rfl))
    (pss_cons (ps_asg (kIx (K := K) (by rfl) (yv 1) (yv 2)) (kgTup (K := K) (n := 2) (by rfl) rfl (yg_cons (yg_name 6 sc_l_other_inks.nd) (yg_cons (yg_name 7 sc_l_other_inks.nd) yg_nil))))
    (pss_cons (ys_set 8 sc_l_other_inks.nd (ye_lst (pa_cons (pe_op (kAdd (K := K) (by rfl)) (kSl (K := K) (by rfl) (yv 1) (yo_some pe_int) po_none) (kSl (K := K) (by rfl) (yv 1) po_none (yo_some pe_int))) (pa_cons (pe_op (kAdd (K := K) (by rfl)) (pe_op (kAdd (K := K) (by rfl)) (kSl (K := K) (by rfl) (yv 1) po_none (yo_some (yv 2))) (ye_lst (pa_cons (ye_tup (pa_cons (yv 6) (pa_cons (pe_op (kAdd (K := K) (by rfl)) (yv 7) pe_int) pa_nil))) pa_nil))) (kSl (K := K) (by rfl) (yv 1) (yo_some (pe_op (kAdd (K := K) (by rfl)) (yv 2) pe_int)) po_none)) (pa_cons (pe_op (kAdd (K := K) (by rfl)) (yv 1) (ye_lst (pa_cons (ye_tup (pa_cons (yv 3) (pa_cons pe_int pa_nil))) pa_nil))) pa_nil)))))
    (pss_cons (ys_set 9 sc_l_other_inks.nd (kIx (K := K) (by rfl) (pe_op (kAdd (K := K) (by rfl)) (yv 8) (ye_lst (pa_cons (pe_op (kAdd (K := K) (by rfl)) (pe_op (kAdd (K := K) (by rfl)) (kSl (K := K) (by rfl) (yv 1) po_none (yo_some (yv 2))) (ye_lst (pa_cons (ye_tup (pa_cons (yv 3) (pa_cons (yv 7) pa_nil))) pa_nil))) (kSl (K := K) (by rfl) (yv 1) (yo_some (pe_op (kAdd (K := K) (by rfl)) (yv 2) pe_int)) po_none)) pa_nil))) (ye_call c_l_take room gd (by rfl) (pa_cons (yv 0) (pa_cons pe_int pa_nil)))))
    (pss_cons (ps_if (yt_cmp (kEq (K := K) (by rfl) room.units) (yv 9) (yv 1) (nomark _)) (pss_one (ps_ret (pe_op (kAdd (K := K) (by rfl)) (yv 1) (ye_lst (pa_cons (ye_tup (pa_cons (yv 3) (pa_cons pe_int pa_nil))) pa_nil))))) pss_nil)
    (pss_one (ps_ret (yv 9)))))))), ?_⟩
  refine ⟨_, .inl (.inl (.inl hil)), p, _, rfl, pot, by omega, by omega, fun e H1 k1 p1 e0 e1 => ?_⟩
  have hj : e.toNat < ks.length := by omega
  have il1 := k1.all il _ hil nip
  refine ⟨⟨_, .inl (.inl il1)⟩, fun Dd hD => ?_⟩
  --GEN
  refine lc_mapL (K := K) inkD PyData.str (fun k : Ink => some k.1) ks hD (.inl (.inl il1)) (ImAll.up k1 _ _ im) (by omega) (fun x k Hc kk kn hm imk kc hk hkn => ?_) (fun ns H2 h2 k2 imn => ?_)
  · obtain ⟨b, rfl, tb⟩ := imk.layInv
    exact ⟨_, tb.sq, rfl, rfl, hk _ k.1 _ rfl (Kp.refl _) (.str _)⟩
  have en : ks.filterMap (fun k : Ink => some k.1) = ks.map (·.1) := by
    rw [← List.filterMap_eq_map]
    rfl
  rw [en] at imn
  obtain rfl := ImAll.strs imn
  have nDp : Dd ≠ p := fun e => (p1.ne hD) e.symm
  refine ⟨p, Dd, _, rfl, p1.keep k2 id, h2, by rw [List.length_map]; omega, nDp, fun z H3 k3 p3 nz zn => ⟨_, _, rfl, ?_⟩⟩
  have k03 : Kp (At p) H H3 := k1.trans (k2.no.trans k3)
  have f_il_0 := k03.all il _ hil nip
  have im0 := ImAll.up k03 _ _ im
  obtain ⟨c, g1, tc⟩ := ink_at im0 hj
  have kn := ok.nm _ (List.getElem_mem hj)
  have f30j := f30 _ (List.getElem_mem hj)
  refine ⟨_, .ref c, .inl (.inl (.inl f_il_0)), at_of (j := e.toNat) (by omega) g1, _, tc.sq, rfl, ?_⟩
  have kc0 : Kp No H3 H3 := Kp.refl _
  have eN : e.toNat = e.toNat := rfl
  have e1N : (e + 1).toNat = e.toNat + 1 := by omega
  refine .inl ⟨ys, .inl (.inl f_il_0), fun a1 h_a1 => ?_⟩
  rw [cut_drop (show (0 : Int) ≤ 1 by omega)]
  have k_a1 : Kp No H3 (upd H3 a1 (.lst (ys.drop (1 : Int).toNat))) := Kp.new h_a1
  have f_a1_1 : (upd H3 a1 (.lst (ys.drop (1 : Int).toNat))) a1 = some (.lst (ys.drop (1 : Int).toNat)) := upd_same
  have f_il_1 := k_a1.all il _ f_il_0 id
  have kc1 := kc0.trans k_a1
  generalize upd H3 a1 (.lst (ys.drop (1 : Int).toNat)) = G1 at *
  refine .inl ⟨ys, .inl (.inl f_il_1), fun a2 h_a2 => ?_⟩
  rw [cut_take (show (0 : Int) ≤ 1 by omega)]
  have k_a2 : Kp No G1 (upd G1 a2 (.lst (ys.take (1 : Int).toNat))) := Kp.new h_a2
  have f_a2_2 : (upd G1 a2 (.lst (ys.take (1 : Int).toNat))) a2 = some (.lst (ys.take (1 : Int).toNat)) := upd_same
  have f_il_2 := k_a2.all il _ f_il_1 id
  have f_a1_2 := k_a2.all a1 _ f_a1_1 id
  have kc2 := kc1.trans k_a2
  generalize upd G1 a2 (.lst (ys.take (1 : Int).toNat)) = G2 at *
  refine .inl ⟨a1, a2, _, _, rfl, rfl, f_a1_2, f_a2_2, small_of (by simp only [List.length_append, List.length_take, List.length_drop, List.length_cons, List.length_nil]; omega), fun l1 h_l1 => ?_⟩
  have k_l1 : Kp No G2 (upd G2 l1 (.lst ((ys.drop (1 : Int).toNat) ++ (ys.take (1 : Int).toNat)))) := Kp.new h_l1
  have f_l1_3 : (upd G2 l1 (.lst ((ys.drop (1 : Int).toNat) ++ (ys.take (1 : Int).toNat)))) l1 = some (.lst ((ys.drop (1 : Int).toNat) ++ (ys.take (1 : Int).toNat))) := upd_same
  have f_il_3 := k_l1.all il _ f_il_2 id
  have f_a1_3 := k_l1.all a1 _ f_a1_2 id
  have f_a2_3 := k_l1.all a2 _ f_a2_2 id
  have kc3 := kc2.trans k_l1
  generalize upd G2 l1 (.lst ((ys.drop (1 : Int).toNat) ++ (ys.take (1 : Int).toNat))) = G3 at *
  refine .inl ⟨ys, .inl (.inl f_il_3), fun a3 h_a3 => ?_⟩
  rw [cut_take (show (0 : Int) ≤ e by omega)]
  have k_a3 : Kp No G3 (upd G3 a3 (.lst (ys.take e.toNat))) := Kp.new h_a3
  have f_a3_4 : (upd G3 a3 (.lst (ys.take e.toNat))) a3 = some (.lst (ys.take e.toNat)) := upd_same
  have f_il_4 := k_a3.all il _ f_il_3 id
  have f_a1_4 := k_a3.all a1 _ f_a1_3 id
  have f_a2_4 := k_a3.all a2 _ f_a2_3 id
  have f_l1_4 := k_a3.all l1 _ f_l1_3 id
  have kc4 := kc3.trans k_a3
  generalize upd G3 a3 (.lst (ys.take e.toNat)) = G4 at *
  refine fun t1 h_t1 => ?_
  have k_t1 : Kp No G4 (upd G4 t1 (.tup [.str ks[e.toNat].1, .int (ks[e.toNat].2 + 1)])) := Kp.new h_t1
  have f_t1_5 : (upd G4 t1 (.tup [.str ks[e.toNat].1, .int (ks[e.toNat].2 + 1)])) t1 = some (.tup [.str ks[e.toNat].1, .int (ks[e.toNat].2 + 1)]) := upd_same
  have f_il_5 := k_t1.all il _ f_il_4 id
  have f_a1_5 := k_t1.all a1 _ f_a1_4 id
  have f_a2_5 := k_t1.all a2 _ f_a2_4 id
  have f_l1_5 := k_t1.all l1 _ f_l1_4 id
  have f_a3_5 := k_t1.all a3 _ f_a3_4 id
  have kc5 := kc4.trans k_t1
  generalize upd G4 t1 (.tup [.str ks[e.toNat].1, .int (ks[e.toNat].2 + 1)]) = G5 at *
  refine fun b1 h_b1 => ?_
  have k_b1 : Kp No G5 (upd G5 b1 (.lst [.ref t1])) := Kp.new h_b1
  have f_b1_6 : (upd G5 b1 (.lst [.ref t1])) b1 = some (.lst [.ref t1]) := upd_same
  have f_il_6 := k_b1.all il _ f_il_5 id
  have f_a1_6 := k_b1.all a1 _ f_a1_5 id
  have f_a2_6 := k_b1.all a2 _ f_a2_5 id
  have f_l1_6 := k_b1.all l1 _ f_l1_5 id
  have f_a3_6 := k_b1.all a3 _ f_a3_5 id
  have f_t1_6 := k_b1.tup t1 _ f_t1_5
  have kc6 := kc5.trans k_b1
  generalize upd G5 b1 (.lst [.ref t1]) = G6 at *
  refine .inl ⟨a3, b1, _, _, rfl, rfl, f_a3_6, f_b1_6, small_of (by simp only [List.length_append, List.length_take, List.length_drop, List.length_cons, List.length_nil]; omega), fun m1 h_m1 => ?_⟩
  have k_m1 : Kp No G6 (upd G6 m1 (.lst ((ys.take e.toNat) ++ [.ref t1]))) := Kp.new h_m1
  have f_m1_7 : (upd G6 m1 (.lst ((ys.take e.toNat) ++ [.ref t1]))) m1 = some (.lst ((ys.take e.toNat) ++ [.ref t1])) := upd_same
  have f_il_7 := k_m1.all il _ f_il_6 id
  have f_a1_7 := k_m1.all a1 _ f_a1_6 id
  have f_a2_7 := k_m1.all a2 _ f_a2_6 id
  have f_l1_7 := k_m1.all l1 _ f_l1_6 id
  have f_a3_7 := k_m1.all a3 _ f_a3_6 id
  have f_b1_7 := k_m1.all b1 _ f_b1_6 id
  have f_t1_7 := k_m1.tup t1 _ f_t1_6
  have kc7 := kc6.trans k_m1
  generalize upd G6 m1 (.lst ((ys.take e.toNat) ++ [.ref t1])) = G7 at *
  refine .inl ⟨ys, .inl (.inl f_il_7), fun a4 h_a4 => ?_⟩
  rw [cut_drop (show (0 : Int) ≤ e + 1 by omega)]
  have k_a4 : Kp No G7 (upd G7 a4 (.lst (ys.drop (e + 1).toNat))) := Kp.new h_a4
  have f_a4_8 : (upd G7 a4 (.lst (ys.drop (e + 1).toNat))) a4 = some (.lst (ys.drop (e + 1).toNat)) := upd_same
  have f_il_8 := k_a4.all il _ f_il_7 id
  have f_a1_8 := k_a4.all a1 _ f_a1_7 id
  have f_a2_8 := k_a4.all a2 _ f_a2_7 id
  have f_l1_8 := k_a4.all l1 _ f_l1_7 id
  have f_a3_8 := k_a4.all a3 _ f_a3_7 id
  have f_b1_8 := k_a4.all b1 _ f_b1_7 id
  have f_m1_8 := k_a4.all m1 _ f_m1_7 id
  have f_t1_8 := k_a4.tup t1 _ f_t1_7
  have kc8 := kc7.trans k_a4
  generalize upd G7 a4 (.lst (ys.drop (e + 1).toNat)) = G8 at *
  refine .inl ⟨m1, a4, _, _, rfl, rfl, f_m1_8, f_a4_8, small_of (by simp only [List.length_append, List.length_take, List.length_drop, List.length_cons, List.length_nil]; omega), fun l2 h_l2 => ?_⟩
  have k_l2 : Kp No G8 (upd G8 l2 (.lst (((ys.take e.toNat) ++ [.ref t1]) ++ (ys.drop (e + 1).toNat)))) := Kp.new h_l2
  have f_l2_9 : (upd G8 l2 (.lst (((ys.take e.toNat) ++ [.ref t1]) ++ (ys.drop (e + 1).toNat)))) l2 = some (.lst (((ys.take e.toNat) ++ [.ref t1]) ++ (ys.drop (e + 1).toNat))) := upd_same
  have f_il_9 := k_l2.all il _ f_il_8 id
  have f_a1_9 := k_l2.all a1 _ f_a1_8 id
  have f_a2_9 := k_l2.all a2 _ f_a2_8 id
  have f_l1_9 := k_l2.all l1 _ f_l1_8 id
  have f_a3_9 := k_l2.all a3 _ f_a3_8 id
  have f_b1_9 := k_l2.all b1 _ f_b1_8 id
  have f_m1_9 := k_l2.all m1 _ f_m1_8 id
  have f_a4_9 := k_l2.all a4 _ f_a4_8 id
  have f_t1_9 := k_l2.tup t1 _ f_t1_8
  have kc9 := kc8.trans k_l2
  generalize upd G8 l2 (.lst (((ys.take e.toNat) ++ [.ref t1]) ++ (ys.drop (e + 1).toNat))) = G9 at *
  refine fun t2 h_t2 => ?_
  have k_t2 : Kp No G9 (upd G9 t2 (.tup [.str z, .int 0])) := Kp.new h_t2
  have f_t2_10 : (upd G9 t2 (.tup [.str z, .int 0])) t2 = some (.tup [.str z, .int 0]) := upd_same
  have f_il_10 := k_t2.all il _ f_il_9 id
  have f_a1_10 := k_t2.all a1 _ f_a1_9 id
  have f_a2_10 := k_t2.all a2 _ f_a2_9 id
  have f_l1_10 := k_t2.all l1 _ f_l1_9 id
  have f_a3_10 := k_t2.all a3 _ f_a3_9 id
  have f_b1_10 := k_t2.all b1 _ f_b1_9 id
  have f_m1_10 := k_t2.all m1 _ f_m1_9 id
  have f_a4_10 := k_t2.all a4 _ f_a4_9 id
  have f_l2_10 := k_t2.all l2 _ f_l2_9 id
  have f_t1_10 := k_t2.tup t1 _ f_t1_9
  have kc10 := kc9.trans k_t2
  generalize upd G9 t2 (.tup [.str z, .int 0]) = G10 at *
  refine fun b2 h_b2 => ?_
  have k_b2 : Kp No G10 (upd G10 b2 (.lst [.ref t2])) := Kp.new h_b2
  have f_b2_11 : (upd G10 b2 (.lst [.ref t2])) b2 = some (.lst [.ref t2]) := upd_same
  have f_il_11 := k_b2.all il _ f_il_10 id
  have f_a1_11 := k_b2.all a1 _ f_a1_10 id
  have f_a2_11 := k_b2.all a2 _ f_a2_10 id
  have f_l1_11 := k_b2.all l1 _ f_l1_10 id
  have f_a3_11 := k_b2.all a3 _ f_a3_10 id
  have f_b1_11 := k_b2.all b1 _ f_b1_10 id
  have f_m1_11 := k_b2.all m1 _ f_m1_10 id
  have f_a4_11 := k_b2.all a4 _ f_a4_10 id
  have f_l2_11 := k_b2.all l2 _ f_l2_10 id
  have f_t1_11 := k_b2.tup t1 _ f_t1_10
  have f_t2_11 := k_b2.tup t2 _ f_t2_10
  have kc11 := kc10.trans k_b2
  generalize upd G10 b2 (.lst [.ref t2]) = G11 at *
  refine .inl ⟨il, b2, _, _, rfl, rfl, f_il_11, f_b2_11, small_of (by simp only [List.length_append, List.length_take, List.length_drop, List.length_cons, List.length_nil]; omega), fun l3 h_l3 => ?_⟩
  have k_l3 : Kp No G11 (upd G11 l3 (.lst (ys ++ [.ref t2]))) := Kp.new h_l3
  have f_l3_12 : (upd G11 l3 (.lst (ys ++ [.ref t2]))) l3 = some (.lst (ys ++ [.ref t2])) := upd_same
  have f_il_12 := k_l3.all il _ f_il_11 id
  have f_a1_12 := k_l3.all a1 _ f_a1_11 id
  have f_a2_12 := k_l3.all a2 _ f_a2_11 id
  have f_l1_12 := k_l3.all l1 _ f_l1_11 id
  have f_a3_12 := k_l3.all a3 _ f_a3_11 id
  have f_b1_12 := k_l3.all b1 _ f_b1_11 id
  have f_m1_12 := k_l3.all m1 _ f_m1_11 id
  have f_a4_12 := k_l3.all a4 _ f_a4_11 id
  have f_l2_12 := k_l3.all l2 _ f_l2_11 id
  have f_b2_12 := k_l3.all b2 _ f_b2_11 id
  have f_t1_12 := k_l3.tup t1 _ f_t1_11
  have f_t2_12 := k_l3.tup t2 _ f_t2_11
  have kc12 := kc11.trans k_l3
  generalize upd G11 l3 (.lst (ys ++ [.ref t2])) = G12 at *
  refine fun s1 h_s1 => ?_
  have k_s1 : Kp No G12 (upd G12 s1 (.lst [.ref l1, .ref l2, .ref l3])) := Kp.new h_s1
  have f_s1_13 : (upd G12 s1 (.lst [.ref l1, .ref l2, .ref l3])) s1 = some (.lst [.ref l1, .ref l2, .ref l3]) := upd_same
  have f_il_13 := k_s1.all il _ f_il_12 id
  have f_a1_13 := k_s1.all a1 _ f_a1_12 id
  have f_a2_13 := k_s1.all a2 _ f_a2_12 id
  have f_l1_13 := k_s1.all l1 _ f_l1_12 id
  have f_a3_13 := k_s1.all a3 _ f_a3_12 id
  have f_b1_13 := k_s1.all b1 _ f_b1_12 id
  have f_m1_13 := k_s1.all m1 _ f_m1_12 id
  have f_a4_13 := k_s1.all a4 _ f_a4_12 id
  have f_l2_13 := k_s1.all l2 _ f_l2_12 id
  have f_b2_13 := k_s1.all b2 _ f_b2_12 id
  have f_l3_13 := k_s1.all l3 _ f_l3_12 id
  have f_t1_13 := k_s1.tup t1 _ f_t1_12
  have f_t2_13 := k_s1.tup t2 _ f_t2_12
  have kc13 := kc12.trans k_s1
  generalize upd G12 s1 (.lst [.ref l1, .ref l2, .ref l3]) = G13 at *
  refine .inl ⟨ys, .inl (.inl f_il_13), fun a5 h_a5 => ?_⟩
  rw [cut_take (show (0 : Int) ≤ e by omega)]
  have k_a5 : Kp No G13 (upd G13 a5 (.lst (ys.take e.toNat))) := Kp.new h_a5
  have f_a5_14 : (upd G13 a5 (.lst (ys.take e.toNat))) a5 = some (.lst (ys.take e.toNat)) := upd_same
  have f_il_14 := k_a5.all il _ f_il_13 id
  have f_a1_14 := k_a5.all a1 _ f_a1_13 id
  have f_a2_14 := k_a5.all a2 _ f_a2_13 id
  have f_l1_14 := k_a5.all l1 _ f_l1_13 id
  have f_a3_14 := k_a5.all a3 _ f_a3_13 id
  have f_b1_14 := k_a5.all b1 _ f_b1_13 id
  have f_m1_14 := k_a5.all m1 _ f_m1_13 id
  have f_a4_14 := k_a5.all a4 _ f_a4_13 id
  have f_l2_14 := k_a5.all l2 _ f_l2_13 id
  have f_b2_14 := k_a5.all b2 _ f_b2_13 id
  have f_l3_14 := k_a5.all l3 _ f_l3_13 id
  have f_s1_14 := k_a5.all s1 _ f_s1_13 id
  have f_t1_14 := k_a5.tup t1 _ f_t1_13
  have f_t2_14 := k_a5.tup t2 _ f_t2_13
  have kc14 := kc13.trans k_a5
  generalize upd G13 a5 (.lst (ys.take e.toNat)) = G14 at *
  refine fun t3 h_t3 => ?_
  have k_t3 : Kp No G14 (upd G14 t3 (.tup [.str z, .int ks[e.toNat].2])) := Kp.new h_t3
  have f_t3_15 : (upd G14 t3 (.tup [.str z, .int ks[e.toNat].2])) t3 = some (.tup [.str z, .int ks[e.toNat].2]) := upd_same
  have f_il_15 := k_t3.all il _ f_il_14 id
  have f_a1_15 := k_t3.all a1 _ f_a1_14 id
  have f_a2_15 := k_t3.all a2 _ f_a2_14 id
  have f_l1_15 := k_t3.all l1 _ f_l1_14 id
  have f_a3_15 := k_t3.all a3 _ f_a3_14 id
  have f_b1_15 := k_t3.all b1 _ f_b1_14 id
  have f_m1_15 := k_t3.all m1 _ f_m1_14 id
  have f_a4_15 := k_t3.all a4 _ f_a4_14 id
  have f_l2_15 := k_t3.all l2 _ f_l2_14 id
  have f_b2_15 := k_t3.all b2 _ f_b2_14 id
  have f_l3_15 := k_t3.all l3 _ f_l3_14 id
  have f_s1_15 := k_t3.all s1 _ f_s1_14 id
  have f_a5_15 := k_t3.all a5 _ f_a5_14 id
  have f_t1_15 := k_t3.tup t1 _ f_t1_14
  have f_t2_15 := k_t3.tup t2 _ f_t2_14
  have kc15 := kc14.trans k_t3
  generalize upd G14 t3 (.tup [.str z, .int ks[e.toNat].2]) = G15 at *
  refine fun b3 h_b3 => ?_
  have k_b3 : Kp No G15 (upd G15 b3 (.lst [.ref t3])) := Kp.new h_b3
  have f_b3_16 : (upd G15 b3 (.lst [.ref t3])) b3 = some (.lst [.ref t3]) := upd_same
  have f_il_16 := k_b3.all il _ f_il_15 id
  have f_a1_16 := k_b3.all a1 _ f_a1_15 id
  have f_a2_16 := k_b3.all a2 _ f_a2_15 id
  have f_l1_16 := k_b3.all l1 _ f_l1_15 id
  have f_a3_16 := k_b3.all a3 _ f_a3_15 id
  have f_b1_16 := k_b3.all b1 _ f_b1_15 id
  have f_m1_16 := k_b3.all m1 _ f_m1_15 id
  have f_a4_16 := k_b3.all a4 _ f_a4_15 id
  have f_l2_16 := k_b3.all l2 _ f_l2_15 id
  have f_b2_16 := k_b3.all b2 _ f_b2_15 id
  have f_l3_16 := k_b3.all l3 _ f_l3_15 id
  have f_s1_16 := k_b3.all s1 _ f_s1_15 id
  have f_a5_16 := k_b3.all a5 _ f_a5_15 id
  have f_t1_16 := k_b3.tup t1 _ f_t1_15
  have f_t2_16 := k_b3.tup t2 _ f_t2_15
  have f_t3_16 := k_b3.tup t3 _ f_t3_15
  have kc16 := kc15.trans k_b3
  generalize upd G15 b3 (.lst [.ref t3]) = G16 at *
  refine .inl ⟨a5, b3, _, _, rfl, rfl, f_a5_16, f_b3_16, small_of (by simp only [List.length_append, List.length_take, List.length_drop, List.length_cons, List.length_nil]; omega), fun m2 h_m2 => ?_⟩
  have k_m2 : Kp No G16 (upd G16 m2 (.lst ((ys.take e.toNat) ++ [.ref t3]))) := Kp.new h_m2
  have f_m2_17 : (upd G16 m2 (.lst ((ys.take e.toNat) ++ [.ref t3]))) m2 = some (.lst ((ys.take e.toNat) ++ [.ref t3])) := upd_same
  have f_il_17 := k_m2.all il _ f_il_16 id
  have f_a1_17 := k_m2.all a1 _ f_a1_16 id
  have f_a2_17 := k_m2.all a2 _ f_a2_16 id
  have f_l1_17 := k_m2.all l1 _ f_l1_16 id
  have f_a3_17 := k_m2.all a3 _ f_a3_16 id
  have f_b1_17 := k_m2.all b1 _ f_b1_16 id
  have f_m1_17 := k_m2.all m1 _ f_m1_16 id
  have f_a4_17 := k_m2.all a4 _ f_a4_16 id
  have f_l2_17 := k_m2.all l2 _ f_l2_16 id
  have f_b2_17 := k_m2.all b2 _ f_b2_16 id
  have f_l3_17 := k_m2.all l3 _ f_l3_16 id
  have f_s1_17 := k_m2.all s1 _ f_s1_16 id
  have f_a5_17 := k_m2.all a5 _ f_a5_16 id
  have f_b3_17 := k_m2.all b3 _ f_b3_16 id
  have f_t1_17 := k_m2.tup t1 _ f_t1_16
  have f_t2_17 := k_m2.tup t2 _ f_t2_16
  have f_t3_17 := k_m2.tup t3 _ f_t3_16
  have kc17 := kc16.trans k_m2
  generalize upd G16 m2 (.lst ((ys.take e.toNat) ++ [.ref t3])) = G17 at *
  refine .inl ⟨ys, .inl (.inl f_il_17), fun a6 h_a6 => ?_⟩
  rw [cut_drop (show (0 : Int) ≤ e + 1 by omega)]
  have k_a6 : Kp No G17 (upd G17 a6 (.lst (ys.drop (e + 1).toNat))) := Kp.new h_a6
  have f_a6_18 : (upd G17 a6 (.lst (ys.drop (e + 1).toNat))) a6 = some (.lst (ys.drop (e + 1).toNat)) := upd_same
  have f_il_18 := k_a6.all il _ f_il_17 id
  have f_a1_18 := k_a6.all a1 _ f_a1_17 id
  have f_a2_18 := k_a6.all a2 _ f_a2_17 id
  have f_l1_18 := k_a6.all l1 _ f_l1_17 id
  have f_a3_18 := k_a6.all a3 _ f_a3_17 id
  have f_b1_18 := k_a6.all b1 _ f_b1_17 id
  have f_m1_18 := k_a6.all m1 _ f_m1_17 id
  have f_a4_18 := k_a6.all a4 _ f_a4_17 id
  have f_l2_18 := k_a6.all l2 _ f_l2_17 id
  have f_b2_18 := k_a6.all b2 _ f_b2_17 id
  have f_l3_18 := k_a6.all l3 _ f_l3_17 id
  have f_s1_18 := k_a6.all s1 _ f_s1_17 id
  have f_a5_18 := k_a6.all a5 _ f_a5_17 id
  have f_b3_18 := k_a6.all b3 _ f_b3_17 id
  have f_m2_18 := k_a6.all m2 _ f_m2_17 id
  have f_t1_18 := k_a6.tup t1 _ f_t1_17
  have f_t2_18 := k_a6.tup t2 _ f_t2_17
  have f_t3_18 := k_a6.tup t3 _ f_t3_17
  have kc18 := kc17.trans k_a6
  generalize upd G17 a6 (.lst (ys.drop (e + 1).toNat)) = G18 at *
  refine .inl ⟨m2, a6, _, _, rfl, rfl, f_m2_18, f_a6_18, small_of (by simp only [List.length_append, List.length_take, List.length_drop, List.length_cons, List.length_nil]; omega), fun l4 h_l4 => ?_⟩
  have k_l4 : Kp No G18 (upd G18 l4 (.lst (((ys.take e.toNat) ++ [.ref t3]) ++ (ys.drop (e + 1).toNat)))) := Kp.new h_l4
  have f_l4_19 : (upd G18 l4 (.lst (((ys.take e.toNat) ++ [.ref t3]) ++ (ys.drop (e + 1).toNat)))) l4 = some (.lst (((ys.take e.toNat) ++ [.ref t3]) ++ (ys.drop (e + 1).toNat))) := upd_same
  have f_il_19 := k_l4.all il _ f_il_18 id
  have f_a1_19 := k_l4.all a1 _ f_a1_18 id
  have f_a2_19 := k_l4.all a2 _ f_a2_18 id
  have f_l1_19 := k_l4.all l1 _ f_l1_18 id
  have f_a3_19 := k_l4.all a3 _ f_a3_18 id
  have f_b1_19 := k_l4.all b1 _ f_b1_18 id
  have f_m1_19 := k_l4.all m1 _ f_m1_18 id
  have f_a4_19 := k_l4.all a4 _ f_a4_18 id
  have f_l2_19 := k_l4.all l2 _ f_l2_18 id
  have f_b2_19 := k_l4.all b2 _ f_b2_18 id
  have f_l3_19 := k_l4.all l3 _ f_l3_18 id
  have f_s1_19 := k_l4.all s1 _ f_s1_18 id
  have f_a5_19 := k_l4.all a5 _ f_a5_18 id
  have f_b3_19 := k_l4.all b3 _ f_b3_18 id
  have f_m2_19 := k_l4.all m2 _ f_m2_18 id
  have f_a6_19 := k_l4.all a6 _ f_a6_18 id
  have f_t1_19 := k_l4.tup t1 _ f_t1_18
  have f_t2_19 := k_l4.tup t2 _ f_t2_18
  have f_t3_19 := k_l4.tup t3 _ f_t3_18
  have kc19 := kc18.trans k_l4
  generalize upd G18 l4 (.lst (((ys.take e.toNat) ++ [.ref t3]) ++ (ys.drop (e + 1).toNat))) = G19 at *
  refine fun b4 h_b4 => ?_
  have k_b4 : Kp No G19 (upd G19 b4 (.lst [.ref l4])) := Kp.new h_b4
  have f_b4_20 : (upd G19 b4 (.lst [.ref l4])) b4 = some (.lst [.ref l4]) := upd_same
  have f_il_20 := k_b4.all il _ f_il_19 id
  have f_a1_20 := k_b4.all a1 _ f_a1_19 id
  have f_a2_20 := k_b4.all a2 _ f_a2_19 id
  have f_l1_20 := k_b4.all l1 _ f_l1_19 id
  have f_a3_20 := k_b4.all a3 _ f_a3_19 id
  have f_b1_20 := k_b4.all b1 _ f_b1_19 id
  have f_m1_20 := k_b4.all m1 _ f_m1_19 id
  have f_a4_20 := k_b4.all a4 _ f_a4_19 id
  have f_l2_20 := k_b4.all l2 _ f_l2_19 id
  have f_b2_20 := k_b4.all b2 _ f_b2_19 id
  have f_l3_20 := k_b4.all l3 _ f_l3_19 id
  have f_s1_20 := k_b4.all s1 _ f_s1_19 id
  have f_a5_20 := k_b4.all a5 _ f_a5_19 id
  have f_b3_20 := k_b4.all b3 _ f_b3_19 id
  have f_m2_20 := k_b4.all m2 _ f_m2_19 id
  have f_a6_20 := k_b4.all a6 _ f_a6_19 id
  have f_l4_20 := k_b4.all l4 _ f_l4_19 id
  have f_t1_20 := k_b4.tup t1 _ f_t1_19
  have f_t2_20 := k_b4.tup t2 _ f_t2_19
  have f_t3_20 := k_b4.tup t3 _ f_t3_19
  have kc20 := kc19.trans k_b4
  generalize upd G19 b4 (.lst [.ref l4]) = G20 at *
  refine .inl ⟨s1, b4, _, _, rfl, rfl, f_s1_20, f_b4_20, small_of (by simp only [List.length_append, List.length_take, List.length_drop, List.length_cons, List.length_nil]; omega), fun s2 h_s2 => ?_⟩
  have k_s2 : Kp No G20 (upd G20 s2 (.lst ([.ref l1, .ref l2, .ref l3] ++ [.ref l4]))) := Kp.new h_s2
  have f_s2_21 : (upd G20 s2 (.lst ([.ref l1, .ref l2, .ref l3] ++ [.ref l4]))) s2 = some (.lst ([.ref l1, .ref l2, .ref l3] ++ [.ref l4])) := upd_same
  have f_il_21 := k_s2.all il _ f_il_20 id
  have f_a1_21 := k_s2.all a1 _ f_a1_20 id
  have f_a2_21 := k_s2.all a2 _ f_a2_20 id
  have f_l1_21 := k_s2.all l1 _ f_l1_20 id
  have f_a3_21 := k_s2.all a3 _ f_a3_20 id
  have f_b1_21 := k_s2.all b1 _ f_b1_20 id
  have f_m1_21 := k_s2.all m1 _ f_m1_20 id
  have f_a4_21 := k_s2.all a4 _ f_a4_20 id
  have f_l2_21 := k_s2.all l2 _ f_l2_20 id
  have f_b2_21 := k_s2.all b2 _ f_b2_20 id
  have f_l3_21 := k_s2.all l3 _ f_l3_20 id
  have f_s1_21 := k_s2.all s1 _ f_s1_20 id
  have f_a5_21 := k_s2.all a5 _ f_a5_20 id
  have f_b3_21 := k_s2.all b3 _ f_b3_20 id
  have f_m2_21 := k_s2.all m2 _ f_m2_20 id
  have f_a6_21 := k_s2.all a6 _ f_a6_20 id
  have f_l4_21 := k_s2.all l4 _ f_l4_20 id
  have f_b4_21 := k_s2.all b4 _ f_b4_20 id
  have f_t1_21 := k_s2.tup t1 _ f_t1_20
  have f_t2_21 := k_s2.tup t2 _ f_t2_20
  have f_t3_21 := k_s2.tup t3 _ f_t3_20
  have kc21 := kc20.trans k_s2
  generalize upd G20 s2 (.lst ([.ref l1, .ref l2, .ref l3] ++ [.ref l4])) = G21 at *
  have pG := p3.keep kc21 id
  refine ⟨p, 4, rfl, pG, by decide, by decide, fun w H9 k9 p9 w0 w1 => ?_⟩
  have ne_ : ∀ {u : Addr} {G : Hp}, Kp No H3 G → G u = none → u ≠ p := fun k h e => (p3.ne (k.dom _ h)) e.symm
  have g_l1 := k9.all l1 _ f_l1_21 (ne_ kc2 h_l1)
  have g_l2 := k9.all l2 _ f_l2_21 (ne_ kc8 h_l2)
  have g_l3 := k9.all l3 _ f_l3_21 (ne_ kc11 h_l3)
  have g_l4 := k9.all l4 _ f_l4_21 (ne_ kc18 h_l4)
  have g_s2 := k9.all s2 _ f_s2_21 (ne_ kc20 h_s2)
  have g_t1 := k9.tup t1 _ f_t1_21
  have g_t2 := k9.tup t2 _ f_t2_21
  have g_t3 := k9.tup t3 _ f_t3_21
  have k39 : Kp (At p) H3 H9 := kc21.no.trans k9
  have k09 := k03.trans k39
  have il9 := k09.all il _ hil nip
  have im9 := ImAll.up k09 _ _ im
  have zN : z ∉ ks.map (·.1) := zn
  have fnd : ∃ (l : Addr) (ys2 : List V) (ks2 : List Ink), ([V.ref l1, V.ref l2, V.ref l3] ++ [V.ref l4])[w.toNat]? = some (.ref l) ∧ H9 l = some (.lst ys2) ∧ ImAll K H9 ys2 (ks2.map inkD) ∧ InkOk ks2 ∧ ∀ k ∈ ks2, k.2 ≤ 10 ^ 30 := by
    have : w.toNat = 0 ∨ w.toNat = 1 ∨ w.toNat = 2 ∨ w.toNat = 3 := by omega
    rcases this with h | h | h | h <;> rw [h]
    · refine ⟨l1, _, ks.drop 1 ++ ks.take 1, rfl, g_l1, ?_, ink_rot ok, fun k hk => ?_⟩
      · rw [List.map_append, List.map_drop, List.map_take]
        exact ImAll.app (ImAll.drop 1 im9) (ImAll.take 1 im9)
      · have := f30 k ((List.mem_append.mp hk).elim List.mem_of_mem_drop List.mem_of_mem_take)
        omega
    · refine ⟨l2, _, (ks.take e.toNat ++ [(ks[e.toNat].1, ks[e.toNat].2 + 1)]) ++ ks.drop (e.toNat + 1), rfl, g_l2, ?_, ink_at_ok ok hj kn.1 (by omega) (by omega) (.inl rfl), fun k hk => ?_⟩
      · rw [e1N, List.map_append, List.map_append, List.map_drop, List.map_take]
        exact ImAll.app (ImAll.app (ImAll.take _ im9) (.cons (Im.mk g_t1 (.cons (.str _) (.cons (.int _) .nil))) .nil)) (ImAll.drop _ im9)
      · rcases List.mem_append.mp hk with hk | hk
        · rcases List.mem_append.mp hk with hk | hk
          · have := f30 k (List.mem_of_mem_take hk); omega
          · rw [List.mem_singleton.mp hk]; show ks[e.toNat].2 + 1 ≤ _; omega
        · have := f30 k (List.mem_of_mem_drop hk); omega
    · refine ⟨l3, _, ks ++ [(z, 0)], rfl, g_l3, ?_, ink_snoc ok l7 nz zN, fun k hk => ?_⟩
      · rw [List.map_append]
        exact ImAll.app im9 (.cons (Im.mk g_t2 (.cons (.str _) (.cons (.int _) .nil))) .nil)
      · rcases List.mem_append.mp hk with hk | hk
        · have := f30 k hk; omega
        · rw [List.mem_singleton.mp hk]; show (0 : Int) ≤ 10 ^ 30; decide
    · refine ⟨l4, _, (ks.take e.toNat ++ [(z, ks[e.toNat].2)]) ++ ks.drop (e.toNat + 1), rfl, g_l4, ?_, ink_at_ok ok hj nz (by omega) (by omega) (.inr zN), fun k hk => ?_⟩
      · rw [e1N, List.map_append, List.map_append, List.map_drop, List.map_take]
        exact ImAll.app (ImAll.app (ImAll.take _ im9) (.cons (Im.mk g_t3 (.cons (.str _) (.cons (.int _) .nil))) .nil)) (ImAll.drop _ im9)
      · rcases List.mem_append.mp hk with hk | hk
        · rcases List.mem_append.mp hk with hk | hk
          · have := f30 k (List.mem_of_mem_take hk); omega
          · rw [List.mem_singleton.mp hk]; show ks[e.toNat].2 ≤ _; omega
        · have := f30 k (List.mem_of_mem_drop hk); omega
  obtain ⟨l, ys2, ks2, hl1, hl2, hl3, ok2, f2⟩ := fnd
  refine ⟨_, .ref l, .inl (.inl (.inl g_s2)), at_of (j := w.toNat) (by omega) hl1, ?_⟩
  refine ⟨_, _, .lst (.inl (.inl hl2)) (ImAll.dp _ _ hl3), .lst (.inl (.inl il9)) (ImAll.dp _ _ im9), inks_shaped ok2, inks_shaped ok, ?_⟩
  rw [eqv_inks]
  refine iteD (fun c1 => ?_) fun c1 => ?_
  · intro t5 ht5 b5 hb5
    have k5 : Kp No H9 (upd H9 t5 (.tup [.str z, .int 0])) := Kp.new ht5
    have k6 : Kp No (upd H9 t5 (.tup [.str z, .int 0])) (upd (upd H9 t5 (.tup [.str z, .int 0])) b5 (.lst [.ref t5])) := Kp.new hb5
    have k56 := k5.trans k6
    refine .inl ⟨il, b5, _, _, rfl, rfl, k56.all il _ il9 id, upd_same, small_of (by rw [List.length_cons, List.length_nil]; omega), fun l5 hl5 => ?_⟩
    have k7 : Kp No (upd (upd H9 t5 (.tup [.str z, .int 0])) b5 (.lst [.ref t5])) (upd (upd (upd H9 t5 (.tup [.str z, .int 0])) b5 (.lst [.ref t5])) l5 (.lst (ys ++ [.ref t5]))) := Kp.new hl5
    have k57 := k56.trans k7
    refine q l5 _ (ks ++ [(z, 0)]) _ (k09.trans k57.no) (p9.keep k57 id) upd_same ?_ (ink_snoc ok l7 nz zN) (fun e2 => ?_) fun k hk => ?_
    · rw [List.map_append]
      exact ImAll.app (ImAll.up k57 _ _ im9) (.cons (Im.mk ((k6.trans k7).tup _ _ upd_same) (.cons (.str _) (.cons (.int _) .nil))) .nil)
    · have := congrArg List.length e2
      rw [List.length_append] at this
      simp at this
    · rcases List.mem_append.mp hk with hk | hk
      · have := f30 k hk; omega
      · rw [List.mem_singleton.mp hk]; show (0 : Int) ≤ 10 ^ 30; decide
  · exact q l ys2 ks2 H9 k09 p9 hl2 hl3 ok2 (fun e2 => c1 e2.symm) f2

--SPLIT
structure Two [Tb] (K : PySem.W.Frag) (CPalette CPlace : Addr) (H : Hp) (a : PlAddr) (b : MdAddr) (ks : List Ink) (s s2 : Pst) : Prop where
  pl : PlAt K CPalette CPlace H a ks s
  md : MdAt K H b ks s2
  dj : ∀ y, MF b y → ¬ Ft a y
  np : ¬ Mt b a.pl ∧ ¬ Mt b a.pd
theorem md_has [Tb] {H : Hp} {b : MdAddr} {ks : List Ink} {s : Pst} (h : MdAt K H b ks s) : ∀ y, MF b y → H y ≠ none := by
  rintro y (z | z | z | z)
  · rw [z, h.dct]; intro e; cases e
  · obtain ⟨ys, g, _⟩ := h.inks
    rw [z, g]; intro e; cases e
  · rw [z, h.rd]; intro e; cases e
  · obtain ⟨i, hi, rfl⟩ := List.mem_iff_getElem.mp z
    obtain ⟨vs, g1, _⟩ := h.row i _ _ (List.getElem?_eq_getElem hi) (List.getElem?_eq_getElem (show i < s.rows.length by rw [h.rws, ← h.len]; exact hi))
    rw [g1]; intro e; cases e
theorem Two.place [Tb] {H H' : Hp} {a : PlAddr} {b : MdAddr} {ks : List Ink} {s s2 s3 : Pst} {ls' : List Addr} (h : Two K CPalette CPlace H a b ks s s2) (k : Kp (Ft a) H H') (p : PlAt K CPalette CPlace H' (a.at_ ls') ks s3) (hl : ∀ l ∈ ls', l ∈ a.ls ∨ H l = none) : Two K CPalette CPlace H' (a.at_ ls') b ks s3 s2 := by
  refine ⟨p, h.md.up k h.dj, fun y m f => ?_, h.np⟩
  rcases f with z | z | z
  · exact h.dj y m (.inl z)
  · exact h.dj y m (.inr (.inl z))
  · rcases hl y z with e | e
    · exact h.dj y m (.inr (.inr e))
    · exact md_has h.md y m e
theorem Two.model [Tb] {H H' : Hp} {a : PlAddr} {b : MdAddr} {ks : List Ink} {s s2 s3 : Pst} {ms' : List Addr} (h : Two K CPalette CPlace H a b ks s s2) (k : Kp (At b.rd) H H') (p : MdAt K H' (b.at_ ms') ks s3) (hl : ∀ l ∈ ms', l ∈ b.ls ∨ H l = none) : Two K CPalette CPlace H' a (b.at_ ms') ks s s3 := by
  refine ⟨h.pl.up k (fun z => h.np.1 (.inr z)) (fun z => h.np.2 (.inr z)) (fun y f z => h.dj b.rd (.inr (.inr (.inl rfl))) (by rw [← show y = b.rd from z]; exact f)), p, fun y m f => ?_, h.np⟩
  rcases m with z | z | z | z
  · exact h.dj y (.inl z) f
  · exact h.dj y (.inr (.inl z)) f
  · exact h.dj y (.inr (.inr (.inl z))) f
  · rcases hl y z with e | e
    · exact h.dj y (.inr (.inr (.inr e))) f
    · exact h.pl.has f e
structure Away (H : Hp) (p : Addr) (a : PlAddr) (b : MdAddr) : Prop where
  f : ¬ Ft a p
  m : ¬ MF b p
  l : p ≠ a.pl
  d : p ≠ a.pd
theorem Two.modelM [Tb] {H H' : Hp} {a : PlAddr} {b : MdAddr} {ks : List Ink} {s s2 s3 : Pst} {ms' : List Addr} (h : Two K CPalette CPlace H a b ks s s2) (k : Kp (Mt b) H H') (p : MdAt K H' (b.at_ ms') ks s3) (hl : ∀ l ∈ ms', l ∈ b.ls ∨ H l = none) : Two K CPalette CPlace H' a (b.at_ ms') ks s s3 := by
  refine ⟨h.pl.up k h.np.1 h.np.2 (fun y f z => h.dj y (z.elim .inl fun z => .inr (.inr (.inl z))) f), p, fun y m f => ?_, h.np⟩
  rcases m with z | z | z | z
  · exact h.dj y (.inl z) f
  · exact h.dj y (.inr (.inl z)) f
  · exact h.dj y (.inr (.inr (.inl z))) f
  · rcases hl y z with e | e
    · exact h.dj y (.inr (.inr (.inr e))) f
    · exact h.pl.has f e

/-- what may change of all of them -/
def FF (F : List Mem) : Addr → Prop := fun y => ∃ m ∈ F, Ft m.a y ∨ Mt m.b y
structure FamL [Tb] (K : PySem.W.Frag) (CPalette CPlace : Addr) (H : Hp) (ks : List Ink) (F : List Mem) (lp lm t il : Addr) (ts : List Str) : Prop where
  fam : Fam K CPalette CPlace H ks F
  hp : H lp = some (.lst (F.map fun m => V.ref m.a.x))
  hm : H lm = some (.lst (F.map fun m => V.ref m.b.m))
  tg : H t = some (.lst (ts.map V.str))
  out : ∀ y, y = lp ∨ y = lm ∨ y = t → ¬ FF F y
  hil : ∀ m ∈ F, m.b.il = il
  rs : ∀ m ∈ F, m.r = m.s
theorem FF_set {F : List Mem} {i : Nat} {m m' : Mem} (hi : F[i]? = some m) {H : Hp} (e1 : m'.a.x = m.a.x) (e2 : m'.a.d = m.a.d) (e3 : m'.b.m = m.b.m) (e4 : m'.b.rd = m.b.rd) (hl : ∀ l ∈ m'.a.ls, l ∈ m.a.ls ∨ H l = none) : ∀ y, FF (F.set i m') y → FF F y ∨ H y = none := by
  rintro y ⟨n, hn, f⟩
  rcases List.mem_or_eq_of_mem_set hn with z | rfl
  · exact .inl ⟨n, z, f⟩
  · have mi := List.mem_of_getElem? hi
    rcases f with (f | f | f) | (f | f)
    · exact .inl ⟨m, mi, .inl (.inl (f.trans e1))⟩
    · exact .inl ⟨m, mi, .inl (.inr (.inl (f.trans e2)))⟩
    · exact (hl y f).imp (fun w => ⟨m, mi, .inl (.inr (.inr w))⟩) id
    · exact .inl ⟨m, mi, .inr (.inl (f.trans e3))⟩
    · exact .inl ⟨m, mi, .inr (.inr (f.trans e4))⟩
theorem map_set_same {α : Type} {F : List Mem} {f : Mem → α} {i : Nat} {m m' : Mem} (hi : F[i]? = some m) (e : f m' = f m) : (F.set i m').map f = F.map f := by
  rw [List.map_set, e]
  have h := (List.getElem?_eq_some_iff.mp hi)
  obtain ⟨h1, h2⟩ := h
  rw [← h2]
  have : f F[i] = (F.map f)[i]'(by rw [List.length_map]; exact h1) := by rw [List.getElem_map]
  rw [this]
  exact List.set_getElem_self _
/-- the family behind a change of one -/
theorem FamL.step [Tb] {H H' : Hp} {ks : List Ink} {F : List Mem} {lp lm t il : Addr} {ts : List Str} {i : Nat} {m : Mem} {s' : Pst} {ls' ms' : List Addr} {S : Addr → Prop} (h : FamL K CPalette CPlace H ks F lp lm t il ts) (hi : F[i]? = some m) (k : Kp S H H') (hS : ∀ y, S y → y = lp ∨ y = lm ∨ y = t → False)
    (f : Fam K CPalette CPlace H' ks (F.set i ⟨m.a.at_ ls', m.b.at_ ms', s', s'⟩)) (hl : ∀ l ∈ ls', l ∈ m.a.ls ∨ H l = none) : FamL K CPalette CPlace H' ks (F.set i ⟨m.a.at_ ls', m.b.at_ ms', s', s'⟩) lp lm t il ts := by
  have mi := List.mem_of_getElem? hi
  refine ⟨f, ?_, ?_, k.all t _ h.tg fun z => hS t z (.inr (.inr rfl)), fun y hy z => ?_, fun n hn => ?_, fun n hn => ?_⟩
  · rw [map_set_same (f := fun m : Mem => V.ref m.a.x) (m' := ⟨m.a.at_ ls', m.b.at_ ms', s', s'⟩) hi rfl]
    exact k.all lp _ h.hp fun z => hS lp z (.inl rfl)
  · rw [map_set_same (f := fun m : Mem => V.ref m.b.m) (m' := ⟨m.a.at_ ls', m.b.at_ ms', s', s'⟩) hi rfl]
    exact k.all lm _ h.hm fun z => hS lm z (.inr (.inl rfl))
  · rcases FF_set (m' := ⟨m.a.at_ ls', m.b.at_ ms', s', s'⟩) hi rfl rfl rfl rfl hl y z with w | w
    · exact h.out y hy w
    · rcases hy with e | e | e
      · rw [e, h.hp] at w; cases w
      · rw [e, h.hm] at w; cases w
      · rw [e, h.tg] at w; cases w
  · rcases List.mem_or_eq_of_mem_set hn with z | rfl
    · exact h.hil n z
    · exact h.hil m mi
  · rcases List.mem_or_eq_of_mem_set hn with z | rfl
    · exact h.rs n z
    · rfl
theorem FamL.up [Tb] {H H' : Hp} {ks : List Ink} {F : List Mem} {lp lm t il : Addr} {ts : List Str} {S : Addr → Prop} (h : FamL K CPalette CPlace H ks F lp lm t il ts) (k : Kp S H H') (n : ∀ m ∈ F, ∀ y, S y → ¬ Ft m.a y ∧ ¬ MF m.b y ∧ y ≠ m.a.pl ∧ y ≠ m.a.pd) (hS : ∀ y, S y → y = lp ∨ y = lm ∨ y = t → False) : FamL K CPalette CPlace H' ks F lp lm t il ts :=
  ⟨h.fam.up k n, k.all lp _ h.hp fun z => hS lp z (.inl rfl), k.all lm _ h.hm fun z => hS lm z (.inr (.inl rfl)), k.all t _ h.tg fun z => hS t z (.inr (.inr rfl)), h.out, h.hil, h.rs⟩
structure Away8 (F : List Mem) (p lp lm t : Addr) : Prop where
  mem : ∀ m ∈ F, ∀ y, y = p → ¬ Ft m.a y ∧ ¬ MF m.b y ∧ y ≠ m.a.pl ∧ y ≠ m.a.pd
  ls : p ≠ lp ∧ p ≠ lm ∧ p ≠ t

def cntS (s : Pst) : Nat := (s.rows.map List.length).sum
theorem sum_ints : ∀ (l : List Nat), (l.map fun n : Nat => (n : Int)).sum = (l.sum : Nat)
  | [] => rfl
  | a :: r => by rw [List.map_cons, List.sum_cons, List.sum_cons, sum_ints r]; omega
def spMany [Tb] (K : PySem.W.Frag) : Sp := fun vs H Q _ => ∃ (b : MdAddr) (ks : List Ink) (s : Pst), vs = [.ref b.m] ∧ MdAt K H b ks s ∧ ∀ H', Kp No H H' → Q (.int (cntS s : Nat)) H'
theorem ok_l_many (D : DefAt K mg "_law_many" s_l_many) (fr : Fr mg) : Cal P w K mg base 1 "_law_many" (spMany K) := by
  refine cal_of D sc_l_many (fun _ _ _ _ _ _ us hl => match us, hl with | [_], _ => rfl) (fun vs H Q E h => by obtain ⟨b, ks, s, rfl, _⟩ := h; rfl) fun f cd A out s H vs Q E room gd h => ?_
  obtain ⟨b, ks, st, rfl, pa, q⟩ := h
  refine ⟨_, (pss_one (ps_ret (pe_callB (kSum (K := K) (by rfl) rfl) (by rfl) fr.sum_ (by decide +kernel) (pa_cons (pe_lock (pe_lc (own := [("_law_row", 1)]) rfl sc_l_many.nd (pi_values (ye_dg room (yv 0) pe_str)) (blkOk_by (own := [("_law_row", 1)]) (N := n_l_many) (sc := defScope s_l_many) (by decide +kernel)) (fun _ _ _ _ _ => (yg_name 1 sc_l_many.nd)) (fun _ _ _ _ _ => pts_nil) (fun _ _ _ _ _ => (pe_callB (kLen (K := K) (by rfl)) (by rfl) fr.len_ (by decide +kernel) (pa_cons (yv 1) pa_nil))))) pa_nil)))), ?_⟩
  have l8 := pa.iok.len8
  have el : (layK ks b.ls).length = ks.length := by unfold layK; rw [List.length_map, List.length_zip, pa.len, Nat.min_self]
  refine ⟨b.rd, _, pa.rd, trivial, fun od => ?_⟩
  refine ⟨_, _, by rw [upd_ne pa.apart]; exact pa.dct, val_rows b st, b.rd, od, _, rfl, upd_same, fun Dd hD => ?_⟩
  have nDd : b.rd ≠ Dd := fun e => by rw [← e, upd_same] at hD; cases hD
  have hDH : H Dd = none := by rw [upd_ne (fun e => nDd e.symm)] at hD; exact hD
  refine lc_it walk_values (fun i H' => H' Dd = some (.lst (((st.rows.take i).map fun r => (r.length : Int)).map V.int)) ∧ Kp (At b.rd) H H' ∧ H' b.rd = some (.frz od (.dK (layK ks b.ls)))) ⟨upd_same, (Kp.set (S := At b.rd) rfl pa.rd).trans (Kp.new hD).no, by rw [upd_ne nDd, upd_same]⟩ (fun i H' _ ⟨_, _, h⟩ => h) ?_ ?_
  · rintro i z Ha Hb hi ⟨h1, h2, h3⟩ ⟨rfl, k, hk⟩
    have hi' : i < ks.length := by omega
    obtain ⟨l, r, ws, e1, e2, e3, e4, e5, e6, e7, e8⟩ := pa.at_ hi'
    have hz : z = .ref l := by
      unfold layK at hk
      rw [List.getElem?_map] at hk
      have hzl : i < (ks.zip b.ls).length := by rw [List.length_zip, pa.len, Nat.min_self]; exact hi'
      rw [List.getElem?_eq_getElem hzl, List.getElem_zip] at hk
      have hk := Option.some.inj hk
      obtain ⟨_, hk⟩ := Prod.mk.inj hk
      have hbl : i < b.ls.length := by rw [pa.len]; exact hi'
      rw [List.getElem?_eq_getElem hbl] at e1
      rw [← hk, Option.some.inj e1]
    subst hz
    have nlr : l ≠ b.rd := fun e => by rw [e, pa.rd] at e4; cases e4
    have e4b := h2.all l _ e4 nlr
    have kS : Kp (At Dd) Hb (upd Hb Dd (.lst (((st.rows.take i).map fun r => (r.length : Int)).map V.int ++ [.int ws.length]))) := Kp.set rfl h1
    refine ⟨rfl, _, .inl (.inl (.inl e4b)), _, h1, ?_, ?_, ?_, ?_⟩
    · rw [List.length_map, List.length_map, List.length_take]
      exact Nat.lt_of_le_of_lt (show min i st.rows.length ≤ 1000 by omega) (by decide)
    · rw [List.take_add_one, e2, e8]
      show upd Hb Dd _ Dd = _
      rw [upd_same, List.map_append, List.map_append]
      rfl
    · exact h2.put hDH h1
    · exact kS.all b.rd _ h3 nDd
  · rintro H' ⟨h1, h2, h3⟩
    rw [el, ← pa.rws, List.take_length] at h1
    have kk : Kp No H (upd H' b.rd (.dK (layK ks b.ls))) := ⟨fun y o e _ nt => by
        by_cases hb : y = b.rd
        · rw [hb, upd_same, ← pa.rd, ← hb]; exact e
        · rw [upd_ne hb]; exact h2.all y o e hb nt, fun y xs e => by
        rw [upd_ne (fun z => by rw [z, pa.rd] at e; cases e)]; exact h2.tup y xs e, fun y e => by
        by_cases hb : y = b.rd
        · rw [hb, upd_same] at e; cases e
        · rw [upd_ne hb] at e; exact h2.dom y e, fun t => tab_upd (o := .dK (layK ks b.ls)) h3 trivial (h2.tab t)⟩
    refine ⟨h3, _, .inl (.inl (by rw [upd_ne (fun e => nDd e.symm)]; exact h1)), ?_⟩
    have es : (st.rows.map fun r => (r.length : Int)).sum = (cntS st : Nat) := by
      unfold cntS
      rw [← sum_ints, List.map_map]
      rfl
    rw [es]
    exact q _ kk

def spGrafted [Tb] (K : PySem.W.Frag) : Sp := fun vs H Q _ => ∃ (b b2 : MdAddr) (ks : List Ink) (r r2 : Pst), vs = [.ref b.m, .ref b2.m] ∧ MdAt K H b ks r ∧ MdAt K H b2 ks r2 ∧ ((b2 = b ∧ r2 = r) ∨ ∀ y, Mt b y → ¬ MF b2 y) ∧ GrOk r r2 ∧ ∀ ms' H', Kp (Mt b) H H' → MdAt K H' (b.at_ ms') ks (graftS r r2 ks.length) → (∀ l ∈ ms', l ∈ b.ls ∨ H l = none) → Q .non H'
theorem ok_l_grafted (D : DefAt K mg "_law_grafted" s_l_grafted) (fr : Fr mg) (c_l_put : Cal P w K mg base 1 "_law_put" (spMPut K)) : Cal P w K mg base 2 "_law_grafted" (spGrafted K) := by
  refine cal_of D sc_l_grafted (fun _ _ _ _ _ _ us hl => match us, hl with | [_, _], _ => rfl) (fun vs H Q E h => by obtain ⟨b, b2, ks, r, r2, rfl, _⟩ := h; rfl) fun f cd A out s H1 vs Q E room gd h => ?_
  obtain ⟨mb, nb, ks, mr, nr, rfl, md1, nd1, bs, gr2, q⟩ := h
  refine ⟨_, (pss_cons (ps_for PassesOwn.never rfl (kiList (K := K) (by rfl) (ye_dg room (yv 0) pe_str)) (kgTup (K := K) (n := 2) (by rfl) rfl (yg_cons (yg_name 2 sc_l_grafted.nd) (yg_cons (yg_name 3 sc_l_grafted.nd) yg_nil))) (pss_one (ps_for PassesOwn.never rfl (kiList (K := K) (by rfl) (pe_callTy (kList (K := K) (by rfl)) (by rfl) fr.list_ (by decide +kernel) (pa_cons (ye_dg room (ye_dg room (yv 1) pe_str) (yv 2)) pa_nil))) (kgTup (K := K) (n := 3) (by rfl) rfl (yg_cons (yg_name 4 sc_l_grafted.nd) (yg_cons (yg_name 5 sc_l_grafted.nd) (yg_cons (yg_name 6 sc_l_grafted.nd) yg_nil)))) (pss_one (ps_expr (ye_call c_l_put room gd (by rfl) (pa_cons (yv 0) (pa_cons (yv 2) (pa_cons (yv 5) (pa_cons (yv 6) pa_nil))))))))))
    (pss_one (ys_dput room (yv 0) pe_str (pe_callB (cMin2 rfl) (by rfl) fr.min_ (by decide +kernel) (pa_cons (ye_dg room (yv 0) pe_str) (pa_cons (ye_dg room (yv 1) pe_str) pa_nil)))))), ?_⟩
  obtain ⟨ys, g1, im⟩ := md1.inks
  have el : ys.length = ks.length := by rw [im.length, List.length_map]
  have wl : Walk (Itl K mb.il) ks.length (fun H => SqL K H mb.il ys) (YAt ys) := el ▸ walk_list
  have nil : ¬ Mt mb mb.il := by
    rintro (z | z)
    · rw [z, md1.dct] at g1; cases g1
    · rw [z, md1.rd] at g1; cases g1
  have other : ∀ k H' ms', Kp (Mt mb) H1 H' → MdAt K H' (mb.at_ ms') ks (graftTo mr nr k) → ∃ b2 r2, b2.m = nb.m ∧ MdAt K H' b2 ks r2 ∧ r2.rows[k]? = nr.rows[k]? ∧ r2.wear = nr.wear := fun k H' ms' kk p => by
    rcases bs with ⟨rfl, rfl⟩ | bs
    · exact ⟨nb.at_ ms', _, rfl, p, graftTo_late _ _ k k (Nat.le_refl k), graftTo_wear _ _ k⟩
    · exact ⟨nb, nr, rfl, nd1.up kk fun y f g => bs y g f, rfl, rfl⟩
  refine ⟨_, _, md1.dct, val_inks mb mr, ⟨_, .inl (.inl g1)⟩, ?_⟩
  have hl2 : nr.rows.length = mr.rows.length := nd1.rws.trans md1.rws.symm
  have l8 := md1.iok.len8
  refine for_it wl (fun k σ H' => ∃ (ms' : List Addr) (y5 y6 y7 y8 y9 : Option V), σ = [some (.ref mb.m), some (.ref nb.m), y5, y6, y7, y8, y9] ∧ Kp (Mt mb) H1 H' ∧ MdAt K H' (mb.at_ ms') ks (graftTo mr nr k) ∧ ∀ l ∈ ms', l ∈ mb.ls ∨ H1 l = none) ⟨mb.ls, none, none, none, none, none, rfl, Kp.refl _, md1, fun l hl => .inl hl⟩ (fun k σ H' _ ⟨_, _, _, _, _, _, _, kk, _⟩ => .inl (.inl (kk.all mb.il _ g1 nil))) ?_ ?_
  · rintro k x σ Ha Hb hk ⟨ms', y5, y6, y7, y8, y9, rfl, ka, mc, hls⟩ ⟨rfl, hx⟩
    obtain ⟨c2, g2, tc⟩ := ink_at (ImAll.up ka _ _ im) hk
    obtain rfl : V.ref c2 = x := Option.some.inj (g2.symm.trans hx)
    obtain ⟨b2, r2, eb, mo2, er2, _⟩ := other k _ ms' ka mc
    obtain ⟨l, r, ws, e1, e2, e3, e4, e5, e6, e7, e8⟩ := mo2.at_ hk
    rw [er2] at e2
    have hkr : k < mr.rows.length := by rw [md1.rws]; exact hk
    have er1 := List.getElem?_eq_getElem hkr
    have le := gr2.le k _ _ er1 e2
    have er3 : nr.rows.getD k [] = r := by rw [List.getD_eq_getElem?_getD, e2]; rfl
    obtain ⟨nx0, nx1⟩ := graft_next gr2 hl2 k (by omega)
    have g0 := gr2.n0
    have g9 := gr2.nx
    have late : (graftTo mr nr k).rows.getD k [] = mr.rows[k] := by rw [List.getD_eq_getElem?_getD, graftTo_late _ _ k k (Nat.le_refl k), er1]; rfl
    refine ⟨_, tc.sq, rfl, _, _, by rw [← eb]; exact mo2.dct, val_rows b2 r2, _, _, mo2.rd, e3, ws, .inl (.inl (.inl e4)), fun u hu => ⟨⟨_, .inl (.inl upd_same)⟩, ?_⟩⟩
    have ku : Kp No Hb (upd Hb u (.lst ws)) := Kp.new hu
    have wl2 : Walk (Itl K u) r.length (fun H => SqL K H u ws) (YAt ws) := e8 ▸ walk_list
    have nuM : ¬ Mt mb u := fun z => md_full mc u (z.elim .inl fun w => .inr (.inr (.inl w))) hu
    refine for_it wl2 (fun j σ H' => ∃ (ms2 : List Addr) (y7 y8 y9 : Option V), σ = [some (.ref mb.m), some (.ref nb.m), some (.str ks[k].1), some (.int ks[k].2), y7, y8, y9] ∧ Kp (Mt mb) (upd Hb u (.lst ws)) H' ∧ MdAt K H' (mb.at_ ms2) ks (graftRow (graftTo mr nr k) k (r.take j)) ∧ ∀ l ∈ ms2, l ∈ mb.ls ∨ H1 l = none) ⟨ms', _, _, _, rfl, Kp.refl _, mc.up0 ku, hls⟩ (fun j σ H' _ ⟨_, _, _, _, _, kk, _⟩ => .inl (.inl (kk.all u _ upd_same nuM))) ?_ ?_
    · rintro j x σ Hc Hd hjj ⟨ms2, y7, y8, y9, rfl, kc, me, hl3⟩ ⟨rfl, hx2⟩
      obtain ⟨c3, g3, tc3⟩ := lyr_at (ImAll.up kc _ _ (ImAll.up ku _ _ e5)) hjj
      obtain rfl : V.ref c3 = x := Option.some.inj (g3.symm.trans hx2)
      have okj := e7 _ (List.getElem_mem hjj)
      have en2 : (graftRow (graftTo mr nr k) k (r.take j)).next = (graftTo mr nr k).next + (j : Int) := by rw [graftRow_next, List.length_take, Nat.min_eq_left (by omega)]
      have lc : k < (graftTo mr nr k).rows.length := by rw [graftTo_len]; exact hkr
      obtain ⟨la, _⟩ := graftRow_at (r.take j) (graftTo mr nr k) lc
      refine ⟨_, tc3.sq, rfl, mb.at_ ms2, ks, _, k, _, r[j].2, rfl, me, ⟨hk, rfl⟩, ⟨okj.lay, by rw [en2]; show 0 ≤ _; omega, by rw [en2]; show _ < (10 : Int) ^ 400; omega⟩, fun r3 hr3 => ?_, fun v H' hv k' p' => ⟨ms2.set k v, _, _, _, rfl, kc.trans k', ?_, fun y hy => ?_⟩⟩
      · rw [List.getD_eq_getElem?_getD, hr3, late, List.length_take] at la
        have la : r3.length = _ := la
        omega
      · rw [List.take_add_one, List.getElem?_eq_getElem hjj]
        show MdAt K H' _ ks (graftRow _ k (r.take j ++ [r[j]]))
        rw [graftRow_snoc]
        exact p'
      · rcases List.mem_or_eq_of_mem_set hy with z | z
        · exact hl3 y z
        · rw [z]; exact .inr (ka.dom v (ku.dom v (kc.dom v hv)))
    · rintro σ H' ⟨ms2, y7, y8, y9, rfl, kc, me, hl3⟩
      rw [List.take_length] at me
      refine ⟨ms2, _, _, _, _, _, rfl, ka.trans (ku.no.trans kc), ?_, hl3⟩
      show MdAt K H' _ ks (graftRow (graftTo mr nr k) k (nr.rows.getD k []))
      rw [er3]
      exact me
  · rintro σ H' ⟨ms', y5, y6, y7, y8, y9, rfl, ka, mc, hls⟩
    obtain ⟨b2, r2, eb, mo2, _, ew⟩ := other ks.length _ ms' ka mc
    refine ⟨_, _, mc.dct, val_wear _ _, _, _, by rw [← eb]; exact mo2.dct, val_wear b2 r2, _, mc.dct, by show 4 < 1000; decide, ?_⟩
    rw [put_wear]
    obtain ⟨mf, kf⟩ := mc.wearSet (min (graftTo mr nr ks.length).wear r2.wear)
    refine q ms' _ (ka.trans (kf.mono fun _ z => .inl z)) ?_ hls
    have es : (⟨min (graftTo mr nr ks.length).wear r2.wear, (graftTo mr nr ks.length).rows, (graftTo mr nr ks.length).next⟩ : Pst) = graftS mr nr ks.length := by
      rw [graftTo_wear, ew]
      rfl
    rw [es] at mf ⊢
    exact mf

--SPLIT
theorem ite2 {c1 c2 : Prop} [Decidable c1] [Decidable c2] {X A B : Prop} (hX : (if decide c2 = true then A else B) → X) (h1 : c1 → c2 → A) (h2 : ¬ (c1 ∧ c2) → B) : if decide c1 = true then X else (if false = true then A else B) := by
  by_cases e1 : c1
  · rw [if_pos (decide_eq_true e1)]
    refine hX ?_
    by_cases e2 : c2
    · rw [if_pos (decide_eq_true e2)]; exact h1 e1 e2
    · rw [if_neg (by rw [decide_eq_false e2]; decide)]; exact h2 fun z => e2 z.2
  · rw [if_neg (by rw [decide_eq_false e1]; decide), if_neg (by decide)]
    exact h2 fun z => e1 z.1
theorem ite3 [Tb] {c1 c2 : Prop} [Decidable c1] [Decidable c2] {X : Prop} {A B : Hp → Prop} {H : Hp} (hX : c1 → (∀ H', Kp No H H' → (if decide c2 = true then A H' else B H')) → X) (h1 : c1 → c2 → ∀ H', Kp No H H' → A H') (h2 : ∀ H', Kp No H H' → B H') : if decide c1 = true then X else (if false = true then A H else B H) := by
  by_cases e1 : c1
  · rw [if_pos (decide_eq_true e1)]
    refine hX e1 fun H' k => ?_
    by_cases e2 : c2
    · rw [if_pos (decide_eq_true e2)]; exact h1 e1 e2 H' k
    · rw [if_neg (by rw [decide_eq_false e2]; decide)]; exact h2 H' k
  · rw [if_neg (by rw [decide_eq_false e1]; decide), if_neg (by decide)]
    exact h2 H (Kp.refl _)
/-- the bounds behind i steps -/
structure B9 (s : Pst) (i : Nat) : Prop where
  w0 : 0 ≤ s.wear
  w6 : s.wear ≤ 6
  n0 : 0 ≤ s.next
  n1 : s.next ≤ 1000 * (i : Int)
  ct : Y.cnt s.rows ≤ 120 + i
  st : StB s.rows ((i : Int) * 10 ^ 60)
theorem B9.more {s : Pst} {i : Nat} (h : B9 s i) : B9 s (i + 1) := ⟨h.w0, h.w6, h.n0, by have := h.n1; omega, by have := h.ct; omega, h.st.mono (by omega)⟩
theorem B9.row {s : Pst} {i : Nat} (h : B9 s i) {r : List Lyr} (hr : r ∈ s.rows) : r.length ≤ 120 + i := Nat.le_trans (len_le_cnt hr) h.ct
theorem B9.graft {s s2 : Pst} {i n : Nat} (h : B9 s i) (h2 : B9 s2 i) (hc : Y.cnt s.rows + Y.cnt s2.rows ≤ 120) : B9 (graftS s s2 n) (i + 1) := by
  have a1 := cnt_graftTo s s2 n
  have a2 := take_le s2.rows n
  have a3 := next_graftTo s s2 n
  have b1 := h.n0
  have b2 := h.n1
  have w1 := h.w0
  have w2 := h.w6
  have w3 := h2.w0
  refine ⟨by show 0 ≤ min s.wear s2.wear; omega, by show min s.wear s2.wear ≤ 6; omega, by show 0 ≤ (graftTo s s2 n).next; omega, by show (graftTo s s2 n).next ≤ _; omega, by show Y.cnt (graftTo s s2 n).rows ≤ _; omega, ?_⟩
  exact (h.st.graftTo h2.st n).mono (by omega)
theorem gr9 {s s2 : Pst} {i : Nat} (h : B9 s i) (h2 : B9 s2 i) (hi : i ≤ 70) : GrOk s s2 := by
  have a := h.n0
  have b := h.n1
  refine ⟨a, by omega, fun k r r2 e1 e2 => ?_⟩
  have c1 := h.row (List.mem_of_getElem? e1)
  have c2 := h2.row (List.mem_of_getElem? e2)
  omega
theorem b9_worn {s : Pst} {i : Nat} (h : B9 s i) (n : Int) : B9 (wornS s n) (i + 1) := by
  have hc := cnt_worn s n
  have hs := h.st.worn n
  have c0 := h.ct
  have n0 := h.n0
  have n1 := h.n1
  have w0 := h.w0
  have w6 := h.w6
  have hw : 0 ≤ (wornS s n).wear ∧ (wornS s n).wear ≤ 6 ∧ (wornS s n).next = s.next := by
    unfold wornS
    cases topOf s.rows with
    | none => exact ⟨w0, w6, rfl⟩
    | some p =>
      obtain ⟨r, j⟩ := p
      show 0 ≤ (if s.wear = 0 then s else _).wear ∧ (if s.wear = 0 then s else _).wear ≤ 6 ∧ (if s.wear = 0 then s else _).next = s.next
      split
      · exact ⟨w0, w6, rfl⟩
      · refine ⟨?_, ?_, rfl⟩
        · show 0 ≤ s.wear - 1; omega
        · show s.wear - 1 ≤ 6; omega
  obtain ⟨a, b, c⟩ := hw
  exact ⟨a, b, by omega, by omega, by omega, hs.mono (by omega)⟩
theorem more8 {s : Pst} {i : Nat} (h : B9 s i) (hi : i ≤ 70) : More s 1 := by
  have a := h.n0
  have b := h.n1
  refine ⟨a, by omega, fun r hr => ?_⟩
  have := h.row hr
  omega
theorem b9_laid {s : Pst} {i j : Nat} {y : Lay} (h : B9 s i) (hy : y.2 ≤ 10 ^ 59) : B9 (laidS s j y) (i + 1) := by
  have c0 := h.ct
  have n0 := h.n0
  have n1 := h.n1
  have up := h.st.mono (show (i : Int) * 10 ^ 60 ≤ ((i + 1 : Nat) : Int) * 10 ^ 60 by omega)
  exact ⟨h.w0, h.w6, by show 0 ≤ s.next + 1; omega, by show s.next + 1 ≤ _; omega, Nat.le_trans (cnt_laid s j y) (by omega), up.laid j (by omega)⟩
/-- what a change of one of them leaves -/
def R7 [Tb] (K : PySem.W.Frag) (CPalette CPlace : Addr) (ks : List Ink) (F : List Mem) (lp lm t il : Addr) (ts : List Str) (i : Nat) (H6 H' : Hp) : Prop := ∃ F' : List Mem, Kp (FF F) H6 H' ∧ FamL K CPalette CPlace H' ks F' lp lm t il ts ∧ F'.length = F.length ∧ (∀ y, FF F' y → FF F y ∨ H6 y = none) ∧ (∀ m ∈ F', B9 m.s (i + 1)) ∧
  ∀ (k : Nat) (m' : Mem), F'[k]? = some m' → ∃ m, F[k]? = some m ∧ m'.a.x = m.a.x ∧ m'.b.m = m.b.m ∧ m'.a.pl = m.a.pl ∧ m'.a.pd = m.a.pd ∧ m'.a.pdx = m.a.pdx
theorem r7_of [Tb] {ks : List Ink} {F : List Mem} {lp lm t il : Addr} {ts : List Str} {i e : Nat} {H6 H7 H8 : Hp} {m : Mem} {s' : Pst} {ls' ms' : List Addr} (fl : FamL K CPalette CPlace H6 ks F lp lm t il ts) (g : F[e]? = some m) (bd : ∀ m ∈ F, B9 m.s i) (b' : B9 s' (i + 1)) (k7 : Kp (Ft m.a) H6 H7) (p7 : PlAt K CPalette CPlace H7 (m.a.at_ ls') ks s') (hl : ∀ l ∈ ls', l ∈ m.a.ls ∨ H6 l = none) (k8 : Kp (Mt m.b) H7 H8) (m8 : MdAt K H8 (m.b.at_ ms') ks s') (hm : ∀ l ∈ ms', l ∈ m.b.ls ∨ H7 l = none) : R7 K CPalette CPlace ks F lp lm t il ts i H6 H8 := by
  have mi := List.mem_of_getElem? g
  have he := (List.getElem?_eq_some_iff.mp g).1
  have fam7 := fl.fam.place g k7 p7 hl
  have hi7 : (F.set e ⟨m.a.at_ ls', m.b, s', m.r⟩)[e]? = some ⟨m.a.at_ ls', m.b, s', m.r⟩ := List.getElem?_set_self he
  have fam8 := fam7.model hi7 k8 m8 hm
  rw [List.set_set] at fam8
  have k68 : Kp (fun y => Ft m.a y ∨ Mt m.b y) H6 H8 := (k7.mono fun _ z => .inl z).trans (k8.mono fun _ z => .inr z)
  have outS : ∀ y, (Ft m.a y ∨ Mt m.b y) → y = lp ∨ y = lm ∨ y = t → False := fun y z e => fl.out y e ⟨_, mi, z⟩
  refine ⟨_, k68.mono fun y z => ⟨m, mi, z⟩, fl.step g k68 outS fam8 hl, List.length_set .., fun y z => FF_set (m' := ⟨m.a.at_ ls', m.b.at_ ms', s', s'⟩) g rfl rfl rfl rfl hl y z, fun n hn => ?_, fun k n hn => ?_⟩
  · rcases List.mem_or_eq_of_mem_set hn with z | rfl
    · exact (bd n z).more
    · exact b'
  · rcases set_get hn with ⟨rfl, rfl⟩ | ⟨_, z⟩
    · exact ⟨m, g, rfl, rfl, rfl, rfl, rfl⟩
    · exact ⟨n, z, rfl, rfl, rfl, rfl, rfl⟩
def spStep7 [Tb] (K : PySem.W.Frag) (CPalette CPlace : Addr) : Sp := fun vs H Q _ => ∃ (p lp lm t il : Addr) (ks : List Ink) (F : List Mem) (ts : List Str) (i : Nat), vs = [.ref p, .ref lp, .ref lm, .ref t] ∧ Pot H p ∧ FamL K CPalette CPlace H ks F lp lm t il ts ∧ Away8 F p lp lm t ∧ F.length = 3 ∧ ts.length = 3 ∧ (∀ z ∈ ts, Nm z) ∧ (∀ m ∈ F, B9 m.s i) ∧ i ≤ 70 ∧ TbOk H ∧
  ∀ F' H', Kp (fun y => y = p ∨ FF F y) H H' → FamL K CPalette CPlace H' ks F' lp lm t il ts → F'.length = F.length → (∀ y, FF F' y → FF F y ∨ H y = none) → (∀ m ∈ F', B9 m.s (i + 1)) → (∀ m' ∈ F', ∃ m ∈ F, m'.a.pl = m.a.pl ∧ m'.a.pd = m.a.pd ∧ m'.a.pdx = m.a.pdx) → Pot H' p → Q (.bl true) H'
theorem ok_l_step (D : DefAt K mg "_law_step" s_l_step) (fr : Fr mg) (cf : Cf K mg CPalette CPlace) (c_l_take : Cal P w K mg base 1 "_law_take" spTake) (c_l_amount : Cal P w K mg base 2 "_law_amount" spAmount) (m_Place_lay : CalM P w K mg base 4 CPlace "lay" (spPut K CPalette CPlace)) (c_l_put : Cal P w K mg base 1 "_law_put" (spMPut K)) (m_Place_scrape : CalMX P w K mg base 8 CPlace "scrape" (spScrape K CPalette CPlace)) (c_l_worn : Cal P w K mg base 3 "_law_worn" (spMWorn K)) (c_l_many : Cal P w K mg base 1 "_law_many" (spMany K)) (m_Place_graft : CalMX P w K mg base 5 CPlace "graft" (spGraft K CPalette CPlace)) (c_l_grafted : Cal P w K mg base 2 "_law_grafted" (spGrafted K)) (c_l_stands : Cal P w K mg base 8 "_law_stands" (spStands K CPalette CPlace)) : Cal P w K mg base 9 "_law_step" (spStep7 K CPalette CPlace) := by
  refine cal_of D sc_l_step (fun _ _ _ _ _ _ us hl => match us, hl with | [_, _, _, _], _ => rfl) (fun vs H Q E h => by obtain ⟨p, lp, lm, t, il, ks, F, ts, i, rfl, _⟩ := h; rfl) fun f cd A out s H vs Q E room gd h => ?_
  obtain ⟨p, lp, lm, t, il, ks, F, ts, i, rfl, pot, fl, aw, f3, t3, tn, bd, hi, hT, q⟩ := h
  refine ⟨_, (pss_cons (ps_par3 (i := 4) (j := 5) (l := 6) (by rfl) sc_l_step.nd rfl rfl rfl (by decide) (by decide) (by decide) rfl rfl rfl (pa_cons (ye_call c_l_take room gd (by rfl) (pa_cons (yv 0) (pa_cons pe_int pa_nil))) (pa_cons (ye_call c_l_take room gd (by rfl) (pa_cons (yv 0) (pa_cons pe_int pa_nil))) (pa_cons (ye_call c_l_take room gd (by rfl) (pa_cons (yv 0) (pa_cons pe_int pa_nil))) pa_nil))) (by rfl))
    (pss_cons (ps_par (i := 7) (j := 8) (by rfl) sc_l_step.nd rfl rfl (by decide) rfl rfl (pa_cons (kIx (K := K) (by rfl) (yv 1) (yv 5)) (pa_cons (kIx (K := K) (by rfl) (yv 2) (yv 5)) pa_nil)) (by rfl))
    (C8.pss_cut (ps_if (PW.pt (pw_and (yt_cmp (kEq (K := K) (by rfl) room.units) (yv 4) pe_int (nomark _)) (pw_and1 (yt_cmp oGt (ye_dg room (yv 8) pe_str) pe_int (nomark _))))) (pss_cons (ps_expr (ye_methX0 L2.takes0 m_Place_scrape room gd (yv 7)))
    (pss_one (ps_expr (ye_call c_l_worn room gd (by rfl) (pa_cons (yv 8) (pa_cons pe_int pa_nil)))))) (pss_one (ps_if (PW.pt (pw_and (yt_cmp oGt (yv 4) pe_int (nomark _)) (pw_and1 (yt_cmp oLe (pe_op (kAdd (K := K) (by rfl)) (ye_call c_l_many room gd (by rfl) (pa_cons (yv 8) pa_nil)) (ye_call c_l_many room gd (by rfl) (pa_cons (kIx (K := K) (by rfl) (yv 2) (yv 6)) pa_nil))) pe_int (nomark _))))) (pss_cons (ps_if (yt_cmp oIsNot (ye_methX L2.takes0 m_Place_graft room gd (yv 7) (pa_cons (kIx (K := K) (by rfl) (yv 1) (yv 6)) pa_nil)) pe_non (nomark _)) (pss_one (ps_ret pe_bl)) pss_nil)
    (pss_one (ps_expr (ye_call c_l_grafted room gd (by rfl) (pa_cons (yv 8) (pa_cons (kIx (K := K) (by rfl) (yv 2) (yv 6)) pa_nil)))))) (pss_cons (ys_set 9 sc_l_step.nd (kIx (K := K) (by rfl) (kIx (K := K) (by rfl) (ye_dg room (yv 8) pe_str) (ye_call c_l_take room gd (by rfl) (pa_cons (yv 0) (pa_cons (pe_callB (kLen (K := K) (by rfl)) (by rfl) fr.len_ (by decide +kernel) (pa_cons (ye_dg room (yv 8) pe_str) pa_nil)) pa_nil)))) pe_int))
    (pss_cons (ps_par (i := 10) (j := 11) (by rfl) sc_l_step.nd rfl rfl (by decide) rfl rfl (pa_cons (kIx (K := K) (by rfl) (yv 3) (ye_call c_l_take room gd (by rfl) (pa_cons (yv 0) (pa_cons (pe_callB (kLen (K := K) (by rfl)) (by rfl) fr.len_ (by decide +kernel) (pa_cons (yv 3) pa_nil)) pa_nil)))) (pa_cons (ye_call c_l_amount room gd (by rfl) (pa_cons (yv 0) pa_nil)) pa_nil)) (by rfl))
    (pss_cons (ps_expr (ye_meth m_Place_lay room gd (yv 7) (pa_cons (yv 9) (pa_cons (yv 10) (pa_cons (yv 11) pa_nil)))))
    (pss_one (ps_expr (ye_call c_l_put room gd (by rfl) (pa_cons (yv 8) (pa_cons (yv 9) (pa_cons (yv 10) (pa_cons (yv 11) pa_nil)))))))))))))
    (pss_one (ps_ret (ye_and (ye_call c_l_stands room gd (by rfl) (pa_cons (yv 7) (pa_cons (yv 8) pa_nil))) (pe_one (ye_call c_l_stands room gd (by rfl) (pa_cons (kIx (K := K) (by rfl) (yv 1) (yv 6)) (pa_cons (kIx (K := K) (by rfl) (yv 2) (yv 6)) pa_nil)))))))))), ?_⟩
  have apS : ∀ y, At p y → y = lp ∨ y = lm ∨ y = t → False := by
    rintro y rfl (e | e | e)
    · exact aw.ls.1 e
    · exact aw.ls.2.1 e
    · exact aw.ls.2.2 e
  refine ⟨p, 6, rfl, pot, by decide, by decide, fun wy H1 k1 p1 a1 b1 => ⟨p, 3, rfl, p1, by decide, by decide, fun e1 H2 k2 p2 a2 b2 => ⟨p, 3, rfl, p2, by decide, by decide, fun e2 H3 k3 p3 a3 b3 => ⟨_, _, _, rfl, ?_⟩⟩⟩⟩
  have h1 : e1.toNat < F.length := by omega
  have h2 : e2.toNat < F.length := by omega
  have g1 := List.getElem?_eq_getElem h1
  have g2 := List.getElem?_eq_getElem h2
  have m1 := List.getElem_mem h1
  have m2 := List.getElem_mem h2
  have k03 : Kp (At p) H H3 := k1.trans (k2.trans k3)
  have fl3 := fl.up k03 (fun m hm y z => aw.mem m hm y z) apS
  have px : ∀ {e : Int} (he : e.toNat < F.length), (F.map fun m => V.ref m.a.x)[e.toNat]? = some (.ref F[e.toNat].a.x) := fun he => by rw [List.getElem?_map, List.getElem?_eq_getElem he]; rfl
  have mx : ∀ {e : Int} (he : e.toNat < F.length), (F.map fun m => V.ref m.b.m)[e.toNat]? = some (.ref F[e.toNat].b.m) := fun he => by rw [List.getElem?_map, List.getElem?_eq_getElem he]; rfl
  have md3 := fl3.fam.md _ m1
  have pl3 := fl3.fam.pl _ m1
  have bm := bd _ m1
  have rs1 := fl.rs _ m1
  have rs2 := fl.rs _ m2
  have b0 := bm.n0
  have b1' := bm.n1
  have mo := more8 bm hi
  have dj6 : ∀ y, MF F[e1.toNat].b y → ¬ Ft F[e1.toNat].a y := fl.fam.dj _ m1 _ m1
  have i60 : (i : Int) * 10 ^ 60 ≤ 70 * 10 ^ 60 := by omega
  refine ⟨_, _, .inl (.inl (.inl fl3.hp)), at_of (j := e1.toNat) (by omega) (px h1), _, _, .inl (.inl (.inl fl3.hm)), at_of (j := e1.toNat) (by omega) (mx h1), _, _, rfl, ?_⟩
  refine ⟨fun σ' H' => ∃ (y9 y10 y11 : Option V) (H6 : Hp), Kp (At p) H H6 ∧ Pot H6 p ∧ σ' = [some (.ref p), some (.ref lp), some (.ref lm), some (.ref t), some (.int wy), some (.int e1), some (.int e2), some (.ref F[e1.toNat].a.x), some (.ref F[e1.toNat].b.m), y9, y10, y11] ∧ R7 K CPalette CPlace ks F lp lm t il ts i H6 H', ?_, ?_⟩
  · refine ite2 (fun h => ⟨_, _, md3.dct, val_wear _ _, h⟩) (fun c1 c2 => ?_) (fun cc => ?_)
    · rw [rs1] at c2
      have nw : isWorn F[e1.toNat].s = false := by
        unfold isWorn
        rw [decide_eq_false (by omega), Bool.and_false]
      refine ⟨_, _, pl3.ins, rfl, F[e1.toNat].a, ks, F[e1.toNat].s, rfl, pl3, k03.tab hT, fun _ H7 k7 p7 => ?_, fun z => absurd (nw.symm.trans z) (by decide)⟩
      have md7 := md3.up k7 dj6
      refine ⟨F[e1.toNat].b, ks, F[e1.toNat].r, 0, rfl, md7, fun z => absurd (nw.symm.trans (rs1 ▸ z)) (by decide), fun _ ms' H8 k8 m8 hm8 => ?_⟩
      rw [rs1] at m8
      exact ⟨none, none, none, H3, k03, p3, rfl, r7_of (ls' := F[e1.toNat].a.ls) (ms' := ms') fl3 g1 bd (b9_worn bm 0) k7 p7 (fun l hl => .inl hl) k8 m8 hm8⟩
    · refine ite3 (c2 := (((cntS F[e1.toNat].r : Nat) : Int) + ((cntS F[e2.toNat].r : Nat) : Int) ≤ 120)) (fun c3 h => ?_) (fun c3 c4 H4 k4 => ?_) (fun H4 k4 => ?_)
      · refine ⟨F[e1.toNat].b, ks, F[e1.toNat].r, rfl, md3, fun H4 k4 => ?_⟩
        have fl4 := fl3.up k4 (fun _ _ _ z => z.elim) (fun _ z _ => z)
        exact ⟨_, _, .inl (.inl (.inl fl4.hm)), at_of (j := e2.toNat) (by omega) (mx h2), F[e2.toNat].b, ks, F[e2.toNat].r, rfl, fl4.fam.md _ m2, fun H5 k5 => h H5 (k4.trans k5)⟩
      · have fl4 := fl3.up k4 (fun _ _ _ z => z.elim) (fun _ z _ => z)
        have pl4 := fl4.fam.pl _ m1
        have k04 : Kp (At p) H H4 := k03.trans k4.no
        have hc : Y.cnt F[e1.toNat].s.rows + Y.cnt F[e2.toNat].s.rows ≤ 120 := by
          have a : cntS F[e1.toNat].r = Y.cnt F[e1.toNat].s.rows := by rw [rs1]; rfl
          have b : cntS F[e2.toNat].r = Y.cnt F[e2.toNat].s.rows := by rw [rs2]; rfl
          omega
        have gr := gr9 bm (bd _ m2) hi
        have bs : Beside F[e1.toNat].a F[e2.toNat].a F[e1.toNat].s F[e2.toNat].s := by
          by_cases e : e1.toNat = e2.toNat
          · have : F[e1.toNat] = F[e2.toNat] := by simp only [e]
            exact .inl ⟨by rw [this], by rw [this]⟩
          · exact .inr ⟨fun y f g => fl.fam.pp _ _ _ _ g1 g2 e y g f, (fl.fam.np _ m2 _ m1).2.1, (fl.fam.np _ m2 _ m1).2.2⟩
        refine ⟨_, _, pl4.ins, rfl, _, _, .inl (.inl (.inl fl4.hp)), at_of (j := e2.toNat) (by omega) (px h2), F[e1.toNat].a, F[e2.toNat].a, ks, ks, F[e1.toNat].s, F[e2.toNat].s, rfl, pl4, fl4.fam.pl _ m2, fun _ => ⟨bs, gr, fun H7 k7 p7 => ?_⟩, fun z => absurd rfl z⟩
        have outS : ∀ y, Ft F[e1.toNat].a y → y = lp ∨ y = lm ∨ y = t → False := fun y z e => fl.out y e ⟨_, m1, .inl z⟩
        have lm7 := k7.all lm _ fl4.hm fun z => outS lm z (.inr (.inl rfl))
        have md7 := (fl4.fam.md _ m1).up k7 dj6
        have md7' := (fl4.fam.md _ m2).up k7 fun y f => fl.fam.dj _ m1 _ m2 y f
        have bs2 : (F[e2.toNat].b = F[e1.toNat].b ∧ F[e2.toNat].r = F[e1.toNat].r) ∨ ∀ y, Mt F[e1.toNat].b y → ¬ MF F[e2.toNat].b y := by
          by_cases e : e1.toNat = e2.toNat
          · have : F[e1.toNat] = F[e2.toNat] := by simp only [e]
            exact .inl ⟨by rw [this], by rw [this]⟩
          · exact .inr fun y f g => fl.fam.mm _ _ _ _ g1 g2 e y f g
        refine ⟨_, _, .inl (.inl (.inl lm7)), at_of (j := e2.toNat) (by omega) (mx h2), F[e1.toNat].b, F[e2.toNat].b, ks, F[e1.toNat].r, F[e2.toNat].r, rfl, md7, md7', bs2, by rw [rs1, rs2]; exact gr, fun ms' H8 k8 m8 hm8 => ?_⟩
        rw [rs1, rs2] at m8
        exact ⟨none, none, none, H4, k04, p3.keep k4 id, rfl, r7_of (ls' := F[e1.toNat].a.ls) (ms' := ms') fl4 g1 bd (bm.graft (bd _ m2) hc) k7 p7 (fun l hl => .inl hl) k8 m8 hm8⟩
      · have fl4 := fl3.up k4 (fun _ _ _ z => z.elim) (fun _ z _ => z)
        have k04 : Kp (At p) H H4 := k03.trans k4.no
        have p4 := p3.keep k4 id
        have md4 := fl4.fam.md _ m1
        obtain ⟨ys, gil, im⟩ := md4.inks
        have el : ys.length = ks.length := by rw [im.length, List.length_map]
        have l1 := md4.iok.len1
        have l8 := md4.iok.len8
        have nip : F[e1.toNat].b.il ≠ p := fun e => (aw.mem _ m1 p rfl).2.1 (.inr (.inl e.symm))
        have ntp : t ≠ p := fun e => aw.ls.2.2 e.symm
        refine ⟨_, _, md4.dct, val_inks _ _, _, _, md4.dct, val_inks _ _, _, .inl (.inl (.inl gil)), p, _, rfl, p4, by omega, by omega, fun e4 H5 k5 p5 a5 b5 => ?_⟩
        have hj : e4.toNat < ks.length := by omega
        obtain ⟨c2, q1, q2⟩ := ink_at (ImAll.up k5 _ _ im) hj
        have k05 := k04.trans k5
        have t5 := k05.all t _ fl.tg ntp
        refine ⟨_, .ref c2, .inl (.inl (.inl (k5.all _ _ gil nip))), at_of (j := e4.toNat) (by omega) q1, _, _, .inr q2.sq, at_of (j := 0) rfl rfl, ?_⟩
        refine ⟨_, .inl (.inl (.inl t5)), p, _, rfl, p5, by rw [List.length_map]; omega, by rw [List.length_map]; omega, fun e5 H6 k6 p6 a6 b6 => ?_⟩
        have he5 : e5.toNat < ts.length := by rw [List.length_map] at b6; omega
        have k06 := k05.trans k6
        refine ⟨_, .str ts[e5.toNat], .inl (.inl (.inl (k06.all t _ fl.tg ntp))), at_of (j := e5.toNat) (by omega) (by rw [List.getElem?_map, List.getElem?_eq_getElem he5]; rfl), p, rfl, p6, fun n H7 k7 p7 n1 n2 => ⟨_, _, rfl, ?_⟩⟩
        have k07 := k06.trans k7
        have fl7 := fl.up k07 (fun m hm y z => aw.mem m hm y z) apS
        have pl7 := fl7.fam.pl _ m1
        have nt := tn _ (List.getElem_mem he5)
        have lok : LyOk (F[e1.toNat].s.next, (ts[e5.toNat], n)) := ⟨⟨nt, by show 0 < n; omega, by show n < 10 ^ 400; omega⟩, b0, by show F[e1.toNat].s.next < 10 ^ 400; omega⟩
        refine ⟨_, _, pl7.ins, rfl, F[e1.toNat].a, ks, F[e1.toNat].s, e4.toNat, _, (ts[e5.toNat], n), rfl, pl7, ⟨hj, rfl⟩, lok, fun r hr => ?_, fun H8 k8 p8 => ?_⟩
        · have := mo.rw r (List.mem_of_getElem? hr); omega
        have md8 := (fl7.fam.md _ m1).up k8 dj6
        refine ⟨F[e1.toNat].b, ks, F[e1.toNat].r, e4.toNat, _, (ts[e5.toNat], n), rfl, md8, ⟨hj, rfl⟩, by rw [rs1]; exact lok, fun r hr => ?_, fun v H9 hv k9 m9 => ?_⟩
        · rw [rs1] at hr
          have := mo.rw r (List.mem_of_getElem? hr); omega
        · rw [rs1] at m9
          exact ⟨_, _, _, H7, k07, p7, rfl, r7_of (ls' := F[e1.toNat].a.ls) (ms' := F[e1.toNat].b.ls.set e4.toNat v) fl7 g1 bd (b9_laid bm n2) k8 p8 (fun l hl => .inl hl) k9 m9 fun l hl => (List.mem_or_eq_of_mem_set hl).imp id fun z => by rw [z]; exact hv⟩
  · rintro σ' H7 ⟨y9, y10, y11, H6, k06, p6, rfl, F2, k7, fl7, len7, ff7, bd7, xm7⟩
    have h1' : e1.toNat < F2.length := by omega
    have h2' : e2.toNat < F2.length := by omega
    have n1' := List.getElem_mem h1'
    have n2' := List.getElem_mem h2'
    obtain ⟨ma, ga, xa, xb, _⟩ := xm7 _ _ (List.getElem?_eq_getElem h1')
    obtain rfl : F[e1.toNat] = ma := Option.some.inj (g1.symm.trans ga)
    have kH7 : Kp (fun y => y = p ∨ FF F y) H H7 := (k06.mono fun _ z => .inl z).trans (k7.mono fun _ z => .inr z)
    have pFF : ¬ FF F p := fun ⟨m, hm, z⟩ => z.elim (aw.mem m hm p rfl).1 fun w => (aw.mem m hm p rfl).2.1 (w.elim .inl fun v => .inr (.inr (.inl v)))
    have p7 := p6.keep k7 pFF
    have rsa := fl7.rs _ n1'
    have rsb := fl7.rs _ n2'
    have ba := bd7 _ n1'
    have bb := bd7 _ n2'
    have px7 : (F2.map fun m => V.ref m.a.x)[e2.toNat]? = some (.ref F2[e2.toNat].a.x) := by rw [List.getElem?_map, List.getElem?_eq_getElem h2']; rfl
    have mx7 : (F2.map fun m => V.ref m.b.m)[e2.toNat]? = some (.ref F2[e2.toNat].b.m) := by rw [List.getElem?_map, List.getElem?_eq_getElem h2']; rfl
    refine ⟨F2[e1.toNat].a, F2[e1.toNat].b, ks, F2[e1.toNat].s, by rw [xa, xb], fl7.fam.pl _ n1', by rw [← rsa]; exact fl7.fam.md _ n1', kH7.tab hT, ba.w0, ba.w6, fun H8 k8 => ?_⟩
    have fl8 := fl7.up k8 (fun _ _ _ z => z.elim) (fun _ z _ => z)
    refine ⟨_, _, .inl (.inl (.inl fl8.hp)), at_of (j := e2.toNat) (by omega) px7, _, _, .inl (.inl (.inl fl8.hm)), at_of (j := e2.toNat) (by omega) mx7, F2[e2.toNat].a, F2[e2.toNat].b, ks, F2[e2.toNat].s, rfl, fl8.fam.pl _ n2', by rw [← rsb]; exact fl8.fam.md _ n2', (kH7.trans k8.no).tab hT, bb.w0, bb.w6, fun H9 k9 => ?_⟩
    refine q F2 H9 (kH7.trans (k8.trans k9).no) (fl8.up k9 (fun _ _ _ z => z.elim) (fun _ z _ => z)) len7 (fun y z => (ff7 y z).imp id fun w => k06.dom y w) bd7 (fun m' hm' => ?_) ((p7.keep k8 id).keep k9 id)
    obtain ⟨k, hk, e⟩ := List.mem_iff_getElem.mp hm'
    obtain ⟨m, gm, _, _, e1', e2', e3'⟩ := xm7 k m' ((List.getElem?_eq_getElem hk).trans (congrArg some e))
    exact ⟨m, List.mem_of_getElem? gm, e1', e2', e3'⟩

--SPLIT
/-- one more, the others being there in both heaps -/
theorem fam_snoc [Tb] {H H' : Hp} {ks : List Ink} {F : List Mem} (h : Fam K CPalette CPlace H ks F) (h' : Fam K CPalette CPlace H' ks F) {m : Mem} (p : PlAt K CPalette CPlace H' m.a ks m.s) (d : MdAt K H' m.b ks m.r) (f1 : ∀ y, Ft m.a y → H y = none) (f2 : ∀ y, (y = m.b.m ∨ y = m.b.rd ∨ y ∈ m.b.ls) → H y = none)
    (g1 : ∀ y, MF m.b y → ¬ Ft m.a y) (g2 : ¬ Mt m.b m.a.pl ∧ ¬ Mt m.b m.a.pd) (il : H m.b.il ≠ none) (q1 : ∀ n ∈ F, ¬ Ft n.a m.a.pl ∧ ¬ Ft n.a m.a.pd ∧ ¬ Mt n.b m.a.pl ∧ ¬ Mt n.b m.a.pd ∧ ¬ Ft n.a m.b.il ∧ ¬ Mt n.b m.b.il) : Fam K CPalette CPlace H' ks (F ++ [m]) := by
  have mtF : ∀ {b : MdAddr} {y : Addr}, Mt b y → MF b y := fun z => z.elim .inl fun w => .inr (.inr (.inl w))
  have own : ∀ y, MF m.b y → y = m.b.il ∨ H y = none := by
    rintro y (z | z | z | z)
    · exact .inr (f2 y (.inl z))
    · exact .inl z
    · exact .inr (f2 y (.inr (.inl z)))
    · exact .inr (f2 y (.inr (.inr z)))
  have ownM : ∀ y, Mt m.b y → H y = none := fun y z => f2 y (z.elim .inl fun w => .inr (.inl w))
  have cs : ∀ n, n ∈ F ++ [m] → n ∈ F ∨ n = m := fun n hn => (List.mem_append.mp hn).imp id List.mem_singleton.mp
  have ix : ∀ (j : Nat) (n : Mem), (F ++ [m])[j]? = some n → F[j]? = some n ∨ (j = F.length ∧ n = m) := fun j n e => by
    by_cases hj : j < F.length
    · rw [List.getElem?_append_left hj] at e; exact .inl e
    · rw [List.getElem?_append_right (by omega)] at e
      have : j - F.length = 0 := by
        cases q : j - F.length with
        | zero => rfl
        | succ t => rw [q] at e; cases e
      rw [this] at e
      exact .inr ⟨by omega, (Option.some.inj e).symm⟩
  refine ⟨fun n hn => ?_, fun n hn => ?_, fun n hn q hq y f g => ?_, fun n hn q hq => ?_, fun x j n q a1 a2 ne y f g => ?_, fun x j n q a1 a2 ne y f g => ?_⟩
  · rcases cs n hn with z | rfl
    · exact h'.pl n z
    · exact p
  · rcases cs n hn with z | rfl
    · exact h'.md n z
    · exact d
  · rcases cs n hn with z | rfl
    · rcases cs q hq with w | rfl
      · exact h.dj n z q w y f g
      · rcases own y f with e | e
        · rw [e] at g; exact (q1 n z).2.2.2.2.1 g
        · exact (h.pl n z).has g e
    · rcases cs q hq with w | rfl
      · exact md_full (h.md q w) y f (f1 y g)
      · exact g1 y f g
  · rcases cs n hn with z | rfl
    · have pf := pal_full (h.pl n z).pal
      rcases cs q hq with w | rfl
      · exact h.np n z q w
      · exact ⟨⟨fun e => pf.1 (ownM _ e), fun e => pf.2 (ownM _ e)⟩, fun e => pf.1 (f1 _ e), fun e => pf.2 (f1 _ e)⟩
    · rcases cs q hq with w | rfl
      · obtain ⟨b1, b2, b3, b4, _⟩ := q1 q w
        exact ⟨⟨b3, b4⟩, b1, b2⟩
      · exact ⟨g2, fun e => (p.out _ e).1 rfl, fun e => (p.out _ e).2 rfl⟩
  · rcases ix x n a1 with z | ⟨e1, rfl⟩
    · rcases ix j q a2 with w | ⟨e2, rfl⟩
      · exact h.pp x j n q z w ne y f g
      · exact (h.pl n (List.mem_of_getElem? z)).has f (f1 y g)
    · rcases ix j q a2 with w | ⟨e2, rfl⟩
      · exact (h.pl q (List.mem_of_getElem? w)).has g (f1 y f)
      · exact ne (e1.trans e2.symm)
  · rcases ix x n a1 with z | ⟨e1, rfl⟩
    · rcases ix j q a2 with w | ⟨e2, rfl⟩
      · exact h.mm x j n q z w ne y f g
      · rcases own y g with e | e
        · rw [e] at f; exact (q1 n (List.mem_of_getElem? z)).2.2.2.2.2 f
        · exact md_full (h.md n (List.mem_of_getElem? z)) y (mtF f) e
    · rcases ix j q a2 with w | ⟨e2, rfl⟩
      · exact md_full (h.md q (List.mem_of_getElem? w)) y g (ownM y f)
      · exact ne (e1.trans e2.symm)

def spLaw [Tb] (K : PySem.W.Frag) : Sp := fun vs H Q _ => ∃ (a : Addr) (ns : List Int), vs = [.ref a] ∧ SqL K H a (ns.map V.int) ∧ ns.length ≤ 63 ∧ TbOk H ∧ ∀ H', Q (.bl true) H'
/-- what the first loop leaves -/
structure L1 [Tb] (K : PySem.W.Frag) (CPalette CPlace : Addr) (H7 H' : Hp) (ks : List Ink) (F : List Mem) (p lp lm il : Addr) : Prop where
  kp : Kp (fun y => y = p ∨ y = lp ∨ y = lm) H7 H'
  pot : Pot H' p
  fam : Fam K CPalette CPlace H' ks F
  hp : H' lp = some (.lst (F.map fun m => V.ref m.a.x))
  hm : H' lm = some (.lst (F.map fun m => V.ref m.b.m))
  hil : ∀ m ∈ F, m.b.il = il
  rs : ∀ m ∈ F, m.r = m.s
  b8 : ∀ m ∈ F, B9 m.s 0
  fr : ∀ y, FF F y → H7 y = none
  fm : ∀ m ∈ F, ∀ y, MF m.b y → y = il ∨ H7 y = none
theorem L1.apart [Tb] {H7 H' : Hp} {ks : List Ink} {F : List Mem} {p lp lm il : Addr} (l : L1 K CPalette CPlace H7 H' ks F p lp lm il) (h7 : ∀ y, (y = p ∨ y = lp ∨ y = lm) → H7 y ≠ none ∧ y ≠ il) : ∀ m ∈ F, ∀ y, (y = p ∨ y = lp ∨ y = lm) → ¬ Ft m.a y ∧ ¬ MF m.b y ∧ y ≠ m.a.pl ∧ y ≠ m.a.pd := by
  intro m hm y hy
  obtain ⟨h1, h2⟩ := h7 y hy
  have hl : ∃ vs, H' y = some (.lst vs) := by
    rcases hy with e | e | e
    · obtain ⟨a, b, g, _⟩ := l.pot
      exact ⟨_, e ▸ g⟩
    · exact ⟨_, e ▸ l.hp⟩
    · exact ⟨_, e ▸ l.hm⟩
  obtain ⟨vs, hv⟩ := hl
  have pl := (l.fam.pl m hm).pal
  refine ⟨fun f => h1 (l.fr y ⟨m, hm, .inl f⟩), fun f => (l.fm m hm y f).elim h2 h1, fun e => ?_, fun e => ?_⟩
  · rw [e, pl.ins] at hv; cases hv
  · rw [e, pl.dct] at hv; cases hv
theorem fam_nil [Tb] {H : Hp} {ks : List Ink} : Fam K CPalette CPlace H ks [] := by
  refine ⟨?_, ?_, ?_, ?_, ?_, ?_⟩
  · intro m hm; cases hm
  · intro m hm; cases hm
  · intro m hm; cases hm
  · intro m hm; cases hm
  · intro i j m n h; cases h
  · intro i j m n h; cases h
theorem l1_nil [Tb] {H7 H8 : Hp} {ks : List Ink} {p lp lm il : Addr} (k : Kp (fun y => y = p ∨ y = lp ∨ y = lm) H7 H8) (pt : Pot H8 p) (h1 : H8 lp = some (.lst [])) (h2 : H8 lm = some (.lst [])) : L1 K CPalette CPlace H7 H8 ks [] p lp lm il := by
  refine ⟨k, pt, fam_nil, h1, h2, ?_, ?_, ?_, ?_, ?_⟩
  · intro m hm; cases hm
  · intro m hm; cases hm
  · intro m hm; cases hm
  · rintro y ⟨m, hm, _⟩; cases hm
  · intro m hm; cases hm
theorem b9_new {L : Int} {n : Nat} (h0 : 0 ≤ L) (h6 : L ≤ 6) : B9 (newS L n) 0 := by
  have hr : ∀ r ∈ (newS L n).rows, r = [] := fun r hr => List.eq_of_mem_replicate hr
  refine ⟨h0, h6, Int.le_refl 0, Int.le_refl 0, ?_, fun r h l hl => ?_⟩
  · have : ∀ k, Y.cnt (List.replicate k ([] : List Lyr)) = 0 := fun k => by
      induction k with
      | zero => rfl
      | succ k ih =>
        unfold Y.cnt at ih ⊢
        rw [List.replicate_succ, List.map_cons, List.sum_cons, ih]
        rfl
    show Y.cnt (List.replicate n []) ≤ _
    rw [this]; omega
  · rw [hr r h] at hl; cases hl
theorem ok_law {f : Addr} {fd : FuncData} (F : FunD K "law" "law" (defArgs s_law) (defBody s_law) (defScope s_law) [] [] f fd) (fr : Fr mg) (cf : Cf K mg CPalette CPlace) (c_l_at : Cal P w K mg base 1 "_law_at" (spCell K)) (c_l_pot : Cal P w K mg base 1 "_law_pot" spPot) (c_l_take : Cal P w K mg base 1 "_law_take" spTake) (c_l_inks : Cal P w K mg base 4 "_law_inks" (spInks K)) (c_l_words : Cal P w K mg base 3 "_law_words" spNames)
    (i_Palette : CalI P w K mg base 4 "Palette" CPalette (spPalInit K CPalette)) (k_Place : CalKJ P w K mg base 2 "Place" CPlace 1 ["wear"] [.int 3] (spPlaceInit K CPalette CPlace)) (c_l_model : Cal P w K mg base 1 "_law_model" (spModel K)) (c_l_stands : Cal P w K mg base 8 "_law_stands" (spStands K CPalette CPlace)) (c_l_step : Cal P w K mg base 9 "_law_step" (spStep7 K CPalette CPlace)) (c_l_other_inks : Cal P w K mg base 3 "_law_other_inks" (spOther K)) (c_l_is_refused : Cal P w K mg base 9 "_law_is_refused" (spRefused K CPalette CPlace)) (m_Place_lay : CalM P w K mg base 4 CPlace "lay" (spPut K CPalette CPlace)) (m_Place_marks : CalM P w K mg base 3 CPlace "marks" (spInk K CPalette CPlace fun a ks s i H Q => ∀ l r H', s.rows[i]? = some r → Kp No H H' → H l = none → H' l = some (.lst ((r.map (·.1)).map V.int)) → Q (.ref l) H')) (m_Place_wear : CalM P w K mg base 1 CPlace "wear" (spSelf0 K CPalette CPlace fun _ _ s H Q => Q (.int s.wear) H)) (m_Place_palette : CalM P w K mg base 1 CPlace "palette" (spSelf0 K CPalette CPlace fun a _ _ H Q => Q (.ref a.pl) H)) (m_Palette_names : CalM P w K mg base 1 CPalette "names" (spPalNames CPalette)) : FnG P w K mg base CX0 10 f fd ["_law_script"] (spLaw K) := by
  refine fnG_of F sc_law (fun vs H Q E h => by obtain ⟨p, t, rfl, _⟩ := h; rfl) fun f cd A out s H vs Q E room gd h => ?_
  obtain ⟨sc, ns, rfl, hS, hlen, hT, q⟩ := h
  refine ⟨_, (pss_cons (ys_set 1 sc_law.nd (ye_call c_l_pot room gd (by rfl) (pa_cons (ye_call c_l_at room gd (by rfl) (pa_cons (yv 0) (pa_cons pe_int pa_nil))) pa_nil)))
    (pss_cons (ps_par3 (i := 2) (j := 3) (l := 4) (by rfl) sc_law.nd rfl rfl rfl (by decide) (by decide) (by decide) rfl rfl rfl (pa_cons (ye_call c_l_inks room gd (by rfl) (pa_cons (yv 1) (pa_cons pe_int pa_nil))) (pa_cons (ye_lst pa_nil) (pa_cons (ye_lst pa_nil) pa_nil))) (by rfl))
    (pss_cons (ys_set 5 sc_law.nd (ye_call c_l_words room gd (by rfl) (pa_cons (yv 1) (pa_cons pe_int pa_nil))))
    (pss_cons (ps_for PassesOwn.never rfl (yi_range1 (by rfl) fr.range_ (pa_cons pe_int pa_nil)) (yg_name 6 sc_law.nd) (pss_cons (ys_set 7 sc_law.nd (ye_call c_l_take room gd (by rfl) (pa_cons (yv 1) (pa_cons pe_int pa_nil))))
    (pss_cons (ps_expr (ye_append (pe_bm PySem.F.plainAttrs_list PySem.F.slot_list_append PySem.F.type_list_append mt_append (PE.cl (yv 3)) (pa_cons (PE.cl (ye_makeK k_Place.k room gd (by rfl) (pa_cons (ye_make i_Palette room gd (by rfl) (pa_cons (pe_callTy (kList (K := K) (by rfl)) (by rfl) fr.list_ (by decide +kernel) (pa_cons (yv 2) pa_nil)) pa_nil)) pa_nil) (pk_cons (yv 7) pk_nil))) pa_nil))))
    (pss_one (ps_expr (ye_append (pe_bm PySem.F.plainAttrs_list PySem.F.slot_list_append PySem.F.type_list_append mt_append (PE.cl (yv 4)) (pa_cons (PE.cl (ye_call c_l_model room gd (by rfl) (pa_cons (yv 2) (pa_cons (yv 7) pa_nil)))) pa_nil))))))))
    (pss_cons (ys_set 8 sc_law.nd (ye_makeD k_Place room gd (by rfl) (pa_cons (ye_make i_Palette room gd (by rfl) (pa_cons (ye_call c_l_other_inks room gd (by rfl) (pa_cons (yv 1) (pa_cons (yv 2) pa_nil))) pa_nil)) pa_nil)))
    (pss_cons (ps_expr (ye_meth m_Place_lay room gd (yv 8) (pa_cons (kIx (K := K) (by rfl) (ye_meth0 m_Palette_names room gd (ye_meth0 m_Place_palette room gd (yv 8))) pe_int) (pa_cons (kIx (K := K) (by rfl) (yv 5) pe_int) (pa_cons pe_int pa_nil)))))
    (pss_cons (ps_for PassesOwn.never rfl (yi_range2 (by rfl) fr.range_ (pa_cons pe_int (pa_cons (pe_callB (cMax2 rfl) (by rfl) fr.max_ (by decide +kernel) (pa_cons pe_int (pa_cons (pe_callB (cMin2 rfl) (by rfl) fr.min_ (by decide +kernel) (pa_cons (pe_callB (kLen (K := K) (by rfl)) (by rfl) fr.len_ (by decide +kernel) (pa_cons (yv 0) pa_nil)) (pa_cons pe_int pa_nil))) pa_nil))) pa_nil))) (yg_name 6 sc_law.nd) (pss_cons (ys_set 1 sc_law.nd (ye_call c_l_pot room gd (by rfl) (pa_cons (pe_op (kAdd (K := K) (by rfl)) (ye_call c_l_at room gd (by rfl) (pa_cons (yv 0) (pa_cons (yv 6) pa_nil))) (pe_op oMul pe_int (yv 6))) pa_nil)))
    (pss_cons (ps_if (pt_not (yt_val (ye_call c_l_step room gd (by rfl) (pa_cons (yv 1) (pa_cons (yv 3) (pa_cons (yv 4) (pa_cons (yv 5) pa_nil))))))) (pss_one (ps_ret pe_bl)) pss_nil)
    (pss_one (ps_if (PW.pt (pw_or (pt_not (yt_val (ye_call c_l_is_refused room gd (by rfl) (pa_cons (kIx (K := K) (by rfl) (yv 3) (pe_op oMod (yv 6) pe_int)) (pa_cons (yv 8) pa_nil))))) (pw_or1 (pt_not (yt_val (ye_call c_l_is_refused room gd (by rfl) (pa_cons (yv 8) (pa_cons (kIx (K := K) (by rfl) (yv 3) (pe_op oMod (yv 6) pe_int)) pa_nil)))))))) (pss_one (ps_ret pe_bl)) pss_nil)))))
    (pss_cons (ps_if (PW.pt (pw_or (yt_cmp (kNe (K := K) (by rfl) room.units) (ye_meth m_Place_marks room gd (yv 8) (pa_cons (kIx (K := K) (by rfl) (ye_meth0 m_Palette_names room gd (ye_meth0 m_Place_palette room gd (yv 8))) pe_int) pa_nil)) (ye_lst (pa_cons pe_int pa_nil)) (nomark _)) (pw_or1 (yt_cmp (kNe (K := K) (by rfl) room.units) (ye_meth0 m_Place_wear room gd (yv 8)) pe_int (nomark _))))) (pss_one (ps_ret pe_bl)) pss_nil)
    (pss_one (ps_ret (pe_callB (kAll (K := K) (by rfl) rfl) (by rfl) fr.all_ (by decide +kernel) (pa_cons (pe_lc (own := [("_law_place", 9), ("_law_model_here", 10)]) rfl sc_law.nd (pi_zip (by rfl) fr.zip_ (pa_cons (yv 3) (pa_cons (yv 4) pa_nil))) (blkOk_by (own := [("_law_place", 9), ("_law_model_here", 10)]) (N := n_law) (sc := defScope s_law) (by decide +kernel)) (fun _ _ _ _ _ => (kgTup (K := K) (n := 2) (by rfl) rfl (yg_cons (yg_name 9 sc_law.nd) (yg_cons (yg_name 10 sc_law.nd) yg_nil)))) (fun _ _ _ _ _ => pts_nil) (fun _ _ _ _ _ => (ye_call c_l_stands room gd (by rfl) (pa_cons (yv 9) (pa_cons (yv 10) pa_nil))))) pa_nil)))))))))))), ?_⟩
  refine ⟨sc, ns, _, rfl, hS, by decide, fun c => ⟨c, rfl, fun p H1 hp k1 p1 => ?_⟩⟩
  refine ⟨p, 4, rfl, p1, by decide, by decide, fun il ys ks H2 hil k2 p2 h2 im2 ok fd30 ks4 lp hlp lm hlm => ⟨_, _, _, rfl, ?_⟩⟩
  have kl : Kp No H2 (upd H2 lp (.lst [])) := Kp.new hlp
  have km : Kp No (upd H2 lp (.lst [])) (upd (upd H2 lp (.lst [])) lm (.lst [])) := Kp.new hlm
  have nlp : lp ≠ p := fun e => (p2.ne hlp) e.symm
  have nlm : lm ≠ p := fun e => ((p2.keep kl id).ne hlm) e.symm
  have nip : il ≠ p := fun e => (p1.ne hil) e.symm
  have p4 := (p2.keep kl id).keep km id
  refine ⟨p, 3, rfl, p4, by decide, by decide, fun t ts H6 ht k6 p6 h6 tl tn tnd => ?_⟩
  have ntp : t ≠ p := fun e => (p4.ne ht) e.symm
  have k26 : Kp (At p) H2 H6 := (kl.trans km).no.trans k6
  have k46 : Kp (At p) (upd (upd H2 lp (.lst [])) lm (.lst [])) H6 := k6
  have i6 := k26.all il _ h2 nip
  have im6 := ImAll.up k26 _ _ im2
  have lp6 : H6 lp = some (.lst []) := k46.all lp _ (km.all lp _ upd_same id) nlp
  have lm6 : H6 lm = some (.lst []) := k46.all lm _ upd_same nlm
  have t6 := h6
  have kH6 : Kp No H H6 := k1.drop hp (k2.trans k26)
  have lpH : H lp = none := k1.dom lp (k2.dom lp hlp)
  have lmH : H lm = none := k1.dom lm (k2.dom lm (kl.dom lm hlm))
  clear k1 k2 kl km k6 k26 k46 p1 p2 p4
  have nil1 : il ≠ lp := fun e => by rw [← e, h2] at hlp; cases hlp
  have nil2 : il ≠ lm := fun e => by rw [← e, upd_ne nil1, h2] at hlm; cases hlm
  have npm : lp ≠ lm := fun e => by rw [← e, upd_same] at hlm; cases hlm
  have pot6 : H6 p ≠ none := fun e => by
    obtain ⟨_, _, g, _⟩ := p6
    rw [e] at g; cases g
  have h7 : ∀ y, (y = p ∨ y = lp ∨ y = lm) → H6 y ≠ none ∧ y ≠ il := by
    rintro y (rfl | rfl | rfl)
    · exact ⟨pot6, fun e => nip e.symm⟩
    · exact ⟨fun e => (by rw [lp6] at e; cases e), fun e => nil1 e.symm⟩
    · exact ⟨fun e => (by rw [lm6] at e; cases e), fun e => nil2 e.symm⟩
  have nil3 : ¬ (il = p ∨ il = lp ∨ il = lm) := by
    rintro (z | z | z)
    · exact nip z
    · exact nil1 z
    · exact nil2 z
  have nt : ¬ (t = p ∨ t = lp ∨ t = lm) := by
    have hne : ts.map V.str ≠ [] := fun e => by
      have := congrArg List.length e
      rw [List.length_map, List.length_nil] at this
      omega
    rintro (z | z | z)
    · exact ntp z
    · rw [z, lp6] at t6
      exact hne (HO.lst.inj (Option.some.inj t6)).symm
    · rw [z, lm6] at t6
      exact hne (HO.lst.inj (Option.some.inj t6)).symm
  refine ⟨⟨by omega, by omega⟩, ?_⟩
  refine for_it walk_range (fun i σ H' => ∃ (F : List Mem) (y6 y7 : Option V), σ = [some (.ref sc), some (.ref p), some (.ref il), some (.ref lp), some (.ref lm), some (.ref t), y6, y7, none, none, none] ∧ L1 K CPalette CPlace H6 H' ks F p lp lm il ∧ F.length = i)
    ⟨[], none, none, rfl, l1_nil (Kp.refl _) p6 lp6 lm6, rfl⟩ (fun _ _ _ _ _ => trivial) ?_ ?_
  · rintro i v σ Ha Hb hi ⟨F, y6, y7, rfl, l, hF⟩ ⟨rfl, rfl⟩
    refine ⟨p, 7, rfl, l.pot, by decide, by decide, fun L H9 k9 p9 L0 L7 => ?_⟩
    have ap := l.apart h7
    have kp9 : Kp (fun y => y = p ∨ y = lp ∨ y = lm) H6 H9 := l.kp.trans (k9.mono fun _ z => .inl z)
    have fam9 := l.fam.up k9 fun m hm y z => ap m hm y (.inl z)
    have hp9 := k9.all lp _ l.hp nlp
    have hm9 := k9.all lm _ l.hm nlm
    have i9 := kp9.all il _ i6 nil3
    have im9 := ImAll.up kp9 _ _ im6
    refine ⟨⟨_, hp9⟩, ys, .inl (.inl (.inl i9)), fun l1 hl1 x dx hx hdx ndx => ?_⟩
    have kl1 : Kp No H9 (upd H9 l1 (.lst ys)) := Kp.new hl1
    have kn1 := new_pl (C := CPalette) hx hdx ndx
    have k4n := kl1.trans kn1
    refine ⟨x, dx, l1, ys, ks, rfl, upd_same, .inl (.inl (kn1.all l1 _ upd_same id)), kn1.all l1 _ upd_same id, ImAll.up k4n _ _ im9, ok, fun d H10 hd k10 pa10 => ⟨rfl, ?_⟩⟩
    have k910 : Kp No H9 H10 := k4n.drop (kl1.dom x hx) k10
    have x9 : H9 x = none := kl1.dom x hx
    have d9 : H9 d = none := k4n.dom d hd
    refine ⟨rfl, rfl, fun x2 dx2 hx2 hdx2 ndx2 => ?_⟩
    have kn2 := new_pl (C := CPlace) hx2 hdx2 ndx2
    refine ⟨x2, dx2, x, dx, d, ks, L, rfl, upd_same, pa10.up kn2 id id, L0, by omega, fun d2 ls H11 k11 pl11 fr11 => ⟨rfl, ?_⟩⟩
    have k1011 : Kp No H10 H11 := kn2.drop hx2 k11
    have k911 : Kp No H9 H11 := k910.trans k1011
    have frA : ∀ y, Ft ⟨x2, dx2, d2, x, dx, d, ls⟩ y → H9 y = none := fun y hy => k910.dom y (by
      rcases fr11 y hy with z | z
      · rw [z]; exact hx2
      · exact kn2.dom y z)
    have hp11 := k911.all lp _ hp9 id
    have small : (F.map fun m => V.ref m.a.x).length < sizeLine := by rw [List.length_map]; exact Nat.lt_of_le_of_lt (show F.length ≤ 1000 by omega) (by decide)
    refine ⟨_, hp11, small, ?_⟩
    have kA : Kp (At lp) H11 (upd H11 lp (.lst ((F.map fun m => V.ref m.a.x) ++ [.ref x2]))) := Kp.set rfl hp11
    have hp12 : (upd H11 lp (.lst ((F.map fun m => V.ref m.a.x) ++ [.ref x2]))) lp = some (.lst ((F.map fun m => V.ref m.a.x) ++ [.ref x2])) := upd_same
    generalize hH12 : upd H11 lp (.lst ((F.map fun m => V.ref m.a.x) ++ [.ref x2])) = H12 at *
    have k912 : Kp (fun y => y = lp ∨ y = lm) H9 H12 := k911.no.trans (kA.mono fun _ z => .inl z)
    have hm12 := kA.all lm _ (k911.all lm _ hm9 id) (fun e => npm e.symm)
    have i12 := kA.all il _ (k911.all il _ i9 id) nil1
    have im12 := ImAll.up k912 _ _ im9
    refine ⟨⟨_, hm12⟩, il, ys, ks, L, rfl, i12, im12, ok, fun m rd ms H13 k13 md13 fr13 => ?_⟩
    have hm13 := k13.all lm _ hm12 id
    have small2 : (F.map fun m => V.ref m.b.m).length < sizeLine := by rw [List.length_map]; exact Nat.lt_of_le_of_lt (show F.length ≤ 1000 by omega) (by decide)
    refine ⟨_, hm13, small2, ?_⟩
    have kB : Kp (At lm) H13 (upd H13 lm (.lst ((F.map fun m => V.ref m.b.m) ++ [.ref m]))) := Kp.set rfl hm13
    have hm14 : (upd H13 lm (.lst ((F.map fun m => V.ref m.b.m) ++ [.ref m]))) lm = some (.lst ((F.map fun m => V.ref m.b.m) ++ [.ref m])) := upd_same
    generalize hH14 : upd H13 lm (.lst ((F.map fun m => V.ref m.b.m) ++ [.ref m])) = H14 at *
    have k1214 : Kp (At lm) H12 H14 := k13.no.trans kB
    have k914 : Kp (fun y => y = lp ∨ y = lm) H9 H14 := k912.trans (k1214.mono fun _ z => .inr z)
    have k1114 : Kp (fun y => y = lp ∨ y = lm) H11 H14 := (kA.mono fun _ z => .inl z).trans (k1214.mono fun _ z => .inr z)
    have fam14 := fam9.up k914 fun n hn y z => ap n hn y (.inr z)
    have full9 : ∀ y, (y = lp ∨ y = lm) → H9 y ≠ none := by
      rintro y (rfl | rfl)
      · intro e; rw [hp9] at e; cases e
      · intro e; rw [hm9] at e; cases e
    have pl14 := pl11.up k1114 (fun z => full9 x z x9) (fun z => full9 d z d9) fun y f z => full9 y z (frA y f)
    have md14 := md13.up kB fun y f z => by
      have z : y = lm := z
      rw [z] at f
      rcases f with e | e | e | e
      · have := fr13 lm (.inl e); rw [hm12] at this; cases this
      · exact nil2 e.symm
      · have := fr13 lm (.inr (.inl e)); rw [hm12] at this; cases this
      · have := fr13 lm (.inr (.inr e)); rw [hm12] at this; cases this
    have old9 : ∀ y, (y = m ∨ y = rd ∨ y ∈ ms) → H9 y = none := fun y z => k912.dom y (fr13 y z)
    have x12 : H12 x ≠ none := fun e => by
      have := k1011.dom x (kA.dom x e)
      rw [pa10.ins] at this; cases this
    have d12 : H12 d ≠ none := fun e => by
      have := k1011.dom d (kA.dom d e)
      rw [pa10.dct] at this; cases this
    have il9 : H9 il ≠ none := fun e => by rw [i9] at e; cases e
    have il6 : H6 il ≠ none := fun e => by rw [i6] at e; cases e
    have ft9 : ∀ n ∈ F, ∀ y, H9 y = none → ¬ Ft n.a y ∧ ¬ Mt n.b y := fun n hn y e => ⟨fun z => (fam9.pl n hn).has z e, fun z => md_full (fam9.md n hn) y (z.elim .inl fun w => .inr (.inr (.inl w))) e⟩
    have fam15 := fam_snoc fam9 fam14 (m := ⟨⟨x2, dx2, d2, x, dx, d, ls⟩, ⟨m, il, rd, ms⟩, newS L ks.length, newS L ks.length⟩) pl14 md14 frA old9 (fun y f g => by
      rcases f with e | e | e | e
      · exact pl11.has g (kA.dom y (fr13 y (.inl e)))
      · rw [show y = il from e] at g; exact il9 (frA il g)
      · exact pl11.has g (kA.dom y (fr13 y (.inr (.inl e))))
      · exact pl11.has g (kA.dom y (fr13 y (.inr (.inr e))))) ⟨fun z => x12 (fr13 x (z.elim .inl fun w => .inr (.inl w))), fun z => d12 (fr13 d (z.elim .inl fun w => .inr (.inl w)))⟩ il9 (fun n hn => ⟨(ft9 n hn x x9).1, (ft9 n hn d d9).1, (ft9 n hn x x9).2, (ft9 n hn d d9).2, fun z => il6 (l.fr il ⟨n, hn, .inl z⟩), fun z => il6 (l.fr il ⟨n, hn, .inr z⟩)⟩)
    have cs : ∀ n, n ∈ F ++ [(⟨⟨x2, dx2, d2, x, dx, d, ls⟩, ⟨m, il, rd, ms⟩, newS L ks.length, newS L ks.length⟩ : Mem)] → n ∈ F ∨ n = ⟨⟨x2, dx2, d2, x, dx, d, ls⟩, ⟨m, il, rd, ms⟩, newS L ks.length, newS L ks.length⟩ := fun n hn => (List.mem_append.mp hn).imp id List.mem_singleton.mp
    refine ⟨F ++ [⟨⟨x2, dx2, d2, x, dx, d, ls⟩, ⟨m, il, rd, ms⟩, newS L ks.length, newS L ks.length⟩], _, _, rfl, ⟨kp9.trans (k914.mono fun _ z => .inr z), p9.keep k914 (fun z => z.elim (fun e => nlp e.symm) fun e => nlm e.symm), fam15, ?_, ?_, fun n hn => ?_, fun n hn => ?_, fun n hn => ?_, fun y z => ?_, fun n hn y z => ?_⟩, ?_⟩
    · rw [List.map_append]; exact k1214.all lp _ hp12 npm
    · rw [List.map_append]; exact hm14
    · rcases cs n hn with z | rfl
      · exact l.hil n z
      · rfl
    · rcases cs n hn with z | rfl
      · exact l.rs n z
      · rfl
    · rcases cs n hn with z | rfl
      · exact l.b8 n z
      · exact b9_new L0 (by omega)
    · obtain ⟨n, hn, z⟩ := z
      rcases cs n hn with w | rfl
      · exact l.fr y ⟨n, w, z⟩
      · rcases z with z | z
        · exact kp9.dom y (frA y z)
        · exact kp9.dom y (old9 y (z.elim .inl fun w => .inr (.inl w)))
    · rcases cs n hn with w | rfl
      · exact l.fm n w y z
      · rcases z with e | e | e | e
        · exact .inr (kp9.dom y (old9 y (.inl e)))
        · exact .inl e
        · exact .inr (kp9.dom y (old9 y (.inr (.inl e))))
        · exact .inr (kp9.dom y (old9 y (.inr (.inr e))))
    · rw [List.length_append, hF]; rfl
  · rintro σ H9 ⟨F, y6, y7, rfl, l, hF⟩
    have ap := l.apart h7
    have kH9 : Kp No H H9 := kH6.dropS (fun y z => by
      rcases z with rfl | rfl | rfl
      · exact hp
      · exact lpH
      · exact lmH) l.kp
    have t9 := l.kp.all t _ t6 nt
    have t6n : H6 t ≠ none := fun e => by rw [t6] at e; cases e
    have i9 := l.kp.all il _ i6 nil3
    have im9 := ImAll.up l.kp _ _ im6
    have fl9 : FamL K CPalette CPlace H9 ks F lp lm t il ts := ⟨l.fam, l.hp, l.hm, t9, fun y hy z => by
      rcases hy with rfl | rfl | rfl
      · exact (h7 y (.inr (.inl rfl))).1 (l.fr y z)
      · exact (h7 y (.inr (.inr rfl))).1 (l.fr y z)
      · exact t6n (l.fr y z), l.hil, l.rs⟩
    have ff9 : ∀ y, FF F y → H9 y ≠ none := by
      rintro y ⟨n, hn, z⟩
      rcases z with z | z
      · exact (l.fam.pl n hn).has z
      · exact md_full (l.fam.md n hn) y (z.elim .inl fun w => .inr (.inr (.inl w)))
    -- the far place
    refine ⟨p, il, ys, ks, rfl, l.pot, i9, im9, ok, by omega, fd30, nip, fun l2 ys2 ks2 H10 k10 p10 hl2 im2 ok2 ne2 f2 x dx hx hdx ndx => ?_⟩
    have kn1 := new_pl (C := CPalette) hx hdx ndx
    refine ⟨x, dx, l2, ys2, ks2, rfl, upd_same, .inl (.inl (kn1.all l2 _ hl2 id)), kn1.all l2 _ hl2 id, ImAll.up kn1 _ _ im2, ok2, fun d H11 hd k11 pa11 => ⟨rfl, ?_⟩⟩
    have k1011 : Kp No H10 H11 := kn1.drop hx k11
    have x9 : H9 x = none := k10.dom x hx
    have d9 : H9 d = none := k10.dom d (kn1.dom d hd)
    refine ⟨rfl, fun x2 dx2 hx2 hdx2 ndx2 => ?_⟩
    have kn2 := new_pl (C := CPlace) hx2 hdx2 ndx2
    refine ⟨x2, dx2, x, dx, d, ks2, 3, rfl, upd_same, pa11.up kn2 id id, by decide, by decide, fun d2 ls H12 k12 pl12 fr12 => ⟨rfl, ?_⟩⟩
    have k1112 : Kp No H11 H12 := kn2.drop hx2 k12
    have k1012 : Kp No H10 H12 := k1011.trans k1112
    have frF : ∀ y, Ft ⟨x2, dx2, d2, x, dx, d, ls⟩ y → H9 y = none := fun y hy => k10.dom y (k1011.dom y (by
      rcases fr12 y hy with z | z
      · rw [z]; exact hx2
      · exact kn2.dom y z))
    have fl12 := (fl9.up k10 (fun m hm y z => ap m hm y (.inl z)) (by
      rintro y rfl (e | e | e)
      · exact nlp e.symm
      · exact nlm e.symm
      · exact ntp e.symm)).up k1012 (fun _ _ _ z => z.elim) (fun _ z _ => z)
    have kH12 : Kp No H H12 := (kH9.drop hp k10).trans k1012
    generalize haF : (⟨x2, dx2, d2, x, dx, d, ls⟩ : PlAddr) = aF at *
    have ex : aF.x = x2 := by rw [← haF]
    have epl : aF.pl = x := by rw [← haF]
    have epd : aF.pd = d := by rw [← haF]
    have epx : aF.pdx = dx := by rw [← haF]
    have edx : aF.dx = dx2 := by rw [← haF]
    have i0 : 0 < ks2.length := ok2.len1
    have ts0 : 0 < ts.length := by omega
    rw [← ex]
    refine ⟨aF.dx, _, pl12.ins, rfl, aF.dx, _, pl12.ins, rfl, aF, ks2, _, rfl, pl12, aF.pdx, _, pl12.pal.ins, rfl, aF.pl, aF.pdx, aF.pd, ks2, rfl, pl12.pal, fun l3 H13 k13 hl3 hl3' => ?_⟩
    have pl13 := pl12.up0 k13
    have fl13 := fl12.up k13 (fun _ _ _ z => z.elim) (fun _ z _ => z)
    refine ⟨_, .str ks2[0].1, .inl (.inl (.inl hl3')), at_of (j := 0) rfl (by rw [List.getElem?_map, List.getElem?_map, List.getElem?_eq_getElem i0]; rfl), _, .str ts[0], .inl (.inl (.inl fl13.tg)), at_of (j := 0) rfl (by rw [List.getElem?_map, List.getElem?_eq_getElem ts0]; rfl), ?_⟩
    have lok : LyOk ((newS 3 ks2.length).next, (ts[0], 5)) := ⟨⟨tn _ (List.getElem_mem ts0), (by decide : (0 : Int) < 5), (by decide : (5 : Int) < 10 ^ 400)⟩, (by decide : (0 : Int) ≤ 0), (by decide : (0 : Int) < 10 ^ 400)⟩
    refine ⟨aF, ks2, newS 3 ks2.length, 0, _, (ts[0], 5), rfl, pl13, ⟨i0, rfl⟩, lok, fun r hr => ?_, fun H14 k14 pl14 => ?_⟩
    · rw [List.eq_of_mem_replicate (List.mem_of_getElem? hr)]; decide
    have djF : ∀ y, (Ft aF y ∨ y = aF.pl ∨ y = aF.pd) → H9 y = none := by
      rintro y (z | z | z)
      · exact frF y z
      · rw [z, epl]; exact x9
      · rw [z, epd]; exact d9
    have kH14 : Kp No H H14 := (kH12.trans k13).dropS (fun y z => kH9.dom y (djF y (.inl z))) k14
    have fl14 := fl13.up k14 (fun m hm y z => by
      have e := djF y (.inl z)
      have pf := pal_full (l.fam.pl m hm).pal
      exact ⟨fun f => (l.fam.pl m hm).has f e, fun f => md_full (l.fam.md m hm) y f e, fun f => pf.1 (f ▸ e), fun f => pf.2 (f ▸ e)⟩) (fun y z e => by
      have e9 := djF y (.inl z)
      rcases e with rfl | rfl | rfl
      · rw [l.hp] at e9; cases e9
      · rw [l.hm] at e9; cases e9
      · rw [t9] at e9; cases e9)
    have sF : ∃ sF : Pst, sF = laidS (newS 3 ks2.length) 0 (ts[0], 5) := ⟨_, rfl⟩
    obtain ⟨sF, esF⟩ := sF
    rw [← esF] at pl14
    have moF : More sF 1 := by
      rw [esF]
      refine ⟨(by decide : (0 : Int) ≤ 0 + 1), (by decide : (0 : Int) + 1 + (1 : Nat) < 10 ^ 400), fun r hr => ?_⟩
      rcases List.mem_or_eq_of_mem_set hr with z | z
      · rw [List.eq_of_mem_replicate z]; decide
      · rw [z]
        have : (newS 3 ks2.length).rows.getD 0 [] = [] := by
          show (List.replicate ks2.length []).getD 0 [] = []
          rw [List.getD_eq_getElem?_getD, List.getElem?_replicate]
          split <;> rfl
        rw [this]; exact (by decide : 1 + 1 ≤ 1000)
    have ilF : H14 il = some (.lst ys) := k14.all il _ (k13.all il _ (k1012.all il _ (k10.all il _ i9 nip) id) id) fun z => by
      have e := djF il (.inl z)
      rw [i9] at e; cases e
    have imF : ImAll K H14 ys (ks.map inkD) := ImAll.up k14 _ _ (ImAll.up (k1012.trans k13) _ _ (ImAll.up k10 _ _ im9))
    refine ⟨_, .inl (kH14.seq hS), ⟨by omega, by omega, by omega, by omega⟩, ?_⟩
    refine for_it walk_range (fun i σ H' => ∃ (F : List Mem) (y6 y7 y1 : Option V), σ = [some (.ref sc), y1, some (.ref il), some (.ref lp), some (.ref lm), some (.ref t), y6, y7, some (.ref aF.x), none, none] ∧ Kp No H H' ∧ FamL K CPalette CPlace H' ks F lp lm t il ts ∧ F.length = 3 ∧ (∀ m ∈ F, B9 m.s i) ∧ (∀ y, FF F y → H y = none) ∧ PlAt K CPalette CPlace H' aF ks2 sF ∧ ∀ y, (Ft aF y ∨ y = aF.pl ∨ y = aF.pd) → ¬ FF F y)
      ⟨F, y6, y7, _, rfl, kH14, fl14, hF, l.b8, fun y z => kH6.dom y (l.fr y z), pl14, fun y z f => ff9 y f (djF y z)⟩ (fun _ _ _ _ _ => trivial) ?_ ?_
    · rintro i v σ Ha Hb hi ⟨F, y6, y7, y1, rfl, ka, fl, f3, bd, ffH, plA, djA⟩ ⟨rfl, rfl⟩
      have hi61 : i ≤ 29 := by omega
      refine ⟨sc, ns, _, rfl, ka.seq hS, by omega, fun c => ⟨mid64 (by decide) (by decide), mid64 (by omega) (by omega), _, rfl, fun p1 H1 hp1 k1 pt1 => ?_⟩⟩
      have fl1 := fl.up k1 (fun _ _ _ z => z.elim) (fun _ z _ => z)
      have aw : Away8 F p1 lp lm t := by
        refine ⟨fun m hm y e => ?_, ?_, ?_, ?_⟩
        · subst e
          have pf := pal_full (fl.fam.pl m hm).pal
          exact ⟨fun z => (fl.fam.pl m hm).has z hp1, fun z => md_full (fl.fam.md m hm) y z hp1, fun e => pf.1 (e ▸ hp1), fun e => pf.2 (e ▸ hp1)⟩
        · intro e; rw [e, fl.hp] at hp1; cases hp1
        · intro e; rw [e, fl.hm] at hp1; cases hp1
        · intro e; rw [e, fl.tg] at hp1; cases hp1
      have kH1 : Kp No H H1 := ka.trans k1
      refine ⟨p1, lp, lm, t, il, ks, F, ts, i, rfl, pt1, fl1, aw, f3, by omega, tn, bd, by omega, kH1.tab hT, fun F2 H2 k2 fl2 len2 ff2 bd2 pm2 pt2 => iteNb rfl ?_⟩
      have kH2 : Kp No H H2 := kH1.dropS (fun y z => by
        rcases z with rfl | z
        · exact ka.dom y hp1
        · exact ffH y z) k2
      have ff3 : ∀ y, FF F2 y → H y = none := fun y z => (ff2 y z).elim (ffH y) fun w => kH1.dom y w
      have pfA := pal_full plA.pal
      have fullA : ∀ y, (Ft aF y ∨ y = aF.pl ∨ y = aF.pd) → Hb y ≠ none := by
        rintro y (z | rfl | rfl)
        · exact plA.has z
        · exact pfA.1
        · exact pfA.2
      have nA : ∀ y, (Ft aF y ∨ y = aF.pl ∨ y = aF.pd) → ¬ (y = p1 ∨ FF F y) := fun y z w => w.elim (fun e => fullA y z (e ▸ hp1)) (djA y z)
      have pl2 := (plA.up0 k1).up k2 (nA _ (.inr (.inl rfl))) (nA _ (.inr (.inr rfl))) fun y f => nA y (.inl f)
      have dj2 : ∀ y, (Ft aF y ∨ y = aF.pl ∨ y = aF.pd) → ¬ FF F2 y := fun y z w => (ff2 y w).elim (djA y z) fun e => fullA y z (k1.dom y e)
      have hj : ((1 + (i : Int)) % 3).toNat < F2.length := by omega
      have px : (F2.map fun m => V.ref m.a.x)[((1 + (i : Int)) % 3).toNat]? = some (.ref F2[((1 + (i : Int)) % 3).toNat].a.x) := by rw [List.getElem?_map, List.getElem?_eq_getElem hj]; rfl
      have mj := List.getElem_mem hj
      have bj := bd2 _ mj
      have plj := fl2.fam.pl _ mj
      refine ⟨by decide, _, _, .inl (.inl (.inl fl2.hp)), at_of (j := ((1 + (i : Int)) % 3).toNat) (by omega) px, F2[((1 + (i : Int)) % 3).toNat].a, aF, ks, ks2, _, sF, rfl, plj, pl2, ne2, fun H3 k3 => ?_⟩
      have fl3 := fl2.up k3 (fun _ _ _ z => z.elim) (fun _ z _ => z)
      have pl3 := pl2.up0 k3
      refine ⟨by decide, _, _, .inl (.inl (.inl fl3.hp)), at_of (j := ((1 + (i : Int)) % 3).toNat) (by omega) px, aF, F2[((1 + (i : Int)) % 3).toNat].a, ks2, ks, sF, _, rfl, pl3, fl3.fam.pl _ mj, fun e => ne2 e.symm, fun H4 k4 => ?_⟩
      exact ⟨F2, _, _, _, rfl, (kH2.trans k3).trans k4, fl3.up k4 (fun _ _ _ z => z.elim) (fun _ z _ => z), by omega, bd2, ff3, pl3.up0 k4, dj2⟩
    · rintro σ Hz ⟨F, y6, y7, y1, rfl, ka, fl, f3, bd, ffH, plA, djA⟩
      refine ⟨aF.dx, _, plA.ins, rfl, aF.dx, _, plA.ins, rfl, aF, ks2, _, rfl, plA, aF.pdx, _, plA.pal.ins, rfl, aF.pl, aF.pdx, aF.pd, ks2, rfl, plA.pal, fun l3 H3 k3 hl3 hl3' => ?_⟩
      refine ⟨_, .str ks2[0].1, .inl (.inl (.inl hl3')), at_of (j := 0) rfl (by rw [List.getElem?_map, List.getElem?_map, List.getElem?_eq_getElem i0]; rfl), ?_⟩
      have pl3 := plA.up0 k3
      refine ⟨aF, ks2, sF, 0, _, rfl, pl3, ⟨i0, rfl⟩, fun l4 r H4 hr k4 hl4 hl4' q4 hq4 => ?_⟩
      have er : r = ([((0 : Int), ((ts[0], (5 : Int)) : Lay))] : List Lyr) := by
        have e1 : (newS 3 ks2.length).rows.getD 0 [] = [] := by
          show (List.replicate ks2.length []).getD 0 [] = []
          rw [List.getD_eq_getElem?_getD, List.getElem?_replicate]
          split <;> rfl
        rw [esF] at hr
        have hr : ((newS 3 ks2.length).rows.set 0 ((newS 3 ks2.length).rows.getD 0 [] ++ [((newS 3 ks2.length).next, (ts[0], 5))]))[0]? = some r := hr
        have hl0 : 0 < (newS 3 ks2.length).rows.length := by
          show 0 < (List.replicate ks2.length []).length
          rw [List.length_replicate]; exact i0
        rw [List.getElem?_set_self hl0, e1] at hr
        exact (Option.some.inj hr).symm
      subst er
      have h5 : upd H4 q4 (.lst [.int 0]) l4 = some (.lst [.int 0]) := by
        rw [upd_ne (ne_of_none hl4' hq4)]; exact hl4'
      have k5 : Kp No H4 (upd H4 q4 (.lst [.int 0])) := Kp.new hq4
      have pl5 := (pl3.up0 k4).up0 k5
      have fl5 := fl.up (k3.trans (k4.trans k5)) (fun _ _ _ z => z.elim) (fun _ z _ => z)
      have kH5 := ka.trans (k3.trans (k4.trans k5))
      have sw : sF.wear = 3 := by rw [esF]; rfl
      refine ⟨.list [.int 0], .list [.int 0], .lst (.inl (.inl h5)) (.cons (.int 0) .nil), .lst (.inl (.inl upd_same)) (.cons (.int 0) .nil), by decide, by decide, ?_⟩
      have e2 : PyData.eqv (.list [.int 0]) (.list [.int 0]) = true := by decide
      refine iteNb e2 ⟨aF.dx, _, pl5.ins, rfl, aF, ks2, sF, rfl, pl5, iteNb (decide_eq_true sw) ?_⟩
      generalize upd H4 q4 (.lst [.int 0]) = H5 at *
      refine ⟨lp, lm, _, _, rfl, .inl (.inl fl5.hp), .inl (.inl fl5.hm), fun Dd hD => ?_⟩
      refine lc_it (walk_zip (n := F.length) (by rw [List.length_map, List.length_map, Nat.min_self])) (fun j H' => Kp No H5 H' ∧ H' Dd = some (.lst ((List.replicate j true).map V.bl))) ⟨Kp.new hD, upd_same⟩ (fun j H' _ ⟨k, _⟩ => ⟨.inl (.inl (k.all lp _ fl5.hp id)), .inl (.inl (k.all lm _ fl5.hm id))⟩) ?_ ?_
      · rintro j z Hc Hd hj ⟨kc, hc⟩ ⟨T, x1, x2, rfl, hTn, rfl, g1, g2⟩
        have mj := List.getElem_mem hj
        have g1 : (F.map fun m => V.ref m.a.x)[j]? = some x1 := g1
        have g2 : (F.map fun m => V.ref m.b.m)[j]? = some x2 := g2
        rw [List.getElem?_map, List.getElem?_eq_getElem hj] at g1 g2
        obtain rfl := Option.some.inj g1
        obtain rfl := Option.some.inj g2
        have kT : Kp No Hc (upd Hc T (.tup [.ref F[j].a.x, .ref F[j].b.m])) := Kp.new hTn
        have fl6 := fl5.up (kc.trans kT) (fun _ _ _ z => z.elim) (fun _ z _ => z)
        have b3 := bd _ mj
        have rs3 := fl5.rs _ mj
        refine ⟨_, .inl (.inl upd_same), rfl, rfl, F[j].a, F[j].b, ks, F[j].s, rfl, fl6.fam.pl _ mj, by rw [← rs3]; exact fl6.fam.md _ mj, (kH5.trans (kc.trans kT)).tab hT, b3.w0, b3.w6, fun H6 k6 => ?_⟩
        have h6 := (kT.trans k6).all Dd _ hc id
        refine ⟨_, h6, ?_, (kc.trans (kT.trans k6)).put hD h6, ?_⟩
        · rw [List.length_map, List.length_replicate]
          exact Nat.lt_of_le_of_lt (show j ≤ 1000 by omega) (by decide)
        · rw [upd_same, List.replicate_succ', List.map_append]
          rfl
      · rintro H6 ⟨k6, h6⟩
        refine ⟨_, .inl (.inl h6), ?_⟩
        have : (List.replicate F.length true).all id = true := by rw [List.all_eq_true]; exact fun b hb => List.eq_of_mem_replicate hb
        rw [this]
        exact q _

--SPLIT
end
/-! ### the head: facts by names, the run -/
def d_Worn___init__ : He.DefD := ⟨("Worn", some "__init__"), "__init__", "Worn.__init__", defArgs s_Worn___init__, defBody s_Worn___init__, defScope s_Worn___init__, [.int (0)], []⟩
def d_is_whole : He.DefD := ⟨("is_whole", none), "is_whole", "is_whole", defArgs s_is_whole, defBody s_is_whole, defScope s_is_whole, [], []⟩
def d_is_name : He.DefD := ⟨("is_name", none), "is_name", "is_name", defArgs s_is_name, defBody s_is_name, defScope s_is_name, [], []⟩
def d_is_amount : He.DefD := ⟨("is_amount", none), "is_amount", "is_amount", defArgs s_is_amount, defBody s_is_amount, defScope s_is_amount, [], []⟩
def d_is_ink : He.DefD := ⟨("is_ink", none), "is_ink", "is_ink", defArgs s_is_ink, defBody s_is_ink, defScope s_is_ink, [], []⟩
def d_first_wrong : He.DefD := ⟨("first_wrong", none), "first_wrong", "first_wrong", defArgs s_first_wrong, defBody s_first_wrong, defScope s_first_wrong, [], []⟩
def d_Palette___init__ : He.DefD := ⟨("Palette", some "__init__"), "__init__", "Palette.__init__", defArgs s_Palette___init__, defBody s_Palette___init__, defScope s_Palette___init__, [], []⟩
def d_Palette_inks : He.DefD := ⟨("Palette", some "inks"), "inks", "Palette.inks", defArgs s_Palette_inks, defBody s_Palette_inks, defScope s_Palette_inks, [], []⟩
def d_Palette_names : He.DefD := ⟨("Palette", some "names"), "names", "Palette.names", defArgs s_Palette_names, defBody s_Palette_names, defScope s_Palette_names, [], []⟩
def d_Palette_has : He.DefD := ⟨("Palette", some "has"), "has", "Palette.has", defArgs s_Palette_has, defBody s_Palette_has, defScope s_Palette_has, [], []⟩
def d_Palette___eq__ : He.DefD := ⟨("Palette", some "__eq__"), "__eq__", "Palette.__eq__", defArgs s_Palette___eq__, defBody s_Palette___eq__, defScope s_Palette___eq__, [], []⟩
def d_ranked : He.DefD := ⟨("ranked", none), "ranked", "ranked", defArgs s_ranked, defBody s_ranked, defScope s_ranked, [], []⟩
def d_first : He.DefD := ⟨("first", none), "first", "first", defArgs s_first, defBody s_first, defScope s_first, [], []⟩
def d_is_wear : He.DefD := ⟨("is_wear", none), "is_wear", "is_wear", defArgs s_is_wear, defBody s_is_wear, defScope s_is_wear, [], []⟩
def d_want_amount : He.DefD := ⟨("want_amount", none), "want_amount", "want_amount", defArgs s_want_amount, defBody s_want_amount, defScope s_want_amount, [], []⟩
def d_want_like : He.DefD := ⟨("want_like", none), "want_like", "want_like", defArgs s_want_like, defBody s_want_like, defScope s_want_like, [], []⟩
def d_Place___init__ : He.DefD := ⟨("Place", some "__init__"), "__init__", "Place.__init__", defArgs s_Place___init__, defBody s_Place___init__, defScope s_Place___init__, [], [("wear", .int (3))]⟩
def d_Place_palette : He.DefD := ⟨("Place", some "palette"), "palette", "Place.palette", defArgs s_Place_palette, defBody s_Place_palette, defScope s_Place_palette, [], []⟩
def d_Place_wear : He.DefD := ⟨("Place", some "wear"), "wear", "Place.wear", defArgs s_Place_wear, defBody s_Place_wear, defScope s_Place_wear, [], []⟩
def d_Place_want_ink : He.DefD := ⟨("Place", some "want_ink"), "want_ink", "Place.want_ink", defArgs s_Place_want_ink, defBody s_Place_want_ink, defScope s_Place_want_ink, [], []⟩
def d_Place_row : He.DefD := ⟨("Place", some "row"), "row", "Place.row", defArgs s_Place_row, defBody s_Place_row, defScope s_Place_row, [], []⟩
def d_Place_marks : He.DefD := ⟨("Place", some "marks"), "marks", "Place.marks", defArgs s_Place_marks, defBody s_Place_marks, defScope s_Place_marks, [], []⟩
def d_Place_top : He.DefD := ⟨("Place", some "top"), "top", "Place.top", defArgs s_Place_top, defBody s_Place_top, defScope s_Place_top, [], []⟩
def d_Place_seen : He.DefD := ⟨("Place", some "seen"), "seen", "Place.seen", defArgs s_Place_seen, defBody s_Place_seen, defScope s_Place_seen, [], []⟩
def d_Place_seen_mark : He.DefD := ⟨("Place", some "seen_mark"), "seen_mark", "Place.seen_mark", defArgs s_Place_seen_mark, defBody s_Place_seen_mark, defScope s_Place_seen_mark, [], []⟩
def d_Place_put_on : He.DefD := ⟨("Place", some "put_on"), "put_on", "Place.put_on", defArgs s_Place_put_on, defBody s_Place_put_on, defScope s_Place_put_on, [], []⟩
def d_Place_lay : He.DefD := ⟨("Place", some "lay"), "lay", "Place.lay", defArgs s_Place_lay, defBody s_Place_lay, defScope s_Place_lay, [], []⟩
def d_Place_wear_off : He.DefD := ⟨("Place", some "wear_off"), "wear_off", "Place.wear_off", defArgs s_Place_wear_off, defBody s_Place_wear_off, defScope s_Place_wear_off, [], []⟩
def d_Place_scrape : He.DefD := ⟨("Place", some "scrape"), "scrape", "Place.scrape", defArgs s_Place_scrape, defBody s_Place_scrape, defScope s_Place_scrape, [], []⟩
def d_Place_graft : He.DefD := ⟨("Place", some "graft"), "graft", "Place.graft", defArgs s_Place_graft, defBody s_Place_graft, defScope s_Place_graft, [], []⟩
def d_l_at : He.DefD := ⟨("_law_at", none), "_law_at", "_law_at", defArgs s_l_at, defBody s_l_at, defScope s_l_at, [], []⟩
def d_l_pot : He.DefD := ⟨("_law_pot", none), "_law_pot", "_law_pot", defArgs s_l_pot, defBody s_l_pot, defScope s_l_pot, [], []⟩
def d_l_take : He.DefD := ⟨("_law_take", none), "_law_take", "_law_take", defArgs s_l_take, defBody s_l_take, defScope s_l_take, [], []⟩
def d_l_word : He.DefD := ⟨("_law_word", none), "_law_word", "_law_word", defArgs s_l_word, defBody s_l_word, defScope s_l_word, [], []⟩
def d_l_words : He.DefD := ⟨("_law_words", none), "_law_words", "_law_words", defArgs s_l_words, defBody s_l_words, defScope s_l_words, [], []⟩
def d_l_amount : He.DefD := ⟨("_law_amount", none), "_law_amount", "_law_amount", defArgs s_l_amount, defBody s_l_amount, defScope s_l_amount, [], []⟩
def d_l_inks : He.DefD := ⟨("_law_inks", none), "_law_inks", "_law_inks", defArgs s_l_inks, defBody s_l_inks, defScope s_l_inks, [], []⟩
def d_l_model : He.DefD := ⟨("_law_model", none), "_law_model", "_law_model", defArgs s_l_model, defBody s_l_model, defScope s_l_model, [], []⟩
def d_l_put : He.DefD := ⟨("_law_put", none), "_law_put", "_law_put", defArgs s_l_put, defBody s_l_put, defScope s_l_put, [], []⟩
def d_l_first : He.DefD := ⟨("_law_first", none), "_law_first", "_law_first", defArgs s_l_first, defBody s_l_first, defScope s_l_first, [], []⟩
def d_l_top : He.DefD := ⟨("_law_top", none), "_law_top", "_law_top", defArgs s_l_top, defBody s_l_top, defScope s_l_top, [], []⟩
def d_l_worn : He.DefD := ⟨("_law_worn", none), "_law_worn", "_law_worn", defArgs s_l_worn, defBody s_l_worn, defScope s_l_worn, [], []⟩
def d_l_seen : He.DefD := ⟨("_law_seen", none), "_law_seen", "_law_seen", defArgs s_l_seen, defBody s_l_seen, defScope s_l_seen, [], []⟩
def d_l_stands : He.DefD := ⟨("_law_stands", none), "_law_stands", "_law_stands", defArgs s_l_stands, defBody s_l_stands, defScope s_l_stands, [], []⟩
def d_l_sort : He.DefD := ⟨("_law_sort", none), "_law_sort", "_law_sort", defArgs s_l_sort, defBody s_l_sort, defScope s_l_sort, [], []⟩
def d_l_other_inks : He.DefD := ⟨("_law_other_inks", none), "_law_other_inks", "_law_other_inks", defArgs s_l_other_inks, defBody s_l_other_inks, defScope s_l_other_inks, [], []⟩
def d_l_many : He.DefD := ⟨("_law_many", none), "_law_many", "_law_many", defArgs s_l_many, defBody s_l_many, defScope s_l_many, [], []⟩
def d_l_grafted : He.DefD := ⟨("_law_grafted", none), "_law_grafted", "_law_grafted", defArgs s_l_grafted, defBody s_l_grafted, defScope s_l_grafted, [], []⟩
def d_l_is_refused : He.DefD := ⟨("_law_is_refused", none), "_law_is_refused", "_law_is_refused", defArgs s_l_is_refused, defBody s_l_is_refused, defScope s_l_is_refused, [], []⟩
def d_l_step : He.DefD := ⟨("_law_step", none), "_law_step", "_law_step", defArgs s_l_step, defBody s_l_step, defScope s_l_step, [], []⟩
def d_law : He.DefD := ⟨("law", none), "law", "law", defArgs s_law, defBody s_law, defScope s_law, [], []⟩
def fnL : List He.DefD := [d_Worn___init__, d_is_whole, d_is_name, d_is_amount, d_is_ink, d_first_wrong, d_Palette___init__, d_Palette_inks, d_Palette_names, d_Palette_has, d_Palette___eq__, d_ranked, d_first, d_is_wear, d_want_amount, d_want_like, d_Place___init__, d_Place_palette, d_Place_wear, d_Place_want_ink, d_Place_row, d_Place_marks, d_Place_top, d_Place_seen, d_Place_seen_mark, d_Place_put_on, d_Place_lay, d_Place_wear_off, d_Place_scrape, d_Place_graft, d_l_at, d_l_pot, d_l_take, d_l_word, d_l_words, d_l_amount, d_l_inks, d_l_model, d_l_put, d_l_first, d_l_top, d_l_worn, d_l_seen, d_l_stands, d_l_sort, d_l_other_inks, d_l_many, d_l_grafted, d_l_is_refused, d_l_step, d_law]
def faL : List He.Fa := [.glo "is_whole", .glo "is_name", .glo "is_amount", .glo "is_ink", .glo "first_wrong", .glo "ranked", .glo "first", .glo "is_wear", .glo "want_amount", .glo "want_like", .glo "_law_at", .glo "_law_pot", .glo "_law_take", .glo "_law_word", .glo "_law_words", .glo "_law_amount", .glo "_law_inks", .glo "_law_model", .glo "_law_put", .glo "_law_first", .glo "_law_top", .glo "_law_worn", .glo "_law_seen", .glo "_law_stands", .glo "_law_sort", .glo "_law_other_inks", .glo "_law_many", .glo "_law_grafted", .glo "_law_is_refused", .glo "_law_step", .glo "law", .free "ArithmeticError", .free "LookupError", .free "RuntimeError", .free "ValueError", .free "abs", .free "all", .free "bool", .free "dict", .free "divmod", .free "enumerate", .free "int", .free "isinstance", .free "len", .free "list", .free "max", .free "min", .free "range", .free "repr", .free "sorted", .free "str", .free "sum", .free "tuple", .free "zip", .str "LETTERS" "abcdefghijklmnopqrstuvwxyz", .int "MOST_INKS" (8), .int "MOST_LETTERS" (8), .int "MOST_WEAR" (6), .glo "Palette", .cls "Palette", .noat "Palette" "fades", .mkr "Palette", .meth "Palette" "inks", .meth "Palette" "names", .meth "Palette" "has", .meth "Palette" "__eq__", .glo "Place", .cls "Place", .noat "Place" "layers", .noat "Place" "next_mark", .noat "Place" "own_palette", .noat "Place" "wear_left", .mkr "Place", .meth "Place" "palette", .meth "Place" "wear", .meth "Place" "want_ink", .meth "Place" "row", .meth "Place" "marks", .meth "Place" "top", .meth "Place" "seen", .meth "Place" "seen_mark", .meth "Place" "put_on", .meth "Place" "lay", .meth "Place" "wear_off", .meth "Place" "scrape", .meth "Place" "graft", .glo "FadeError", .glo "NoPalette", .glo "NoTag", .glo "NoWear", .glo "NoDeed", .glo "NoPlaces", .glo "Unlike", .glo "NoText", .glo "NoRow", .glo "NoBook", .glo "Halted", .glo "NoInk", .glo "NoLayer", .glo "NoName", .glo "NoAmount", .glo "Worn", .meth "Worn" "__init__"]
def tfL : List He.Defn := [("ranked", none)]
abbrev tabA (K : PySem.W.Frag) (x : Str) : Addr := (He.cT K (x, none)).2
def exL (K : PySem.W.Frag) : Bool := isCB K (He.ga K "Palette") && neB K (He.ga K "Palette") && srtB K xNs xDs && nxB K tailV "ValueError.__new__" (He.ga K "Unlike") && He.eqO (PySem.W.findIn K (.ref (He.ga K "Worn")) "at") (some none) && oxB K tailR "RuntimeError.__new__" (He.ga K "Worn")
abbrev namesL : List Str := [("_wall" : Str), ("FadeError" : Str), ("NoPalette" : Str), ("NoTag" : Str), ("NoWear" : Str), ("NoDeed" : Str), ("NoPlaces" : Str), ("Unlike" : Str), ("NoText" : Str), ("NoRow" : Str), ("NoBook" : Str), ("Halted" : Str), ("NoInk" : Str), ("NoLayer" : Str), ("NoName" : Str), ("NoAmount" : Str), ("Worn" : Str), ("MOST_INKS" : Str), ("MOST_WEAR" : Str), ("WEAR" : Str), ("MOST_LETTERS" : Str), ("LETTERS" : Str), ("is_whole" : Str), ("is_name" : Str), ("is_amount" : Str), ("is_ink" : Str), ("first_wrong" : Str), ("Palette" : Str), ("ranked" : Str), ("first" : Str), ("is_wear" : Str), ("want_amount" : Str), ("want_like" : Str), ("Place" : Str), ("_law_at" : Str), ("_law_pot" : Str), ("_law_take" : Str), ("_law_word" : Str), ("_law_words" : Str), ("_law_amount" : Str), ("_law_inks" : Str), ("_law_model" : Str), ("_law_put" : Str), ("_law_first" : Str), ("_law_top" : Str), ("_law_worn" : Str), ("_law_seen" : Str), ("_law_stands" : Str), ("_law_sort" : Str), ("_law_other_inks" : Str), ("_law_many" : Str), ("_law_grafted" : Str), ("_law_is_refused" : Str), ("_law_step" : Str)]
abbrev R : PySem.W.OpenRow := PySem.W.OpenLaw.row PySem.Challenge.rw_fadeleaf_k26_grafted
abbrev hk : PySem.W.Hook := He.hookX 4 faL fnL [] tfL exL
def ob (s : PySem.W.SharedT) : He.AlX := He.obsX 4 faL fnL [] tfL exL (HandSHeadRun.getT s)
theorem ob_eq (s : PySem.W.SharedT) : ob s = hk.obs s.abs := He.obsX_eq (HandSHeadRun.getT_eq s)
theorem run_two {α β γ δ : Type} {e : Option α} {f : α → β} {g : α → γ} {h : α → δ} {x : β} {y : γ} {z : δ} (a : e.map (fun s => (f s, g s)) = some (x, y)) (b : e.map h = some z) : e.map (fun s => (f s, g s, h s)) = some (x, y, z) := by
  cases e with
  | none => cases a
  | some s =>
    have a1 : (f s, g s) = (x, y) := Option.some.inj a
    have b1 : h s = z := Option.some.inj b
    cases a1
    cases b1
    rfl
section
open PySem PySem.W PySem.Calls PyProof.Rows
theorem runA (w : World) (os : OsState) : (HandSHeadRun.endF (HandSHeadRun.stepQ (HandSHeadRun.denQ HandSHeadRun.tabQ) R.prog w) 10000 R.prog w os).map (fun s => (HandSHeadRun.looksF R.prog (boot_heap w.params) s.abs, HandSHeadRun.seenQ (PySem.W.view R.prog [59]) namesL (importedModules R.prog.main.body) (fun s => xlAt (PySem.W.view R.prog [59]) [] s && recOk R.toRowW.records s) s.abs)) = some (true, openGood (PySem.W.view R.prog [59]) namesL) := by kernel_rfl
theorem runB (w : World) (os : OsState) : (HandSHeadRun.endF (HandSHeadRun.stepQ (HandSHeadRun.denQ HandSHeadRun.tabQ) R.prog w) 10000 R.prog w os).map ob = some (hk.val w) := by kernel_rfl
end
theorem run (w : World) : HandSHeadRun.RunEq R (PySem.W.view R.prog [59]) hk ob 10000 namesL w := fun os => run_two (runA w os) (runB w os)
theorem facts {l : PySem.W.OpenLaw} {w : World} {K : PySem.W.Frag} {h : Heap} {mg : Str → Option Value} {f : Addr} (X : K.In h) (G : h.Ns mainGlobals mg) (hfa : mg ("law" : Str) = some (.ref f)) (cx : He.SaysX faL fnL [] tfL exL w h K) :
    LawIs l w K CX0 10 63 "_law_script" mg f h := by
  have c := cx.t.d
  obtain ⟨CPalette, eCPalette⟩ : ∃ t : Addr, t = He.ga K "Palette" := ⟨_, rfl⟩
  obtain ⟨CPlace, eCPlace⟩ : ∃ t : Addr, t = He.ga K "Place" := ⟨_, rfl⟩
  obtain ⟨t0, et0⟩ : ∃ t : Addr, t = (He.cT K ("ranked", none)).2 := ⟨_, rfl⟩
  have hx : exL K = true := cx.more
  obtain ⟨hx, hx5⟩ := He.ba hx
  have hw4 := hx5
  obtain ⟨hx, hx4⟩ := He.ba hx
  have hw3 := hx4
  obtain ⟨hx, hx3⟩ := He.ba hx
  have hw2 := hx3
  obtain ⟨hx, hx2⟩ := He.ba hx
  have hw1 := hx2
  obtain ⟨hx, hx1⟩ := He.ba hx
  have hw0 := hx1
  have is_Palette : IsC K CPalette := eCPalette ▸ isC_ok hx
  letI tb : Tb := ⟨([(t0, lamName "ranked")] : List (Addr × Str))⟩
  have D_Worn___init__ : ExAt K mg "Worn" (gx K "Worn") "Worn.__init__" s_Worn___init__ [.int (0)] := by
    rw [gx_eq]
    exact let ⟨fd, F⟩ := c.def_ 0 (d := d_Worn___init__) rfl; ⟨_, fd, F, He.meth_ok (c.fact 102 (f := .meth "Worn" "__init__") rfl), He.glo_ok X G (c.fact 101 (f := .glo "Worn") rfl)⟩
  have D_is_whole : DefAt K mg "is_whole" s_is_whole := let ⟨fd, F⟩ := c.def_ 1 (d := d_is_whole) rfl; ⟨_, fd, F, He.glo_ok X G (c.fact 0 (f := .glo "is_whole") rfl)⟩
  have D_is_name : DefAt K mg "is_name" s_is_name := let ⟨fd, F⟩ := c.def_ 2 (d := d_is_name) rfl; ⟨_, fd, F, He.glo_ok X G (c.fact 1 (f := .glo "is_name") rfl)⟩
  have D_is_amount : DefAt K mg "is_amount" s_is_amount := let ⟨fd, F⟩ := c.def_ 3 (d := d_is_amount) rfl; ⟨_, fd, F, He.glo_ok X G (c.fact 2 (f := .glo "is_amount") rfl)⟩
  have D_is_ink : DefAt K mg "is_ink" s_is_ink := let ⟨fd, F⟩ := c.def_ 4 (d := d_is_ink) rfl; ⟨_, fd, F, He.glo_ok X G (c.fact 3 (f := .glo "is_ink") rfl)⟩
  have D_first_wrong : DefAt K mg "first_wrong" s_first_wrong := let ⟨fd, F⟩ := c.def_ 5 (d := d_first_wrong) rfl; ⟨_, fd, F, He.glo_ok X G (c.fact 4 (f := .glo "first_wrong") rfl)⟩
  have D_Palette___init__ : IniAt K mg "Palette" CPalette "Palette.__init__" s_Palette___init__ [] := let ⟨fd, F⟩ := c.def_ 6 (d := d_Palette___init__) rfl; eCPalette ▸ ⟨_, fd, F, He.mkr_ok (c.fact 61 (f := .mkr "Palette") rfl), He.glo_ok X G (c.fact 58 (f := .glo "Palette") rfl)⟩
  have D_Palette_inks : MetAt K CPalette "inks" "Palette.inks" s_Palette_inks := let ⟨fd, F⟩ := c.def_ 7 (d := d_Palette_inks) rfl; eCPalette ▸ ⟨_, fd, F, He.meth_ok (c.fact 62 (f := .meth "Palette" "inks") rfl)⟩
  have D_Palette_names : MetAt K CPalette "names" "Palette.names" s_Palette_names := let ⟨fd, F⟩ := c.def_ 8 (d := d_Palette_names) rfl; eCPalette ▸ ⟨_, fd, F, He.meth_ok (c.fact 63 (f := .meth "Palette" "names") rfl)⟩
  have D_Palette_has : MetAt K CPalette "has" "Palette.has" s_Palette_has := let ⟨fd, F⟩ := c.def_ 9 (d := d_Palette_has) rfl; eCPalette ▸ ⟨_, fd, F, He.meth_ok (c.fact 64 (f := .meth "Palette" "has") rfl)⟩
  have D_Palette___eq__ : MetAt K CPalette "__eq__" "Palette.__eq__" s_Palette___eq__ := let ⟨fd, F⟩ := c.def_ 10 (d := d_Palette___eq__) rfl; eCPalette ▸ ⟨_, fd, F, He.meth_ok (c.fact 65 (f := .meth "Palette" "__eq__") rfl)⟩
  have D_ranked : DefL K mg "ranked" s_ranked (He.codeOf K ("ranked", none)) := let ⟨fd, F⟩ := c.def_ 11 (d := d_ranked) rfl; defL_of F (He.glo_ok X G (c.fact 5 (f := .glo "ranked") rfl))
  have D_first : DefAt K mg "first" s_first := let ⟨fd, F⟩ := c.def_ 12 (d := d_first) rfl; ⟨_, fd, F, He.glo_ok X G (c.fact 6 (f := .glo "first") rfl)⟩
  have D_is_wear : DefAt K mg "is_wear" s_is_wear := let ⟨fd, F⟩ := c.def_ 13 (d := d_is_wear) rfl; ⟨_, fd, F, He.glo_ok X G (c.fact 7 (f := .glo "is_wear") rfl)⟩
  have D_want_amount : DefAt K mg "want_amount" s_want_amount := let ⟨fd, F⟩ := c.def_ 14 (d := d_want_amount) rfl; ⟨_, fd, F, He.glo_ok X G (c.fact 8 (f := .glo "want_amount") rfl)⟩
  have D_want_like : DefAt K mg "want_like" s_want_like := let ⟨fd, F⟩ := c.def_ 15 (d := d_want_like) rfl; ⟨_, fd, F, He.glo_ok X G (c.fact 9 (f := .glo "want_like") rfl)⟩
  have D_Place___init__ : IniAt K mg "Place" CPlace "Place.__init__" s_Place___init__ [("wear", .int (3))] := let ⟨fd, F⟩ := c.def_ 16 (d := d_Place___init__) rfl; eCPlace ▸ ⟨_, fd, F, He.mkr_ok (c.fact 72 (f := .mkr "Place") rfl), He.glo_ok X G (c.fact 66 (f := .glo "Place") rfl)⟩
  have D_Place_palette : MetAt K CPlace "palette" "Place.palette" s_Place_palette := let ⟨fd, F⟩ := c.def_ 17 (d := d_Place_palette) rfl; eCPlace ▸ ⟨_, fd, F, He.meth_ok (c.fact 73 (f := .meth "Place" "palette") rfl)⟩
  have D_Place_wear : MetAt K CPlace "wear" "Place.wear" s_Place_wear := let ⟨fd, F⟩ := c.def_ 18 (d := d_Place_wear) rfl; eCPlace ▸ ⟨_, fd, F, He.meth_ok (c.fact 74 (f := .meth "Place" "wear") rfl)⟩
  have D_Place_want_ink : MetAt K CPlace "want_ink" "Place.want_ink" s_Place_want_ink := let ⟨fd, F⟩ := c.def_ 19 (d := d_Place_want_ink) rfl; eCPlace ▸ ⟨_, fd, F, He.meth_ok (c.fact 75 (f := .meth "Place" "want_ink") rfl)⟩
  have D_Place_row : MetAt K CPlace "row" "Place.row" s_Place_row := let ⟨fd, F⟩ := c.def_ 20 (d := d_Place_row) rfl; eCPlace ▸ ⟨_, fd, F, He.meth_ok (c.fact 76 (f := .meth "Place" "row") rfl)⟩
  have D_Place_marks : MetAt K CPlace "marks" "Place.marks" s_Place_marks := let ⟨fd, F⟩ := c.def_ 21 (d := d_Place_marks) rfl; eCPlace ▸ ⟨_, fd, F, He.meth_ok (c.fact 77 (f := .meth "Place" "marks") rfl)⟩
  have D_Place_top : MetAt K CPlace "top" "Place.top" s_Place_top := let ⟨fd, F⟩ := c.def_ 22 (d := d_Place_top) rfl; eCPlace ▸ ⟨_, fd, F, He.meth_ok (c.fact 78 (f := .meth "Place" "top") rfl)⟩
  have D_Place_seen : MetAt K CPlace "seen" "Place.seen" s_Place_seen := let ⟨fd, F⟩ := c.def_ 23 (d := d_Place_seen) rfl; eCPlace ▸ ⟨_, fd, F, He.meth_ok (c.fact 79 (f := .meth "Place" "seen") rfl)⟩
  have D_Place_seen_mark : MetAt K CPlace "seen_mark" "Place.seen_mark" s_Place_seen_mark := let ⟨fd, F⟩ := c.def_ 24 (d := d_Place_seen_mark) rfl; eCPlace ▸ ⟨_, fd, F, He.meth_ok (c.fact 80 (f := .meth "Place" "seen_mark") rfl)⟩
  have D_Place_put_on : MetAt K CPlace "put_on" "Place.put_on" s_Place_put_on := let ⟨fd, F⟩ := c.def_ 25 (d := d_Place_put_on) rfl; eCPlace ▸ ⟨_, fd, F, He.meth_ok (c.fact 81 (f := .meth "Place" "put_on") rfl)⟩
  have D_Place_lay : MetAt K CPlace "lay" "Place.lay" s_Place_lay := let ⟨fd, F⟩ := c.def_ 26 (d := d_Place_lay) rfl; eCPlace ▸ ⟨_, fd, F, He.meth_ok (c.fact 82 (f := .meth "Place" "lay") rfl)⟩
  have D_Place_wear_off : MetAt K CPlace "wear_off" "Place.wear_off" s_Place_wear_off := let ⟨fd, F⟩ := c.def_ 27 (d := d_Place_wear_off) rfl; eCPlace ▸ ⟨_, fd, F, He.meth_ok (c.fact 83 (f := .meth "Place" "wear_off") rfl)⟩
  have D_Place_scrape : MetAt K CPlace "scrape" "Place.scrape" s_Place_scrape := let ⟨fd, F⟩ := c.def_ 28 (d := d_Place_scrape) rfl; eCPlace ▸ ⟨_, fd, F, He.meth_ok (c.fact 84 (f := .meth "Place" "scrape") rfl)⟩
  have D_Place_graft : MetAt K CPlace "graft" "Place.graft" s_Place_graft := let ⟨fd, F⟩ := c.def_ 29 (d := d_Place_graft) rfl; eCPlace ▸ ⟨_, fd, F, He.meth_ok (c.fact 85 (f := .meth "Place" "graft") rfl)⟩
  have D_l_at : DefAt K mg "_law_at" s_l_at := let ⟨fd, F⟩ := c.def_ 30 (d := d_l_at) rfl; ⟨_, fd, F, He.glo_ok X G (c.fact 10 (f := .glo "_law_at") rfl)⟩
  have D_l_pot : DefAt K mg "_law_pot" s_l_pot := let ⟨fd, F⟩ := c.def_ 31 (d := d_l_pot) rfl; ⟨_, fd, F, He.glo_ok X G (c.fact 11 (f := .glo "_law_pot") rfl)⟩
  have D_l_take : DefAt K mg "_law_take" s_l_take := let ⟨fd, F⟩ := c.def_ 32 (d := d_l_take) rfl; ⟨_, fd, F, He.glo_ok X G (c.fact 12 (f := .glo "_law_take") rfl)⟩
  have D_l_word : DefAt K mg "_law_word" s_l_word := let ⟨fd, F⟩ := c.def_ 33 (d := d_l_word) rfl; ⟨_, fd, F, He.glo_ok X G (c.fact 13 (f := .glo "_law_word") rfl)⟩
  have D_l_words : DefAt K mg "_law_words" s_l_words := let ⟨fd, F⟩ := c.def_ 34 (d := d_l_words) rfl; ⟨_, fd, F, He.glo_ok X G (c.fact 14 (f := .glo "_law_words") rfl)⟩
  have D_l_amount : DefAt K mg "_law_amount" s_l_amount := let ⟨fd, F⟩ := c.def_ 35 (d := d_l_amount) rfl; ⟨_, fd, F, He.glo_ok X G (c.fact 15 (f := .glo "_law_amount") rfl)⟩
  have D_l_inks : DefAt K mg "_law_inks" s_l_inks := let ⟨fd, F⟩ := c.def_ 36 (d := d_l_inks) rfl; ⟨_, fd, F, He.glo_ok X G (c.fact 16 (f := .glo "_law_inks") rfl)⟩
  have D_l_model : DefAt K mg "_law_model" s_l_model := let ⟨fd, F⟩ := c.def_ 37 (d := d_l_model) rfl; ⟨_, fd, F, He.glo_ok X G (c.fact 17 (f := .glo "_law_model") rfl)⟩
  have D_l_put : DefAt K mg "_law_put" s_l_put := let ⟨fd, F⟩ := c.def_ 38 (d := d_l_put) rfl; ⟨_, fd, F, He.glo_ok X G (c.fact 18 (f := .glo "_law_put") rfl)⟩
  have D_l_first : DefAt K mg "_law_first" s_l_first := let ⟨fd, F⟩ := c.def_ 39 (d := d_l_first) rfl; ⟨_, fd, F, He.glo_ok X G (c.fact 19 (f := .glo "_law_first") rfl)⟩
  have D_l_top : DefAt K mg "_law_top" s_l_top := let ⟨fd, F⟩ := c.def_ 40 (d := d_l_top) rfl; ⟨_, fd, F, He.glo_ok X G (c.fact 20 (f := .glo "_law_top") rfl)⟩
  have D_l_worn : DefAt K mg "_law_worn" s_l_worn := let ⟨fd, F⟩ := c.def_ 41 (d := d_l_worn) rfl; ⟨_, fd, F, He.glo_ok X G (c.fact 21 (f := .glo "_law_worn") rfl)⟩
  have D_l_seen : DefAt K mg "_law_seen" s_l_seen := let ⟨fd, F⟩ := c.def_ 42 (d := d_l_seen) rfl; ⟨_, fd, F, He.glo_ok X G (c.fact 22 (f := .glo "_law_seen") rfl)⟩
  have D_l_stands : DefAt K mg "_law_stands" s_l_stands := let ⟨fd, F⟩ := c.def_ 43 (d := d_l_stands) rfl; ⟨_, fd, F, He.glo_ok X G (c.fact 23 (f := .glo "_law_stands") rfl)⟩
  have D_l_sort : DefAt K mg "_law_sort" s_l_sort := let ⟨fd, F⟩ := c.def_ 44 (d := d_l_sort) rfl; ⟨_, fd, F, He.glo_ok X G (c.fact 24 (f := .glo "_law_sort") rfl)⟩
  have D_l_other_inks : DefAt K mg "_law_other_inks" s_l_other_inks := let ⟨fd, F⟩ := c.def_ 45 (d := d_l_other_inks) rfl; ⟨_, fd, F, He.glo_ok X G (c.fact 25 (f := .glo "_law_other_inks") rfl)⟩
  have D_l_many : DefAt K mg "_law_many" s_l_many := let ⟨fd, F⟩ := c.def_ 46 (d := d_l_many) rfl; ⟨_, fd, F, He.glo_ok X G (c.fact 26 (f := .glo "_law_many") rfl)⟩
  have D_l_grafted : DefAt K mg "_law_grafted" s_l_grafted := let ⟨fd, F⟩ := c.def_ 47 (d := d_l_grafted) rfl; ⟨_, fd, F, He.glo_ok X G (c.fact 27 (f := .glo "_law_grafted") rfl)⟩
  have D_l_is_refused : DefAt K mg "_law_is_refused" s_l_is_refused := let ⟨fd, F⟩ := c.def_ 48 (d := d_l_is_refused) rfl; ⟨_, fd, F, He.glo_ok X G (c.fact 28 (f := .glo "_law_is_refused") rfl)⟩
  have D_l_step : DefAt K mg "_law_step" s_l_step := let ⟨fd, F⟩ := c.def_ 49 (d := d_l_step) rfl; ⟨_, fd, F, He.glo_ok X G (c.fact 29 (f := .glo "_law_step") rfl)⟩
  obtain ⟨fdL, FL⟩ := c.def_ 50 (d := d_law) rfl
  have eL := hfa.symm.trans (He.glo_ok X G (c.fact 30 (f := .glo "law") rfl))
  cases eL
  have fr : Fr mg := ⟨He.free_ok X G (c.fact 31 (f := .free "ArithmeticError") rfl), He.free_ok X G (c.fact 32 (f := .free "LookupError") rfl), He.free_ok X G (c.fact 33 (f := .free "RuntimeError") rfl), He.free_ok X G (c.fact 34 (f := .free "ValueError") rfl), He.free_ok X G (c.fact 35 (f := .free "abs") rfl), He.free_ok X G (c.fact 36 (f := .free "all") rfl), He.free_ok X G (c.fact 37 (f := .free "bool") rfl), He.free_ok X G (c.fact 38 (f := .free "dict") rfl), He.free_ok X G (c.fact 39 (f := .free "divmod") rfl), He.free_ok X G (c.fact 40 (f := .free "enumerate") rfl), He.free_ok X G (c.fact 41 (f := .free "int") rfl), He.free_ok X G (c.fact 42 (f := .free "isinstance") rfl), He.free_ok X G (c.fact 43 (f := .free "len") rfl), He.free_ok X G (c.fact 44 (f := .free "list") rfl), He.free_ok X G (c.fact 45 (f := .free "max") rfl), He.free_ok X G (c.fact 46 (f := .free "min") rfl), He.free_ok X G (c.fact 47 (f := .free "range") rfl), He.free_ok X G (c.fact 48 (f := .free "repr") rfl), He.free_ok X G (c.fact 49 (f := .free "sorted") rfl), He.free_ok X G (c.fact 50 (f := .free "str") rfl), He.free_ok X G (c.fact 51 (f := .free "sum") rfl), He.free_ok X G (c.fact 52 (f := .free "tuple") rfl), He.free_ok X G (c.fact 53 (f := .free "zip") rfl), He.str_ok X G (c.fact 54 (f := .str "LETTERS" "abcdefghijklmnopqrstuvwxyz") rfl), He.int_ok X G (c.fact 55 (f := .int "MOST_INKS" (8)) rfl), He.int_ok X G (c.fact 56 (f := .int "MOST_LETTERS" (8)) rfl), He.int_ok X G (c.fact 57 (f := .int "MOST_WEAR" (6)) rfl)⟩
  have cf : Cf K mg CPalette CPlace := ⟨eCPalette ▸ He.cls_ok (c.fact 59 (f := .cls "Palette") rfl), eCPalette ▸ He.glo_ok X G (c.fact 58 (f := .glo "Palette") rfl), is_Palette, eCPalette ▸ He.noat_ok (c.fact 60 (f := .noat "Palette" "fades") rfl), eCPlace ▸ He.cls_ok (c.fact 67 (f := .cls "Place") rfl), eCPlace ▸ He.glo_ok X G (c.fact 66 (f := .glo "Place") rfl), eCPlace ▸ He.noat_ok (c.fact 68 (f := .noat "Place" "layers") rfl), eCPlace ▸ He.noat_ok (c.fact 69 (f := .noat "Place" "next_mark") rfl), eCPlace ▸ He.noat_ok (c.fact 70 (f := .noat "Place" "own_palette") rfl), eCPlace ▸ He.noat_ok (c.fact 71 (f := .noat "Place" "wear_left") rfl)⟩
  have nc : NeC K CPalette := eCPalette ▸ neB_ok hw0
  have xs : Xs K mg := ⟨srtB_ok (List.forall_mem_cons.mpr ⟨He.glo_ok X G (c.fact 86 (f := .glo "FadeError") rfl), List.forall_mem_cons.mpr ⟨He.glo_ok X G (c.fact 87 (f := .glo "NoPalette") rfl), List.forall_mem_cons.mpr ⟨He.glo_ok X G (c.fact 88 (f := .glo "NoTag") rfl), List.forall_mem_cons.mpr ⟨He.glo_ok X G (c.fact 89 (f := .glo "NoWear") rfl), List.forall_mem_cons.mpr ⟨He.glo_ok X G (c.fact 90 (f := .glo "NoDeed") rfl), List.forall_mem_cons.mpr ⟨He.glo_ok X G (c.fact 91 (f := .glo "NoPlaces") rfl), List.forall_mem_cons.mpr ⟨He.glo_ok X G (c.fact 92 (f := .glo "Unlike") rfl), List.forall_mem_cons.mpr ⟨He.glo_ok X G (c.fact 93 (f := .glo "NoText") rfl), List.forall_mem_cons.mpr ⟨He.glo_ok X G (c.fact 94 (f := .glo "NoRow") rfl), List.forall_mem_cons.mpr ⟨He.glo_ok X G (c.fact 95 (f := .glo "NoBook") rfl), List.forall_mem_cons.mpr ⟨He.glo_ok X G (c.fact 96 (f := .glo "Halted") rfl), List.forall_mem_cons.mpr ⟨He.glo_ok X G (c.fact 97 (f := .glo "NoInk") rfl), List.forall_mem_cons.mpr ⟨He.glo_ok X G (c.fact 98 (f := .glo "NoLayer") rfl), List.forall_mem_cons.mpr ⟨He.glo_ok X G (c.fact 99 (f := .glo "NoName") rfl), List.forall_mem_cons.mpr ⟨He.glo_ok X G (c.fact 100 (f := .glo "NoAmount") rfl), List.forall_mem_cons.mpr ⟨He.glo_ok X G (c.fact 101 (f := .glo "Worn") rfl), fun _ h => nomatch h⟩⟩⟩⟩⟩⟩⟩⟩⟩⟩⟩⟩⟩⟩⟩⟩) hw1, nxB_ok (He.glo_ok X G (c.fact 92 (f := .glo "Unlike") rfl)) hw2, (by rw [gx_eq]; exact He.eqO_ok hw3), (by rw [gx_eq]; exact oxB_ok hw4)⟩
  have b := FunD.bindsA (ps := ["_law_script"]) FL fun _ _ _ _ _ _ us hl => match us, hl with | [_], _ => rfl
  refine ⟨fdL, tfL.map (He.cT K), spLaw K, fun p hp => ?_, fun p hp => ?_, fun p hp => ?_, fun s v => b s [v] rfl, fun H a ns hl hTb hS => ⟨a, ns, rfl, hS, hl, ?_, fun _ => rfl⟩, fun base _ _ hTB => ?_⟩
  · obtain ⟨q, hq, rfl⟩ := List.mem_map.mp hp
    exact cx.empty q hq
  · obtain ⟨q, hq, rfl⟩ := List.mem_map.mp hp
    exact cx.out q hq
  · obtain ⟨q, hq, rfl⟩ := List.mem_map.mp hp
    exact PySem.W.codeHd_of_K X (cx.hd q hq)
  · intro p hp
    have hp : p ∈ ([(t0, lamName "ranked")] : List (Addr × Str)) := hp
    have hq := List.mem_singleton.mp hp
    exact hq ▸ et0 ▸ LamX.TabS.nil (hTb _ (List.mem_map.mpr ⟨("ranked", none), by simp [tfL], rfl⟩))
  have c_is_whole := ok_is_whole (P := l.prog) (w := w) (base := base) D_is_whole fr 
  have c_is_name := ok_is_name (P := l.prog) (w := w) (base := base) D_is_name fr 
  have c_is_amount := ok_is_amount (P := l.prog) (w := w) (base := base) D_is_amount fr c_is_whole
  have c_l_at := ok_l_at (P := l.prog) (w := w) (base := base) D_l_at fr 
  have c_l_pot := ok_l_pot (P := l.prog) (w := w) (base := base) D_l_pot fr 
  have c_l_take := ok_l_take (P := l.prog) (w := w) (base := base) D_l_take fr 
  have c_l_word := ok_l_word (P := l.prog) (w := w) (base := base) D_l_word fr c_l_take
  have c_l_words := ok_l_words (P := l.prog) (w := w) (base := base) D_l_words fr c_l_word
  have c_l_amount := ok_l_amount (P := l.prog) (w := w) (base := base) D_l_amount fr c_l_take
  have c_l_inks := ok_l_inks (P := l.prog) (w := w) (base := base) D_l_inks fr c_l_take c_l_words
  have c_is_ink := ok_is_ink (P := l.prog) (w := w) (base := base) D_is_ink fr c_is_name c_is_whole
  have c_first_wrong := ok_first_wrong (P := l.prog) (w := w) (base := base) D_first_wrong fr c_is_ink
  have i_Palette := ok_Palette___init__ (P := l.prog) (w := w) (base := base) D_Palette___init__ fr cf c_first_wrong
  have m_Palette_names := ok_Palette_names (P := l.prog) (w := w) (base := base) D_Palette_names fr cf
  have m_Palette_inks := ok_Palette_inks (P := l.prog) (w := w) (base := base) D_Palette_inks fr cf
  have m_Palette_has := ok_Palette_has (P := l.prog) (w := w) (base := base) D_Palette_has fr cf
  have c_is_wear := ok_is_wear (P := l.prog) (w := w) (base := base) D_is_wear fr 
  have k_Place := ok_Place___init__ (P := l.prog) (w := w) (base := base) D_Place___init__ fr cf c_is_wear m_Palette_names
  have m_Place_palette := ok_Place_palette (P := l.prog) (w := w) (base := base) D_Place_palette fr cf
  have m_Place_wear := ok_Place_wear (P := l.prog) (w := w) (base := base) D_Place_wear fr cf
  have m_Place_want_ink := ok_Place_want_ink (P := l.prog) (w := w) (base := base) D_Place_want_ink fr cf m_Palette_has
  have m_Place_row := ok_Place_row (P := l.prog) (w := w) (base := base) D_Place_row fr cf m_Place_want_ink
  have m_Place_marks := ok_Place_marks (P := l.prog) (w := w) (base := base) D_Place_marks fr cf m_Place_want_ink
  have L_ranked : LamAt K mg base "ranked" s_ranked := ⟨_, t0, D_ranked, et0 ▸ hTB _ (List.mem_map.mpr ⟨("ranked", none), by simp [tfL], rfl⟩), (show (t0, lamName "ranked") ∈ ([(t0, lamName "ranked")] : List (Addr × Str)) by simp), fun p hp e => ?tab_ranked⟩
  have c_ranked := ok_ranked (P := l.prog) (w := w) (base := base) L_ranked fr 
  have c_first := ok_first (P := l.prog) (w := w) (base := base) D_first fr c_ranked
  have m_Place_top := ok_Place_top (P := l.prog) (w := w) (base := base) D_Place_top fr cf m_Palette_names m_Place_row c_first
  have m_Place_seen := ok_Place_seen (P := l.prog) (w := w) (base := base) D_Place_seen fr cf m_Place_top
  have m_Place_seen_mark := ok_Place_seen_mark (P := l.prog) (w := w) (base := base) D_Place_seen_mark fr cf m_Place_top
  have m_Place_put_on := ok_Place_put_on (P := l.prog) (w := w) (base := base) D_Place_put_on fr cf
  have c_want_amount := ok_want_amount (P := l.prog) (w := w) (base := base) D_want_amount fr c_is_amount
  have m_Place_lay := ok_Place_lay (P := l.prog) (w := w) (base := base) D_Place_lay fr cf m_Place_want_ink c_is_name c_want_amount m_Place_put_on
  have c_l_model := ok_l_model (P := l.prog) (w := w) (base := base) D_l_model fr 
  have c_l_put := ok_l_put (P := l.prog) (w := w) (base := base) D_l_put fr 
  have c_l_first := ok_l_first (P := l.prog) (w := w) (base := base) D_l_first fr 
  have c_l_top := ok_l_top (P := l.prog) (w := w) (base := base) D_l_top fr c_l_first
  have c_l_seen := ok_l_seen (P := l.prog) (w := w) (base := base) D_l_seen fr c_l_top
  have m_Palette___eq__ := ok_Palette___eq__ (P := l.prog) (w := w) (base := base) D_Palette___eq__ fr cf m_Palette_inks
  have c_l_stands := ok_l_stands (P := l.prog) (w := w) (base := base) D_l_stands fr cf m_Place_row m_Place_marks m_Place_wear m_Place_seen m_Place_seen_mark c_l_seen
  have e_Worn := ok_Worn___init__ (P := l.prog) (w := w) (base := base) D_Worn___init__ fr xs
  have m_Place_wear_off := ok_Place_wear_off (P := l.prog) (w := w) (base := base) D_Place_wear_off fr cf xs e_Worn m_Place_top
  have m_Place_scrape := ok_Place_scrape (P := l.prog) (w := w) (base := base) D_Place_scrape fr cf m_Place_wear_off
  have c_l_worn := ok_l_worn (P := l.prog) (w := w) (base := base) D_l_worn fr c_l_top
  have c_want_like := ok_want_like (P := l.prog) (w := w) (base := base) D_want_like fr cf xs nc m_Place_palette m_Palette___eq__
  have m_Place_graft := ok_Place_graft (P := l.prog) (w := w) (base := base) D_Place_graft fr cf c_want_like m_Palette_names m_Place_row m_Place_put_on m_Place_wear
  have c_l_sort := ok_l_sort (P := l.prog) (w := w) (base := base) D_l_sort fr xs
  have c_l_is_refused := ok_l_is_refused (P := l.prog) (w := w) (base := base) D_l_is_refused fr cf xs m_Place_graft c_l_sort
  have c_l_other_inks := ok_l_other_inks (P := l.prog) (w := w) (base := base) D_l_other_inks fr c_l_take c_l_word
  have c_l_many := ok_l_many (P := l.prog) (w := w) (base := base) D_l_many fr 
  have c_l_grafted := ok_l_grafted (P := l.prog) (w := w) (base := base) D_l_grafted fr c_l_put
  have c_l_step := ok_l_step (P := l.prog) (w := w) (base := base) D_l_step fr cf c_l_take c_l_amount m_Place_lay c_l_put m_Place_scrape c_l_worn c_l_many m_Place_graft c_l_grafted c_l_stands
  exact ok_law FL fr cf c_l_at c_l_pot c_l_take c_l_inks c_l_words i_Palette k_Place c_l_model c_l_stands c_l_step c_l_other_inks c_l_is_refused m_Place_lay m_Place_marks m_Place_wear m_Place_palette m_Palette_names
  case tab_ranked =>
    have hp : p ∈ ([(t0, lamName "ranked")] : List (Addr × Str)) := hp
    have hq := List.mem_singleton.mp hp
    rw [hq]
end K26
open PySem PySem.W PySem.Calls PyProof.Rows
theorem PySem.Challenge.cw_fadeleaf_k26_grafted_holds : PySem.Challenge.rw_fadeleaf_k26_grafted.Holds := by
  w_on; o_law
  refine HandSHeadRun.head_any (r := OpenLaw.row PySem.Challenge.rw_fadeleaf_k26_grafted) (q := view (OpenLaw.row PySem.Challenge.rw_fadeleaf_k26_grafted).prog [59]) (H := K26.hk) (ob := K26.ob) (M := 10000) (loose := K26.namesL) (d := HandSHeadRun.topDef (OpenLaw.row PySem.Challenge.rw_fadeleaf_k26_grafted).prog 59) (kwd := []) K26.ob_eq
    (by kernel_rfl) (fun s => by kernel_rfl) K26.run (by kernel_rfl) (by kernel_rfl) (by kernel_rfl) (by rfl) (by first | assumption | decide +kernel) (by decide +kernel) ⟨rfl, rfl, rfl, rfl, rfl, by decide +kernel⟩ ?hw ?hc
  case hw => w_witness2
  case hc =>
    refine Y.walk_G (l := PySem.Challenge.rw_fadeleaf_k26_grafted) (n := 63) (k := 10) (x := "_law_script") (CX := L2.CX0) rfl (by decide) (by kernel_rfl) ⟨rfl, by decide, by decide⟩ ?F (fun _ _ _ _ z => z)
    intro w mg fa h Yh G hmg0
    obtain ⟨K, KX, c⟩ := Yh
    have en : (HandSHeadRun.topDef (OpenLaw.row PySem.Challenge.rw_fadeleaf_k26_grafted).prog 59).name = ("law" : PySem.Str) := by kernel_rfl
    rw [en] at hmg0
    exact ⟨K, KX, K26.facts KX G hmg0 c⟩
