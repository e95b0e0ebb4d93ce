import PyProof.Rows.All
import Wide.All
import OpenK.AllK
import Wide.FinOn
import HandS.ForMost
import HandS.Exc
import HandS.TryOnly
import HandS.ExcOwn
import HandS.WordsExc
import HandS.Defaults
import HandS.Flow
import HandS.WideBits
import HandS.Lambda
import HandS.EndTab
import HandS.TupAny
import HandS.IsInst
import HandS.Walk
import HandS.Conv
import HandS.Deep
import HandS.SortInts
import HandS.Small
import HandS.Style
import KE.KStateDown
import HandS.More
import HandS.Head0
import HandS.Head1
import HandS.Head2
import HandS.HeadEnd
import HandS.HeadHook1
import HandS.HeadHook2
import HandS.Codes
import HandS.SortKw
import HandS.Nested
import HandS.HeadHook4
import HandS.HeadHook3
import HandS.Zip
import KE.GoesMore
import KE.SortData
import HandS.Dict
import HandS.Iter
import KE.KDictWalk
import PySem.Challenge.RW_fadeleaf_k12_names_and_amounts
set_option Elab.async false
set_option linter.all false
set_option maxRecDepth 100000
set_option maxHeartbeats 2000000
/-! G0: promises of defs that know that no repr is under way (A.guards = some []): repr of data can be asked inside them. -/
namespace Y
open PySem PySem.Spec PyProof.Rows L2

/-- a def's promise, kept wherever no repr is under way -/
structure FnG (P : Program) (w : World) (K : PySem.W.Frag) (mg : Str → Option Value) (base : Heap) (CX : CXT) (k : Nat) (f : Addr) (fd : FuncData) (ps : List Str) (sp : Sp) : Prop where
  arity : ∀ vs H Q E, sp vs H Q E → vs.length = ps.length
  goes : ∀ (A : Around) (outer : List Env) (s : Shared) (H : Hp) (args : Args) (us : List Value) (vs : List V) (Q : VK) (E : XK),
    Room k A → A.guards = some [] → Env0 P w K mg base A outer s H → BindsTo s fd args (ps.zip us) → Vals vs us → sp vs H Q E →
    codeAny (model P w) A (.call (.ref f) args) (CR CX outer P w H s Q E) s

section
variable {P : Program} {w : World} {K : PySem.W.Frag} {mg : Str → Option Value} {base : Heap} {CX : CXT} {k j : Nat} {f : Addr} {fd : FuncData} {ps : List Str} {sp sp' : Sp}
theorem FnG.of (F : FnOk P w K mg base CX k f fd ps sp) : FnG P w K mg base CX k f fd ps sp :=
  ⟨F.len, fun A o s H a us vs Q E hr _ => F.run A o s H a us vs Q E hr⟩
theorem FnG.up (F : FnG P w K mg base CX j f fd ps sp) (h : j ≤ k) : FnG P w K mg base CX k f fd ps sp :=
  ⟨F.arity, fun A o s H a us vs Q E hr => F.goes A o s H a us vs Q E (hr.mono h)⟩
theorem FnG.weak (F : FnG P w K mg base CX k f fd ps sp) (h : ∀ vs H Q E, sp' vs H Q E → sp vs H Q E) : FnG P w K mg base CX k f fd ps sp' :=
  ⟨fun vs H Q E q => F.arity vs H Q E (h _ _ _ _ q), fun A o s H a us vs Q E r1 r2 r3 r4 r5 r6 => F.goes A o s H a us vs Q E r1 r2 r3 r4 r5 (h _ _ _ _ r6)⟩

/-- a def of the text keeps its promise, by its body, the guards known -/
theorem goes_of {nm qu : Str} {pa : Arguments} {bd : List Stmt} {sco : Scope} {v1 v2 v3 v4 v5 v6 v7 : Value} {a1 a2 : Option Addr}
    {sl : Array (Option Value)} {N : List Str} (look : K.lookup f = some ⟨v7, a2, .func (PySem.W.fnOf nm qu pa bd sco v1 v2 v3 v4 a1 v5 v6), sl⟩)
    (code : PySem.W.codeIn K v5 qu = true) (S : FnScope N ps sco) (ar : ∀ vs H Q E, sp vs H Q E → vs.length = ps.length)
    (body : ∀ (A : Around) (out : List Env) (s : Shared) (H : Hp) (vs : List V) (Q : VK) (E : XK), Room k (A.deeper (envOfC qu sco s.heap.objs.size f v5)) → A.guards = some [] → sp vs H Q E →
      ∃ t, PSs (cxOf CX P w K mg base N qu sco f v5 A out s H E) bd t ∧ t { nx := fun _ H' => Q .non H', rt := Q } (start N vs) H) :
    FnG P w K mg base CX (k + 1) f (PySem.W.fnOf nm qu pa bd sco v1 v2 v3 v4 a1 v5 v6) ps sp := by
  refine ⟨ar, fun A out s H args us vs Q E room gd env bnd rel want => ?_⟩
  have inK : K.In s.heap := env.mod.kin.keeps fun b o e => (env.bs b o e).1
  have noLim : s.heap.NoLimit := env.mod.nolimit.keeps fun b o e => (env.bs b o e).1
  have kinds : ∀ y ∈ ps.zip us, sco.names.lookup y.1 = some .local ∨ (sco.names.lookup y.1 = some .cell ∧ ((cellsFrom (s.heap.objs.size + 1) sco.names []).lookup y.1).isSome = true) := by
    rintro ⟨n, v⟩ hy
    cases S.par n (List.of_mem_zip hy).1 with
    | inl q => exact .inl q
    | inr q => exact .inr ⟨q, PySem.W.cellsFrom_some _ _ _ (.inl q)⟩
  refine codeAny_call_function room.depth (inK _ _ look) rfl S.co S.gen rfl (PySem.W.codeRec_of inK code) (bnd _ _ _ _ ?_)
  refine wpAny_newFunctionEnv_cells S.kind kinds fun env' he s1 x => ?_
  subst he
  refine ⟨noLim.keeps x.toInCall.keep, codeAny_func ?_⟩
  obtain ⟨t, ht, hq⟩ := body A out s H vs Q E (room.deeper _) gd want
  have I0 := inv_start (CX := CX) (E := E) S room.hd env (ar _ _ _ _ want) rel x
  refine wpAny_mono (ht.run [] s1 (start N vs) H _ I0 hq) (fun fl s' hs => ?_) fun _ _ hs => hs
  cases fl with
  | ret u =>
    obtain ⟨v, σ', H', J, rv, q⟩ := hs
    exact ⟨v, H', J.os, J.bare, J.base, J.hok, rv, q⟩
  | next =>
    obtain ⟨σ', H', J, q⟩ := hs
    exact ⟨V.non, H', J.os, J.bare, J.base, J.hok, rfl, q⟩
  | brk =>
    obtain ⟨_, _, _, q⟩ := hs
    exact q.elim
  | cont =>
    obtain ⟨_, _, _, q⟩ := hs
    exact q.elim
theorem funD_goes {x qual : Str} {params : Arguments} {body : List Stmt} {scope : Scope} {dvs : List V} {kws : List (Str × V)} {N : List Str} (F : FunD K x qual params body scope dvs kws f fd)
    (S : FnScope N ps scope) (ar : ∀ vs H Q E, sp vs H Q E → vs.length = ps.length)
    (hb : ∀ (cd : Value) (A : Around) (out : List Env) (s : Shared) (H : Hp) (vs : List V) (Q : VK) (E : XK), Room k (A.deeper (envOfC qual scope s.heap.objs.size f cd)) → A.guards = some [] → sp vs H Q E →
      ∃ t, PSs (cxOf CX P w K mg base N qual scope f cd A out s H E) body t ∧ t { nx := fun _ H' => Q .non H', rt := Q } (start N vs) H) : FnG P w K mg base CX (k + 1) f fd ps sp := by
  obtain ⟨_, _, _, _, _, _, _, cd, _, _, rfl, lk, hcd, _, _⟩ := F.ex
  exact goes_of lk hcd S ar fun A out s H vs Q E => hb cd A out s H vs Q E
end

/-! ### calls -/
section
variable {X : Cx} {CX : CXT} {k : Nat} {f : Addr} {fd : FuncData} {ps : List Str} {sp : Sp} {dvs : List V} {ds : List Value} {E : XK} {x : Str} {p pos : Pos} {e : Expr} {es : List Expr} {t : TA}
theorem goes_fn {pins : List (Addr × Obj)} {σ : L2.St} {H : Hp} {s : Shared} {Q : VK} {us : List Value} {vs : List V} (F : FnG X.prog X.w X.K X.mg X.base CX k f fd ps sp) (room : Room k X.A) (gd : X.A.guards = some [])
    (hb : Binds X.K fd ps ds) (hd : Vals dvs ds) (hx : Passes CX X E) (I : Inv X pins σ H s) (rel : Vals vs us) (want : sp (vs ++ dvs) H Q E) :
    wpAny (model X.prog X.w) X.A (call (.ref f) us) (EP X pins σ Q) X.xe s := by
  have r2 := rel.append hd
  have ln : (us ++ ds).length = ps.length := r2.length ▸ F.arity _ _ _ _ want
  refine wpAny_call (codeAny_mono (F.goes X.A X.stack s H ⟨us, []⟩ (us ++ ds) (vs ++ dvs) Q E room gd I.env0 (hb s us I.kIn ln) r2 want) ?_)
  intro r s' hq
  cases r with
  | error er => exact hx pins σ H s er s' I hq
  | ok fl =>
    cases fl with
    | ret u => exact I.after hq
    | next => exact hq.elim
    | brk => exact hq.elim
    | cont => exact hq.elim
/-- f(e, ..) -/
theorem pe_callG (F : FnG X.prog X.w X.K X.mg X.base CX k f fd ps sp) (room : Room k X.A) (gd : X.A.guards = some []) (hg : Gl X x) (hm : X.mg x = some (.ref f)) (hk : PySem.W.keepIn X.K (.ref f) = true)
    (hb : Binds X.K fd ps ds) (hd : Vals dvs ds) (hx : Passes CX X E) (ha : PA X (e :: es) t) (hdb : (x == ("__debug__" : Str)) = false := by decide)
    (h1 : starEach (e :: es) X.env = (false, eval e X.env) :: starEach es X.env := by rfl) (h2 : (backTo pos (starEach es X.env)).any (·.1) = false := by rfl) :
    PE X (.Call (.Name x p) (e :: es) [] pos) (tCall sp dvs E t) := by
  constructor
  intro pins s σ H Q I h
  refine wpAny_Call_Name_kw (ld_glob I hg hm ?_ hdb)
  refine PySem.W.callWith_K (h₀ := X.base) I.ok.mod.kin hk (thn (ha.run pos pins s σ H _ I h) ?_) h1 h2
  rintro us s1 ⟨vs, H1, I1, r, q⟩
  exact ⟨I1.kIn, goes_fn F room gd hb hd hx I1 r q⟩
end

/-! ### the end of a law: its promise at the heap behind the top, with tables of code objects -/
section
variable {P : Program} {w : World} {K : PySem.W.Frag} {mg mb : Str → Option Value} {CX : CXT} {k : Nat} {fa a : Addr} {cs : List (Addr × Addr)} {fd : FuncData} {x : Str} {sp : Sp} {s1 : Shared} {vs : List Value} {ns : List Int}
abbrev emptyTab : Obj := { cls := .none, data := .fields #[] }
abbrev scriptObj (vs : List Value) : Obj := { cls := .type "list", data := .seq vs.toArray }
/-- what a law's run must come to -/
abbrev LawEnd (s1 : Shared) (r : Result) (s' : Shared) : Prop := r = .ok (.ret (.bool true)) ∧ OldK s1.heap s'.heap ∧ s'.os = s1.os ∧ AllBare s'.gens
/-- the frames, the module, the tables at the entry -/
structure AtTop (K : PySem.W.Frag) (mg mb : Str → Option Value) (cs : List (Addr × Addr)) (s1 : Shared) : Prop where
  kin : K.In s1.heap
  glob : s1.heap.Ns mainGlobals mg
  blt : s1.heap.Ns builtinsNs mb
  blts : ∀ x : Str, x ≠ "__name__" → mb x = bootBuiltins x
  lim : s1.heap.NoLimit
  gens : s1.gens = #[]
  tabs : ∀ p ∈ cs, s1.heap.get? p.2 = some emptyTab
  tabK : ∀ p ∈ cs, K.lookup p.2 = none
  hds : ∀ p ∈ cs, PySem.W.CodeHd s1.heap p.1 p.2
  bmod : ∃ (bm : Addr) (ob : Obj), mg "__builtins__" = some (.ref bm) ∧ bm ≠ builtinsNs ∧ s1.heap.get? bm = some ob ∧ ob.cls = .type "module" ∧ ob.dict = some builtinsNs ∧ ob.data = .plain
/-- the abstract heap at the entry: the script and the tables alone -/
structure Entry (P : Program) (w : World) (K : PySem.W.Frag) (cs : List (Addr × Addr)) (s1 : Shared) (a : Addr) (H : Hp) : Prop where
  tbl : ∀ p ∈ cs, H p.2 = some (.tbl #[])
  form : ∀ b, H b = none ∨ b ∈ cs.map (·.2) ∨ ∃ o xs, H b = some (.frz o (.lst xs))
  held : HOk P w H s1.heap
  only : ∀ b, H b ≠ none → b = a ∨ b ∈ cs.map (·.2)
  noK : H a ≠ none → K.lookup a = none
theorem AtTop.tabAt (T : AtTop K mg mb cs s1) {b : Addr} (hb : b ∈ cs.map (·.2)) : s1.heap.get? b = some emptyTab := by
  obtain ⟨p, hp, rfl⟩ := List.mem_map.mp hb
  exact T.tabs p hp
/-- what is neither a sequence nor an empty table is not tracked -/
theorem Entry.free {H : Hp} (En : Entry P w K cs s1 a H) (T : AtTop K mg mb cs s1) (ha : s1.heap.get? a = some (scriptObj vs)) {b : Addr} {o : Obj} (e : s1.heap.get? b = some o)
    (n1 : ∀ us n, o.data ≠ .seq us n) (n2 : o.data ≠ .fields #[]) : H b = none := by
  cases q : H b with
  | none => rfl
  | some u =>
    rcases En.only b (by rw [q]; simp) with z | z
    · subst z
      rw [ha] at e
      exact (n1 _ _ (congrArg Obj.data (Option.some.inj e)).symm).elim
    · rw [T.tabAt z] at e
      exact (n2 (congrArg Obj.data (Option.some.inj e)).symm).elim
theorem Entry.run {H : Hp} (En : Entry P w K cs s1 a H) (T : AtTop K mg mb cs s1) (ha : s1.heap.get? a = some (scriptObj vs)) (room : Room k callerA)
    (F : ∀ base : Heap, K.In base → base.Ns mainGlobals mg → (∀ p ∈ cs, LamX.TabB base mg p.1 p.2) → FnG P w K mg base CX k fa fd [x] sp) (bnd : ∀ (s : Shared) (u : Value), BindsTo s fd ⟨[u], []⟩ [(x, u)])
    (want : sp [.ref a] H (fun v _ => v = .bl true) fun _ _ _ => False) (noX : ∀ H e s', CX [] H s1 (fun _ _ _ => False) e s' → False) :
    codeAny (model P w) callerA (.call (.ref fa) ⟨[.ref a], []⟩) (LawEnd s1) s1 := by
  have seen : ∀ {b : Addr} {o : Obj}, s1.heap.get? b = some o → H b = none → (hidT s1.heap H).get? b = some o := fun e n => hidT_get e n
  have nsK : ∀ {b : Addr} {m : Str → Option Value}, s1.heap.Ns b m → (hidT s1.heap H).Ns b m := by
    rintro b m ⟨o, es, ep, e, d, r⟩
    exact ⟨o, es, ep, seen e (En.free T ha e (fun _ _ z => by rw [d] at z; cases z) fun z => by rw [d] at z; cases z), d, r⟩
  have kb : K.In (hidT s1.heap H) := by
    intro b o e
    refine seen (T.kin b o e) ?_
    cases q : H b with
    | none => rfl
    | some u =>
      rcases En.only b (by rw [q]; simp) with z | z
      · subst z
        rw [En.noK (by rw [q]; simp)] at e
        cases e
      · obtain ⟨p, hp, rfl⟩ := List.mem_map.mp z
        rw [T.tabK p hp] at e
        cases e
  have md : L2.Mod K mg (hidT s1.heap H) := ⟨kb, nsK T.glob, ⟨mb, nsK T.blt, T.blts⟩, let ⟨mc, h1, h2⟩ := T.lim; ⟨mc, nsK h1, h2⟩⟩
  have tb : ∀ p ∈ cs, LamX.TabB (hidT s1.heap H) mg p.1 p.2 := by
    intro p hp
    have tp := T.tabs p hp
    refine ⟨?_, ?_, fun z => ?_⟩
    · obtain ⟨o, us, file, tf, flags, tg, inF, text, tt, e1, r1, r2, r3, more⟩ := T.hds p hp
      refine ⟨o, us, file, tf, flags, tg, inF, text, tt, seen e1 (En.free T ha e1 (fun _ _ z => ?_) fun z => ?_), r1, r2, r3, more⟩
      · rw [r2] at z
        cases z
      · rw [r2] at z
        cases z
        simp at r3
    · obtain ⟨bm, ob, b1, b2, b3, b4, b5, b6⟩ := T.bmod
      refine ⟨bm, ob, b1, b2, fun q => ?_, fun q => ?_, seen b3 (En.free T ha b3 (fun _ _ z => ?_) fun z => ?_), b4, b5, b6⟩
      · obtain ⟨o, es, ep, e, hd, _⟩ := T.glob
        rw [q, e] at b3
        cases b3
        rw [hd] at b6
        cases b6
      · rw [q, tp] at b3
        cases b3
        cases b6
      · rw [b6] at z
        cases z
      · rw [b6] at z
        cases z
    · obtain ⟨o, es, ep, e, hd, _⟩ := T.glob
      rw [z, tp] at e
      cases e
      cases hd
  have env : Env0 P w K mg (hidT s1.heap H) callerA [] s1 H :=
    ⟨rfl, md, fun _ _ e => of_hidT e, Nat.le_of_eq (hidT_size _ _), trivial, fun b hb => absurd (show b ∈ ([] : List Addr) from hb) (by simp), En.held, .of_eq T.gens⟩
  refine codeAny_mono ((F _ kb (nsK T.glob) tb).goes callerA [] s1 H ⟨[.ref a], []⟩ [.ref a] [.ref a] _ _ room rfl env (bnd s1 (.ref a)) (.cons rfl .nil) want) ?_
  intro r s' h
  match r, h with
  | .error e, h => exact (noX H e s' h).elim
  | .ok .next, h => exact h.elim
  | .ok .brk, h => exact h.elim
  | .ok .cont, h => exact h.elim
  | .ok (.ret u), h =>
    obtain ⟨v, H', os, bare, un, held', r', q⟩ := h
    have q' : v = .bl true := q
    subst q'
    obtain rfl : u = Value.bool true := r'
    have stay : ∀ b o, b ∉ cs.map (·.2) → s1.heap.get? b = some o → s'.heap.get? b = some o := by
      intro b o nb e
      cases q : H b with
      | none => exact un.keep b o e q (fun z => absurd (show b ∈ ([] : List Addr) from z) (by simp)) (by simp)
      | some u =>
        rcases En.form b with z | z | ⟨ob, xs, z⟩
        · rw [q] at z
          cases z
        · exact absurd z nb
        · obtain ⟨e1, _⟩ := En.held b _ z
          obtain ⟨e2, _⟩ := held' b _ (un.frzs b ob _ z)
          rw [e] at e1
          cases e1
          exact e2
    have grown : ∀ p ∈ cs, ∃ more : Array Value, s'.heap.get? p.2 = some { cls := .none, data := .fields more } := by
      intro p hp
      obtain ⟨more, z⟩ := un.tbls p.2 #[] (En.tbl p hp)
      exact ⟨_, held' p.2 _ z⟩
    refine ⟨rfl, ⟨fun b o e => ?_, fun b o e => ?_⟩, os, bare⟩
    · by_cases hb : b ∈ cs.map (·.2)
      · obtain ⟨p, hp, rfl⟩ := List.mem_map.mp hb
        obtain ⟨more, hm⟩ := grown p hp
        rw [T.tabs p hp] at e
        cases e
        exact .inr (.inl ⟨((T.hds p hp).tab (T.tabs p hp)).isCodeTable, rfl, #[], more, rfl, by rw [Array.empty_append]; exact hm⟩)
      · exact .inl (stay b o hb e)
    · by_cases hb : b ∈ cs.map (·.2)
      · obtain ⟨p, hp, rfl⟩ := List.mem_map.mp hb
        obtain ⟨more, hm⟩ := grown p hp
        exact ⟨_, hm⟩
      · exact ⟨o, stay b o hb e⟩
theorem law_goes (T : AtTop K mg mb cs s1) (ha : s1.heap.get? a = some (scriptObj vs)) (hi : IntsAre vs ns) (hl : ns.length ≤ sizeLine) (room : Room k callerA)
    (F : ∀ base : Heap, K.In base → base.Ns mainGlobals mg → (∀ p ∈ cs, LamX.TabB base mg p.1 p.2) → FnG P w K mg base CX k fa fd [x] sp) (bnd : ∀ (s : Shared) (u : Value), BindsTo s fd ⟨[u], []⟩ [(x, u)])
    (want : ∀ H : Hp, (∀ p ∈ cs, H p.2 = some (.tbl #[])) → SqL K H a (ns.map V.int) → sp [.ref a] H (fun v _ => v = .bl true) fun _ _ _ => False) (noX : ∀ H e s', CX [] H s1 (fun _ _ _ => False) e s' → False) :
    codeAny (model P w) callerA (.call (.ref fa) ⟨[.ref a], []⟩) (LawEnd s1) s1 := by
  have rv := vals_ints hi
  have lenV := hi.length
  have aT : a ∉ cs.map (·.2) := fun z => by
    have q := T.tabAt z
    rw [ha] at q
    have z' : Data.seq vs.toArray _ = Data.fields #[] := congrArg Obj.data (Option.some.inj q)
    cases z'
  cases hk : K.lookup a with
  | some o =>
    have e := T.kin a o hk
    rw [ha] at e
    cases e
    let H : Hp := fun b => if b ∈ cs.map (·.2) then some (.tbl #[]) else none
    have En : Entry P w K cs s1 a H := by
      refine ⟨fun p hp => if_pos (List.mem_map.mpr ⟨p, hp, rfl⟩), fun b => ?_, fun b u z => ?_, fun b z => ?_, fun z => absurd (show H a = none from if_neg aT) z⟩
      · by_cases hb : b ∈ cs.map (·.2)
        · exact .inr (.inl hb)
        · exact .inl (if_neg hb)
      · by_cases hb : b ∈ cs.map (·.2)
        · cases (if_pos hb).symm.trans z
          exact T.tabAt hb
        · cases (if_neg hb).symm.trans z
      · by_cases hb : b ∈ cs.map (·.2)
        · exact .inr hb
        · exact absurd (if_neg hb) z
    exact En.run T ha room F bnd (want H En.tbl (.inr ⟨_, vs.toArray, _, hk, rfl, rfl, rfl, by rw [List.size_toArray, lenV]; exact hl, by simpa using rv⟩)) noX
  | none =>
    let H : Hp := fun b => if b = a then some (.frz (scriptObj vs) (.lst (ns.map V.int))) else if b ∈ cs.map (·.2) then some (.tbl #[]) else none
    have En : Entry P w K cs s1 a H := by
      refine ⟨fun p hp => ?_, fun b => ?_, fun b u z => ?_, fun b z => ?_, fun _ => hk⟩
      · have m : p.2 ∈ cs.map (·.2) := List.mem_map.mpr ⟨p, hp, rfl⟩
        exact (if_neg (show ¬ p.2 = a from fun z => aT (z ▸ m))).trans (if_pos m)
      · by_cases hb : b = a
        · exact .inr (.inr ⟨_, _, if_pos hb⟩)
        · by_cases hb2 : b ∈ cs.map (·.2)
          · exact .inr (.inl hb2)
          · exact .inl ((if_neg hb).trans (if_neg hb2))
      · by_cases hb : b = a
        · cases (if_pos hb).symm.trans z
          rw [hb]
          exact ⟨ha, by rw [List.length_map]; exact hl, vs, _, rv, ha⟩
        · have z1 := (if_neg hb).symm.trans z
          by_cases hb2 : b ∈ cs.map (·.2)
          · cases (if_pos hb2).symm.trans z1
            exact T.tabAt hb2
          · cases (if_neg hb2).symm.trans z1
      · by_cases hb : b = a
        · exact .inl hb
        · by_cases hb2 : b ∈ cs.map (·.2)
          · exact .inr hb2
          · exact absurd ((if_neg hb).trans (if_neg hb2)) z
    exact En.run T ha room F bnd (want H En.tbl (.inl (.inr ⟨scriptObj vs, if_pos rfl⟩))) noX
end
/-- the promise of the law's def, at the head's heap h -/
def LawIs (l : PySem.W.OpenLaw) (w : World) (K : PySem.W.Frag) (CX : CXT) (k n : Nat) (x : Str) (mg : Str → Option Value) (fa : Addr) (h : Heap) : Prop :=
  ∃ (fd : FuncData) (cs : List (Addr × Addr)) (sp : Sp), (∀ p ∈ cs, h.get? p.2 = some emptyTab) ∧ (∀ p ∈ cs, K.lookup p.2 = none) ∧ (∀ p ∈ cs, PySem.W.CodeHd h p.1 p.2) ∧
    (∀ (s : Shared) (u : Value), BindsTo s fd ⟨[u], []⟩ [(x, u)]) ∧
    (∀ (H : Hp) (a : Addr) (ns : List Int), ns.length ≤ n → (∀ p ∈ cs, H p.2 = some (.tbl #[])) → SqL K H a (ns.map V.int) → sp [.ref a] H (fun v _ => v = .bl true) fun _ _ _ => False) ∧
    ∀ base : Heap, K.In base → base.Ns mainGlobals mg → (∀ p ∈ cs, LamX.TabB base mg p.1 p.2) → FnG l.prog w K mg base CX k fa fd [x] sp
theorem walk_G {l : PySem.W.OpenLaw} {n k : Nat} {q : Program} {loose : List Str} {XP : (Str → Option Value) → Heap → Prop} {YP : World → Heap → Prop} {d : DefRec} {CX : CXT} {x : Str}
    (hn : l.most = some n) (hn2 : n ≤ sizeLine) (hdf : d.params.defaults = []) (room : Room k callerA)
    (F : ∀ (w : World) (mg : Str → Option Value) (fa : Addr) (h : Heap), YP w h → h.Ns mainGlobals mg → mg d.name = some (.ref fa) → ∃ K : PySem.W.Frag, K.In h ∧ LawIs l w K CX k n x mg fa h)
    (noX : ∀ (H : Hp) (s : Shared) (e : Value) (s' : Shared), CX [] H s (fun _ _ _ => False) e s' → False) :
    PySem.W.WalkO q loose XP YP l.row.toRowW d [] (fun f vs => PySem.call f vs) := by
  refine Att.attach_call hn hdf ?_
  intro w s0 s1 mg mb fa o pm cd doc a vs ns G Yh ho hd hcd hmg hobj hints hlen hgens
  obtain ⟨K, inK, fd, cs, sp, h1, h2, h3, hb, hsp, hF⟩ := F w mg fa _ Yh G.T.g hmg
  exact law_goes ⟨inK, G.T.g, G.T.b, G.T.builtins, G.T.nolimit, hgens, h1, h2, h3, G.T.bmain⟩ hobj hints (Nat.le_trans hlen hn2) room hF hb (fun H hT hS => hsp H a ns hlen hT hS) fun H => noX H s1
end Y

set_option Elab.async false
set_option linter.all false
set_option maxRecDepth 100000
set_option maxHeartbeats 2000000
/-! Y1: readings that compute: where the values are known by their form, the reading goes on by itself. -/
namespace Y
open PySem PySem.Spec PyProof.Rows L2

section
variable {X : Cx}
theorem PE.imp {e : Expr} {t t' : TE} (h : PE X e t) (f : ∀ σ H Q, t' σ H Q → t σ H Q) : PE X e t' := ⟨fun pins s σ H Q I h' => h.run pins s σ H Q I (f σ H Q h')⟩
theorem PT.imp {e : Expr} {t t' : TT} (h : PT X e t) (f : ∀ σ H Q, t' σ H Q → t σ H Q) : PT X e t' := ⟨fun pins s σ H Q I h' => h.run pins s σ H Q I (f σ H Q h')⟩
theorem PS.imp {st : Stmt} {t t' : TS} (h : PS X st t) (f : ∀ D σ H, t' D σ H → t D σ H) : PS X st t' := ⟨fun pins s σ H D I h' => h.run pins s σ H D I (f D σ H h')⟩
theorem PG.imp {e : Expr} {t t' : TG} (h : PG X e t) (f : ∀ v σ H Q, t' v σ H Q → t v σ H Q) : PG X e t' := ⟨fun pins s σ H v u Q I r h' => h.run pins s σ H v u Q I r (f v σ H Q h')⟩
theorem PGs.imp {es : List Expr} {t t' : TGs} (h : PGs X es t) (f : ∀ v σ H Q, t' v σ H Q → t v σ H Q) : PGs X es t' := ⟨fun pins s σ H v u Q I r h' => h.run pins s σ H v u Q I r (f v σ H Q h')⟩
theorem PI.imp {tg e : Expr} {t t' : TI} (h : PI X tg e t) (f : ∀ σ H R, t' σ H R → t σ H R) : PI X tg e t' := ⟨fun pins s σ H R I h' => h.run pins s σ H R I (f σ H R h')⟩
theorem OpR.imp {g : Value → Value → Sem Value} {r r' : R2} (h : OpR X g r) (f : ∀ x y H Q, r' x y H Q → r x y H Q) : OpR X g r' := fun pins s σ H x y v u Q I rx ry h' => h pins s σ H x y v u Q I rx ry (f _ _ _ _ h')
theorem CallR.imp {g : Value} {r r' : List V → Hp → VK → Prop} (h : CallR X g r) (f : ∀ xs H Q, r' xs H Q → r xs H Q) : CallR X g r' := fun pins s σ H xs us Q I rx h' => h pins s σ H xs us Q I rx (f _ _ _ h')
theorem MtR.imp {id : String} {r r' : V → List V → Hp → VK → Prop} (h : MtR X id r) (f : ∀ x xs H Q, r' x xs H Q → r x xs H Q) : MtR X id r' := fun pins s σ H x xs v us Q I r1 r2 h' => h pins s σ H x xs v us Q I r1 r2 (f _ _ _ _ h')
theorem IxR.imp {r r' : R2} (h : IxR X r) (f : ∀ x y H Q, r' x y H Q → r x y H Q) : IxR X r' := fun a b pins s σ H x y v u Q I r1 r2 h' z => h a b pins s σ H x y v u Q I r1 r2 (f _ _ _ _ h') z
theorem PSet.imp {r r' : TSet} (h : PSet X r) (f : ∀ o i v H Q, r' o i v H Q → r o i v H Q) : PSet X r' := fun pins s σ H o i v a b c Q I r1 r2 r3 h' => h pins s σ H o i v a b c Q I r1 r2 r3 (f _ _ _ _ _ h')

/-! ### names -/
def yVar (i : Nat) : TE := fun σ H Q => match σ[i]? with
  | some (some v) => Q v H
  | _ => False
theorem yv (i : Nat) {x : Str} {pos : Pos} (hN : X.N[i]? = some x := by rfl) (hv : Vis X.env.scope x := by first | exact Or.inl rfl | exact Or.inr (Or.inl rfl) | exact Or.inr (Or.inr rfl)) (hd : (x == ("__debug__" : Str)) = false := by decide)
    (hcd : (x == ("__classdict__" : Str)) = false := by decide) : PE X (.Name x pos) (yVar i) :=
  PE.imp (pe_var hN hv hd hcd) fun σ H Q h => by
    unfold yVar at h
    unfold tVar
    split at h
    · rename_i v e
      exact ⟨v, e, h⟩
    · exact h.elim

/-! ### operators -/
def yAdd (K : PySem.W.Frag) : R2 := fun x y H Q => match x, y with
  | .int i, .int j => Q (.int (i + j)) H
  | .str a, .str b => a.length + b.length ≤ sizeLine ∧ Q (.str (a ++ b)) H
  | .ref a, .ref b => rCat (.ref a) (.ref b) H Q ∨ rCatA K (.ref a) (.ref b) H Q
  | _, _ => False
theorem oAdd : OpR X (binaryOp .Add) (yAdd X.K) := by
  intro pins s σ H x y v u Q I rx ry h
  unfold yAdd at h
  split at h
  · exact op_add pins s σ H _ _ v u Q I rx ry ⟨_, _, rfl, rfl, h⟩
  · exact op_add_str pins s σ H _ _ v u Q I rx ry ⟨_, _, rfl, rfl, h⟩
  · rcases h with h | h
    · exact op_cat pins s σ H _ _ v u Q I rx ry h
    · exact op_catA pins s σ H _ _ v u Q I rx ry h
  · exact h.elim
def ySub : R2 := fun x y H Q => match x, y with
  | .int i, .int j => Q (.int (i - j)) H
  | _, _ => False
theorem oSub : OpR X (binaryOp .Sub) ySub := by
  intro pins s σ H x y v u Q I rx ry h
  unfold ySub at h
  split at h
  · exact op_sub pins s σ H _ _ v u Q I rx ry ⟨_, _, rfl, rfl, h⟩
  · exact h.elim
/-- below 2 ^ 4000 in size -/
abbrev Mid (i : Int) : Prop := i.natAbs < 2 ^ 4000
def yMul : R2 := fun x y H Q => match x, y with
  | .int i, .int j => Mid i ∧ Mid j ∧ Q (.int (i * j)) H
  | .ref l, .int k => rRep (.ref l) (.int k) H Q
  | _, _ => False
theorem oMul : OpR X (binaryOp .Mult) yMul := by
  intro pins s σ H x y v u Q I rx ry h
  unfold yMul at h
  split at h
  · exact op_mulX pins s σ H _ _ v u Q I rx ry ⟨_, _, rfl, rfl, mulx_ok h.1 h.2.1 (by decide), h.2.2⟩
  · exact op_rep pins s σ H _ _ v u Q I rx ry h
  · exact h.elim
def yMod : R2 := fun x y H Q => match x, y with
  | .int i, .int j => 0 < j ∧ Q (.int (i % j)) H
  | _, _ => False
theorem oMod : OpR X (binaryOp .Mod) yMod := by
  intro pins s σ H x y v u Q I rx ry h
  unfold yMod at h
  split at h
  · exact op_mod pins s σ H _ _ v u Q I rx ry ⟨_, _, rfl, rfl, h⟩
  · exact h.elim
def yFdv : R2 := fun x y H Q => match x, y with
  | .int i, .int j => 0 < j ∧ j < 10 ^ 70 ∧ Q (.int (i / j)) H
  | _, _ => False
theorem small_div {j : Int} (h : 0 < j) (h2 : j < 10 ^ 70) : j.natAbs < 2 ^ 240 := by
  have e : (10 : Int) ^ 70 < 2 ^ 240 := by decide
  have e2 : ((2 : Nat) ^ 240 : Nat) = (2 : Int) ^ 240 := by norm_cast
  omega
theorem oFdv : OpR X (binaryOp .FloorDiv) yFdv := by
  intro pins s σ H x y v u Q I rx ry h
  unfold yFdv at h
  split at h
  · exact op_fdivW pins s σ H _ _ v u Q I rx ry ⟨_, _, rfl, rfl, wide_div h.1 (small_div h.1 h.2.1) (by decide) (by decide), h.2.2⟩
  · exact h.elim
def yPow : R2 := fun x y H Q => match x, y with
  | .int i, .int j => (0 ≤ j ∧ j ≤ 1000 ∧ i.natAbs < 2 ^ 64) ∧ Q (.int (i ^ j.toNat)) H
  | _, _ => False
theorem oPow : OpR X (binaryOp .Pow) yPow := by
  intro pins s σ H x y v u Q I rx ry h
  unfold yPow at h
  split at h
  · exact op_pow pins s σ H _ _ v u Q I rx ry ⟨_, _, rfl, rfl, ⟨h.1.1, by have := h.1.2.1; omega, h.1.2.2⟩, h.2⟩
  · exact h.elim
def yNeg : V → Hp → VK → Prop := fun x H Q => match x with
  | .int i => Q (.int (-i)) H
  | _ => False
theorem oNeg : UnR X (unaryOp .USub) yNeg := by
  intro pins s σ H x v Q I rx h
  unfold yNeg at h
  split at h
  · exact un_neg pins s σ H _ v Q I rx ⟨_, rfl, h⟩
  · exact h.elim
def yCmpI (p : Int → Int → Bool) : R2 := fun x y H Q => match x, y with
  | .int i, .int j => Q (.bl (p i j)) H
  | _, _ => False
theorem cmpI {op : CmpOp} {p : Int → Int → Bool} (h : OpR X (compareOp op) (rI0 fun i j => .bl (p i j))) : OpR X (compareOp op) (yCmpI p) :=
  OpR.imp h fun x y H Q h => by
    unfold yCmpI at h
    split at h
    · exact ⟨_, _, rfl, rfl, h⟩
    · exact h.elim
theorem oLt : OpR X (compareOp .Lt) (yCmpI fun i j => decide (i < j)) := cmpI op_lt
theorem oLe : OpR X (compareOp .LtE) (yCmpI fun i j => decide (i ≤ j)) := cmpI op_le
theorem oGt : OpR X (compareOp .Gt) (yCmpI fun i j => decide (j < i)) := cmpI op_gt
theorem oGe : OpR X (compareOp .GtE) (yCmpI fun i j => decide (j ≤ i)) := cmpI op_ge
/-- ==: scalars at once, other things as data -/
def yEq (K : PySem.W.Frag) : R2 := fun x y H Q => match x, y with
  | .int i, .int j => Q (.bl (decide (i = j))) H
  | .str a, .str b => Q (.bl (decide (a = b))) H
  | .bl a, .bl b => Q (.bl (decide (a = b))) H
  | .non, .non => Q (.bl true) H
  | .non, .int _ => Q (.bl false) H
  | .int _, .non => Q (.bl false) H
  | .non, .str _ => Q (.bl false) H
  | .str _, .non => Q (.bl false) H
  | x, y => rEqD K x y H Q
def yNe (K : PySem.W.Frag) : R2 := fun x y H Q => match x, y with
  | .int i, .int j => Q (.bl (!decide (i = j))) H
  | .str a, .str b => Q (.bl (!decide (a = b))) H
  | .bl a, .bl b => Q (.bl (!decide (a = b))) H
  | .non, .non => Q (.bl false) H
  | .non, .int _ => Q (.bl true) H
  | .int _, .non => Q (.bl true) H
  | .non, .str _ => Q (.bl true) H
  | .str _, .non => Q (.bl true) H
  | x, y => rNeD K x y H Q
theorem dec_int {i j : Int} : decide (V.int i = V.int j) = decide (i = j) := by simp
theorem dec_str {i j : Str} : decide (V.str i = V.str j) = decide (i = j) := by simp
theorem dec_bl {i j : Bool} : decide (V.bl i = V.bl j) = decide (i = j) := by simp
theorem oEq (hu : X.A.units + 64 < cLine) : OpR X (compareOp .Eq) (yEq X.K) := by
  intro pins s σ H x y v u Q I rx ry h
  unfold yEq at h
  split at h
  · exact op_eq pins s σ H _ _ v u Q I rx ry ⟨rfl, by rw [dec_int]; exact h⟩
  · exact op_eq pins s σ H _ _ v u Q I rx ry ⟨rfl, by rw [dec_str]; exact h⟩
  · exact op_eq pins s σ H _ _ v u Q I rx ry ⟨rfl, by rw [dec_bl]; exact h⟩
  · exact op_eq pins s σ H _ _ v u Q I rx ry ⟨rfl, h⟩
  · exact op_eq pins s σ H _ _ v u Q I rx ry ⟨rfl, h⟩
  · exact op_eq pins s σ H _ _ v u Q I rx ry ⟨rfl, h⟩
  · exact op_eq pins s σ H _ _ v u Q I rx ry ⟨rfl, h⟩
  · exact op_eq pins s σ H _ _ v u Q I rx ry ⟨rfl, h⟩
  · exact op_eqD hu pins s σ H _ _ v u Q I rx ry h
theorem oNe (hu : X.A.units + 64 < cLine) : OpR X (compareOp .NotEq) (yNe X.K) := by
  intro pins s σ H x y v u Q I rx ry h
  unfold yNe at h
  split at h
  · exact op_ne pins s σ H _ _ v u Q I rx ry ⟨rfl, by rw [dec_int]; exact h⟩
  · exact op_ne pins s σ H _ _ v u Q I rx ry ⟨rfl, by rw [dec_str]; exact h⟩
  · exact op_ne pins s σ H _ _ v u Q I rx ry ⟨rfl, by rw [dec_bl]; exact h⟩
  · exact op_ne pins s σ H _ _ v u Q I rx ry ⟨rfl, h⟩
  · exact op_ne pins s σ H _ _ v u Q I rx ry ⟨rfl, h⟩
  · exact op_ne pins s σ H _ _ v u Q I rx ry ⟨rfl, h⟩
  · exact op_ne pins s σ H _ _ v u Q I rx ry ⟨rfl, h⟩
  · exact op_ne pins s σ H _ _ v u Q I rx ry ⟨rfl, h⟩
  · exact op_neD hu pins s σ H _ _ v u Q I rx ry h
def yIsN : R2 := fun x y H Q => match y with
  | .non => Q (.bl (decide (x = .non))) H
  | _ => False
def yNotN : R2 := fun x y H Q => match y with
  | .non => Q (.bl (!decide (x = .non))) H
  | _ => False
theorem oIs : OpR X (compareOp .Is) yIsN := OpR.imp op_isN fun x y H Q h => by
  unfold yIsN at h
  split at h
  · exact ⟨rfl, h⟩
  · exact h.elim
theorem oIsNot : OpR X (compareOp .IsNot) yNotN := OpR.imp op_notN fun x y H Q h => by
  unfold yNotN at h
  split at h
  · exact ⟨rfl, h⟩
  · exact h.elim
/-- in, not in: a sign in a text; a flat thing in a list or a tuple -/
def yIn (K : PySem.W.Frag) (neg : Bool) : R2 := fun x y H Q => match x, y with
  | .str a, .str z => ∃ c : Nat, a = ⟨#[c]⟩ ∧ Q (.bl (if neg then !decide (c ∈ z.cps.toList) else decide (c ∈ z.cps.toList))) H
  | x, .ref p => rIn K neg x (.ref p) H Q
  | _, _ => False
theorem oIn : OpR X (compareOp .In) (yIn X.K false) := by
  intro pins s σ H x y v u Q I rx ry h
  unfold yIn at h
  split at h
  · obtain ⟨c, rfl, h⟩ := h
    exact op_in_sign pins s σ H _ _ v u Q I rx ry ⟨_, _, rfl, rfl, h⟩
  · exact op_in_seq pins s σ H _ _ v u Q I rx ry h
  · exact h.elim
theorem oNotIn : OpR X (compareOp .NotIn) (yIn X.K true) := by
  intro pins s σ H x y v u Q I rx ry h
  unfold yIn at h
  split at h
  · obtain ⟨c, rfl, h⟩ := h
    exact op_notIn_sign pins s σ H _ _ v u Q I rx ry ⟨_, _, rfl, rfl, h⟩
  · exact op_notIn_seq pins s σ H _ _ v u Q I rx ry h
  · exact h.elim

/-! ### tests -/
def yTest (t : TE) : TT := fun σ H Q => t σ H fun x H' => match x with
  | .bl k => Q k H'
  | _ => False
variable {a b c e : Expr} {ta tb tc te : TE} {pos : Pos}
/-- PE is used with weaker ends: the reading's wish may be weakened where it is a test's -/
theorem yt_cmp {op : CmpOp} {r : R2} (ho : OpR X (compareOp op) r) (ha : PE X a ta) (hb : PE X b tb) (hm : behindInMarks op b = false) : PT X (.Compare a [op] [b] pos) (yTest (tOp r ta tb)) := by
  refine ⟨fun pins s σ H Q I h => ?_⟩
  have h2 : PE X (.Compare a [op] [b] pos) (tOp r ta tb) := pe_cmpR ho ha hb hm
  refine wpAny_isTrue_Compare1 (binT ha hb I h fun v u s2 x y H2 I2 rx ry q => thn (ho pins s2 σ H2 x y v u _ I2 rx ry q) fun c s3 ⟨x3, H3, I3, r3, q3⟩ => ?_) hm
  cases x3 with
  | bl k =>
    cases r3
    exact wpAny_truthy_bool ⟨H3, I3, q3⟩
  | _ => exact q3.elim
theorem yt_val {t : TE} (h : PE X e t) (he : ∀ whole, isTrue e X.env whole = (do let v ← whole; standAt e.pos; holding [v] (truthy v)) := by intro _; rfl) : PT X e (yTest t) := by
  refine ⟨fun pins s σ H Q I hw => ?_⟩
  refine isTrue_plain (thn (h.run pins s σ H _ I hw) fun v s1 ⟨x, H1, I1, r1, q1⟩ => ?_) (he _)
  cases x with
  | bl k =>
    cases r1
    exact wpAny_truthy_bool ⟨H1, I1, q1⟩
  | _ => exact q1.elim

/-! ### and, or, not as values -/
def yAndV (ta tb : TE) : TE := fun σ H Q => ta σ H fun x H1 => match x with
  | .bl c => if c = true then tb σ H1 Q else Q (.bl false) H1
  | _ => False
def yOrV (ta tb : TE) : TE := fun σ H Q => ta σ H fun x H1 => match x with
  | .bl c => if c = true then Q (.bl true) H1 else tb σ H1 Q
  | _ => False
def yNotV (ta : TE) : TE := fun σ H Q => ta σ H fun x H1 => match x with
  | .bl c => Q (.bl (!c)) H1
  | _ => False
variable {rest : List Expr}
theorem ye_and (ha : PE X a ta) (hb : PE X (.BoolOp .And (b :: rest) pos) tb) : PE X (.BoolOp .And (a :: b :: rest) pos) (yAndV ta tb) := by
  refine ⟨fun pins s σ H Q I h => ?_⟩
  refine BoolOp_and (thn (ha.run pins s σ H _ I h) fun v s1 ⟨x, H1, I1, r1, q1⟩ => ?_)
  cases x with
  | bl c =>
    cases r1
    refine wpAny_truthy_bool ?_
    cases c with
    | true => exact hb.run pins s1 σ H1 Q I1 q1
    | false => exact ⟨.bl false, H1, I1, rfl, q1⟩
  | _ => exact q1.elim
theorem ye_or (ha : PE X a ta) (hb : PE X (.BoolOp .Or (b :: rest) pos) tb) : PE X (.BoolOp .Or (a :: b :: rest) pos) (yOrV ta tb) := by
  refine ⟨fun pins s σ H Q I h => ?_⟩
  refine BoolOp_or (thn (ha.run pins s σ H _ I h) fun v s1 ⟨x, H1, I1, r1, q1⟩ => ?_)
  cases x with
  | bl c =>
    cases r1
    refine wpAny_truthy_bool ?_
    cases c with
    | false => exact hb.run pins s1 σ H1 Q I1 q1
    | true => exact ⟨.bl true, H1, I1, rfl, q1⟩
  | _ => exact q1.elim
theorem ye_not (ha : PE X a ta) : PE X (.UnaryOp .Not a pos) (yNotV ta) := by
  refine ⟨fun pins s σ H Q I h => ?_⟩
  refine UnaryOp_ (thn (ha.run pins s σ H _ I h) fun v s1 ⟨x, H1, I1, r1, q1⟩ => ?_)
  cases x with
  | bl c =>
    cases r1
    exact not_of (wpAny_truthy_bool ⟨.bl (!c), H1, I1, rfl, q1⟩)
  | _ => exact q1.elim

/-! ### displays -/
def yTup (t : TA) : TE := fun σ H Q => t σ H fun xs H1 => match Nat.ble xs.length 1000 with
  | true => ∀ p, H1 p = none → Q (.ref p) (upd H1 p (.tup xs))
  | false => False
def yLst (t : TA) : TE := fun σ H Q => t σ H fun xs H1 => match Nat.ble xs.length 1000 with
  | true => ∀ p, H1 p = none → Q (.ref p) (upd H1 p (.lst xs))
  | false => False
theorem le_line {n : Nat} (h : Nat.ble n 1000 = true) : n ≤ sizeLine := Nat.le_trans (Nat.le_of_ble_eq_true h) (by decide)
variable {es : List Expr} {t : TA}
theorem ye_tup {x1} (h : PA X es t) : PE X (.Tuple es x1 pos) (yTup t) := by
  refine ⟨fun pins s σ H Q I hq => ?_⟩
  refine wpAny_Tuple_spliced (thn (h.run pos pins s σ H _ I hq) fun us s1 ⟨xs, H1, I1, r, z⟩ => ?_)
  cases hb : Nat.ble xs.length 1000 with
  | false =>
    simp only [hb] at z
  | true =>
    simp only [hb] at z
    have z1 := le_line hb
    have hf : H1 s1.heap.objs.size = none := I1.hok.fresh (Nat.le_refl _)
    refine ⟨by rw [← r.length]; exact z1, .ref s1.heap.objs.size, upd H1 s1.heap.objs.size (.tup xs), I1.laid (t' := s1.toks) (fun b u e => Heap.get?_push_of_some _ e) (Nat.le_refl _) ?_, rfl, z _ hf⟩
    exact ⟨z1, us, r, ⟨_, Heap.get?_push_size _ rfl, rfl, _, rfl⟩⟩
theorem ye_lst (h : PA X es t) : PE X (.List es pos) (yLst t) := by
  refine ⟨fun pins s σ H Q I hq => ?_⟩
  refine wpAny_List_spliced (thn (h.run pos pins s σ H _ I hq) fun us s1 ⟨xs, H1, I1, r, z⟩ => ?_)
  cases hb : Nat.ble xs.length 1000 with
  | false =>
    simp only [hb] at z
  | true =>
    simp only [hb] at z
    have z1 := le_line hb
    have hf : H1 s1.heap.objs.size = none := I1.hok.fresh (Nat.le_refl _)
    refine ⟨by rw [← r.length]; exact z1, .ref s1.heap.objs.size, upd H1 s1.heap.objs.size (.lst xs), I1.laid (t' := s1.toks) (fun b u e => Heap.get?_push_of_some _ e) (Nat.le_refl _) ?_, rfl, z _ hf⟩
    exact ⟨z1, us, 0, r, Heap.get?_push_size _ rfl⟩

/-! ### items, slices -/
def yIx (K : PySem.W.Frag) : R2 := fun x y H Q => match x, y with
  | .str z, .int i => z.length ≤ sizeLine ∧ ∃ c, atI z.cps.toList i = some c ∧ Q (.str ⟨#[c]⟩) H
  | .ref p, .int i => ∃ xs v, (SqL K H p xs ∨ SqT K H p xs) ∧ atI xs i = some v ∧ Q v H
  | _, _ => False
theorem oIx : IxR X (yIx X.K) := IxR.imp ix_seq fun x y H Q h => by
  unfold yIx at h
  split at h
  · obtain ⟨h1, c, h2, h3⟩ := h
    exact .inr (.inr ⟨_, _, c, rfl, rfl, h1, h2, h3⟩)
  · obtain ⟨xs, v, h1, h2, h3⟩ := h
    rcases h1 with h1 | h1
    · exact .inl ⟨_, xs, _, v, rfl, rfl, h1, h2, h3⟩
    · exact .inr (.inl ⟨_, xs, _, v, rfl, rfl, h1, h2, h3⟩)
  · exact h.elim
theorem ye_ix (ha : PE X a ta) (hb : PE X b tb) (hs : PlainIx b := by exact fun _ _ => rfl) : PE X (.Subscript a b pos) (tOp (yIx X.K) ta tb) := pe_ix oIx ha hb hs
def ySetI : TSet := fun o i v H Q => match o, i with
  | .ref p, .int k => ∃ xs j, H p = some (.lst xs) ∧ ixN xs.length k = some j ∧ Q (upd H p (.lst (xs.set j v)))
  | _, _ => False
theorem oSetI : PSet X ySetI := PSet.imp set_list fun o i v H Q h => by
  unfold ySetI at h
  split at h
  · obtain ⟨xs, j, h1, h2, h3⟩ := h
    exact ⟨_, xs, _, j, rfl, rfl, h1, h2, h3⟩
  · exact h.elim

/-! ### built-ins -/
def yLen (K : PySem.W.Frag) : List V → Hp → VK → Prop := fun xs H Q => match xs with
  | [.str z] => z.length ≤ sizeLine ∧ Q (.int z.length) H
  | [.ref p] => ∃ ys, (SqL K H p ys ∨ SqT K H p ys) ∧ Q (.int ys.length) H
  | _ => False
theorem cLen : CallR X (.builtin "len") (yLen X.K) := by
  intro pins s σ H xs us Q I r h
  unfold yLen at h
  split at h
  · exact call_len_str pins s σ H _ us Q I r ⟨_, rfl, h⟩
  · obtain ⟨ys, h1, h2⟩ := h
    exact call_len_seq pins s σ H _ us Q I r ⟨_, ys, rfl, h1, h2⟩
  · exact h.elim
def yAbs : List V → Hp → VK → Prop := fun xs H Q => match xs with
  | [.int i] => Q (.int (i.natAbs : Int)) H
  | _ => False
theorem cAbs : CallR X (.builtin "abs") yAbs := CallR.imp call_abs fun xs H Q h => by
  unfold yAbs at h
  split at h
  · rename_i i
    refine ⟨i, rfl, ?_⟩
    have e : (if i < 0 then -i else i) = (i.natAbs : Int) := by split <;> omega
    rw [e]
    exact h
  · exact h.elim
def yMax2 : List V → Hp → VK → Prop := fun xs H Q => match xs with
  | [.int i, .int j] => Q (.int (max i j)) H
  | _ => False
def yMin2 : List V → Hp → VK → Prop := fun xs H Q => match xs with
  | [.int i, .int j] => Q (.int (min i j)) H
  | _ => False
theorem cMax2 (hc : X.calm = true) : CallR X (.builtin "max") yMax2 := CallR.imp (call_max2 hc) fun xs H Q h => by
  unfold yMax2 at h
  split at h
  · rename_i i j
    refine ⟨i, j, rfl, ?_⟩
    have e : (if j > i then j else i) = max i j := by split <;> omega
    rw [e]
    exact h
  · exact h.elim
theorem cMin2 (hc : X.calm = true) : CallR X (.builtin "min") yMin2 := CallR.imp (call_min2 hc) fun xs H Q h => by
  unfold yMin2 at h
  split at h
  · rename_i i j
    refine ⟨i, j, rfl, ?_⟩
    have e : (if j < i then j else i) = min i j := by split <;> omega
    rw [e]
    exact h
  · exact h.elim
def yDivmod : List V → Hp → VK → Prop := fun xs H Q => match xs with
  | [.int i, .int j] => (0 < j ∧ j < 10 ^ 70) ∧ ∀ p, H p = none → Q (.ref p) (upd H p (.tup [.int (i / j), .int (i % j)]))
  | _ => False
theorem divP {i j : Int} (h : 0 < j) (h2 : j < 10 ^ 70) : CDivP i j := by
  refine ⟨h, ?_⟩
  have hb := small_div h h2
  have hl : j.natAbs.log2 < 240 := by
    by_cases h0 : j.natAbs = 0
    · omega
    · exact (Nat.log2_lt h0).mpr hb
  show (decide ((if j == 0 then 0 else j.natAbs.log2 / 30 + 1) > 300) && _) = false
  rw [decide_eq_false, Bool.false_and]
  split <;> omega
theorem cDivmod : CallR X (.builtin "divmod") yDivmod := CallR.imp call_divmodW fun xs H Q h => by
  unfold yDivmod at h
  split at h
  · exact ⟨_, _, rfl, divP h.1.1 h.1.2, h.2⟩
  · exact h.elim
def yInt1 : List V → Hp → VK → Prop := fun xs H Q => match xs with
  | [.int i] => Q (.int i) H
  | [.bl k] => Q (.int (if k then 1 else 0)) H
  | _ => False
theorem cInt1 : CallR X (.type "int") yInt1 := CallR.imp call_int1 fun xs H Q h => by
  unfold yInt1 at h
  split at h
  · exact .inl ⟨_, rfl, h⟩
  · exact .inr ⟨_, rfl, h⟩
  · exact h.elim
def yTuple (K : PySem.W.Frag) : List V → Hp → VK → Prop := fun xs H Q => match xs with
  | [.ref p] => ∃ ys, (SqL K H p ys ∧ ∀ l, H l = none → Q (.ref l) (upd H l (.tup ys))) ∨ (SqT K H p ys ∧ Q (.ref p) H)
  | _ => False
theorem cTuple : CallR X (.type "tuple") (yTuple X.K) := CallR.imp call_tuple_of fun xs H Q h => by
  unfold yTuple at h
  split at h
  · obtain ⟨ys, h⟩ := h
    exact ⟨_, ys, rfl, h⟩
  · exact h.elim
def yList (K : PySem.W.Frag) : List V → Hp → VK → Prop := fun xs H Q => match xs with
  | [.ref p] => ∃ ys, (SqL K H p ys ∨ SqT K H p ys) ∧ ∀ l, H l = none → Q (.ref l) (upd H l (.lst ys))
  | _ => False
theorem cList : CallR X (.type "list") (yList X.K) := CallR.imp call_list_of fun xs H Q h => by
  unfold yList at h
  split at h
  · obtain ⟨ys, h1, h2⟩ := h
    exact ⟨_, ys, rfl, h1, h2⟩
  · exact h.elim
def ySum (K : PySem.W.Frag) : List V → Hp → VK → Prop := fun xs H Q => match xs with
  | [.ref p] => ∃ ns : List Int, SqL K H p (ns.map V.int) ∧ Q (.int ns.sum) H
  | _ => False
theorem cSum (hc : X.calm = true) : CallR X (.builtin "sum") (ySum X.K) := CallR.imp (cr_sum hc) fun xs H Q h => by
  unfold ySum at h
  split at h
  · obtain ⟨ns, h1, h2⟩ := h
    exact ⟨_, ns, rfl, h1, h2⟩
  · exact h.elim
def yAll (K : PySem.W.Frag) : List V → Hp → VK → Prop := fun xs H Q => match xs with
  | [.ref p] => ∃ bs : List Bool, SqL K H p (bs.map V.bl) ∧ Q (.bl (bs.all id)) H
  | _ => False
theorem cAll (hc : X.calm = true) : CallR X (.builtin "all") (yAll X.K) := CallR.imp (cr_all hc) fun xs H Q h => by
  unfold yAll at h
  split at h
  · obtain ⟨ns, h1, h2⟩ := h
    exact ⟨_, ns, rfl, h1, h2⟩
  · exact h.elim
def yAny (K : PySem.W.Frag) : List V → Hp → VK → Prop := fun xs H Q => match xs with
  | [.ref p] => ∃ bs : List Bool, SqL K H p (bs.map V.bl) ∧ Q (.bl (bs.any id)) H
  | _ => False
theorem cAny (hc : X.calm = true) : CallR X (.builtin "any") (yAny X.K) := CallR.imp (cr_any hc) fun xs H Q h => by
  unfold yAny at h
  split at h
  · obtain ⟨ns, h1, h2⟩ := h
    exact ⟨_, ns, rfl, h1, h2⟩
  · exact h.elim
/-- sorted of a list of whole numbers -/
def ySorted (K : PySem.W.Frag) : List V → Hp → VK → Prop := fun xs H Q => match xs with
  | [.ref p] => ∃ ns : List Int, SqL K H p (ns.map V.int) ∧ ∀ (ns' : List Int) (q : Addr), ns'.Perm ns → ns'.Pairwise (· ≤ ·) → H q = none → Q (.ref q) (upd H q (.lst (ns'.map V.int)))
  | _ => False
theorem cSorted : CallR X (.builtin "sorted") (ySorted X.K) := CallR.imp cr_sortedI fun xs H Q h => by
  unfold ySorted at h
  split at h
  · obtain ⟨ns, h1, h2⟩ := h
    exact ⟨_, ns, rfl, h1, h2⟩
  · exact h.elim

/-! ### methods of lists and texts -/
def yAppend : V → List V → Hp → VK → Prop := fun x vs H Q => match x, vs with
  | .ref l, [y] => ∃ xs, H l = some (.lst xs) ∧ xs.length < sizeLine ∧ Q .non (upd H l (.lst (xs ++ [y])))
  | _, _ => False
theorem mAppend : MtR X "list.append" yAppend := MtR.imp mt_append fun x vs H Q h => by
  unfold yAppend at h
  split at h
  · obtain ⟨xs, h1, h2, h3⟩ := h
    exact ⟨_, xs, _, rfl, rfl, h1, h2, h3⟩
  · exact h.elim
/-- a list's method: the receiver is a list -/
def yBM (K : PySem.W.Frag) (r : V → List V → Hp → VK → Prop) (to : TE) (t : TA) : TE := fun σ H Q => to σ H fun x H1 => t σ H1 fun xs H2 => r x xs H2 Q

/-! ### targets -/
variable {tgE : Expr}
def yNilG : TGs := fun vs σ H Q => match vs with
  | [] => Q σ H
  | _ => False
def yConsG (t : TG) (u : TGs) : TGs := fun vs σ H Q => match vs with
  | v :: r => t v σ H fun σ' H' => u r σ' H' Q
  | [] => False
theorem yg_nil : PGs X [] yNilG := PGs.imp pgs_nil fun vs σ H Q h => by
  unfold yNilG at h
  split at h
  · exact ⟨rfl, h⟩
  · exact h.elim
def yTupG (K : PySem.W.Frag) (n : Nat) (t : TGs) : TG := fun v σ H Q => match v with
  | .ref a => ∃ xs, SqT K H a xs ∧ xs.length = n ∧ t xs σ H Q
  | _ => False

/-! ### walks -/
def ySeqL (K : PySem.W.Frag) (tl : TE) : TI := fun σ H R => tl σ H fun x H1 => match x with
  | .ref a => (∃ xs, SqL K H1 a xs) ∧ R (Itl K a) H1
  | _ => False
def ySeqT (K : PySem.W.Frag) (tl : TE) : TI := fun σ H R => tl σ H fun x H1 => match x with
  | .ref a => (∃ xs, SqT K H1 a xs) ∧ R (Itt K a) H1
  | _ => False
def ySeqS (tl : TE) : TI := fun σ H R => tl σ H fun x H1 => match x with
  | .str z => R (Its z) H1
  | _ => False
def yRng1 (ta : TA) : TI := fun σ H R => ta σ H fun vs H1 => match vs with
  | [.int j] => (-(2 ^ 62) ≤ j ∧ j < 2 ^ 62) ∧ R (Itr 0 j.toNat) H1
  | _ => False
def yRng2 (ta : TA) : TI := fun σ H R => ta σ H fun vs H1 => match vs with
  | [.int i, .int j] => (-(2 ^ 62) ≤ i ∧ i < 2 ^ 62 ∧ -(2 ^ 62) ≤ j ∧ j < 2 ^ 62) ∧ R (Itr i (j - i).toNat) H1
  | _ => False
/-- readings with weaker wishes -/
def cl (t : TE) : TE := fun σ H Q => ∃ Q' : VK, t σ H Q' ∧ ∀ x H1, Q' x H1 → Q x H1
def clA (t : TA) : TA := fun σ H Q => ∃ Q' : List V → Hp → Prop, t σ H Q' ∧ ∀ x H1, Q' x H1 → Q x H1
theorem PE.cl (h : PE X e te) : PE X e (cl te) := ⟨fun pins s σ H Q I ⟨Q', h1, h2⟩ => thn (h.run pins s σ H Q' I h1) fun _ _ ⟨x, H1, I1, r1, q1⟩ => ⟨x, H1, I1, r1, h2 x H1 q1⟩⟩
theorem PA.cl (h : PA X es t) : PA X es (clA t) := ⟨fun pos pins s σ H Q I ⟨Q', h1, h2⟩ => thn (h.run pos pins s σ H Q' I h1) fun _ _ ⟨x, H1, I1, r1, q1⟩ => ⟨x, H1, I1, r1, h2 x H1 q1⟩⟩
theorem yi_list {tg l : Expr} {tl : TE} (hl : PE X l tl) : PI X tg l (ySeqL X.K tl) := PI.imp (pi_list (PE.cl hl)) fun σ H R h => ⟨_, h, fun x H1 q => by
  cases x with
  | ref a => exact ⟨a, rfl, q⟩
  | _ => exact q.elim⟩
theorem yi_tup {tg l : Expr} {tl : TE} (hl : PE X l tl) : PI X tg l (ySeqT X.K tl) := PI.imp (pi_tup (PE.cl hl)) fun σ H R h => ⟨_, h, fun x H1 q => by
  cases x with
  | ref a => exact ⟨a, rfl, q⟩
  | _ => exact q.elim⟩
theorem yi_str {tg l : Expr} {tl : TE} (hl : PE X l tl) : PI X tg l (ySeqS tl) := PI.imp (pi_str (PE.cl hl)) fun σ H R h => ⟨_, h, fun x H1 q => by
  cases x with
  | str a => exact ⟨a, rfl, q⟩
  | _ => exact q.elim⟩
theorem yi_range1 {tg a : Expr} {ta : TA} {p pos : Pos} (hg : Gl X "range") (hm : X.mg "range" = none) (ha : PA X [a] ta) (hs : starEach [a] X.env = [(false, eval a X.env)] := by rfl) : PI X tg (.Call (.Name "range" p) [a] [] pos) (yRng1 ta) :=
  PI.imp (pi_range1 hg hm (PA.cl ha) hs) fun σ H R h => ⟨_, h, fun x H1 q => by
    split at q
    · exact ⟨_, rfl, q.1.1, q.1.2, q.2⟩
    · exact q.elim⟩
theorem yi_range2 {tg a b : Expr} {ta : TA} {p pos : Pos} (hg : Gl X "range") (hm : X.mg "range" = none) (ha : PA X [a, b] ta) (hs : starEach [a, b] X.env = [(false, eval a X.env), (false, eval b X.env)] := by rfl) (hs2 : starEach [b] X.env = [(false, eval b X.env)] := by rfl) :
    PI X tg (.Call (.Name "range" p) [a, b] [] pos) (yRng2 ta) :=
  PI.imp (pi_range2 hg hm (PA.cl ha) hs hs2) fun σ H R h => ⟨_, h, fun x H1 q => by
    split at q
    · exact ⟨_, _, rfl, q.1, q.2⟩
    · exact q.elim⟩
theorem yg_cons {tg : Expr} {tgs : List Expr} {t : TG} {u : TGs} (h1 : PG X tg t) (h2 : PGs X tgs u)
    (hs : (assignEach (tg :: tgs) X.env).map (·.2) = assign tg X.env :: (assignEach tgs X.env).map (·.2) := by rfl) : PGs X (tg :: tgs) (yConsG t u) := PGs.imp (pgs_cons h1 h2 hs) fun vs σ H Q h => by
  unfold yConsG at h
  split at h
  · exact ⟨_, _, rfl, h⟩
  · exact h.elim
theorem yg_tup {tgs : List Expr} {k : Nat} {t : TGs} {n : Nat} (hc : X.calm = true) (h : PGs X tgs t)
    (hn : (assignEach tgs X.env).length = n := by rfl) (hst : (assignEach tgs X.env).findIdx? (·.1) = none := by rfl) : PG X (.Tuple tgs k pos) (yTupG X.K n t) := PG.imp (pg_tup hc h hn hst) fun v σ H Q h => by
  unfold yTupG at h
  split at h
  · obtain ⟨xs, h1, h2, h3⟩ := h
    exact ⟨_, xs, rfl, h1, h2, h3⟩
  · exact h.elim
/-- l.append(e) -/
def yApp (to te : TE) : TE := fun σ H Q => to σ H fun x H1 => match x with
  | .ref l => (∃ xs, H1 l = some (.lst xs)) ∧ te σ H1 fun y H2 => ∃ xs, H2 l = some (.lst xs) ∧ xs.length < sizeLine ∧ Q .non (upd H2 l (.lst (xs ++ [y])))
  | _ => False
variable {o : Expr} {to : TE}
theorem ye_append (h : PE X e (tBM X.K "list" rAppend (cl to) (tCons (cl te) tNil))) : PE X e (yApp to te) :=
  PE.imp h fun σ H Q h => ⟨_, h, fun x H1 q => by
    cases x with
    | ref l =>
      obtain ⟨⟨xs, hx⟩, q⟩ := q
      refine ⟨.inl ⟨rfl, xs, SqL.of hx⟩, _, q, fun y H2 q2 => ?_⟩
      obtain ⟨ys, h1, h2, h3⟩ := q2
      exact ⟨l, ys, y, rfl, rfl, h1, h2, h3⟩
    | _ => exact q.elim⟩
/-- l.extend(e), l.reverse() -/
def yExt (to te : TE) : TE := fun σ H Q => to σ H fun x H1 => match x with
  | .ref l => (∃ xs, H1 l = some (.lst xs)) ∧ te σ H1 fun y H2 => match y with
    | .ref b => ∃ xs ys, H2 l = some (.lst xs) ∧ H2 b = some (.lst ys) ∧ xs.length + ys.length ≤ sizeLine ∧ Q .non (upd H2 l (.lst (xs ++ ys)))
    | _ => False
  | _ => False
theorem ye_extend (h : PE X e (tBM X.K "list" rExtend (cl to) (tCons (cl te) tNil))) : PE X e (yExt to te) :=
  PE.imp h fun σ H Q h => ⟨_, h, fun x H1 q => by
    cases x with
    | ref l =>
      obtain ⟨⟨xs, hx⟩, q⟩ := q
      refine ⟨.inl ⟨rfl, xs, SqL.of hx⟩, _, q, fun y H2 q2 => ?_⟩
      cases y with
      | ref b =>
        obtain ⟨zs, ys, h1, h2, h3, h4⟩ := q2
        exact ⟨l, b, zs, ys, rfl, rfl, h1, h2, h3, h4⟩
      | _ => exact q2.elim
    | _ => exact q.elim⟩
def yRev (to : TE) : TE := fun σ H Q => to σ H fun x H1 => match x with
  | .ref l => ∃ xs, H1 l = some (.lst xs) ∧ Q .non (upd H1 l (.lst xs.reverse))
  | _ => False
theorem ye_reverse (h : PE X e (tBM0 X.K "list" rReverse (cl to))) : PE X e (yRev to) :=
  PE.imp h fun σ H Q h => ⟨_, h, fun x H1 q => by
    cases x with
    | ref l =>
      obtain ⟨xs, hx, q⟩ := q
      exact ⟨.inl ⟨rfl, xs, SqL.of hx⟩, l, xs, rfl, rfl, hx, q⟩
    | _ => exact q.elim⟩
/-- sep.join(e) -/
def yJoin (K : PySem.W.Frag) (to te : TE) : TE := fun σ H Q => to σ H fun x H1 => match x with
  | .str a => te σ H1 fun y H2 => match y with
    | .ref p => ∃ ys : List Str, (SqL K H2 p (ys.map V.str) ∨ SqT K H2 p (ys.map V.str)) ∧ (ys.map (·.length)).sum + ys.length * a.length ≤ 16777216 ∧ Q (.str (Txt.join a ys)) H2
    | _ => False
  | _ => False
theorem ye_join {apos cpos : Pos} (ho : PE X o to) (he : PE X e te) (hs : starEach [e] X.env = [(false, eval e X.env)] := by rfl) (hbase : attributeBase o "join" X.env (eval o X.env) = eval o X.env := by rfl) (hline : (apos.endLine == cpos.line) = true := by rfl) :
    PE X (.Call (.Attribute o "join" apos) [e] [] cpos) (yJoin X.K to te) :=
  PE.imp (pe_join (PE.cl ho) (PE.cl he) hs hbase hline) fun σ H Q h => ⟨_, h, fun x H1 q => by
    cases x with
    | str a =>
      refine ⟨⟨a, rfl⟩, _, q, fun y H2 q2 => ?_⟩
      cases y with
      | ref p =>
        obtain ⟨ys, h1, h2, h3⟩ := q2
        exact ⟨a, p, ys, rfl, rfl, h1, h2, h3⟩
      | _ => exact q2.elim
    | _ => exact q.elim⟩
/-- slices -/
def yPart (t : TE) : TO := fun σ H Q => t σ H fun x H1 => match x with
  | .int i => Q (some i) H1
  | _ => False
theorem yo_some (h : PE X e te) : PO X (some e) (yPart te) := by
  have h2 : PO X (some e) (tPart (Y.cl te)) := po_some (PE.cl h)
  constructor
  intro pins s σ H Q I hw
  refine h2.run pins s σ H Q I ⟨_, hw, fun x H1 q => ?_⟩
  cases x with
  | int i => exact ⟨i, rfl, q⟩
  | _ => exact q.elim
def ySl (K : PySem.W.Frag) : V → Option Int → Option Int → Hp → VK → Prop := fun x lo hi H Q => match x with
  | .str z => z.length ≤ sizeLine ∧ Q (.str (cutS z lo hi)) H
  | .ref a => (∃ xs, SqL K H a xs ∧ ∀ p, H p = none → Q (.ref p) (upd H p (.lst (cutV xs lo hi)))) ∨ rSlA K (.ref a) lo hi H Q
  | _ => False
theorem oSl : SlR X (ySl X.K) := by
  intro pins s σ H x v vl vu lo hi sl Q I rx hs pl pu h
  unfold ySl at h
  split at h
  · exact sl_str pins s σ H _ v vl vu lo hi sl Q I rx hs pl pu ⟨_, rfl, h⟩
  · rcases h with ⟨xs, h1, h2⟩ | h
    · exact sl_list pins s σ H _ v vl vu lo hi sl Q I rx hs pl pu ⟨_, xs, rfl, h1, h2⟩
    · exact sl_tupA pins s σ H _ v vl vu lo hi sl Q I rx hs pl pu h
  · exact h.elim
theorem ye_slice {lo hi : Option Expr} {tl th : TO} {p2 : Pos} (he : PE X e te) (hl : PO X lo tl) (hu : PO X hi th) : PE X (.Subscript e (.Slice lo hi none p2) pos) (tSl (ySl X.K) te tl th) := pe_slice oSl he hl hu
end

/-! ### defs of the text, by name -/
/-- the def st stands at the module's name x -/
def DefAt (K : PySem.W.Frag) (mg : Str → Option Value) (x : Str) (st : Stmt) : Prop :=
  ∃ f fd, FunD K x x (defArgs st) (defBody st) (defScope st) [] [] f fd ∧ mg x = some (.ref f)
/-- a call of the module's name x keeps sp, by at most level k -/
def Cal (P : Program) (w : World) (K : PySem.W.Frag) (mg : Str → Option Value) (base : Heap) (k : Nat) (x : Str) (sp : Sp) : Prop :=
  ∃ f fd ps, FnG P w K mg base CX0 k f fd ps sp ∧ mg x = some (.ref f) ∧ PySem.W.keepIn K (.ref f) = true ∧ Binds K fd ps []
section
variable {P : Program} {w : World} {K : PySem.W.Frag} {mg : Str → Option Value} {base : Heap} {k : Nat} {x : Str} {sp : Sp}
theorem fnG_of {st : Stmt} {N ps : List Str} {f : Addr} {fd : FuncData} (F : FunD K x x (defArgs st) (defBody st) (defScope st) [] [] f fd) (S : FnScope N ps (defScope st))
    (ar : ∀ vs H Q E, sp vs H Q E → vs.length = ps.length)
    (hb : ∀ (f : Addr) (cd : Value) (A : Around) (out : List Env) (s : Shared) (H : Hp) (vs : List V) (Q : VK) (E : XK), Room k (A.deeper (envOfC x (defScope st) s.heap.objs.size f cd)) → (A.deeper (envOfC x (defScope st) s.heap.objs.size f cd)).guards = some [] → sp vs H Q E →
      ∃ t, PSs (cxOf CX0 P w K mg base N x (defScope st) f cd A out s H E).nox (defBody st) t ∧ t { nx := fun _ H' => Q .non H', rt := Q } (start N vs) H) : FnG P w K mg base CX0 (k + 1) f fd ps sp := by
  refine funD_goes F S ar fun cd A out s H vs Q E r g q => ?_
  obtain ⟨t, h1, h2⟩ := hb f cd A out s H vs Q E r g q
  exact ⟨t, h1.nox, h2⟩
theorem cal_of {st : Stmt} {N ps : List Str} (D : DefAt K mg x st) (S : FnScope N ps (defScope st))
    (bnd : ∀ (kV doc pm : Value) (an : Option Addr) (cdv ct : Value) (us : List Value), us.length = ps.length → bindArgs (PySem.W.fnOf x x (defArgs st) (defBody st) (defScope st) .none kV doc pm an cdv ct) ⟨us, []⟩ = pure (ps.zip us))
    (ar : ∀ vs H Q E, sp vs H Q E → vs.length = ps.length)
    (hb : ∀ (f : Addr) (cd : Value) (A : Around) (out : List Env) (s : Shared) (H : Hp) (vs : List V) (Q : VK) (E : XK), Room k (A.deeper (envOfC x (defScope st) s.heap.objs.size f cd)) → (A.deeper (envOfC x (defScope st) s.heap.objs.size f cd)).guards = some [] → sp vs H Q E →
      ∃ t, PSs (cxOf CX0 P w K mg base N x (defScope st) f cd A out s H E).nox (defBody st) t ∧ t { nx := fun _ H' => Q .non H', rt := Q } (start N vs) H) : Cal P w K mg base (k + 1) x sp := by
  obtain ⟨f, fd, F, hm⟩ := D
  refine ⟨f, fd, ps, funD_goes F S ar fun cd A out s H vs Q E r g q => ?_, hm, F.kp, F.bindsN bnd⟩
  obtain ⟨t, h1, h2⟩ := hb f cd A out s H vs Q E r g q
  exact ⟨t, h1.nox, h2⟩
theorem Cal.up {j : Nat} (c : Cal P w K mg base j x sp) (h : j ≤ k) : Cal P w K mg base k x sp := by
  obtain ⟨f, fd, ps, F, r⟩ := c
  exact ⟨f, fd, ps, F.up h, r⟩
theorem Cal.weak {sp' : Sp} (c : Cal P w K mg base k x sp) (h : ∀ vs H Q E, sp' vs H Q E → sp vs H Q E) : Cal P w K mg base k x sp' := by
  obtain ⟨f, fd, ps, F, r⟩ := c
  exact ⟨f, fd, ps, F.weak h, r⟩
end
section
variable {X : Cx} {k j : Nat} {x : Str} {sp : Sp} {p pos : Pos} {e : Expr} {es : List Expr} {t : TA}
def yCall (sp : Sp) (t : TA) : TE := fun σ H Q => t σ H fun vs H1 => sp vs H1 Q E0
theorem ye_call (c : Cal X.prog X.w X.K X.mg X.base k x sp) (room : Room j X.A) (gd : X.A.guards = some []) (hg : Gl X x) (ha : PA X (e :: es) t) (hk : k ≤ j := by decide) (hdb : (x == ("__debug__" : Str)) = false := by decide)
    (h1 : starEach (e :: es) X.env = (false, eval e X.env) :: starEach es X.env := by rfl) (h2 : (backTo pos (starEach es X.env)).any (·.1) = false := by rfl) :
    PE X (.Call (.Name x p) (e :: es) [] pos) (yCall sp t) := by
  obtain ⟨f, fd, ps, F, hm, kp, hb⟩ := c
  refine PE.imp (pe_callG (F.up hk) room gd hg hm kp hb .nil pass0 ha hdb h1 h2) fun σ H Q h => ?_
  have e1 : tCall sp [] E0 t = yCall sp t := by
    unfold tCall yCall
    funext σ H Q
    simp only [List.append_nil]
  rw [e1]
  exact h
end
end Y

set_option Elab.async false
set_option linter.all false
set_option maxRecDepth 100000
set_option maxHeartbeats 2000000
set_option exponentiation.threshold 600
/-! Y2: stores with slots found by themselves; repr of data; what stays; data that never change. -/
namespace Y
open PySem PySem.Spec PyProof.Rows L2

section
variable {X : Cx} {e : Expr} {te : TE} {pos : Pos}
theorem yg_name (i : Nat) {x : Str} (hN : X.N.Nodup) (hi : X.N[i]? = some x := by rfl) (hx : Loc X.env.scope x := by first | exact Or.inl rfl | exact Or.inr rfl)
    (hf : X.fn x = true ∨ X.env.scope.names.lookup x = some .local := by first | exact Or.inl rfl | exact Or.inr rfl) : PG X (.Name x pos) (gName i) := pg_name hN hi hx hf
theorem ys_set (i : Nat) {x : Str} {pos' : Pos} (hN : X.N.Nodup) (he : PE X e te) (hi : X.N[i]? = some x := by rfl) (hx : Loc X.env.scope x := by first | exact Or.inl rfl | exact Or.inr rfl)
    (hs : swapsWith e (some (.Name x pos')) pos.line X.env = pure false := by rfl) (hf : X.fn x = true ∨ X.env.scope.names.lookup x = some .local := by first | exact Or.inl rfl | exact Or.inr rfl) :
    PS X (.Assign [.Name x pos'] e pos) (tAsg te (gName i)) := ps_set hN hi hx he hs hf
def yIAdd : TIp := fun x y H Q => match x, y with
  | .int i, .int j => Q (.int (i + j)) H
  | _, _ => False
theorem oIAdd : PIp X .Add yIAdd := by
  intro pins s σ H x y v u Q I rx ry h
  unfold yIAdd at h
  split at h
  · exact ip_add pins s σ H _ _ v u Q I rx ry ⟨_, _, rfl, rfl, h⟩
  · exact h.elim
def yISub : TIp := fun x y H Q => match x, y with
  | .int i, .int j => Q (.int (i - j)) H
  | _, _ => False
theorem oISub : PIp X .Sub yISub := by
  intro pins s σ H x y v u Q I rx ry h
  unfold yISub at h
  split at h
  · exact ip_sub pins s σ H _ _ v u Q I rx ry ⟨_, _, rfl, rfl, h⟩
  · exact h.elim
theorem ys_aug (i : Nat) {x : Str} {op : Operator} {ti : TIp} {pos' : Pos} (hN : X.N.Nodup) (he : PE X e te) (ho : PIp X op ti) (hi : X.N[i]? = some x := by rfl) (hx : Loc X.env.scope x := by first | exact Or.inl rfl | exact Or.inr rfl)
    (hf : X.fn x = true ∨ X.env.scope.names.lookup x = some .local := by first | exact Or.inl rfl | exact Or.inr rfl) : PS X (.AugAssign (.Name x pos') op e pos) (tAug i te ti) := ps_aug hN hi hx he ho hf
end

/-! ### repr of data -/
mutual
/-- shown by repr within the line: whole numbers below 10 ** 500, texts of code points -/
def fine : PyData → Bool
  | .none | .bool _ => true
  | .int i => decide (i.natAbs < 10 ^ 500)
  | .str x => x.cps.toList.all fun c => decide (c < 0x110000)
  | .list xs | .tuple xs => fineAll xs
  | .dict _ => false
def fineAll : List PyData → Bool
  | [] => true
  | x :: xs => fine x && fineAll xs
end
theorem log_of_fine {i : Int} (h : i.natAbs < 10 ^ 500) : i.natAbs.log2 < 1920 := by
  by_cases h0 : i.natAbs = 0
  · rw [h0]; decide
  · refine (Nat.log2_lt h0).mpr (Nat.lt_trans h ?_)
    decide +kernel
mutual
theorem fine_lay : ∀ d : PyData, fine d = true → d.canLay0 = true
  | .none, _ => rfl
  | .bool _, _ => rfl
  | .int _, _ => rfl
  | .str x, h => by
    show x.cps.all (· < 0x110000) = true
    rw [← Array.all_toList]
    exact h
  | .list xs, h => fineAll_lay xs h
  | .tuple xs, h => fineAll_lay xs h
  | .dict _, h => by cases h
theorem fineAll_lay : ∀ xs : List PyData, fineAll xs = true → PyData.canLayAll0 xs = true
  | [], _ => rfl
  | x :: xs, h => by
    have h' : fine x = true ∧ fineAll xs = true := by simpa [fineAll] using h
    show (x.canLay0 && PyData.canLayAll0 xs) = true
    rw [fine_lay x h'.1, fineAll_lay xs h'.2]; rfl
end
mutual
theorem fine_show : ∀ d : PyData, fine d = true → d.showable = true
  | .none, _ => rfl
  | .bool _, _ => rfl
  | .int i, h => by
    have h' : i.natAbs < 10 ^ 500 := by simpa [fine] using h
    show decide (i.natAbs.log2 < 1920) = true
    exact decide_eq_true (log_of_fine h')
  | .str x, h => rfl
  | .list xs, h => by
    rw [PyData.showable]
    exact fineAll_show xs h
  | .tuple xs, h => by
    rw [PyData.showable]
    exact fineAll_show xs h
  | .dict _, h => by cases h
theorem fineAll_show : ∀ xs : List PyData, fineAll xs = true → PyData.showableAll xs = true
  | [], _ => rfl
  | x :: xs, h => by
    have h' : fine x = true ∧ fineAll xs = true := by simpa [fineAll] using h
    rw [PyData.showableAll, fine_show x h'.1, fineAll_show xs h'.2]; rfl
end
mutual
theorem fine_short : ∀ d : PyData, fine d = true → d.leavesShort 501 = true
  | .none, _ => by simp [PyData.leavesShort]
  | .bool _, _ => by simp [PyData.leavesShort]
  | .int i, h => by
    have h' : i.natAbs < 10 ^ 500 := by simpa [fine] using h
    rw [PyData.leavesShort, decide_eq_true_eq]
    show (Str.ofString (toString i)).length ≤ 501
    have e := int_text_length_le10 (k := 500) (by decide) h'
    rw [PySem.ofString_length]
    exact e
  | .str x, h => by
    have h' : (x.cps.toList.all fun c => decide (c < 0x110000)) = true := h
    rw [PyData.leavesShort]
    rw [List.all_eq_true] at h' ⊢
    intro c hc
    have q := h' c hc
    rw [decide_eq_true_eq] at q ⊢
    exact Nat.lt_trans q (by decide)
  | .list xs, h => by
    rw [PyData.leavesShort]
    exact fineAll_short xs h
  | .tuple xs, h => by
    rw [PyData.leavesShort]
    exact fineAll_short xs h
  | .dict _, h => by cases h
theorem fineAll_short : ∀ xs : List PyData, fineAll xs = true → PyData.leavesShortAll 501 xs = true
  | [], _ => by simp [PyData.leavesShortAll]
  | x :: xs, h => by
    have h' : fine x = true ∧ fineAll xs = true := by simpa [fineAll] using h
    rw [PyData.leavesShortAll, fine_short x h'.1, fineAll_short xs h'.2]; rfl
end
theorem fine_fits {d : PyData} (h : fine d = true) (hb : d.bulk ≤ 33000) : d.shown.length ≤ sizeLine := by
  have h1 := PyData.shown_le_bulk 501 (by decide) d (fine_short d h)
  have e : sizeLine = 16777216 := by decide
  rw [e]
  omega
theorem fine_shaped {d : PyData} (h : fine d = true) (hd : d.depth ≤ 50) : SeqAt.shaped d = true := by
  unfold SeqAt.shaped
  rw [fine_lay d h, decide_eq_true (by omega : d.depth ≤ 64)]; rfl
/-- d can be shown: fine, not deep, not bulky -/
structure Sh (d : PyData) : Prop where
  fine : fine d = true
  deep : d.depth ≤ 50
  bulk : d.bulk ≤ 33000
def yRepr (K : PySem.W.Frag) : List V → Hp → VK → Prop := fun xs H Q => match xs with
  | [v] => ∃ d, Dp K H v d ∧ Sh d ∧ Q (.str d.shown) H
  | _ => False
theorem cRepr {X : Cx} (hu : X.A.units + 64 < cLine) (gd : X.A.guards = some []) : CallR X (.builtin "repr") (yRepr X.K) := by
  intro pins s σ H xs us Q I r h
  unfold yRepr at h
  split at h
  · rename_i v
    obtain ⟨d, hd, hS, q⟩ := h
    obtain ⟨u, rfl, ru⟩ : ∃ u, us = [u] ∧ RelV v u := by
      cases r with
      | cons r1 r2 => cases r2; exact ⟨_, rfl, r1⟩
    obtain ⟨as, rd⟩ := Dp.reads I d v u hd ru
    have sz := fine_fits hS.fine hS.bulk
    have lay := fine_lay d hS.fine
    cases hd with
    | non =>
      cases ru
      exact PySem.P.repr_of_none ⟨.str _, H, I.tok _, ⟨_, rfl⟩, q⟩
    | bl b =>
      cases ru
      exact PySem.P.repr_of_bool ⟨.str _, H, I.tok _, ⟨_, rfl⟩, q⟩
    | int i =>
      obtain ⟨t, rfl⟩ := ru
      have h' : i.natAbs < 10 ^ 500 := by have := hS.fine; simpa [Y.fine] using this
      exact PySem.P.repr_of_int (log_of_fine h') ⟨.str _, H, I.tok _, ⟨_, rfl⟩, q⟩
    | str x =>
      obtain ⟨t, rfl⟩ := ru
      exact PySem.P.repr_of_str ⟨.str _, H, I.tok _, ⟨_, rfl⟩, q⟩ sz
    | lst h1 h2 =>
      cases ru
      exact repr_of_reads' rd (fine_show _ hS.fine) (PyData.noDict_hsm (PyData.hasDict_of_canLay _ lay)) gd (by have := hS.deep; omega) (fun _ _ e => e) (fun h' u tk hk => ⟨.str _, H, I.kept hk, ⟨_, rfl⟩, q⟩) sz
    | tup h1 h2 =>
      cases ru
      exact repr_of_reads' rd (fine_show _ hS.fine) (PyData.noDict_hsm (PyData.hasDict_of_canLay _ lay)) gd (by have := hS.deep; omega) (fun _ _ e => e) (fun h' u tk hk => ⟨.str _, H, I.kept hk, ⟨_, rfl⟩, q⟩) sz
  · exact h.elim

/-! ### the rules whose readings name the written part: K is told, so that they stand within comprehensions, too -/
section
variable {X : Cx} {K : PySem.W.Frag}
theorem kAdd (h : X.K = K) : OpR X (binaryOp .Add) (yAdd K) := h ▸ oAdd
theorem kEq (h : X.K = K) (hu : X.A.units + 64 < cLine) : OpR X (compareOp .Eq) (yEq K) := h ▸ oEq hu
theorem kNe (h : X.K = K) (hu : X.A.units + 64 < cLine) : OpR X (compareOp .NotEq) (yNe K) := h ▸ oNe hu
theorem kIn (h : X.K = K) : OpR X (compareOp .In) (yIn K false) := h ▸ oIn
theorem kNotIn (h : X.K = K) : OpR X (compareOp .NotIn) (yIn K true) := h ▸ oNotIn
theorem kLen (h : X.K = K) : CallR X (.builtin "len") (yLen K) := h ▸ cLen
theorem kTuple (h : X.K = K) : CallR X (.type "tuple") (yTuple K) := h ▸ cTuple
theorem kList (h : X.K = K) : CallR X (.type "list") (yList K) := h ▸ cList
theorem kSum (h : X.K = K) (hc : X.calm = true) : CallR X (.builtin "sum") (ySum K) := h ▸ cSum hc
theorem kAll (h : X.K = K) (hc : X.calm = true) : CallR X (.builtin "all") (yAll K) := h ▸ cAll hc
theorem kAny (h : X.K = K) (hc : X.calm = true) : CallR X (.builtin "any") (yAny K) := h ▸ cAny hc
theorem kSorted (h : X.K = K) : CallR X (.builtin "sorted") (ySorted K) := h ▸ cSorted
theorem kRepr (h : X.K = K) (hu : X.A.units + 64 < cLine) (gd : X.A.guards = some []) : CallR X (.builtin "repr") (yRepr K) := h ▸ cRepr hu gd
theorem kIx {a b : Expr} {ta tb : TE} {pos : Pos} (h : X.K = K) (ha : PE X a ta) (hb : PE X b tb) (hs : PlainIx b := by exact fun _ _ => rfl) : PE X (.Subscript a b pos) (tOp (yIx K) ta tb) := h ▸ ye_ix ha hb hs
theorem kSl {e : Expr} {te : TE} {pos : Pos} {lo hi : Option Expr} {tl th : TO} {p2 : Pos} (h : X.K = K) (he : PE X e te) (hl : PO X lo tl) (hu : PO X hi th) : PE X (.Subscript e (.Slice lo hi none p2) pos) (tSl (ySl K) te tl th) := h ▸ ye_slice he hl hu
theorem kJoin {o e : Expr} {to te : TE} {apos cpos : Pos} (h : X.K = K) (ho : PE X o to) (he : PE X e te) (hs : starEach [e] X.env = [(false, eval e X.env)] := by rfl) (hbase : attributeBase o "join" X.env (eval o X.env) = eval o X.env := by rfl) (hline : (apos.endLine == cpos.line) = true := by rfl) :
    PE X (.Call (.Attribute o "join" apos) [e] [] cpos) (yJoin K to te) := h ▸ ye_join ho he hs hbase hline
theorem kgTup {tgs : List Expr} {k : Nat} {t : TGs} {n : Nat} {pos : Pos} (h0 : X.K = K) (hc : X.calm = true) (h : PGs X tgs t)
    (hn : (assignEach tgs X.env).length = n := by rfl) (hst : (assignEach tgs X.env).findIdx? (·.1) = none := by rfl) : PG X (.Tuple tgs k pos) (yTupG K n t) := h0 ▸ yg_tup hc h hn hst
theorem kiList {tg l : Expr} {tl : TE} (h : X.K = K) (hl : PE X l tl) : PI X tg l (ySeqL K tl) := h ▸ yi_list hl
theorem kiTup {tg l : Expr} {tl : TE} (h : X.K = K) (hl : PE X l tl) : PI X tg l (ySeqT K tl) := h ▸ yi_tup hl
end

/-! ### what stays -/
/-- the tables of code objects that a law's lambdas use: where, and the name of what they tell -/
class Tb where
  tabs : List (Addr × Str)
/-- the tables are as they should be -/
abbrev TbOk [Tb] (H : Hp) : Prop := LamX.Tabs Tb.tabs H
def NT : HO → Prop
  | .tbl _ => False
  | _ => True
def Pl : HO → Prop
  | .tbl _ => False
  | .ext _ => False
  | _ => True
def Pm : HO → Prop
  | .tup _ => False
  | .tbl _ => False
  | .ext _ => False
  | _ => True
/-- but for S all is as it was (tables may grow); tuples are always -/
structure Kp [Tb] (S : Addr → Prop) (H H' : Hp) : Prop where
  all : ∀ b o, H b = some o → ¬ S b → (nt : NT o := by exact True.intro) → H' b = some o
  tup : ∀ b xs, H b = some (.tup xs) → H' b = some (.tup xs)
  dom : ∀ b, H' b = none → H b = none
  tab : TbOk H → TbOk H'
abbrev No : Addr → Prop := fun _ => False
abbrev At (p : Addr) : Addr → Prop := fun b => b = p
section
variable [Tb] {S S' : Addr → Prop} {H H1 H2 : Hp} {p : Addr} {o : HO}
theorem Kp.refl (H : Hp) : Kp S H H := ⟨fun _ _ h _ _ => h, fun _ _ h => h, fun _ h => h, fun h => h⟩
theorem Kp.trans (a : Kp S H H1) (b : Kp S H1 H2) : Kp S H H2 := ⟨fun c o h n nt => b.all c o (a.all c o h n nt) n nt, fun c xs h => b.tup c xs (a.tup c xs h), fun c h => a.dom c (b.dom c h), fun h => b.tab (a.tab h)⟩
theorem Kp.mono (a : Kp S H H1) (h : ∀ b, S b → S' b) : Kp S' H H1 := ⟨fun c o e n nt => a.all c o e (fun z => n (h c z)) nt, a.tup, a.dom, a.tab⟩
theorem Kp.no (a : Kp No H H1) : Kp S H H1 := a.mono fun _ z => z.elim
theorem Kp.seq {K : PySem.W.Frag} {a : Addr} {xs : List V} (k : Kp S H H1) (h : SqL K H a xs) (n : ¬ S a := by exact fun z => z) : SqL K H1 a xs := by
  rcases h with (h | ⟨o, h⟩) | h
  · exact .inl (.inl (k.all a _ h n))
  · exact .inl (.inr ⟨o, k.all a _ h n⟩)
  · exact .inr h
theorem Kp.of (a : Same H H1) : Kp S H H1 := ⟨fun b o h _ _ => a b o h, fun b xs h => a b _ h, fun b h => a.free h, fun h => h.ext a⟩
/-- a new object -/
theorem Kp.new (h : H p = none) : Kp S H (upd H p o) := Kp.of fun b u e => by rw [upd_ne (ne_of_none e h)]; exact e
theorem tab_upd {u : HO} (h : H p = some u) (pl : Pl u) (t : TbOk H) : TbOk (upd H p o) := fun x hx => by
  obtain ⟨ps, h1, h2, h3⟩ := t x hx
  refine ⟨ps, ?_, h2, fun pos cv hc => ?_⟩
  · rw [upd_ne (fun z => by rw [z, h] at h1; rw [Option.some.inj h1] at pl; exact pl)]
    exact h1
  · obtain ⟨c, e1, e2⟩ := h3 pos cv hc
    refine ⟨c, e1, ?_⟩
    rw [upd_ne (fun z => by rw [z, h] at e2; rw [Option.some.inj e2] at pl; exact pl)]
    exact e2
/-- an object that H does not know may change -/
theorem Kp.put {u : HO} (a : Kp S H H1) (h : H p = none) (hu : H1 p = some u) (pl : Pl u := by exact True.intro) : Kp S H (upd H1 p o) := ⟨fun b v e n nt => by rw [upd_ne (ne_of_none e h)]; exact a.all b v e n nt, fun b xs e => by rw [upd_ne (ne_of_none e h)]; exact a.tup b xs e,
  fun b e => by
    by_cases hb : b = p
    · rw [hb]; exact h
    · rw [upd_ne hb] at e; exact a.dom b e, fun t => tab_upd hu pl (a.tab t)⟩
/-- an object of S changes that is no tuple -/
theorem Kp.set {u : HO} (hS : S p) (h : H p = some u) (pm : Pm u := by exact True.intro) : Kp S H (upd H p o) := ⟨fun b v e n _ => by
    rw [upd_ne (fun z => n (by rw [z]; exact hS))]; exact e, fun b xs e => by
    rw [upd_ne (fun z => by rw [z, h] at e; rw [Option.some.inj e] at pm; exact pm)]; exact e, fun b e => by
    by_cases hb : b = p
    · rw [hb, upd_same] at e; cases e
    · rw [upd_ne hb] at e; exact e, fun t => tab_upd h (by cases u <;> first | exact pm | exact pm.elim | exact True.intro) t⟩
end

/-! ### data that never change: none, truths, whole numbers, texts, tuples of such -/
/-- a tuple that is tracked, or one of the module's own text -/
def Tp (K : PySem.W.Frag) (H : Hp) (a : Addr) (xs : List V) : Prop := H a = some (.tup xs) ∨ ∀ H', SqT K H' a xs
mutual
inductive Im (K : PySem.W.Frag) (H : Hp) : V → PyData → Prop
  | non : Im K H .non .none
  | bl (b : Bool) : Im K H (.bl b) (.bool b)
  | int (i : Int) : Im K H (.int i) (.int i)
  | str (x : Str) : Im K H (.str x) (.str x)
  | tup {a : Addr} {xs : List V} {ds : List PyData} : Tp K H a xs → ImAll K H xs ds → Im K H (.ref a) (.tuple ds)
inductive ImAll (K : PySem.W.Frag) (H : Hp) : List V → List PyData → Prop
  | nil : ImAll K H [] []
  | cons {v : V} {vs : List V} {d : PyData} {ds : List PyData} : Im K H v d → ImAll K H vs ds → ImAll K H (v :: vs) (d :: ds)
end
section
variable {K : PySem.W.Frag} {H H' : Hp} {S : Addr → Prop}
theorem Tp.sq {a : Addr} {xs : List V} (h : Tp K H a xs) : SqT K H a xs := by
  rcases h with h | h
  · exact .inl (.inl h)
  · exact h H
theorem Tp.up [Tb] {a : Addr} {xs : List V} (h : Tp K H a xs) (k : Kp S H H') : Tp K H' a xs := by
  rcases h with h | h
  · exact .inl (k.tup a xs h)
  · exact .inr h
mutual
theorem Im.up [Tb] (k : Kp S H H') : ∀ (d : PyData) (v : V), Im K H v d → Im K H' v d
  | .none, _, h => by cases h; exact .non
  | .bool b, _, h => by cases h; exact .bl b
  | .int i, _, h => by cases h; exact .int i
  | .str x, _, h => by cases h; exact .str x
  | .tuple ds, _, h => by
    cases h with
    | tup h1 h2 => exact .tup (h1.up k) (ImAll.up k ds _ h2)
  | .list _, _, h => by cases h
  | .dict _, _, h => by cases h
theorem ImAll.up [Tb] (k : Kp S H H') : ∀ (ds : List PyData) (vs : List V), ImAll K H vs ds → ImAll K H' vs ds
  | [], _, h => by cases h; exact .nil
  | d :: ds, _, h => by
    cases h with
    | cons h1 h2 => exact .cons (Im.up k d _ h1) (ImAll.up k ds _ h2)
end
mutual
theorem Im.dp : ∀ (d : PyData) (v : V), Im K H v d → Dp K H v d
  | .none, _, h => by cases h; exact .non
  | .bool b, _, h => by cases h; exact .bl b
  | .int i, _, h => by cases h; exact .int i
  | .str x, _, h => by cases h; exact .str x
  | .tuple ds, _, h => by
    cases h with
    | tup h1 h2 => exact .tup h1.sq (ImAll.dp ds _ h2)
  | .list _, _, h => by cases h
  | .dict _, _, h => by cases h
theorem ImAll.dp : ∀ (ds : List PyData) (vs : List V), ImAll K H vs ds → DpAll K H vs ds
  | [], _, h => by cases h; exact .nil
  | d :: ds, _, h => by
    cases h with
    | cons h1 h2 => exact .cons (Im.dp d _ h1) (ImAll.dp ds _ h2)
end
theorem ImAll.length : ∀ {vs : List V} {ds : List PyData}, ImAll K H vs ds → vs.length = ds.length
  | [], [], _ => rfl
  | _ :: _, _ :: _, .cons _ h => congrArg Nat.succ h.length
theorem ImAll.get : ∀ {vs : List V} {ds : List PyData} {i : Nat} {v : V}, ImAll K H vs ds → vs[i]? = some v → ∃ d, ds[i]? = some d ∧ Im K H v d
  | [], [], _, _, _, e => by simp at e
  | v :: vs, d :: ds, 0, _, .cons h _, e => by
    simp at e
    subst e
    exact ⟨d, rfl, h⟩
  | v :: vs, d :: ds, i + 1, _, .cons _ h, e => by
    simp at e
    obtain ⟨d', h1, h2⟩ := ImAll.get h e
    exact ⟨d', by simpa using h1, h2⟩
theorem ImAll.at_ : ∀ {vs : List V} {ds : List PyData} {i : Nat} {d : PyData}, ImAll K H vs ds → ds[i]? = some d → ∃ v, vs[i]? = some v ∧ Im K H v d
  | [], [], _, _, _, e => by simp at e
  | v :: vs, d :: ds, 0, _, .cons h _, e => by
    simp at e
    subst e
    exact ⟨v, rfl, h⟩
  | v :: vs, d :: ds, i + 1, _, .cons _ h, e => by
    simp at e
    obtain ⟨d', h1, h2⟩ := ImAll.at_ h e
    exact ⟨d', by simpa using h1, h2⟩
theorem ImAll.app : ∀ {vs ws : List V} {ds es : List PyData}, ImAll K H vs ds → ImAll K H ws es → ImAll K H (vs ++ ws) (ds ++ es)
  | [], _, [], _, _, h => h
  | _ :: _, _, _ :: _, _, .cons h1 h2, h => .cons h1 (h2.app h)
theorem ImAll.snoc {vs : List V} {ds : List PyData} {v : V} {d : PyData} (h : ImAll K H vs ds) (h2 : Im K H v d) : ImAll K H (vs ++ [v]) (ds ++ [d]) := h.app (.cons h2 .nil)
theorem Im.mk {a : Addr} {xs : List V} {ds : List PyData} (h : H a = some (.tup xs)) (h2 : ImAll K H xs ds) : Im K H (.ref a) (.tuple ds) := .tup (.inl h) h2
theorem Im.tupInv {v : V} {ds : List PyData} (h : Im K H v (.tuple ds)) : ∃ a xs, v = .ref a ∧ Tp K H a xs ∧ ImAll K H xs ds := by
  cases h with
  | tup h1 h2 => exact ⟨_, _, rfl, h1, h2⟩
theorem Im.intInv {v : V} {i : Int} (h : Im K H v (.int i)) : v = .int i := by cases h; rfl
theorem Im.strInv {v : V} {x : Str} (h : Im K H v (.str x)) : v = .str x := by cases h; rfl
theorem Im.noneInv {v : V} (h : Im K H v .none) : v = .non := by cases h; rfl
theorem Im.blInv {v : V} {b : Bool} (h : Im K H v (.bool b)) : v = .bl b := by cases h; rfl
end

/-! ### comprehensions over data that never change, whose elements are such -/
section
variable [Tb] {K : PySem.W.Frag} {J : It} {n : Nat} {G : Hp → Prop} {Yy : Nat → Hp → V → Hp → Prop} {g : TG} {tt : TT} {te : TE} {vs : List Nat} {σ : L2.St} {H1 : Hp} {D : Addr} {Qd : Hp → Prop}
/-- what a list comprehension's reading asks behind its walk -/
abbrev LcGoal (J : It) (g : TG) (tt : TT) (te : TE) (vs : List Nat) (σ : L2.St) (H1 : Hp) (D : Addr) (Qd : Hp → Prop) : Prop :=
  ∃ W : Nat → Nat → Hp → Prop, (∃ m, W 0 m (upd H1 D (.lst []))) ∧ ∀ i m H, W i m H →
      (J.stop i H ∧ Qd H) ∨ (J.go i H ∧ ∃ Nx : Hp → Prop, (∀ H', Nx H' → ∃ m', m' < m ∧ W (i + 1) m' H') ∧ ∀ x H', J.yld i H x H' → g x (wipe σ vs) H' fun σ2 H2 => wipe σ2 vs = wipe σ vs ∧ tt σ2 H2 fun b H3 =>
        if b = true then te σ2 H3 fun y H4 => ∃ acc, H4 D = some (.lst acc) ∧ acc.length < sizeLine ∧ Nx (upd H4 D (.lst (acc ++ [y]))) else Nx H3)
/-- a walk over r, each item data that never change; each element, too, or left out -/
theorem lc_map {α β : Type} (dA : α → PyData) (dB : β → PyData) (f : α → Option β) (r : List α) (w : Walk J r.length G Yy) (hD : H1 D = none)
    (hy : ∀ i Ha x Hb (hi : i < r.length), Kp No H1 Ha → Yy i Ha x Hb → Hb = Ha ∧ Im K Ha x (dA r[i])) (hl : r.length ≤ 100000)
    (hG : ∀ H, Kp No H1 H → G H)
    (hs : ∀ x a Ha (k : VK) (kn : Hp → Prop), a ∈ r → Im K Ha x (dA a) → Kp No H1 Ha → (∀ y b H4, f a = some b → Kp No Ha H4 → Im K H4 y (dB b) → k y H4) → (∀ H3, f a = none → Kp No Ha H3 → kn H3) →
      g x (wipe σ vs) Ha fun σ2 H2 => wipe σ2 vs = wipe σ vs ∧ tt σ2 H2 fun b H3 => if b = true then te σ2 H3 k else kn H3)
    (hd : ∀ ys H, H D = some (.lst ys) → Kp No H1 H → ImAll K H ys ((r.filterMap f).map dB) → Qd H) : LcGoal J g tt te vs σ H1 D Qd := by
  refine lc_it w (fun i H => ∃ ys, H D = some (.lst ys) ∧ Kp No H1 H ∧ ImAll K H ys (((r.take i).filterMap f).map dB)) ⟨[], upd_same, Kp.new hD, by simpa using ImAll.nil⟩ (fun i H _ ⟨ys, _, h2, _⟩ => hG H h2) ?_ ?_
  · rintro i x Ha Hb hir ⟨ys, h1, h2, h3⟩ hyy
    obtain ⟨eH, hd2⟩ := hy i Ha x Hb hir h2 hyy
    subst eH
    have et : (r.take (i + 1)).filterMap f = (r.take i).filterMap f ++ (f r[i]).toList := by
      rw [List.take_add_one, List.getElem?_eq_getElem hir, List.filterMap_append]
      cases hf : f r[i] <;> simp [hf]
    have ely : ys.length ≤ i := by
      rw [h3.length, List.length_map]
      exact Nat.le_trans (List.length_filterMap_le _ _) (by rw [List.length_take]; omega)
    refine hs x r[i] _ _ _ (List.getElem_mem hir) hd2 h2 (fun y b H4 e k4 im => ?_) (fun H3 e k3 => ?_)
    · have hD4 := k4.all D _ h1 fun z => z
      refine ⟨ys, hD4, Nat.lt_of_le_of_lt ely (Nat.lt_of_lt_of_le (show i < 1000000 by omega) (by decide)), ys ++ [y], upd_same, (h2.trans k4).put hD hD4, ?_⟩
      rw [et, e, List.map_append]
      have k5 : Kp (At D) _ (upd _ D (.lst (ys ++ [y]))) := Kp.set rfl hD4
      exact (ImAll.up k5 _ _ (ImAll.up k4 _ _ h3)).snoc (Im.up k5 _ _ im)
    · refine ⟨ys, k3.all D _ h1 fun z => z, h2.trans k3, ?_⟩
      rw [et, e]
      simpa using ImAll.up k3 _ _ h3
  · rintro H ⟨ys, h1, h2, h3⟩
    rw [List.take_length] at h3
    exact hd ys H h1 h2 h3
/-- .. over a tuple, a list -/
theorem lc_mapT {α β : Type} (dA : α → PyData) (dB : β → PyData) (f : α → Option β) (r : List α) {a : Addr} {xs : List V} (hD : H1 D = none) (ht : Tp K H1 a xs) (src : ImAll K H1 xs (r.map dA)) (hl : r.length ≤ 100000)
    (hs : ∀ x a Ha (k : VK) (kn : Hp → Prop), a ∈ r → Im K Ha x (dA a) → Kp No H1 Ha → (∀ y b H4, f a = some b → Kp No Ha H4 → Im K H4 y (dB b) → k y H4) → (∀ H3, f a = none → Kp No Ha H3 → kn H3) →
      g x (wipe σ vs) Ha fun σ2 H2 => wipe σ2 vs = wipe σ vs ∧ tt σ2 H2 fun b H3 => if b = true then te σ2 H3 k else kn H3)
    (hd : ∀ ys H, H D = some (.lst ys) → Kp No H1 H → ImAll K H ys ((r.filterMap f).map dB) → Qd H) : LcGoal (Itt K a) g tt te vs σ H1 D Qd := by
  have el : xs.length = r.length := by rw [src.length, List.length_map]
  refine lc_map dA dB f r (el ▸ walk_tup (xs := xs)) hD (fun i Ha x Hb hi k y => ?_) hl (fun H k => (ht.up k).sq) hs hd
  obtain ⟨eH, hx⟩ := y
  obtain ⟨d, h1, h2⟩ := src.get hx
  rw [List.getElem?_map, List.getElem?_eq_getElem hi] at h1
  obtain rfl := Option.some.inj h1
  exact ⟨eH, Im.up k _ _ h2⟩
theorem lc_mapL {α β : Type} (dA : α → PyData) (dB : β → PyData) (f : α → Option β) (r : List α) {a : Addr} {xs : List V} (hD : H1 D = none) (ht : SqL K H1 a xs) (src : ImAll K H1 xs (r.map dA)) (hl : r.length ≤ 100000)
    (hs : ∀ x a Ha (k : VK) (kn : Hp → Prop), a ∈ r → Im K Ha x (dA a) → Kp No H1 Ha → (∀ y b H4, f a = some b → Kp No Ha H4 → Im K H4 y (dB b) → k y H4) → (∀ H3, f a = none → Kp No Ha H3 → kn H3) →
      g x (wipe σ vs) Ha fun σ2 H2 => wipe σ2 vs = wipe σ vs ∧ tt σ2 H2 fun b H3 => if b = true then te σ2 H3 k else kn H3)
    (hd : ∀ ys H, H D = some (.lst ys) → Kp No H1 H → ImAll K H ys ((r.filterMap f).map dB) → Qd H) : LcGoal (Itl K a) g tt te vs σ H1 D Qd := by
  have el : xs.length = r.length := by rw [src.length, List.length_map]
  refine lc_map dA dB f r (el ▸ walk_list (xs := xs)) hD (fun i Ha x Hb hi k y => ?_) hl (fun H k => k.seq ht) hs hd
  obtain ⟨eH, hx⟩ := y
  obtain ⟨d, h1, h2⟩ := src.get hx
  rw [List.getElem?_map, List.getElem?_eq_getElem hi] at h1
  obtain rfl := Option.some.inj h1
  exact ⟨eH, Im.up k _ _ h2⟩
/-- .. over a text's signs -/
theorem lc_mapS {β : Type} (dB : β → PyData) (f : Nat → Option β) {z : Str} (hD : H1 D = none) (hl : z.cps.toList.length ≤ 100000)
    (hs : ∀ (c : Nat) Ha (k : VK) (kn : Hp → Prop), c ∈ z.cps.toList → Kp No H1 Ha → (∀ y b H4, f c = some b → Kp No Ha H4 → Im K H4 y (dB b) → k y H4) → (∀ H3, f c = none → Kp No Ha H3 → kn H3) →
      g (.str ⟨#[c]⟩) (wipe σ vs) Ha fun σ2 H2 => wipe σ2 vs = wipe σ vs ∧ tt σ2 H2 fun b H3 => if b = true then te σ2 H3 k else kn H3)
    (hd : ∀ ys H, H D = some (.lst ys) → Kp No H1 H → ImAll K H ys ((z.cps.toList.filterMap f).map dB) → Qd H) : LcGoal (Its z) g tt te vs σ H1 D Qd := by
  have el : z.cps.size = z.cps.toList.length := by simp
  refine lc_map (fun c : Nat => PyData.str ⟨#[c]⟩) dB f z.cps.toList (el ▸ walk_str) hD (fun i Ha x Hb hi k y => ?_) hl (fun _ _ => trivial) (fun x a Ha k kn ha im kp h1 h2 => ?_) hd
  · obtain ⟨eH, c, hc, rfl⟩ := y
    refine ⟨eH, ?_⟩
    have e : z.cps.toList[i] = c := by
      rw [← Array.getElem?_toList, List.getElem?_eq_getElem hi] at hc
      exact Option.some.inj hc
    rw [e]
    exact .str _
  · have e : x = .str ⟨#[a]⟩ := by cases im; rfl
    subst e
    exact hs a Ha k kn ha kp h1 h2
/-- .. over a range from 0 -/
theorem lc_mapR {β : Type} (dB : β → PyData) (f : Nat → Option β) {n : Nat} (hD : H1 D = none) (hl : n ≤ 100000)
    (hs : ∀ (i : Nat) Ha (k : VK) (kn : Hp → Prop), i < n → Kp No H1 Ha → (∀ y b H4, f i = some b → Kp No Ha H4 → Im K H4 y (dB b) → k y H4) → (∀ H3, f i = none → Kp No Ha H3 → kn H3) →
      g (.int (0 + i)) (wipe σ vs) Ha fun σ2 H2 => wipe σ2 vs = wipe σ vs ∧ tt σ2 H2 fun b H3 => if b = true then te σ2 H3 k else kn H3)
    (hd : ∀ ys H, H D = some (.lst ys) → Kp No H1 H → ImAll K H ys (((List.range n).filterMap f).map dB) → Qd H) : LcGoal (Itr 0 n) g tt te vs σ H1 D Qd := by
  have wr : Walk (Itr 0 n) (List.range n).length (fun _ => True) (YFn fun i => .int (0 + (i : Int))) := by
    rw [List.length_range]
    exact walk_range
  refine lc_map (fun c : Nat => PyData.int (0 + (c : Int))) dB f (List.range n) wr hD (fun i Ha x Hb hi k y => ?_) (by simpa using hl) (fun _ _ => trivial) (fun x a Ha k kn ha im kp h1 h2 => ?_) hd
  · obtain ⟨eH, rfl⟩ := y
    refine ⟨eH, ?_⟩
    rw [List.getElem_range]
    exact .int _
  · have e : x = .int (0 + a) := by cases im; rfl
    subst e
    exact hs a Ha k kn (List.mem_range.mp ha) kp h1 h2

/-! ### the drawing pot -/
def Pot (H : Hp) (p : Addr) : Prop := ∃ a b : Int, H p = some (.lst [.int a, .int b]) ∧ 0 ≤ a ∧ 0 ≤ b ∧ b < 2 ^ 32
theorem Pot.keep [Tb] {S : Addr → Prop} {H H' : Hp} {p : Addr} (h : Pot H p) (k : Kp S H H') (n : ¬ S p) : Pot H' p := by
  obtain ⟨a, b, e, r⟩ := h
  exact ⟨a, b, k.all p _ e n, r⟩
theorem Pot.ne {H : Hp} {p q : Addr} (h : Pot H p) (hq : H q = none) : p ≠ q := by
  obtain ⟨a, b, e, r⟩ := h
  exact ne_of_none e hq
theorem Pot.upd_ {H : Hp} {p q : Addr} {o : HO} (h : Pot H p) (n : p ≠ q) : Pot (upd H q o) p := by
  obtain ⟨a, b, e, r⟩ := h
  exact ⟨a, b, by rw [upd_ne n]; exact e, r⟩
theorem lc_draw {β : Type} (dB : β → PyData) (P : β → Prop) {lo : Int} {p : Addr} (hD : H1 D = none) (pot : Pot H1 p) (hl : n ≤ 100000)
    (hs : ∀ (i : Nat) Ha (k : VK) (kn : Hp → Prop), i < n → Kp (At p) H1 Ha → Pot Ha p → (∀ y b H4, P b → Kp (At p) Ha H4 → Pot H4 p → Im K H4 y (dB b) → k y H4) →
      g (.int (lo + i)) (wipe σ vs) Ha fun σ2 H2 => wipe σ2 vs = wipe σ vs ∧ tt σ2 H2 fun b H3 => if b = true then te σ2 H3 k else kn H3)
    (hd : ∀ (ys : List V) (bs : List β) H, H D = some (.lst ys) → Kp (At p) H1 H → Pot H p → bs.length = n → (∀ b ∈ bs, P b) → ImAll K H ys (bs.map dB) → Qd H) : LcGoal (Itr lo n) g tt te vs σ H1 D Qd := by
  have nD : p ≠ D := pot.ne hD
  refine lc_it walk_range (fun i H => ∃ (ys : List V) (bs : List β), H D = some (.lst ys) ∧ Kp (At p) H1 H ∧ Pot H p ∧ bs.length = i ∧ (∀ b ∈ bs, P b) ∧ ImAll K H ys (bs.map dB)) ⟨[], [], upd_same, Kp.new hD, pot.upd_ nD, rfl, fun b hb => (nomatch hb), ImAll.nil⟩ (fun _ _ _ _ => trivial) ?_ ?_
  · rintro i x Ha Hb hi ⟨ys, bs, h1, h2, h3, h4, h5, h6⟩ ⟨rfl, rfl⟩
    refine hs i _ _ _ hi h2 h3 (fun y b H4 hb k4 p4 im => ?_)
    have hD4 := k4.all D _ h1 fun z => nD z.symm
    have ely : ys.length = i := by rw [h6.length, List.length_map, h4]
    have k5 : Kp (At D) _ (upd _ D (.lst (ys ++ [y]))) := Kp.set rfl hD4
    refine ⟨ys, hD4, by rw [ely]; exact Nat.lt_of_lt_of_le (show i < 1000000 by omega) (by decide), ys ++ [y], bs ++ [b], upd_same, (h2.trans k4).put hD hD4, p4.upd_ nD, by simp [h4], ?_, ?_⟩
    · intro c hc
      rcases List.mem_append.mp hc with hc | hc
      · exact h5 c hc
      · rw [List.mem_singleton.mp hc]; exact hb
    · rw [List.map_append]
      exact (ImAll.up k5 _ _ (ImAll.up k4 _ _ h6)).snoc (Im.up k5 _ _ im)
  · rintro H ⟨ys, bs, h1, h2, h3, h4, h5, h6⟩
    exact hd ys bs H h1 h2 h3 h4 h5 h6
end
end Y

set_option Elab.async false
set_option linter.all false
set_option maxRecDepth 100000
set_option maxHeartbeats 2000000
set_option exponentiation.threshold 600
/-! Y3: names, layers, rows as data; small mathematics. -/
namespace Y
open PySem PySem.Spec PyProof.Rows L2

theorem mid_of {i : Int} {n : Nat} (h : i.natAbs < 2 ^ n) (hn : n ≤ 4000) : Mid i := Nat.lt_of_lt_of_le h (Nat.pow_le_pow_right (by decide) hn)
theorem mid64 {i : Int} (h1 : -18446744073709551616 < i) (h2 : i < 18446744073709551616) : Mid i := mid_of (n := 64) (by omega) (by decide)
theorem mid500 {i : Int} (h : i.natAbs < 10 ^ 500) : Mid i := mid_of (n := 1661) (Nat.lt_of_lt_of_le h (by decide +kernel)) (by decide)

theorem iteNb {A B : Prop} {b : Bool} (h : b = true) (hB : B) : if (!b) = true then A else B := by
  rw [h]
  exact iteF hB
theorem iteD {A B : Prop} {c : Prop} [Decidable c] (h1 : c → A) (h2 : ¬ c → B) : if decide c = true then A else B := by
  by_cases h : c
  · rw [decide_eq_true h]; exact h1 h
  · rw [decide_eq_false h]; exact h2 h
/-- what H does not know may have changed -/
theorem Kp.drop [Tb] {H H1 H2 : Hp} {p : Addr} (a : Kp No H H1) (hp : H p = none) (b : Kp (At p) H1 H2) : Kp No H H2 :=
  ⟨fun c o e n nt => b.all c o (a.all c o e n nt) (fun z => by rw [z, hp] at e; cases e) nt, fun c xs e => b.tup c xs (a.tup c xs e), fun c e => a.dom c (b.dom c e), fun t => b.tab (a.tab t)⟩
theorem eqv_nil (ds : List PyData) : PyData.eqv (.tuple ds) (.tuple []) = ds.isEmpty := by
  cases ds <;> simp [PyData.eqv, PyData.eqvAll]
theorem sh_nil : SeqAt.shaped (.tuple []) = true := by decide
theorem kT {K : PySem.W.Frag} {H : Hp} {a : Addr} (h : H a = some (.tup [])) : Dp K H (.ref a) (.tuple []) := .tup (.inl (.inl h)) .nil

theorem pow_le {m n : Nat} (h : m ≤ n) : (10 : Int) ^ m ≤ 10 ^ n := by
  have e := Nat.pow_le_pow_right (show 0 < 10 by decide) h
  have e2 : ((10 ^ m : Nat) : Int) ≤ ((10 ^ n : Nat) : Int) := by omega
  simpa using e2

/-! ### names -/
/-- a text of one to eight small letters -/
structure Nm (z : Str) : Prop where
  one : 1 ≤ z.length
  eight : z.length ≤ 8
  abc : ∀ c ∈ z.cps.toList, 97 ≤ c ∧ c ≤ 122
abbrev abc : Str := "abcdefghijklmnopqrstuvwxyz"
theorem abc_list : abc.cps.toList = (List.range 26).map (97 + ·) := by decide +kernel
theorem abc_at {d : Int} (h0 : 0 ≤ d) (h1 : d < 26) : atI abc.cps.toList d = some (97 + d.toNat) := by
  obtain ⟨k, rfl⟩ : ∃ k : Nat, d = k := ⟨d.toNat, by omega⟩
  refine atI_nat ?_
  rw [abc_list, List.getElem?_map, List.getElem?_range (by omega)]
  rfl
theorem str_eq {x y : Str} (h : x.cps.toList = y.cps.toList) : x = y := TL.ext_tl h
theorem len_tl (x : Str) : x.length = x.cps.toList.length := by simp [Str.length]
theorem joinL_nil : ∀ ys : List (List Nat), TL.joinL [] ys = ys.flatten
  | [] => rfl
  | [p] => by simp [TL.joinL]
  | p :: q :: r => by
    rw [TL.joinL, joinL_nil (q :: r)]
    simp
theorem flatten_single (cs : List Nat) : (cs.map fun c => [c]).flatten = cs := by induction cs with
  | nil => rfl
  | cons c cs ih => simp [ih]
theorem join_signs (cs : List Nat) : Txt.join "" (cs.map fun c => (⟨#[c]⟩ : Str)) = ⟨cs.toArray⟩ := by
  have e : (cs.map fun c => (⟨#[c]⟩ : Str)) = (cs.map fun c => [c]).map SX.S := by rw [List.map_map]; rfl
  have e2 : ("" : Str) = SX.S [] := by decide +kernel
  rw [e, e2, SX.join_S, joinL_nil, flatten_single]
theorem signs_len (cs : List Nat) : ((cs.map fun c => (⟨#[c]⟩ : Str)).map (·.length)).sum = cs.length := by
  induction cs with
  | nil => rfl
  | cons c cs ih =>
    rw [List.map_cons, List.map_cons, List.sum_cons, ih, List.length_cons]
    show 1 + cs.length = cs.length + 1
    omega
theorem nm_of_codes {cs : List Nat} (h1 : 1 ≤ cs.length) (h8 : cs.length ≤ 8) (h : ∀ c ∈ cs, 97 ≤ c ∧ c ≤ 122) : Nm ⟨cs.toArray⟩ :=
  ⟨by rw [len_tl]; exact h1, by rw [len_tl]; exact h8, h⟩
/-- the first seven signs and a letter -/
def alt (z : Str) (c : Nat) : Str := ⟨(z.cps.toList.take 7 ++ [c]).toArray⟩
theorem cut7 (z : Str) : cutS z none (some 7) = ⟨(z.cps.toList.take 7).toArray⟩ := by
  unfold cutS
  rw [show HT.sIx z.length 0 none = 0 from rfl, show HT.sIx z.length z.length (some 7) = min 7 z.length from HT.sIx_nat _ _ 7, List.drop_zero, Nat.sub_zero]
  have e : z.cps.toList.take (min 7 z.length) = z.cps.toList.take 7 := by
    rw [len_tl]
    by_cases h : z.cps.toList.length ≤ 7
    · rw [Nat.min_eq_right h, List.take_length, List.take_of_length_le h]
    · rw [Nat.min_eq_left (by omega)]
  rw [e]
theorem alt_eq (z : Str) (c : Nat) : cutS z none (some 7) ++ (⟨#[c]⟩ : Str) = alt z c := by
  rw [cut7]
  refine str_eq ?_
  show TL.tl (_ ++ _) = _
  rw [TL.tl_append]
  simp [TL.tl, alt]
theorem alt_nm {z : Str} {c : Nat} (h : Nm z) (h1 : 97 ≤ c) (h2 : c ≤ 122) : Nm (alt z c) := by
  refine nm_of_codes ?_ ?_ ?_
  · simp
  · rw [List.length_append, List.length_take]
    simp
    omega
  · intro d hd
    rcases List.mem_append.mp hd with hd | hd
    · exact h.abc d (List.mem_of_mem_take hd)
    · rw [List.mem_singleton.mp hd]; exact ⟨h1, h2⟩
theorem alt_inj {z : Str} {c d : Nat} (h : alt z c = alt z d) : c = d := by
  have e : (z.cps.toList.take 7 ++ [c]) = (z.cps.toList.take 7 ++ [d]) := congrArg (fun x : Str => x.cps.toList) h
  have e2 := List.append_cancel_left e
  simpa using e2
theorem alt_len (z : Str) (c : Nat) : (cutS z none (some 7)).length ≤ 7 := by
  rw [cut7, len_tl]
  simp
  omega
/-- a list without doubles within another one is no longer -/
theorem nodup_le {α : Type} [DecidableEq α] : ∀ {l m : List α}, l.Nodup → (∀ x ∈ l, x ∈ m) → l.length ≤ m.length
  | [], _, _, _ => Nat.zero_le _
  | x :: l, m, hn, hs => by
    obtain ⟨h1, h2⟩ := List.nodup_cons.mp hn
    have hx : x ∈ m := hs x (List.mem_cons_self ..)
    have ih := nodup_le (l := l) (m := m.erase x) h2 (fun y hy => (List.mem_erase_of_ne (fun e : y = x => h1 (by rw [← e]; exact hy))).mpr (hs y (List.mem_cons_of_mem _ hy)))
    have e := List.length_erase_of_mem hx
    have p := List.length_pos_of_mem hx
    rw [List.length_cons]
    omega
/-- the names to choose of -/
def cands (z : Str) : List Str := z :: (List.range 26).map fun k => alt z (97 + k)
theorem cands_nm {z y : Str} (h : Nm z) (hy : y ∈ cands z) : Nm y := by
  rcases List.mem_cons.mp hy with e | hy
  · rw [e]; exact h
  · obtain ⟨k, hk, rfl⟩ := List.mem_map.mp hy
    have := List.mem_range.mp hk
    exact alt_nm h (by omega) (by omega)
theorem cands_free {z : Str} {found : List Str} (h : found.length < 26) : ∃ y ys, (cands z).filter (fun y => !decide (y ∈ found)) = y :: ys := by
  cases e : (cands z).filter (fun y => !decide (y ∈ found)) with
  | cons y ys => exact ⟨y, ys, rfl⟩
  | nil =>
    exfalso
    have hall : ∀ y ∈ (List.range 26).map (fun k => alt z (97 + k)), y ∈ found := fun y hy => by
      have h2 : y ∉ (cands z).filter (fun y => !decide (y ∈ found)) := by rw [e]; exact List.not_mem_nil
      rw [List.mem_filter] at h2
      by_cases hf : y ∈ found
      · exact hf
      · exact absurd ⟨List.mem_cons_of_mem _ hy, by simp [hf]⟩ h2
    have nd : ((List.range 26).map (fun k => alt z (97 + k))).Nodup := by
      refine List.pairwise_map.mpr ((List.nodup_range (n := 26)).imp fun {a b} hab e => hab ?_)
      have := alt_inj e
      omega
    have := nodup_le nd hall
    rw [List.length_map, List.length_range] at this
    omega

/-! ### layers and rows -/
abbrev Lay := Str × Int
def layD (l : Lay) : PyData := .tuple [.str l.1, .int l.2]
def rowD (r : List Lay) : PyData := .tuple (r.map layD)
/-- a layer that can be shown: a name, a strength above 0 -/
structure LayOk (l : Lay) : Prop where
  nm : Nm l.1
  pos : 0 < l.2
  big : l.2 < 10 ^ 400
theorem nm_fine {z : Str} (h : Nm z) : fine (.str z) = true := by
  show (z.cps.toList.all fun c => decide (c < 0x110000)) = true
  rw [List.all_eq_true]
  intro c hc
  exact decide_eq_true (Nat.lt_of_le_of_lt (h.abc c hc).2 (by decide))
theorem int_fine {i : Int} (h : i.natAbs < 10 ^ 500) : fine (.int i) = true := by
  rw [fine]
  exact decide_eq_true h
theorem pos_fine {i : Int} (h0 : 0 ≤ i) (h : i < 10 ^ 400) : fine (.int i) = true := by
  refine int_fine (Nat.lt_of_lt_of_le (m := 10 ^ 400) ?_ (Nat.pow_le_pow_right (by decide) (by decide)))
  have e : ((10 ^ 400 : Nat) : Int) = 10 ^ 400 := by norm_cast
  omega
theorem fineAll_of : ∀ {ds : List PyData}, (∀ d ∈ ds, fine d = true) → fineAll ds = true
  | [], _ => rfl
  | d :: ds, h => by
    rw [fineAll, h d (List.mem_cons_self ..), fineAll_of fun x hx => h x (List.mem_cons_of_mem _ hx)]; rfl
theorem fine_tuple {ds : List PyData} (h : ∀ d ∈ ds, fine d = true) : fine (.tuple ds) = true := by
  rw [fine]; exact fineAll_of h
theorem fine_list {ds : List PyData} (h : ∀ d ∈ ds, fine d = true) : fine (.list ds) = true := by
  rw [fine]; exact fineAll_of h
theorem layD_fine {l : Lay} (h : LayOk l) : fine (layD l) = true := by
  refine fine_tuple fun d hd => ?_
  rcases List.mem_cons.mp hd with e | hd
  · rw [e]; exact nm_fine h.nm
  · rw [List.mem_singleton.mp hd]; exact pos_fine (Int.le_of_lt h.pos) h.big
theorem depthAll_le {n : Nat} : ∀ {ds : List PyData}, (∀ d ∈ ds, d.depth ≤ n) → PyData.depthAll ds ≤ n
  | [], _ => Nat.zero_le _
  | d :: ds, h => by
    rw [PyData.depthAll]
    exact Nat.max_le.mpr ⟨h d (List.mem_cons_self ..), depthAll_le fun x hx => h x (List.mem_cons_of_mem _ hx)⟩
theorem bulkAll_le {n : Nat} : ∀ {ds : List PyData}, (∀ d ∈ ds, d.bulk ≤ n) → PyData.bulkAll ds ≤ (n + 1) * ds.length
  | [], _ => by rw [PyData.bulkAll]; exact Nat.zero_le _
  | d :: ds, h => by
    have h1 := h d (List.mem_cons_self ..)
    have h2 := bulkAll_le (n := n) fun x hx => h x (List.mem_cons_of_mem _ hx)
    rw [PyData.bulkAll, List.length_cons, Nat.mul_add, Nat.mul_one]
    omega
theorem layD_deep (l : Lay) : (layD l).depth ≤ 1 := by simp [layD, PyData.depth, PyData.depthAll]
theorem layD_bulk {l : Lay} (h : LayOk l) : (layD l).bulk ≤ 10 := by
  have h1 := h.nm.eight
  have e : l.1.length = l.1.cps.size := rfl
  simp only [layD, PyData.bulk, PyData.bulkAll]
  omega
theorem rowD_deep (r : List Lay) : (rowD r).depth ≤ 2 := by
  rw [rowD, PyData.depth]
  have := depthAll_le (n := 1) (ds := r.map layD) fun d hd => by
    obtain ⟨l, _, rfl⟩ := List.mem_map.mp hd
    exact layD_deep l
  omega
theorem rowD_bulk {r : List Lay} (h : ∀ l ∈ r, LayOk l) : (rowD r).bulk ≤ 11 * r.length := by
  rw [rowD, PyData.bulk]
  have := bulkAll_le (n := 10) (ds := r.map layD) fun d hd => by
    obtain ⟨l, hl, rfl⟩ := List.mem_map.mp hd
    exact layD_bulk (h l hl)
  rw [List.length_map] at this
  exact this
theorem rowD_fine {r : List Lay} (h : ∀ l ∈ r, LayOk l) : fine (rowD r) = true := fine_tuple fun d hd => by
  obtain ⟨l, hl, rfl⟩ := List.mem_map.mp hd
  exact layD_fine (h l hl)
theorem rowD_sh {r : List Lay} (h : ∀ l ∈ r, LayOk l) (hl : r.length ≤ 1000) : Sh (rowD r) := ⟨rowD_fine h, Nat.le_trans (rowD_deep r) (by decide), Nat.le_trans (rowD_bulk h) (by omega)⟩
theorem rowD_shaped {r : List Lay} (h : ∀ l ∈ r, LayOk l) : SeqAt.shaped (rowD r) = true := fine_shaped (rowD_fine h) (Nat.le_trans (rowD_deep r) (by decide))
theorem rowD_refl {r : List Lay} (h : ∀ l ∈ r, LayOk l) : PyData.eqv (rowD r) (rowD r) = true := SeqAt.eqv_refl _ (fine_lay _ (rowD_fine h))
theorem layD_inj {a b : Lay} (h : layD a = layD b) : a = b := by
  obtain ⟨a1, a2⟩ := a
  obtain ⟨b1, b2⟩ := b
  simp [layD] at h
  simp [h]
theorem Im.layInv {K : PySem.W.Frag} {H : Hp} {v : V} {l : Lay} (h : Im K H v (layD l)) : ∃ a, v = .ref a ∧ Tp K H a [.str l.1, .int l.2] := by
  obtain ⟨a, xs, rfl, h1, h2⟩ := Im.tupInv h
  cases h2 with
  | cons e1 h2 =>
    cases h2 with
    | cons e2 h3 =>
      cases h3
      rw [Im.strInv e1, Im.intInv e2] at h1
      exact ⟨a, rfl, h1⟩
theorem Im.layMk {K : PySem.W.Frag} {H : Hp} {a : Addr} {l : Lay} (h : H a = some (.tup [.str l.1, .int l.2])) : Im K H (.ref a) (layD l) := Im.mk h (.cons (.str _) (.cons (.int _) .nil))
theorem ImAll.strs {K : PySem.W.Frag} {H : Hp} : ∀ {ys : List V} {ss : List Str}, ImAll K H ys (ss.map PyData.str) → ys = ss.map V.str
  | [], [], _ => rfl
  | _ :: _, _ :: _, .cons h1 h2 => by rw [Im.strInv h1, ImAll.strs h2]; rfl
theorem ImAll.ints {K : PySem.W.Frag} {H : Hp} : ∀ {ys : List V} {ss : List Int}, ImAll K H ys (ss.map PyData.int) → ys = ss.map V.int
  | [], [], _ => rfl
  | _ :: _, _ :: _, .cons h1 h2 => by rw [Im.intInv h1, ImAll.ints h2]; rfl
theorem ImAll.ofStrs {K : PySem.W.Frag} {H : Hp} : ∀ ss : List Str, ImAll K H (ss.map V.str) (ss.map PyData.str)
  | [] => .nil
  | s :: ss => .cons (.str s) (ImAll.ofStrs ss)
theorem ImAll.ofInts {K : PySem.W.Frag} {H : Hp} : ∀ ss : List Int, ImAll K H (ss.map V.int) (ss.map PyData.int)
  | [] => .nil
  | s :: ss => .cons (.int s) (ImAll.ofInts ss)
end Y

set_option Elab.async false
set_option linter.all false
set_option maxRecDepth 100000
set_option maxHeartbeats 4000000
/-! L1: sorted(.., key=lambda ..): the lambda is made, its code object's table grows; the keys are whole numbers or pairs of such. -/
namespace Y
open PySem PySem.Spec PyProof.Rows L2 LamX NdefX

/-! ### an object of ours is tracked from now on -/
section
variable {X : Cx} {pins : List (Addr × Obj)} {σ : L2.St} {H : Hp} {s : Shared}
theorem adopt {h' : Heap} {t' : Nat} {a : Addr} {o : HO} (I : Inv X pins σ H s) (k : ∀ b u, b ≠ a → s.heap.get? b = some u → h'.get? b = some u) (hf : FpOk X pins H a) (new : ObjOk X.prog X.w (upd H a o) h' a o) :
    Inv X pins σ (upd H a o) { s with heap := h', toks := t' } := by
  obtain ⟨hn, f1, f2, f3, f4, f5⟩ := hf
  have ne : ∀ b u, H b = some u → b ≠ a := fun b u e z => by rw [z, hn] at e; cases e
  have out : ∀ {b : Addr}, b ∉ [a] → b ≠ a := fun hc z => hc (by simp [z])
  refine I.step (g' := s.gens) (d' := s.drawn) (ch := [a]) (fun b hb => ?_) (fun b u _ _ hc e _ => k b u (out hc) e) (fun b u _ _ hc e _ => ⟨u.slots, k b u (out hc) e⟩)
    (fun b u hc e n => (upd_ne (out hc)).trans n) (fun b u hc e => ⟨u, k b u (out hc) e⟩) (fun b xs e => (upd_ne (ne b _ e)).trans e) (fun b u v e => (upd_ne (ne b _ e)).trans e) (fun b ps e => ⟨#[], by rw [upd_ne (ne b _ e), e]; simp⟩) (fun m hm => ?_) (fun b u e => ?_) I.bare
  · obtain rfl : b = a := by simpa using hb
    exact ⟨f3, f1, f4, f5⟩
  · obtain ⟨ob, es, ep, ho, r⟩ := hm
    exact ⟨ob, es, ep, k _ ob (Ne.symm f1) ho, r⟩
  · by_cases hb : b = a
    · subst hb
      rw [upd_same] at e
      cases e
      exact new
    · rw [upd_ne hb] at e
      refine (I.hok b u e).stay (fun c v hc q => k c v ?_ q) (fun c q => (upd_ne (ne c _ q)).trans q) fun c xs q => (upd_ne (ne c _ q)).trans q
      rcases hc with z | z
      · rw [z]; exact hb
      · exact ne c _ z
end

/-! ### the lambda's object -/
structure LF where
  qual : Str
  params : Arguments
  body : Expr
  scope : Scope
  cl : List (Str × Addr)
  c : Addr
abbrev LF.nf (F : LF) : NF := ⟨"<lambda>", F.qual, F.params, [], F.scope, F.cl, F.c⟩
def LamO (f : Addr) (F : LF) : HO := .ext fun h => ∃ pm ctv, h.get? f = some (PySem.W.kla_obj "<lambda>" F.qual F.params F.body F.scope F.cl pm F.c ctv)
theorem lamO_ok {P : Program} {w : World} {H : Hp} {h : Heap} {f : Addr} {F : LF} {pm ctv : Value} (e : h.get? f = some (PySem.W.kla_obj "<lambda>" F.qual F.params F.body F.scope F.cl pm F.c ctv)) : ObjOk P w H h f (LamO f F) :=
  ⟨⟨pm, ctv, e⟩, ⟨_, e⟩, fun _ _ ⟨p, t, z⟩ st => ⟨p, t, st _ z⟩⟩
theorem lamO_at {P : Program} {w : World} {H : Hp} {h : Heap} {f : Addr} {F : LF} (hok : HOk P w H h) (e : H f = some (LamO f F)) : ∃ pm ctv, h.get? f = some (PySem.W.kla_obj "<lambda>" F.qual F.params F.body F.scope F.cl pm F.c ctv) := by
  obtain ⟨z, _, _⟩ := hok f _ e
  exact z
section
variable [Tb] {X : Cx} {pins : List (Addr × Obj)} {σ : L2.St} {H : Hp} {s : Shared}
/-- a code object is told by the table at Pt from now on -/
theorem kp_table {Pt c' : Addr} {q : Str} {ps : Array Value} {pos : Pos} (hP : H Pt = some (.tbl ps)) (nC : H c' = none) (hu : ∀ p ∈ Tb.tabs, p.1 = Pt → p.2 = q) :
    Kp No H (upd (upd H Pt (.tbl (ps ++ #[rawInt pos.line, rawInt pos.col, .ref c']))) c' (CodeO c' q)) := by
  have nPc : Pt ≠ c' := ne_of_none hP nC
  have stay : ∀ b o, H b = some o → NT o → upd (upd H Pt (.tbl (ps ++ #[rawInt pos.line, rawInt pos.col, .ref c']))) c' (CodeO c' q) b = some o := fun b o e nt => by
    rw [upd_ne (ne_of_none e nC), upd_ne (fun z => by rw [z, hP] at e; rw [← Option.some.inj e] at nt; exact nt)]
    exact e
  refine ⟨fun b o e _ nt => stay b o e nt, fun b xs e => stay b _ e True.intro, fun b e => upd_none (upd_none e), fun T p hp => ?_⟩
  obtain ⟨ps', a1, a2, a3⟩ := T p hp
  have keep : ∀ {p' : Pos} {cv : Value}, codeAmong p' ps'.toList = some cv → ∃ c, cv = .ref c ∧ upd (upd H Pt (.tbl (ps ++ #[rawInt pos.line, rawInt pos.col, .ref c']))) c' (CodeO c' q) c = some (CodeO c p.2) := fun {p' cv} hc => by
    obtain ⟨c0, e1, e2⟩ := a3 p' cv hc
    exact ⟨c0, e1, stay _ _ e2 True.intro⟩
  by_cases hb : p.1 = Pt
  · have e1 : ps' = ps := by
      rw [hb, hP] at a1
      cases a1
      rfl
    subst e1
    have eL : (ps' ++ #[rawInt pos.line, rawInt pos.col, .ref c']).toList = ps'.toList ++ [rawInt pos.line, rawInt pos.col, .ref c'] := by simp
    refine ⟨_, by rw [hb, upd_ne nPc, upd_same], by rw [eL]; exact PySem.TriplesOk_snoc _ _ _ _ a2, fun p' cv hc => ?_⟩
    rw [eL] at hc
    rcases among_app _ a2 hc with z | z
    · exact keep z
    · exact ⟨c', z, by rw [hu p hp hb]; exact upd_same⟩
  · exact ⟨ps', by rw [upd_ne (ne_of_none a1 nC), upd_ne hb]; exact a1, a2, fun p' cv hc => keep hc⟩
theorem lam_made {c Pt : Addr} {params : Arguments} {body : Expr} {scope : Scope} {pos : Pos} {E : Value → Shared → Prop} {Q : Value → Shared → Prop} (I : Inv X pins σ H s) (TB : TabB X.base X.mg c Pt) (hcode : X.env.code = .ref c)
    (hm : (Pt, X.env.qual ++ "<lambda>") ∈ Tb.tabs) (hu : ∀ p ∈ Tb.tabs, p.1 = Pt → p.2 = X.env.qual ++ "<lambda>") (hT : TbOk H) (hdef : defaultsOf params X.env = ([], [])) (hfree : ∀ y ∈ scope.names, y.2 = .free → ∃ c, X.env.cells.lookup y.1 = some c)
    (h : ∀ (f c' : Addr) (H1 : Hp) (s' : Shared), Inv X pins σ H1 s' → Kp No H H1 → H1 f = some (LamO f ⟨X.env.qual ++ "<lambda>", params, body, scope, cloFrom X.env.cells scope.names [], c'⟩) → H1 c' = some (CodeO c' (X.env.qual ++ "<lambda>")) → Q (.ref f) s') :
    wpAny (model X.prog X.w) X.A (eval (.Lambda params body scope pos) X.env) Q E s := by
  obtain ⟨ps, hP, ht, ha⟩ := hT _ hm
  refine PySem.W.kla_eval hdef ?_
  have bP : s.heap.BuiltinsAt X.mg Pt := TB.bm.keeps I.bk
  have hP' : s.heap.get? Pt = some { cls := .none, data := .fields ps } := I.hok Pt _ hP
  have fin : ∀ (Ha : Hp) (h' : Heap) (tk : Nat) (c' : Addr) (ctv : Value), Inv X pins σ Ha { s with heap := h', toks := tk } → Kp No H Ha → Ha c' = some (CodeO c' (X.env.qual ++ "<lambda>")) →
      Q (.ref h'.objs.size) { s with heap := h'.push (PySem.W.kla_obj "<lambda>" (X.env.qual ++ "<lambda>") params body scope (cloFrom X.env.cells scope.names []) ((X.mg "__name__").getD .none) c' ctv), toks := tk } := by
    intro Ha h' tk c' ctv Ia ka hc
    have nF : Ha h'.objs.size = none := Ia.hok.fresh (Nat.le_refl _)
    refine h h'.objs.size c' (upd Ha h'.objs.size (LamO h'.objs.size ⟨X.env.qual ++ "<lambda>", params, body, scope, cloFrom X.env.cells scope.names [], c'⟩)) _ (Ia.laid (t' := tk) (fun b u e => Heap.get?_push_of_some _ e) (Nat.le_refl _) (lamO_ok (Heap.get?_push_size _ rfl))) (ka.trans (Kp.new nF)) upd_same ((upd_ne (ne_of_none hc nF)).trans hc)
  cases hc : codeAmong pos ps.toList with
  | none =>
    refine PySem.W.kla_makeFunction (mg := X.mg) (c := c) (P := Pt) (ps := ps) (closure_ok hfree) I.ok.glob (I.mod.glob.keeps I.bk) hcode (TB.code.keeps I.bk) hP' ht hc TB.gP bP fun c' ctv h' tk hx hge hlt hrec htb => ?_
    obtain ⟨c2, oc, vs, t, e2, hoc, hd, hv⟩ := hrec
    cases e2
    exact fin _ h' tk c' ctv (inv_table (t' := tk) (more := #[rawInt pos.line, rawInt pos.col, .ref c']) I hP hx htb hge ⟨oc, vs, t, hoc, hd, hv⟩) (kp_table hP (I.hok.fresh hge) hu) upd_same
  | some cv =>
    obtain ⟨c', e, hco⟩ := ha pos cv hc
    subst e
    exact PySem.W.kla_makeFunctionHit (mg := X.mg) (c := c) (P := Pt) (ps := ps) (closure_ok hfree) I.ok.glob (I.mod.glob.keeps I.bk) hcode (TB.code.keeps I.bk) hP' ht hc bP fun ctv h' tk hx hsz => fin H h' tk c' ctv (I.kept hx) (Kp.refl H) hco
end

/-! ### the lambda, called -/
section
variable {X : Cx} {pins : List (Addr × Obj)} {σ : L2.St} {H : Hp} {s : Shared} {N ps fr : List Str} {F : LF} {f : Addr} {k : Nat} {A' : Around} {vs : List V} {ws : List (Option V)} {us : List Value} {tb : TE} {Q : VK}
/-- what is wanted of the lambda's words -/
structure LamW (X : Cx) (k : Nat) (N ps fr : List Str) (f : Addr) (F : LF) (tb : TE) : Prop where
  sc : NScope N ps fr F.scope
  bind : ∀ (pm ctv : Value) (us : List Value), us.length = ps.length → bindArgs (PySem.W.kla_fn "<lambda>" F.qual F.params F.body F.scope F.cl pm (.ref F.c) ctv) ⟨us, []⟩ = pure (ps.zip us)
  body : ∀ (A : Around) (outer : List Env) (s : Shared) (H : Hp) (E : XK), Room k (A.deeper (envF F.nf f s.heap.objs.size)) → PE (ncx CX0 X.prog X.w X.K X.mg X.base N F.nf f A outer s H E) F.body tb
theorem lam_call {E : Value → Shared → Prop} (W : LamW X k N ps fr f F tb) (room : Room (k + 1) A') (e0 : Env0 X.prog X.w X.K X.mg X.base A' X.stack s H) (I : Inv X pins σ H s) (hf : H f = some (LamO f F)) (hc : H F.c = some (CodeO F.c F.qual)) (C : CellsAt F.cl fr ws s.heap H)
    (r : Vals vs us) (hl : vs.length = ps.length) (q : tb (startF N vs ws) H Q) : wpAny (model X.prog X.w) A' (call (.ref f) us) (EP X pins σ Q) E s := by
  obtain ⟨pm, ctv, of1⟩ := lamO_at I.hok hf
  have rc : codeAny (model X.prog X.w) A' (.call (.ref f) ⟨us, []⟩) (CR CX0 X.stack X.prog X.w H s Q fun _ _ _ => False) s := by
    refine PySem.W.kla_callFunE room.depth of1 rfl W.sc.co W.sc.gen rfl (codeO_at I.hok hc) ?_
    rw [W.bind pm ctv us (by rw [← r.length]; exact hl)]
    refine wpAny_pure (wpAny_newFunctionEnv W.sc.nocell (fun ⟨n, _⟩ hy => W.sc.par n (List.of_mem_zip hy).1) (fun h₁ hns hsb => ⟨I.nolimit.fresh _ hsb, ?_⟩) W.sc.kind)
    show codeAny _ _ (.expr F.body (envF F.nf f s.heap.objs.size)) _ _
    have kp : ∀ b o, s.heap.get? b = some o → h₁.get? b = some o := fun b o e => hsb.extBut b o (Nat.ne_of_lt (Heap.lt_size e)) (Heap.get?_push_of_some _ e)
    have J : Inv (ncx CX0 X.prog X.w X.K X.mg X.base N F.nf f A' X.stack s H fun _ _ _ => False) [] (startF N vs ws) H { s with heap := h₁, toks := s.toks + (ps.zip us).length } := inv_startN W.sc room.hd e0 hl r C hns kp
    refine PySem.W.kla_codeExpr (wpAny_mono ((W.body A' X.stack s H _ (room.deeper _)).run [] _ _ H Q J q) (fun v s' hq => ?_) fun e s' hq => hq)
    obtain ⟨w', H', J', rv, q'⟩ := hq
    exact ⟨w', H', J'.os, J'.bare, J'.base, J'.hok, rv, q'⟩
  refine wpAny_call (codeAny_mono rc fun r s' hq => ?_)
  cases r with
  | error e => exact False.elim hq
  | ok fl =>
    cases fl with
    | ret u => exact I.after hq
    | next => exact False.elim hq
    | brk => exact False.elim hq
    | cont => exact False.elim hq
end

/-! ### keys -/
/-- the key k is the pair p (two), or the whole number p.1 -/
def KeyIs (two : Bool) (H : Hp) (k : V) (p : Int × Int) : Prop := match two with
  | true => ∃ t, k = .ref t ∧ H t = some (.tup [.int p.1, .int p.2])
  | false => k = .int p.1 ∧ p.2 = 0
theorem KeyIs.up [Tb] {two : Bool} {S : Addr → Prop} {H H' : Hp} {k : V} {p : Int × Int} (h : KeyIs two H k p) (kp : Kp S H H') : KeyIs two H' k p := by
  cases two with
  | true =>
    obtain ⟨t, e, ht⟩ := h
    exact ⟨t, e, kp.tup t _ ht⟩
  | false => exact h
/-- a key's pair, read off the values -/
def kvOf (H : Hp) : Value → Int × Int
  | .int i _ => (i, 0)
  | .ref t => match H t with
    | some (.tup [.int x, .int y]) => (x, y)
    | _ => (0, 0)
  | _ => (0, 0)
theorem KeyIs.kv {two : Bool} {H : Hp} {k : V} {p : Int × Int} {u : Value} (h : KeyIs two H k p) (r : RelV k u) : kvOf H u = p := by
  cases two with
  | true =>
    obtain ⟨t, rfl, ht⟩ := h
    obtain rfl : u = Value.ref t := r
    simp only [kvOf, ht]
  | false =>
    obtain ⟨rfl, h2⟩ := h
    obtain ⟨t, rfl⟩ := r
    simp only [kvOf]
    rw [← h2]
abbrev Keys (two : Bool) (H : Hp) : List V → List (Int × Int) → Prop := Paired (KeyIs two H)
theorem paired_len {α β : Type} {R : α → β → Prop} : ∀ {l : List α} {m : List β}, Paired R l m → l.length = m.length
  | _, _, .nil => rfl
  | _, _, .cons _ h => congrArg Nat.succ (paired_len h)
theorem paired_imp {α β : Type} {R R' : α → β → Prop} (f : ∀ a b, R a b → R' a b) : ∀ {l : List α} {m : List β}, Paired R l m → Paired R' l m
  | _, _, .nil => .nil
  | _, _, .cons h t => .cons (f _ _ h) (paired_imp f t)
theorem paired_snoc {α β : Type} {R : α → β → Prop} {a : α} {b : β} (h : R a b) : ∀ {l : List α} {m : List β}, Paired R l m → Paired R (l ++ [a]) (m ++ [b])
  | _, _, .nil => .cons h .nil
  | _, _, .cons h1 t => .cons h1 (paired_snoc h t)
/-- a rearrangement on the right is one on the left -/
theorem paired_perm {α β : Type} {R : α → β → Prop} {m m' : List β} (p : m.Perm m') : ∀ {l : List α}, Paired R l m → ∃ l', l'.Perm l ∧ Paired R l' m' := by
  induction p with
  | nil => intro l h; exact ⟨l, .refl _, h⟩
  | cons x _ ih =>
    intro l h
    cases h with
    | cons h t =>
      obtain ⟨l', p', h'⟩ := ih t
      exact ⟨_ :: l', p'.cons _, .cons h h'⟩
  | swap x y r =>
    intro l h
    cases h with
    | cons h1 t =>
      cases t with
      | cons h2 t => exact ⟨_, .swap _ _ _, .cons h2 (.cons h1 t)⟩
  | trans _ _ ih1 ih2 =>
    intro l h
    obtain ⟨l1, p1, h1⟩ := ih1 h
    obtain ⟨l2, p2, h2⟩ := ih2 h1
    exact ⟨l2, p2.trans p1, h2⟩
theorem paired_mem {α β : Type} {R : α → β → Prop} {b : β} : ∀ {l : List α} {m : List β}, Paired R l m → b ∈ m → ∃ a ∈ l, R a b
  | _, _, .nil, h => nomatch h
  | _, _, .cons h t, hb => by
    rcases List.mem_cons.mp hb with e | hb
    · exact ⟨_, List.mem_cons_self, by rw [e]; exact h⟩
    · obtain ⟨a, ha, r⟩ := paired_mem t hb
      exact ⟨a, List.mem_cons_of_mem _ ha, r⟩
theorem paired_pairwise {α β : Type} {R : α → β → Prop} {T : α → α → Prop} {T' : β → β → Prop} (f : ∀ a b a' b', R a b → R a' b' → T' b b' → T a a') : ∀ {l : List α} {m : List β}, Paired R l m → m.Pairwise T' → l.Pairwise T
  | _, _, .nil, _ => .nil
  | _, _, .cons (l₁ := l) (l₂ := m) (a := a) (b := b) h t, hp => by
    obtain ⟨h1, h2⟩ := List.pairwise_cons.mp hp
    refine List.pairwise_cons.mpr ⟨fun a' ha' => ?_, paired_pairwise f t h2⟩
    obtain ⟨b', hb', r'⟩ := (show ∀ {l : List α} {m : List β}, Paired R l m → a' ∈ l → ∃ b' ∈ m, R a' b' from by
      intro l m hh
      induction hh with
      | nil => intro z; cases z
      | cons h _ ih =>
        intro z
        rcases List.mem_cons.mp z with e | z
        · exact ⟨_, List.mem_cons_self, by rw [e]; exact h⟩
        · obtain ⟨b', hb', r⟩ := ih z
          exact ⟨b', List.mem_cons_of_mem _ hb', r⟩) t ha'
    exact f _ _ _ _ h r' (h1 b' hb')

/-! ### list.sort by the key -/
theorem sortable_imp {prog : Program} {w : World} {A : Around} {s : Shared} {a : Addr} {vs : List Value} {l1 l2 : Value → Value → Bool} (h : SrtO.SortableO prog w A s a vs l1) (e : ∀ u ∈ vs, ∀ v ∈ vs, l1 u v = l2 u v) : SrtO.SortableO prog w A s a vs l2 := by
  intro h' k
  obtain ⟨κ, h1, h2⟩ := h h' k
  refine ⟨κ, h1, fun p q hp hq => wpAny_mono (h2 p q hp hq) (fun r s' hr => ⟨hr.1, hr.2.trans (e _ hp _ hq)⟩) fun _ _ z => z⟩
theorem keys_sortable {X : Cx} {pins : List (Addr × Obj)} {σ : L2.St} {H : Hp} {s : Shared} {A : Around} {a : Addr} {n : Nat} {xs : Array Value} {two : Bool} {kvs : List V} {its : List Value} {ks : List (Int × Int)} (I : Inv X pins σ H s) (hk : Keys two H kvs ks) (rv : Vals kvs its)
    (h2 : 2 ≤ its.length) (ha : s.heap.get? a = some (seqObj "list" xs n)) : SrtO.SortableO X.prog X.w A s a its fun u v => SrtO.lexB (kvOf H u) (kvOf H v) := by
  cases two with
  | true =>
    refine SrtO.pairs_sortableO (k := kvOf H) (by omega) (fun v hv => ?_) (fun o e => by
      rw [ha] at e
      cases e
      exact fun z => by
        injection z with z3
        exact absurd z3 (by decide))
    obtain ⟨kk, hm, r⟩ := paired_mem rv hv
    obtain ⟨p, _, hp⟩ : ∃ p ∈ ks, KeyIs true H kk p := by
      clear rv h2 hv
      induction hk with
      | nil => cases hm
      | cons h _ ih =>
        rcases List.mem_cons.mp hm with e | hm
        · exact ⟨_, List.mem_cons_self, by rw [e]; exact h⟩
        · obtain ⟨p, h1, h2⟩ := ih hm
          exact ⟨p, List.mem_cons_of_mem _ h1, h2⟩
    rw [hp.kv r]
    obtain ⟨t, rfl, ht⟩ := hp
    obtain rfl : v = Value.ref t := r
    obtain ⟨_, its2, r2, o, ho, hc, n', hd⟩ := I.hok _ _ ht
    obtain ⟨u1, u2, rfl, ri, rj⟩ := vals2 r2
    obtain ⟨t1, rfl⟩ := ri
    obtain ⟨t2, rfl⟩ := rj
    exact ⟨t, o, t1, t2, n', rfl, ho, hc, hd⟩
  | false =>
    have hi : IntsAre its (ks.map Prod.fst) := by
      clear h2 ha
      induction hk generalizing its with
      | nil => cases rv; exact .nil
      | cons h _ ih =>
        cases rv with
        | cons r1 r2 =>
          obtain ⟨rfl, _⟩ := h
          obtain ⟨t, rfl⟩ := r1
          exact .cons _ _ (ih r2)
    refine sortable_imp (SrtO.ints_sortable hi h2) fun u hu v hv => ?_
    obtain ⟨i, t, rfl⟩ := SrtO.ints_mem hi u hu
    obtain ⟨j, t', rfl⟩ := SrtO.ints_mem hi v hv
    show decide (i < j) = SrtO.lexB (i, 0) (j, 0)
    unfold SrtO.lexB
    by_cases e : i = j
    · rw [if_pos e]; simp [e]
    · rw [if_neg e]
section
variable [Tb] {X : Cx} {pins : List (Addr × Obj)} {σ : L2.St} {H : Hp} {s : Shared} {N fr : List Str} {F : LF} {f a : Addr} {k : Nat} {A' : Around} {js : List Nat} {tb : TE} {xs : List V} {vs : List Value} {ks : List (Int × Int)} {two : Bool}
/-- behind the key store's making: what the sort ends with -/
theorem key_tail {kS e1 : Nat} {its : List Value} {kvs : List V} {st : SortSt} {R : PySem.Fin → Shared → Prop} {E : Value → Shared → Prop} {Hc : Hp}
    (I : Inv X ((a, seqObj "list" #[] e1) :: pins) σ Hc s) (fp : FpOk X pins Hc a) (hS : Hc kS = some (.lst kvs)) (hk : Keys two Hc kvs ks) (hlk : ks.length = xs.length) (ri : Vals kvs its) (rv : Vals xs vs) (hz : vs.length ≤ sizeLine)
    (hs : SrtO.Srtd (SrtO.lt2 fun u v => SrtO.lexB (kvOf Hc u) (kvOf Hc v)) (arrOf st).toList) (hp : (arrOf st).toList.Perm (its.zip vs)) (hfl : failedOf st = none)
    (h : ∀ (ps : List ((Int × Int) × V)) (s' : Shared), ps.Perm (ks.zip xs) → SrtO.Srtd (fun x y => SrtO.lexB x.1 y.1) ps → Inv X pins σ (upd (upd Hc kS (.lst [])) a (.lst (ps.map (·.2)))) s' → R (.done (.ret .none)) s') :
    wpAny (model X.prog X.w) A' (ksk_tail a false e1 (.ref kS) st) R E s := by
  obtain ⟨hzk, its', nk, rk, hob⟩ := I.hok kS _ hS
  have hpin := I.pin (a, seqObj "list" #[] e1) (List.mem_append_right _ List.mem_cons_self)
  have hka : a ≠ kS := fun z => by
    have q := hpin.2.1
    rw [show (a, seqObj "list" #[] e1).1 = a from rfl, z, hS] at q
    cases q
  have hz2 : xs.length ≤ sizeLine := by rw [rv.length]; exact hz
  have pr : Paired (fun (x : (Int × Int) × V) (q : Keyed) => RelV x.2 q.2 ∧ kvOf Hc q.1 = x.1) (ks.zip xs) (its.zip vs) := by
    clear hs hp hz hz2 hS h hzk rk hob
    induction rv generalizing kvs its ks with
    | nil => rw [List.zip_nil_right, List.zip_nil_right]; exact .nil
    | cons r1 _ ih =>
      cases hk with
      | nil => simp at hlk
      | cons k1 k2 =>
        cases ri with
        | cons r2 r3 => exact .cons ⟨r1, k1.kv r2⟩ (ih k2 (by simpa using hlk) r3)
  obtain ⟨ps, py, ry⟩ := paired_perm hp.symm pr
  have hpl : ps.length = xs.length := by rw [py.length_eq, List.length_zip, hlk, Nat.min_self]
  have hlen : (arrOf st).size = vs.length := by
    rw [← Array.length_toList, ← paired_len ry, hpl, rv.length]
  have sy : SrtO.Srtd (fun x y => SrtO.lexB x.1 y.1) ps := paired_pairwise (T' := fun p q => SrtO.lt2 (fun u v => SrtO.lexB (kvOf Hc u) (kvOf Hc v)) q p = false) (fun x p y q r1 r2 z => by
    have z' : SrtO.lexB (kvOf Hc q.1) (kvOf Hc p.1) = false := z
    rw [r1.2, r2.2] at z'
    exact z') ry hs
  have vy : Vals (ps.map (·.2)) ((arrOf st).toList.map (·.2)) := by
    exact (show ∀ {l : List ((Int × Int) × V)} {m : List Keyed}, Paired (fun (x : (Int × Int) × V) (q : Keyed) => RelV x.2 q.2 ∧ kvOf Hc q.1 = x.1) l m → Vals (l.map (·.2)) (m.map (·.2)) from by
      intro l m hh
      induction hh with
      | nil => exact .nil
      | cons r _ ih => exact .cons r.1 ih) ry
  unfold ksk_tail
  try dsimp only
  refine wpAny_bind (listUpdate_at hob rfl ?_ (by rw [List.size_toArray, ← rk.length]; exact hzk) (Nat.zero_le _))
  refine wpAny_bind (wpAny_letGo ?_)
  have get1 : ∀ b u, b ≠ kS → s.heap.get? b = some u → (s.heap.update kS (Obj.mapSeq fun _ => (#[] : Array Value))).get? b = some u := fun b u hb e => (Heap.get?_update_ne _ _ _ _ hb).trans e
  obtain ⟨e2, he2⟩ : ∃ e2, (s.heap.update kS (Obj.mapSeq fun _ => (#[] : Array Value))).get? kS = some (seqObj "list" #[] e2) := ⟨_, get?_update_seq hob fun _ => #[]⟩
  have I1 : Inv X ((a, seqObj "list" #[] e1) :: pins) σ (upd Hc kS (.lst [])) { s with heap := s.heap.update kS (Obj.mapSeq fun _ => (#[] : Array Value)) } :=
    I.write (e := kS) (t' := s.toks) (by rw [hS]; trivial) (.inl rfl) get1 ⟨_, he2⟩ ⟨Nat.zero_le _, [], e2, .nil, he2⟩
  have ga := (I1.pin (a, seqObj "list" #[] e1) (List.mem_append_right _ List.mem_cons_self)).1
  refine wpAny_bind (seqEpoch_at ga rfl ?_)
  refine wpAny_bind (listUpdate_at ga rfl ?_ (Nat.zero_le _) ?_)
  · rw [hfl]
    simp only [bne_self_eq_false, Bool.false_eq_true, if_false]
    obtain ⟨e3, he3⟩ : ∃ e3, ((s.heap.update kS (Obj.mapSeq fun _ => (#[] : Array Value))).update a (Obj.mapSeq fun _ => (arrOf st).map (·.2))).get? a = some (seqObj "list" ((arrOf st).map (·.2)) e3) := ⟨_, get?_update_seq ga fun _ => (arrOf st).map (·.2)⟩
    have I2 : Inv X pins σ (upd Hc kS (.lst [])) { s with heap := s.heap.update kS (Obj.mapSeq fun _ => (#[] : Array Value)) } := I1.pins_of fun p hp => I1.pin p (List.mem_append_right _ (List.mem_cons_of_mem _ hp))
    refine wpAny_pure (h ps _ py sy (adopt (s := { s with heap := s.heap.update kS (Obj.mapSeq fun _ => (#[] : Array Value)) }) (t' := s.toks) I2 (fun b u hb e => (Heap.get?_update_ne _ _ _ _ hb).trans e) ⟨(upd_ne hka).trans fp.1, fp.2⟩ ?_))
    refine ⟨by rw [List.length_map, hpl]; exact hz2, (arrOf st).toList.map (·.2), e3, vy, ?_⟩
    have ea : ((arrOf st).toList.map (·.2)).toArray = (arrOf st).map (·.2) := by
      apply Array.ext'
      simp
    rw [ea]
    exact he3
  · simp only [Bool.false_eq_true, if_false, Array.size_map, hlen]
    omega
theorem key_sort {p0 : Str} {n : Nat} {R : PySem.Fin → Shared → Prop} {E : Value → Shared → Prop} (W : LamW X k N [p0] fr f F tb) (room : Room (k + 1) A') (hA : A'.frames = X.A.frames) (I : Inv X pins σ H s) (hf : H f = some (LamO f F)) (hc : H F.c = some (CodeO F.c F.qual))
    (cp : Caps X F.cl fr js) (rv : Vals xs vs) (hz : vs.length ≤ sizeLine) (ho : s.heap.get? a = some (seqObj "list" vs.toArray n)) (fp : ∀ H', H' a = none → FpOk X pins H' a) (ha0 : H a = none)
    (hlk : ks.length = xs.length) (turn : ∀ (i : Nat) (x : V) (ki : Int × Int), xs[i]? = some x → ks[i]? = some ki → ∀ Hc, Kp No H Hc → tb (startF N [x] (js.map (slotAt σ))) Hc fun kk H3 => Kp No Hc H3 ∧ KeyIs two H3 kk ki)
    (h : ∀ (ps : List ((Int × Int) × V)) (H' : Hp) (s' : Shared), ps.Perm (ks.zip xs) → SrtO.Srtd (fun x y => SrtO.lexB x.1 y.1) ps → Kp No H H' → Inv X pins σ H' s' → H' a = some (.lst (ps.map (·.2))) → R (.done (.ret .none)) s') :
    wpAny (model X.prog X.w) A' (ksk_tree a (.ref f) false) R E s := by
  have ha : a < s.heap.objs.size := Heap.lt_size ho
  unfold ksk_tree
  refine wpAny_bind (listItems_at ho rfl ?_)
  refine wpAny_bind (listUpdate_at ho rfl ?_ (by rw [List.size_toArray]; exact hz) (Nat.zero_le _))
  obtain ⟨e1, ho1⟩ : ∃ e1, (s.heap.update a (Obj.mapSeq fun _ => (#[] : Array Value))).get? a = some (seqObj "list" #[] e1) := ⟨_, get?_update_seq ho fun _ => #[]⟩
  refine wpAny_bind (seqEpoch_at ho1 rfl ?_)
  refine wpAny_bind (wpAny_newTuple ?_ (by show vs.length ≤ _; exact hz))
  refine wpAny_bind (wpAny_newList ?_ (Nat.zero_le _))
  refine wpAny_holding ?_
  have I1 : Inv X pins σ H { s with heap := s.heap.update a (Obj.mapSeq fun _ => (#[] : Array Value)) } := I.turnedL (t' := s.toks) (ch := [a]) (fun b o hb e => (Heap.get?_update_ne _ _ _ _ (fun z => hb (by simp [z]))).trans e) fun b hb => by
    obtain rfl : b = a := by simpa using hb
    exact fp H ha0
  have I2 : Inv X pins σ H { s with heap := (s.heap.update a (Obj.mapSeq fun _ => (#[] : Array Value))).push (seqObj "tuple" vs.toArray 0) } := I1.kept (t' := s.toks) fun b o e => Heap.get?_push_of_some _ e
  generalize hh2 : (s.heap.update a (Obj.mapSeq fun _ => (#[] : Array Value))).push (seqObj "tuple" vs.toArray 0) = h2 at I2 ⊢
  have ho2 : h2.get? a = some (seqObj "list" #[] e1) := by rw [← hh2]; exact Heap.get?_push_of_some _ ho1
  have nS : H h2.objs.size = none := I2.hok.fresh (Nat.le_refl _)
  have I3 : Inv X pins σ (upd H h2.objs.size (.lst [])) { s with heap := h2.push (seqObj "list" #[] 0) } := I2.laid (t' := s.toks) (fun b o e => Heap.get?_push_of_some _ e) (Nat.le_refl _) ⟨Nat.zero_le _, [], 0, .nil, Heap.get?_push_size _ rfl⟩
  have haS : a ≠ h2.objs.size := Nat.ne_of_lt (Heap.lt_size ho2)
  have na3 : upd H h2.objs.size (.lst []) a = none := (upd_ne haS).trans ha0
  have fpa := fp _ na3
  have I4 : Inv X ((a, seqObj "list" #[] e1) :: pins) σ (upd H h2.objs.size (.lst [])) { s with heap := h2.push (seqObj "list" #[] 0) } := I3.pins_of fun p hp => by
    rcases List.mem_cons.mp hp with e | hp
    · rw [e]
      exact ⟨Heap.get?_push_of_some _ ho2, na3, fpa.2.1, fpa.2.2.1, fun v z => by cases z⟩
    · exact I3.pin p (List.mem_append_right _ hp)
  show wpAny (model X.prog X.w) A' (ksk_rest a (.ref f) false vs.toArray e1 (.ref h2.objs.size)) R E { s with heap := h2.push (seqObj "list" #[] 0) }
  generalize h2.objs.size = kS at *
  unfold ksk_rest
  refine wpAny_bind (wpAny_rule ?_)
  first
    | rw [List.forIn_toArray]
    | (rw [← Array.forIn_toList]; simp only [List.toList_toArray])
    | rw [← Array.forIn_toList]
  refine wpAny_bind (ksk_fold (fun i s' => ∃ (Hc : Hp) (kvs : List V), Inv X ((a, seqObj "list" #[] e1) :: pins) σ Hc s' ∧ Kp No H Hc ∧ Hc kS = some (.lst kvs) ∧ Keys two Hc kvs (ks.take i)) vs 0 _
    ⟨_, [], I4, Kp.new nS, upd_same, by simpa using Paired.nil⟩ ?step ?done)
  case step =>
    rintro j u s' hu ⟨Hc, kvs, Ic, kc, hS, hk⟩
    simp only [Nat.zero_add] at hk ⊢
    have hj : j < vs.length := (List.getElem?_eq_some_iff.mp hu).1
    have hjx : j < xs.length := by rw [rv.length]; exact hj
    have ex : xs[j]? = some xs[j] := List.getElem?_eq_getElem hjx
    obtain ⟨u', hu', rx⟩ := rv.get ex
    rw [hu] at hu'
    cases hu'
    have hjk : j < ks.length := by rw [hlk]; exact hjx
    have ek : ks[j]? = some ks[j] := List.getElem?_eq_getElem hjk
    have e0 : Env0 X.prog X.w X.K X.mg X.base A' X.stack s' Hc := { Ic.env0 with frames := hA.trans Ic.env0.frames }
    refine wpAny_bind (wpAny_attempt (wpAny_mono (lam_call (E := fun _ _ => False) W room e0 Ic (kc.all f _ hf id) (kc.all F.c _ hc id) (cells_of Ic cp) (.cons rx .nil) rfl (turn j _ _ ex ek Hc kc)) (fun v s'' he => ?_) fun _ _ hF => hF.elim))
    obtain ⟨kk, H3, I3', rk, k3, key⟩ := he
    have hS3 := k3.all kS _ hS id
    obtain ⟨hzk, its, n3, rk3, hob⟩ := I3'.hok kS _ hS3
    have lk : kvs.length = j := by rw [paired_len hk, List.length_take]; omega
    have li : its.toArray.size = j := by rw [List.size_toArray, ← rk3.length, lk]
    try dsimp only
    obtain ⟨c2, hc2⟩ : ∃ c2, (s''.heap.update kS (Obj.mapSeq (·.push v))).get? kS = some (seqObj "list" (its.toArray.push v) c2) := ⟨_, get?_update_seq hob (·.push v)⟩
    refine wpAny_bind (listUpdate_at hob rfl ?_ (by rw [li]; omega) (Nat.le_trans (Nat.le_of_eq (Array.size_push ..)) (by rw [li]; omega)))
    refine wpAny_pure ⟨rfl, upd H3 kS (.lst (kvs ++ [kk])), kvs ++ [kk], I3'.write (e := kS) (t' := s''.toks) (by rw [hS3]; trivial) (.inl rfl) (fun b o hb e => (Heap.get?_update_ne _ _ _ _ hb).trans e) ⟨_, hc2⟩ ⟨?_, its ++ [v], c2, paired_snoc rk rk3, by
        have ea : (its ++ [v]).toArray = its.toArray.push v := by simp
        rw [ea]
        exact hc2⟩, (kc.trans k3).put nS hS3, upd_same, ?_⟩
    · rw [List.length_append, lk]
      have : j + 1 ≤ vs.length := hj
      simp only [List.length_singleton]
      omega
    · have et : ks.take (j + 1) = ks.take j ++ [ks[j]] := by
        rw [List.take_add_one, ek]
        rfl
      rw [et]
      have kset : Kp (At kS) H3 (upd H3 kS (.lst (kvs ++ [kk]))) := Kp.set rfl hS3
      exact paired_snoc (key.up kset) (paired_imp (fun _ _ z => (z.up k3).up kset) hk)
  case done =>
    rintro s' ⟨Hc, kvs, Ic, kc, hS, hk⟩
    have ef : ks.take (0 + vs.length) = ks := List.take_of_length_le (by rw [hlk, rv.length]; omega)
    rw [ef] at hk
    obtain ⟨hzk, its, n3, rk3, hob⟩ := Ic.hok kS _ hS
    have hpin := Ic.pin (a, seqObj "list" #[] e1) (List.mem_append_right _ List.mem_cons_self)
    have li : its.length = vs.length := by rw [← rk3.length, paired_len hk, hlk, rv.length]
    refine wpAny_bind (listItems_at hob rfl ?_)
    have fin : ∀ st : SortSt, SrtO.Srtd (SrtO.lt2 fun u v => SrtO.lexB (kvOf Hc u) (kvOf Hc v)) (arrOf st).toList → (arrOf st).toList.Perm (its.zip vs) → failedOf st = none → wpAny (model X.prog X.w) A' (ksk_tail a false e1 (.ref kS) st) R E s' := fun st h1 h2 h3 =>
      key_tail (two := two) Ic (fp Hc hpin.2.1) hS hk hlk rk3 rv hz h1 h2 h3 fun ys s2 p1 p2 I5 => h ys _ s2 p1 p2 (by
        have kk1 : Kp No H (upd Hc kS (.lst [])) := kc.put nS hS
        have na : upd Hc kS (.lst []) a = none := (upd_ne haS).trans hpin.2.1
        exact kk1.trans (Kp.new na)) I5 upd_same
    have ez : (its.toArray.zip vs.toArray).toList = its.zip vs := ksk_zip its.toArray vs
    unfold ksk_end
    simp only [Bool.false_eq_true, if_false]
    by_cases h2 : vs.toArray.size < 2
    · rw [if_pos h2, if_pos h2]
      refine wpAny_bind (wpAny_pure ?_)
      rw [StateT.run_pure]
      refine wpAny_bind (wpAny_pure ?_)
      refine fin (SortSt.mk' general' (its.toArray.zip vs.toArray) #[] 7 none) ?_ ?_ rfl
      · show SrtO.Srtd _ (its.toArray.zip vs.toArray).toList
        rw [ez]
        have hs : (its.zip vs).length < 2 := by
          rw [List.length_zip, li]
          rw [List.size_toArray] at h2
          omega
        generalize its.zip vs = l at hs
        match l, hs with
        | [], _ => exact .nil
        | [v], _ => exact List.pairwise_singleton _ _
        | _ :: _ :: l, h => exact absurd h (by rw [List.length_cons, List.length_cons]; omega)
      · show (its.toArray.zip vs.toArray).toList.Perm _
        rw [ez]
    · rw [if_neg h2, if_neg h2]
      rw [List.size_toArray] at h2
      obtain ⟨κ, hkind, hT⟩ := keys_sortable (A := A') Ic hk rk3 (by omega) hpin.1 s'.heap fun _ _ _ e => e
      refine wpAny_bind (hkind _ _ ?_)
      refine wpAny_bind (wpAny_mono (SrtO.wpS_sortO (st0 := SortSt.mk' κ (its.toArray.zip vs.toArray) #[] 7 none)
        (Q := fun _ st' => SrtO.Srtd (SrtO.lt2 fun u v => SrtO.lexB (kvOf Hc u) (kvOf Hc v)) (arrOf st').toList ∧ (arrOf st').toList.Perm (its.zip vs) ∧ failedOf st' = none) (SrtO.swo2 (SrtO.swo_lex (kvOf Hc))) hT rfl (fun p hm => ?_) rfl rfl fun st' a1 a2 a3 => ⟨a1, by
          have q := a2.perm
          rw [show (arrOf (SortSt.mk' κ (its.toArray.zip vs.toArray) #[] 7 none)).toList = its.zip vs from ez] at q
          exact q, a3⟩) ?_ fun _ _ e => e)
      · have hm' : p ∈ (its.toArray.zip vs.toArray).toList := hm
        rw [ez] at hm'
        exact (List.of_mem_zip (a := p.1) (b := p.2) hm').1
      · rintro ⟨⟨⟩, st'⟩ s2 ⟨rfl, hp1, hp2, hf2⟩
        exact fin st' hp1 hp2 hf2
end

/-! ### sorted(.., key=lambda ..) as a rule -/
/-- the items of a list, of a range from 0 -/
def Src (K : PySem.W.Frag) (H : Hp) (v : V) (xs : List V) : Prop := ∃ a, v = .ref a ∧ (SqL K H a xs ∨ ∃ n : Nat, H a = some (.rng 0 n) ∧ n ≤ 100000 ∧ xs = (List.range n).map fun i : Nat => V.int i)
/-- the keys are told one by one; the result as pairs of keys and items -/
def tSortI [Tb] (K : PySem.W.Frag) (N : List Str) (js : List Nat) (tb : TE) (te : TE) : TE := fun σ H Q => te σ H fun v H1 => TbOk H1 ∧ ∃ (xs : List V) (two : Bool) (ks : List (Int × Int)), Src K H1 v xs ∧ ks.length = xs.length ∧
  (∀ (i : Nat) (x : V) (ki : Int × Int), xs[i]? = some x → ks[i]? = some ki → ∀ Hc, Kp No H1 Hc → tb (startF N [x] (js.map (slotAt σ))) Hc fun kk H3 => Kp No Hc H3 ∧ KeyIs two H3 kk ki) ∧
  ∀ (ps : List ((Int × Int) × V)) (p : Addr) (H' : Hp), ps.Perm (ks.zip xs) → SrtO.Srtd (fun x y => SrtO.lexB x.1 y.1) ps → Kp No H1 H' → H1 p = none → H' p = some (.lst (ps.map (·.2))) → Q (.ref p) H'
def tSortL [Tb] (K : PySem.W.Frag) (N : List Str) (js : List Nat) (tb : TE) (te : TE) : TE := fun σ H Q => te σ H fun v H1 => TbOk H1 ∧ ∃ (xs : List V) (two : Bool) (kf : V → Int × Int), Src K H1 v xs ∧
  (∀ x ∈ xs, ∀ Hc, Kp No H1 Hc → tb (startF N [x] (js.map (slotAt σ))) Hc fun kk H3 => Kp No Hc H3 ∧ KeyIs two H3 kk (kf x)) ∧
  ∀ (ys : List V) (p : Addr) (H' : Hp), ys.Perm xs → SrtO.Srtd (fun x y => SrtO.lexB (kf x) (kf y)) ys → Kp No H1 H' → H1 p = none → H' p = some (.lst ys) → Q (.ref p) H'
def tLamb [Tb] (mk : Addr → LF) : TE := fun σ H Q => TbOk H ∧ ∀ f c' H1, Kp No H H1 → H1 f = some (LamO f (mk c')) → H1 c' = some (CodeO c' (mk c').qual) → Q (.ref f) H1
section
variable [Tb] {X : Cx} {c Pt : Addr} {params : Arguments} {body : Expr} {scope : Scope} {lpos kpos pos p : Pos} {e : Expr} {te tb : TE} {N fr : List Str} {js : List Nat} {k : Nat} {p0 : Str}
theorem pe_lamb (TB : TabB X.base X.mg c Pt) (hcode : X.env.code = .ref c) (hm : (Pt, X.env.qual ++ "<lambda>") ∈ Tb.tabs) (hu : ∀ p ∈ Tb.tabs, p.1 = Pt → p.2 = X.env.qual ++ "<lambda>") (hdef : defaultsOf params X.env = ([], []))
    (hfree : ∀ y ∈ scope.names, y.2 = .free → X.env.scope.names.lookup y.1 = some .cell ∨ X.env.scope.names.lookup y.1 = some .free) :
    PE X (.Lambda params body scope lpos) (tLamb fun c' => ⟨X.env.qual ++ "<lambda>", params, body, scope, cloFrom X.env.cells scope.names [], c'⟩) := by
  refine ⟨fun pins s σ H Q I h => ?_⟩
  obtain ⟨hT, h⟩ := h
  exact lam_made I TB hcode hm hu hT hdef (fun y hy e => (hfree y hy e).elim (fun z => I.ok.has _ (.inl z)) fun z => I.ok.has _ (.inr z)) fun f c' H1 s' I1 k1 h1 h2 => ⟨.ref f, H1, I1, rfl, h f c' H1 k1 h1 h2⟩
theorem vals_range {acc : Array Value} {n : Nat} (h : ItemsOf (fun i v => ∃ t, v = Value.int ((0 : Int) + (i : Int) * 1) t) acc n) : Vals ((List.range n).map fun i : Nat => V.int i) acc.toList := by
  have key : ∀ (l : List Value) (j : Nat), (∀ i v, l[i]? = some v → ∃ t, v = Value.int ((j + i : Nat) : Int) t) → Vals ((List.range' j l.length).map fun i : Nat => V.int i) l := by
    intro l
    induction l with
    | nil => intro j _; exact .nil
    | cons v l ih =>
      intro j hj
      rw [List.length_cons, List.range'_succ, List.map_cons]
      refine .cons (hj 0 v rfl) (ih (j + 1) fun i u hu => ?_)
      obtain ⟨t, e⟩ := hj (i + 1) u (by simpa using hu)
      exact ⟨t, by rw [e]; congr 1; omega⟩
  have q := key acc.toList 0 fun i v hv => by
    obtain ⟨t, e⟩ := h.2 i v (by rw [← Array.getElem?_toList]; exact hv)
    exact ⟨t, by rw [e]; congr 1; omega⟩
  rw [Array.length_toList, h.1, ← List.range_eq_range'] at q
  exact q
theorem collect_src {pins : List (Addr × Obj)} {σ : L2.St} {H : Hp} {s : Shared} {v : V} {u : Value} {xs : List V} {A : Around} {R : List Value → Shared → Prop} {E : Value → Shared → Prop} (I : Inv X pins σ H s) (hh : A.handled = none) (hs : Src X.K H v xs) (r : RelV v u)
    (h : ∀ (acc : List Value) (h' : Heap) (tk : Nat), (∀ b o, s.heap.get? b = some o → h'.get? b = some o) → Vals xs acc → acc.length ≤ sizeLine → R acc { s with heap := h', toks := tk }) : wpAny (model X.prog X.w) A (collect u) R E s := by
  obtain ⟨a, rfl, hs⟩ := hs
  obtain rfl : u = Value.ref a := r
  rcases hs with hs | ⟨n, hr, hn, rfl⟩
  · obtain ⟨its, rv, hl, hz⟩ := I.list hs
    refine collect_list hl.isList (h its _ s.toks (fun b o q => ?_) rv (by rw [← rv.length]; exact hz)) (by rw [← rv.length]; exact hz)
    have hlt : b < s.heap.objs.size := Heap.lt_size q
    exact (Heap.get?_update_ne _ _ _ _ (Nat.ne_of_lt hlt)).trans (Heap.get?_push_of_some _ q)
  · obtain ⟨t, u, v, ho⟩ := I.hok a _ hr
    have es : Builtin.Range.rangeSize 0 n 1 = n := by
      unfold Builtin.Range.rangeSize
      split <;> omega
    refine collect_range (a := 0) (b := n) (c := 1) hh ho (small_one (by decide) (by decide) (by omega) (by omega)) es (by omega) fun h' tk acc hk hi => ?_
    have rv := vals_range hi
    refine h acc.toList h' tk hk rv ?_
    rw [← rv.length, List.length_map, List.length_range]
    exact Nat.le_trans hn (by decide)
/-- sorted(e, key=lambda p0: body) -/
theorem ye_sortI (TB : TabB X.base X.mg c Pt) (hcode : X.env.code = .ref c) (hm : (Pt, X.env.qual ++ "<lambda>") ∈ Tb.tabs) (hu : ∀ p ∈ Tb.tabs, p.1 = Pt → p.2 = X.env.qual ++ "<lambda>") (hb : ndefB X.env.scope scope fr = true)
    (hjs : js.map (fun j => X.N[j]?) = fr.map some) (hdef : defaultsOf params X.env = ([], [])) (room : Room (k + 3) X.A) (hg : Gl X "sorted") (hmg : X.mg "sorted" = none)
    (W : ∀ f c', LamW X k N [p0] fr f ⟨X.env.qual ++ "<lambda>", params, body, scope, cloFrom X.env.cells scope.names [], c'⟩ tb) (he : PE X e te)
    (h1 : backTo pos (starEach [e] X.env) = (false, eval e X.env) :: backTo pos (starEach [] X.env) := by rfl) (hpl : (backTo pos (starEach [e] X.env)).any (·.1) = false := by rfl) (hsp : starEach [e] X.env = (false, eval e X.env) :: starEach [] X.env := by rfl) :
    PE X (.Call (.Name "sorted" p) [e] [⟨some "key", .Lambda params body scope lpos, kpos⟩] pos) (tSortI X.K N js tb te) := by
  refine ⟨fun pins s σ H Q I h => ?_⟩
  have hk := pk_cons (nm := some "key") (kpos := kpos) (pe_lamb (lpos := lpos) (body := body) TB hcode hm hu hdef (ndef_free hb)) pk_nil
  refine wpAny_Call_Name_kw (ld_blt I hg hmg boot_sorted ?_ (by decide) (by decide))
  refine PyProof.Rows.callWith_kw (one_arg he I h (fun v s1 x H1 I1 r1 q1 => ?_) hsp) h1 hpl (by rfl) (by rfl)
  obtain ⟨hT, xs, two, ks, src, hlk, turn, q⟩ := q1
  refine thn (hk.run pos pins s1 σ H1 (fun zs H2 => ∃ f c', zs = [.ref f] ∧ Kp No H1 H2 ∧ H2 f = some (LamO f ⟨X.env.qual ++ "<lambda>", params, body, scope, cloFrom X.env.cells scope.names [], c'⟩) ∧ H2 c' = some (CodeO c' (X.env.qual ++ "<lambda>"))) I1 ⟨hT, fun f c' H2 k2 hf hc => ⟨f, c', rfl, k2, hf, hc⟩⟩) fun ws s2 ⟨zs, H2, I2, r2, f, c', ez, k2, hf, hc⟩ => ?_
  subst ez
  obtain rfl := Vals.ref1 r2
  show wpAny _ _ (call (.builtin "sorted") [v] [(Str.ofString "key", .ref f)]) _ _ _
  have src2 : Src X.K H2 x xs := by
    obtain ⟨a, e1, hs⟩ := src
    refine ⟨a, e1, ?_⟩
    rcases hs with hs | ⟨n, h1, h2⟩
    · exact .inl (k2.seq hs)
    · exact .inr ⟨n, k2.all a _ h1 id, h2⟩
  refine call_function_entry_kw kind_sorted plain_sorted entry_sorted (ksk_s1 _ _) ?_
  unfold Builtin.«sorted»
  refine wpAny_bind (m := checkCount "sorted" 1 1 _) (wpAny_pure ?_)
  refine wpAny_bind (collect_src I2 room.in1.hd src2 r1 fun acc h' tk kp rv hz => ?_)
  refine wpAny_bind (wpAny_newList ?_ hz)
  have I3 : Inv X pins σ H2 { s2 with heap := h', toks := tk } := I2.kept kp
  have I4 : Inv X pins σ H2 { s2 with heap := h'.push (seqObj "list" acc.toArray 0), toks := tk } := I3.kept (t' := tk) fun b o e => Heap.get?_push_of_some _ e
  have hoL : (h'.push (seqObj "list" acc.toArray 0)).get? h'.objs.size = some (seqObj "list" acc.toArray 0) := Heap.get?_push_size _ rfl
  have na : H2 h'.objs.size = none := I3.hok.fresh (Nat.le_refl _)
  refine wpAny_bind (wpAny_holding (wpAny_call_entry_kw slot_list_sort ⟨_, hoL, rfl⟩ entry_list_sort ?body (ksk_l1 _ _)))
  case body =>
    rw [ksk_t1]
    refine key_sort (two := two) (ks := ks) (W f c') (room.in1.in1) rfl I4 hf hc (Caps.made I4.ok (ndef_free hb) (ndef_fr hb) hjs) rv hz hoL (fun H' hn => I3.fpOk (Nat.le_refl _) hn) na hlk (fun i x' ki h1 h2 Hc kc => turn i x' ki h1 h2 Hc (k2.trans kc)) fun ys H' s' p1 p2 k3 I5 hp => ⟨_, rfl, ?_⟩
    exact wpAny_pure ⟨_, rfl, ⟨.ref h'.objs.size, H', I5, rfl, q ys _ H' p1 p2 (k2.trans k3) (k2.dom _ na) hp⟩⟩
theorem zip_map_mem {kf : V → Int × Int} : ∀ {xs : List V} {p : (Int × Int) × V}, p ∈ (xs.map kf).zip xs → p.1 = kf p.2
  | x :: xs, p, h => by
    rw [List.map_cons, List.zip_cons_cons] at h
    rcases List.mem_cons.mp h with e | h
    · rw [e]
    · exact zip_map_mem h
theorem ye_sortL {e : Expr} {te : TE} (h : PE X (.Call (.Name "sorted" p) [e] [⟨some "key", .Lambda params body scope lpos, kpos⟩] pos) (tSortI X.K N js tb (cl te))) :
    PE X (.Call (.Name "sorted" p) [e] [⟨some "key", .Lambda params body scope lpos, kpos⟩] pos) (tSortL X.K N js tb te) :=
  PE.imp h fun σ H Q h => ⟨_, h, fun v H1 q => by
    obtain ⟨hT, xs, two, kf, src, turn, q⟩ := q
    refine ⟨hT, xs, two, xs.map kf, src, List.length_map .., fun i x ki h1 h2 Hc kc => ?_, fun ps pa H' p1 p2 k1 n1 h1 => ?_⟩
    · rw [List.getElem?_map, h1] at h2
      obtain rfl := Option.some.inj h2
      exact turn x (List.mem_of_getElem? h1) Hc kc
    · refine q (ps.map (·.2)) pa H' ?_ ?_ k1 n1 h1
      · have z := p1.map (·.2)
        have e2 : ((xs.map kf).zip xs).map (·.2) = xs := List.map_snd_zip (by rw [List.length_map]; exact Nat.le_refl _)
        rw [e2] at z
        exact z
      · refine List.pairwise_map.mpr (p2.imp_of_mem fun {a b} ha hb z => ?_)
        have z' : SrtO.lexB b.1 a.1 = false := z
        rw [zip_map_mem (p1.mem_iff.mp ha), zip_map_mem (p1.mem_iff.mp hb)] at z'
        exact z'⟩
end
end Y

set_option Elab.async false
set_option linter.all false
set_option maxRecDepth 100000
set_option maxHeartbeats 4000000
/-! M1: defs that make lambdas, by name; range as a thing; isinstance. -/
namespace Y
open PySem PySem.Spec PyProof.Rows L2 LamX NdefX

/-! ### a def whose code object and table are known -/
def DefL (K : PySem.W.Frag) (mg : Str → Option Value) (x : Str) (st : Stmt) (c : Addr) : Prop :=
  ∃ f fd, FunD K x x (defArgs st) (defBody st) (defScope st) [] [] f fd ∧ mg x = some (.ref f) ∧ fd.code = .ref c
abbrev lamName (x : Str) : Str := (x ++ ".<locals>.") ++ "<lambda>"
/-- the def st at the module's name x makes lambdas; its table is one of those that are kept -/
def LamAt [Tb] (K : PySem.W.Frag) (mg : Str → Option Value) (base : Heap) (x : Str) (st : Stmt) : Prop :=
  ∃ c Pt, DefL K mg x st c ∧ TabB base mg c Pt ∧ (Pt, lamName x) ∈ Tb.tabs ∧ ∀ p ∈ Tb.tabs, p.1 = Pt → p.2 = lamName x
section
variable {P : Program} {w : World} {K : PySem.W.Frag} {mg : Str → Option Value} {base : Heap} {k : Nat} {x : Str} {sp : Sp}
theorem defL_of {st : Stmt} {p : Str × Option Str} {fd : FuncData} (F : FunD K x x (defArgs st) (defBody st) (defScope st) [] [] (He.fAd K p) fd) (hm : mg x = some (.ref (He.fAd K p))) : DefL K mg x st (He.codeOf K p) := by
  refine ⟨_, fd, F, hm, ?_⟩
  obtain ⟨_, _, _, _, _, _, _, cd, _, _, e, lk, hcd, _, _⟩ := F.ex
  obtain ⟨c, rfl⟩ := He.codeIn_ref hcd
  have e2 : fd.code = .ref c := by rw [e]
  rw [He.codeOf_eq lk e2]
  exact e2
theorem cal_ofL {st : Stmt} {N ps : List Str} {c : Addr} (D : DefL K mg x st c) (S : FnScope N ps (defScope st))
    (bnd : ∀ (kV doc pm : Value) (an : Option Addr) (cdv ct : Value) (us : List Value), us.length = ps.length → bindArgs (PySem.W.fnOf x x (defArgs st) (defBody st) (defScope st) .none kV doc pm an cdv ct) ⟨us, []⟩ = pure (ps.zip us))
    (ar : ∀ vs H Q E, sp vs H Q E → vs.length = ps.length)
    (hb : ∀ (f : Addr) (A : Around) (out : List Env) (s : Shared) (H : Hp) (vs : List V) (Q : VK) (E : XK), Room k (A.deeper (envOfC x (defScope st) s.heap.objs.size f (.ref c))) → (A.deeper (envOfC x (defScope st) s.heap.objs.size f (.ref c))).guards = some [] → sp vs H Q E →
      ∃ t, PSs (cxOf CX0 P w K mg base N x (defScope st) f (.ref c) A out s H E).nox (defBody st) t ∧ t { nx := fun _ H' => Q .non H', rt := Q } (start N vs) H) : Cal P w K mg base (k + 1) x sp := by
  obtain ⟨f, fd, F, hm, hc⟩ := D
  refine ⟨f, fd, ps, ?_, hm, F.kp, F.bindsN bnd⟩
  obtain ⟨_, _, _, _, _, _, _, cd, _, _, rfl, lk, hcd, _, _⟩ := F.ex
  obtain rfl : cd = .ref c := hc
  refine goes_of lk hcd S ar fun A out s H vs Q E r g q => ?_
  obtain ⟨t, h1, h2⟩ := hb f A out s H vs Q E r g q
  exact ⟨t, h1.nox, h2⟩
end

/-! ### range(n) as a thing, types, isinstance -/
section
variable {X : Cx} {K : PySem.W.Frag}
def yRg1 : List V → Hp → VK → Prop := fun vs H Q => match vs with
  | [.int n] => ∀ p, H p = none → Q (.ref p) (upd H p (.rng 0 n))
  | _ => False
theorem cRange1 : CallR X (.type "range") yRg1 := by
  intro pins s σ H vs us Q I r h
  unfold yRg1 at h
  split at h
  · rename_i n
    obtain ⟨u1, rfl, r1⟩ := vals1 r
    obtain ⟨t, rfl⟩ := r1
    refine call_range_1 ⟨.ref s.heap.objs.size, upd H s.heap.objs.size (.rng 0 n), I.laid (t' := s.toks + 1 + 1) (fun b o e => Heap.get?_push_of_some _ e) (Nat.le_refl _) ?_, rfl, h _ (I.hok.fresh (Nat.le_refl _))⟩
    exact ⟨_, _, _, Heap.get?_push_size _ rfl⟩
  · exact h.elim
theorem ye_ty {x : Str} {n : String} {pos : Pos} (hg : Gl X x) (hm : X.mg x = none) (hv : bootBuiltins x = some (.type n)) (hn : x ≠ "__name__" := by decide) (hdb : (x == ("__debug__" : Str)) = false := by decide) : PE X (.Name x pos) (tC (.ty n)) :=
  ⟨fun pins s σ H Q I h => ld_blt I hg hm hv ⟨.ty n, H, I, rfl, h⟩ hn hdb⟩
def yIsi (K : PySem.W.Frag) : List V → Hp → VK → Prop := fun xs H Q => match xs with
  | [x, .ty n] => ∃ m b, TyX K H x (.type m) ∧ kitB m n = some b ∧ Q (.bl b) H
  | _ => False
theorem kIsi (h : X.K = K) : CallR X (.builtin "isinstance") (yIsi K) := by
  subst h
  refine CallR.imp call_isi fun xs H Q h => ?_
  unfold yIsi at h
  split at h
  · obtain ⟨m, b, h1, h2, h3⟩ := h
    exact ⟨_, _, _, _, b, rfl, .ty _, h1, kit_ty h2, h3⟩
  · exact h.elim
end
end Y

set_option Elab.async false
set_option linter.all false
set_option maxRecDepth 100000
set_option maxHeartbeats 4000000
/-! R1: ranks, as mathematics. -/
namespace Y
open PySem PySem.Spec PyProof.Rows L2

theorem perm_uniq {α : Type} {R : α → α → Prop} (anti : ∀ a b, R a b → R b a → a = b) : ∀ {l m : List α}, l.Perm m → l.Pairwise R → m.Pairwise R → l = m
  | [], m, p, _, _ => (List.Perm.eq_nil p.symm).symm
  | a :: l, [], p, _, _ => absurd p.length_eq (by simp)
  | a :: l, b :: m, p, hl, hm => by
    have e : a = b := by
      rcases List.mem_cons.mp (p.mem_iff.mp (List.mem_cons_self (a := a) (l := l))) with e | ha
      · exact e
      · rcases List.mem_cons.mp (p.mem_iff.mpr (List.mem_cons_self (a := b) (l := m))) with e | hb
        · exact e.symm
        · exact anti a b ((List.pairwise_cons.mp hl).1 b hb) ((List.pairwise_cons.mp hm).1 a ha)
    subst e
    rw [perm_uniq anti p.cons_inv (List.pairwise_cons.mp hl).2 (List.pairwise_cons.mp hm).2]

/-- a layer's strength, by its number -/
def stg (r : List Lay) (i : Nat) : Int := (r.getD i (default, 0)).2
theorem stg_at {r : List Lay} {i : Nat} (h : i < r.length) : stg r i = r[i].2 := by
  unfold stg
  rw [List.getD_eq_getElem?_getD, List.getElem?_eq_getElem h]
  rfl
/-- i ranks ahead of j -/
def ahead (r : List Lay) (i j : Nat) : Bool := decide (stg r j < stg r i) || (decide (stg r i = stg r j) && decide (j < i))
theorem ahead_iff {r : List Lay} {i j : Nat} : ahead r i j = true ↔ stg r j < stg r i ∨ (stg r i = stg r j ∧ j < i) := by
  unfold ahead
  simp
theorem ahead_no {r : List Lay} {i j : Nat} : ahead r i j = false ↔ ¬ (stg r j < stg r i ∨ (stg r i = stg r j ∧ j < i)) := by
  rw [← ahead_iff]
  cases ahead r i j <;> simp
theorem ahead_anti (r : List Lay) (i j : Nat) (h1 : ahead r j i = false) (h2 : ahead r i j = false) : i = j := by
  rw [ahead_no] at h1 h2
  omega
def rankM (r : List Lay) : List Nat := (List.range r.length).mergeSort fun i j => !ahead r j i
theorem rankM_perm (r : List Lay) : (rankM r).Perm (List.range r.length) := List.mergeSort_perm _ _
theorem rankM_sorted (r : List Lay) : (rankM r).Pairwise fun i j => ahead r j i = false := by
  have h := List.pairwise_mergeSort (le := fun i j => !ahead r j i) (fun a b c h1 h2 => by
    simp only [Bool.not_eq_true'] at h1 h2 ⊢
    rw [ahead_no] at h1 h2 ⊢
    omega) (fun a b => by
    cases h : ahead r b a with
    | false => rfl
    | true =>
      have := ahead_iff.mp h
      have q : ahead r a b = false := ahead_no.mpr (by omega)
      rw [q]
      rfl) (List.range r.length)
  exact h.imp fun z => by simpa using z
theorem rankM_uniq {r : List Lay} {ys : List Nat} (p : ys.Perm (List.range r.length)) (s : ys.Pairwise fun i j => ahead r j i = false) : ys = rankM r :=
  perm_uniq (ahead_anti r) (p.trans (rankM_perm r).symm) s (rankM_sorted r)
theorem rankM_length (r : List Lay) : (rankM r).length = r.length := by rw [(rankM_perm r).length_eq, List.length_range]
theorem rankM_mem {r : List Lay} {i : Nat} : i ∈ rankM r ↔ i < r.length := by rw [(rankM_perm r).mem_iff, List.mem_range]
theorem rankM_nodup (r : List Lay) : (rankM r).Nodup := (rankM_perm r).nodup_iff.mpr List.nodup_range
theorem rankM_strict (r : List Lay) : (rankM r).Pairwise fun i j => ahead r i j = true := by
  have h := List.Pairwise.and (rankM_sorted r) (rankM_nodup r)
  refine h.imp fun {i j} ⟨h1, h2⟩ => ?_
  rw [ahead_no] at h1
  rw [ahead_iff]
  omega
theorem rankM_nil : rankM [] = [] := List.length_eq_zero_iff.mp (rankM_length [])
/-- how many rank ahead -/
def cntM (r : List Lay) (i : Nat) : Nat := ((List.range r.length).filter fun o => ahead r o i).length
theorem strict_pos (r : List Lay) : ∀ {l : List Nat} {k i : Nat}, (l.Pairwise fun i j => ahead r i j = true) → l[k]? = some i → (l.filter fun o => ahead r o i).length = k
  | [], _, _, _, h => by simp at h
  | x :: l, 0, i, hp, h => by
    obtain rfl : x = i := by simpa using h
    have h1 := (List.pairwise_cons.mp hp).1
    have e : (x :: l).filter (fun o => ahead r o x) = [] := List.filter_eq_nil_iff.mpr fun o ho => by
      rcases List.mem_cons.mp ho with e | ho
      · rw [e, ahead_iff]
        omega
      · have q := ahead_iff.mp (h1 o ho)
        rw [ahead_iff]
        omega
    rw [e]
    rfl
  | x :: l, k + 1, i, hp, h => by
    have h' : l[k]? = some i := by simpa using h
    have hx := (List.pairwise_cons.mp hp).1 i (List.mem_of_getElem? h')
    rw [List.filter_cons_of_pos (p := fun o => ahead r o i) hx, List.length_cons, strict_pos r (List.pairwise_cons.mp hp).2 h']
theorem cntM_pos {r : List Lay} {k i : Nat} (h : (rankM r)[k]? = some i) : cntM r i = k := by
  unfold cntM
  rw [← ((rankM_perm r).filter _).length_eq]
  exact strict_pos r (rankM_strict r) h
theorem rankM_at {r : List Lay} {i : Nat} (h : i < r.length) : (rankM r)[cntM r i]? = some i := by
  obtain ⟨k, hk⟩ := List.mem_iff_getElem?.mp (rankM_mem.mpr h)
  rw [cntM_pos hk]
  exact hk
theorem cntM_lt {r : List Lay} {i : Nat} (h : i < r.length) : cntM r i < r.length := by
  have q := (List.getElem?_eq_some_iff.mp (rankM_at h)).1
  rw [rankM_length] at q
  exact q
/-- the keys by which ranked sorts -/
def rkey (r : List Lay) : V → Int × Int
  | .int i => (0 - stg r i.toNat, 0 - i)
  | _ => (0, 0)
theorem rkey_lex {r : List Lay} {i j : Nat} : SrtO.lexB (rkey r (.int (i : Nat))) (rkey r (.int (j : Nat))) = ahead r i j := by
  have h : SrtO.lexB (0 - stg r i, 0 - (i : Int)) (0 - stg r j, 0 - (j : Int)) = true ↔ ahead r i j = true := by
    rw [SrtO.lexB_iff, ahead_iff]
    simp only
    omega
  show SrtO.lexB (0 - stg r i, 0 - (i : Int)) (0 - stg r j, 0 - (j : Int)) = ahead r i j
  cases e : ahead r i j with
  | true => exact h.mpr e
  | false =>
    cases e2 : SrtO.lexB (0 - stg r i, 0 - (i : Int)) (0 - stg r j, 0 - (j : Int)) with
    | false => rfl
    | true => rw [h.mp e2] at e; cases e
abbrev natV (l : List Nat) : List V := l.map fun i : Nat => V.int (i : Int)
/-- what sorted told is the ranks -/
theorem ranked_is {r : List Lay} {ys : List V} (p : ys.Perm (natV (List.range r.length))) (s : SrtO.Srtd (fun x y => SrtO.lexB (rkey r x) (rkey r y)) ys) : ys = natV (rankM r) := by
  obtain ⟨zs, rfl⟩ : ∃ zs : List Nat, ys = natV zs := by
    have hm : ∀ y ∈ ys, ∃ i : Nat, y = .int i := fun y hy => by
      obtain ⟨i, _, e⟩ := List.mem_map.mp (p.mem_iff.mp hy)
      exact ⟨i, e.symm⟩
    clear p s
    induction ys with
    | nil => exact ⟨[], rfl⟩
    | cons y ys ih =>
      obtain ⟨i, rfl⟩ := hm y List.mem_cons_self
      obtain ⟨zs, rfl⟩ := ih fun z hz => hm z (List.mem_cons_of_mem _ hz)
      exact ⟨i :: zs, rfl⟩
  have inj : ∀ a b : Nat, V.int (a : Int) = V.int (b : Int) → a = b := fun a b h => by
    injection h with h
    omega
  have p2 : zs.Perm (List.range r.length) := by
    have q := p.filterMap (fun v : V => match v with | .int i => some i.toNat | _ => none)
    have e : ∀ l : List Nat, (natV l).filterMap (fun v : V => match v with | .int i => some i.toNat | _ => none) = l := by
      intro l
      induction l with
      | nil => rfl
      | cons a l ih =>
        show (some ((a : Int).toNat)).toList ++ _ = _
        rw [show (natV l).filterMap _ = l from ih]
        rfl
    rw [e, e] at q
    exact q
  have s2 : zs.Pairwise fun i j => ahead r j i = false := (List.pairwise_map.mp s).imp fun {i j} h => by
    have h' : SrtO.lexB (rkey r (.int (j : Nat))) (rkey r (.int (i : Nat))) = false := h
    rw [rkey_lex] at h'
    exact h'
  rw [rankM_uniq p2 s2]

/-! ### lists of small whole numbers, as data -/
def natsD (l : List Nat) : PyData := .list (l.map fun i : Nat => PyData.int (i : Int))
theorem natsD_dp {K : PySem.W.Frag} {H : Hp} {a : Addr} {l : List Nat} (h : H a = some (.lst (natV l))) : Dp K H (.ref a) (natsD l) := by
  refine .lst (.inl (.inl h)) ?_
  clear h
  induction l with
  | nil => exact .nil
  | cons i l ih => exact .cons (.int _) ih
theorem natsD_sh {l : List Nat} (h : ∀ i ∈ l, i < 100000) (hl : l.length ≤ 1000) : Sh (natsD l) := by
  refine ⟨fineAll_of fun d hd => ?_, ?_, ?_⟩
  · obtain ⟨i, hi, rfl⟩ := List.mem_map.mp hd
    have := h i hi
    have e : (100000 : Nat) < 10 ^ 500 := by decide +kernel
    exact decide_eq_true (show (i : Int).natAbs < 10 ^ 500 by omega)
  · rw [natsD, PyData.depth]
    have := depthAll_le (n := 0) (ds := l.map fun i : Nat => PyData.int (i : Int)) fun d hd => by
      obtain ⟨i, _, rfl⟩ := List.mem_map.mp hd
      simp [PyData.depth]
    omega
  · rw [natsD, PyData.bulk]
    have := bulkAll_le (n := 1) (ds := l.map fun i : Nat => PyData.int (i : Int)) fun d hd => by
      obtain ⟨i, _, rfl⟩ := List.mem_map.mp hd
      simp [PyData.bulk]
    rw [List.length_map] at this
    omega
/-- the ranks found so far, by number -/
def foundM (r : List Lay) (k : Nat) : List V := (rankM r).map fun i : Nat => if i < k then V.int (i : Int) else .non
theorem foundM_zero (r : List Lay) : foundM r 0 = List.replicate r.length .non := by
  unfold foundM
  rw [← rankM_length r, List.map_const'.symm]
  exact List.map_congr_left fun i _ => if_neg (Nat.not_lt_zero i)
theorem foundM_length (r : List Lay) (k : Nat) : (foundM r k).length = r.length := by rw [foundM, List.length_map, rankM_length]
theorem foundM_set {r : List Lay} {k : Nat} (h : k < r.length) : (foundM r k).set (cntM r k) (.int (k : Int)) = foundM r (k + 1) := by
  refine List.ext_getElem? fun j => ?_
  rw [List.getElem?_set]
  have e := rankM_at h
  split
  · rename_i hj
    subst hj
    rw [if_pos (by rw [foundM_length]; exact cntM_lt h), foundM, List.getElem?_map, e]
    simp
  · rename_i hj
    unfold foundM
    rw [List.getElem?_map, List.getElem?_map]
    cases q : (rankM r)[j]? with
    | none => rfl
    | some i =>
      have hi : i ≠ k := fun z => by
        subst z
        exact hj (cntM_pos q)
      have e2 : (i < k) = (i < k + 1) := propext ⟨fun _ => by omega, fun _ => by omega⟩
      show some _ = some _
      simp only [e2]
theorem foundM_all (r : List Lay) : foundM r r.length = natV (rankM r) := List.map_congr_left fun i hi => if_pos (rankM_mem.mp hi)
theorem fm_filter {α : Type} (p : α → Bool) (l : List α) : (l.filterMap fun o => if p o = true then some o else none) = l.filter p := by
  induction l with
  | nil => rfl
  | cons a l ih =>
    rw [List.filterMap_cons, List.filter_cons]
    cases p a with
    | true => simp [ih]
    | false => simp [ih]
theorem rgV_nat {n : Nat} : rgV 0 (n : Int) = natV (List.range n) := by
  unfold rgV
  rw [Int.sub_zero, Int.toNat_natCast]
  exact List.map_congr_left fun i _ => by simp
theorem rep_one {α : Type} (n : Nat) (a : α) : (List.replicate n [a]).flatten = List.replicate n a := by
  induction n with
  | zero => rfl
  | succ n ih => rw [List.replicate_succ, List.flatten_cons, ih, List.replicate_succ]; rfl
theorem ImAll.ofNats {K : PySem.W.Frag} {H : Hp} : ∀ l : List Nat, ImAll K H (natV l) (l.map fun i : Nat => PyData.int (i : Int))
  | [] => .nil
  | _ :: l => .cons (.int _) (ImAll.ofNats l)
theorem ixNat {n j : Nat} (hj : j < n) : ixN n (j : Int) = some j := by
  unfold ixN
  rw [if_pos (by omega), if_pos (by omega), Int.toNat_natCast]
/-- the first's number, or None -/
def firstV (r : List Lay) : V := match rankM r with
  | [] => .non
  | i :: _ => .int (i : Nat)
def firstD (r : List Lay) : PyData := match rankM r with
  | [] => .none
  | i :: _ => .int (i : Nat)
theorem firstD_dp {K : PySem.W.Frag} {H : Hp} (r : List Lay) : Dp K H (firstV r) (firstD r) := by
  unfold firstV firstD
  cases rankM r with
  | nil => exact .non
  | cons i l => exact .int _
theorem int_sh {i : Int} (h : i.natAbs < 10 ^ 500) : Sh (.int i) := ⟨decide_eq_true h, by simp [PyData.depth], by simp [PyData.bulk]⟩
theorem none_sh : Sh .none := ⟨rfl, by simp [PyData.depth], by simp [PyData.bulk]⟩
theorem small_fine {i : Nat} (h : i < 100000) : (i : Int).natAbs < 10 ^ 500 := by
  have e : (100000 : Nat) < 10 ^ 500 := by decide +kernel
  omega
theorem firstD_sh {r : List Lay} (h : r.length ≤ 10000) : Sh (firstD r) := by
  unfold firstD
  cases e : rankM r with
  | nil => exact none_sh
  | cons i l =>
    have hi := rankM_mem.mp (show i ∈ rankM r by rw [e]; exact List.mem_cons_self)
    exact int_sh (small_fine (by omega))
theorem firstV_at (r : List Lay) : atI (natV (rankM r) ++ [.non]) 0 = some (firstV r) := by
  unfold firstV
  cases rankM r with
  | nil => rfl
  | cons i l => exact atI_nat (j := 0) rfl
theorem ImAll.bools {K : PySem.W.Frag} {H : Hp} : ∀ {bs : List Bool} {ys : List V}, ImAll K H ys (bs.map PyData.bool) → ys = bs.map V.bl
  | [], [], _ => rfl
  | _ :: _, _ :: _, .cons h1 h2 => by rw [Im.blInv h1, ImAll.bools h2]; rfl
theorem rankD_sh {r : List Lay} (h : r.length ≤ 1000) : Sh (natsD (rankM r)) := natsD_sh (fun i hi => by have := rankM_mem.mp hi; omega) (by rw [rankM_length]; exact h)
theorem yEq_str {K : PySem.W.Frag} {a : Str} {H : Hp} {Q : VK} (h : Q (.bl true) H) : yEq K (.str a) (.str a) H Q := by
  show Q (.bl (decide (a = a))) H
  rw [decide_eq_true rfl]
  exact h
end Y

set_option Elab.async false
set_option linter.all false
set_option maxRecDepth 100000
set_option maxHeartbeats 4000000
/-! T1: thinned rows, as mathematics. -/
namespace Y
open PySem PySem.Spec PyProof.Rows L2

/-- the numbers of the layers of a rank below m -/
def keepI (r : List Lay) (m : Nat) : List Nat := (List.range r.length).filter fun i => decide (cntM r i < m)
def thinM (r : List Lay) (m : Nat) : List Lay := (keepI r m).filterMap fun i => r[i]?
theorem thinM_eq (r : List Lay) (m : Nat) : thinM r m = (List.range r.length).filterMap fun i => if decide (cntM r i < m) = true then r[i]? else none := by
  unfold thinM keepI
  rw [List.filterMap_filter]
theorem thinM_length_le (r : List Lay) (m : Nat) : (thinM r m).length ≤ r.length := by
  rw [thinM_eq]
  exact Nat.le_trans (List.length_filterMap_le _ _) (by rw [List.length_range]; exact Nat.le_refl _)
theorem thinM_mem {r : List Lay} {m : Nat} {l : Lay} (h : l ∈ thinM r m) : l ∈ r := by
  obtain ⟨i, _, e⟩ := List.mem_filterMap.mp h
  exact List.mem_of_getElem? e
/-- sorted beginnings of the ranks -/
theorem take_sorted {r : List Lay} {m : Nat} {zs : List Nat} (p : zs.Perm ((rankM r).take m)) (s : zs.Pairwise (· ≤ ·)) : zs = keepI r m := by
  have nd : ((rankM r).take m).Nodup := (rankM_nodup r).sublist (List.take_sublist _ _)
  refine perm_uniq (R := fun a b : Nat => a ≤ b) (fun a b h1 h2 => Nat.le_antisymm h1 h2) ?_ s ?_
  · refine p.trans ((List.perm_ext_iff_of_nodup nd ?_).mpr fun i => ?_)
    · exact List.nodup_range.filter _
    · unfold keepI
      rw [List.mem_filter, List.mem_range, decide_eq_true_eq]
      constructor
      · intro hi
        obtain ⟨k, hk⟩ := List.mem_iff_getElem?.mp hi
        rw [List.getElem?_take] at hk
        split at hk
        · rename_i hkm
          refine ⟨rankM_mem.mp (List.mem_of_getElem? hk), ?_⟩
          rw [cntM_pos hk]
          exact hkm
        · cases hk
      · rintro ⟨h1, h2⟩
        refine List.mem_iff_getElem?.mpr ⟨cntM r i, ?_⟩
        rw [List.getElem?_take, if_pos h2]
        exact rankM_at h1
  · exact (List.pairwise_lt_range.imp fun h => Nat.le_of_lt h).filter _
/-- who is ahead ranks less -/
theorem ahead_trans {r : List Lay} {i j k : Nat} (h1 : ahead r i j = true) (h2 : ahead r j k = true) : ahead r i k = true := by
  rw [ahead_iff] at *
  omega
theorem ahead_irr (r : List Lay) (i : Nat) : ahead r i i = false := by
  rw [ahead_no]
  omega
theorem cnt_lt_of_ahead {r : List Lay} {i j : Nat} (hj : j < r.length) (hi : i < r.length) (h : ahead r j i = true) : cntM r j < cntM r i := by
  have e1 := rankM_at hi
  have e2 := rankM_at hj
  by_cases hlt : cntM r j < cntM r i
  · exact hlt
  · have hne : cntM r j ≠ cntM r i := fun z => by
      rw [z, e1] at e2
      cases e2
      rw [ahead_irr] at h
      cases h
    have hs := List.pairwise_iff_getElem.mp (rankM_strict r) (cntM r i) (cntM r j) (List.getElem?_eq_some_iff.mp e1).1 (List.getElem?_eq_some_iff.mp e2).1 (by omega)
    rw [(List.getElem?_eq_some_iff.mp e1).2, (List.getElem?_eq_some_iff.mp e2).2] at hs
    rw [ahead_iff] at h hs
    omega
/-! ### parts of a row -/
/-- the layers at the numbers that P takes -/
def partM (r : List Lay) (P : Nat → Bool) : List Lay := ((List.range r.length).filter P).filterMap fun i => r[i]?
theorem thinM_part (r : List Lay) (m : Nat) : thinM r m = partM r fun i => decide (cntM r i < m) := rfl
theorem fm_at {r : List Lay} : ∀ {ix : List Nat}, (∀ i ∈ ix, i < r.length) → ∀ k : Nat, (ix.filterMap fun i : Nat => r[i]?)[k]? = ix[k]?.bind fun i : Nat => r[i]?
  | [], _, k => by simp
  | i :: ix, h, 0 => by
    have hi := h i List.mem_cons_self
    simp [List.getElem?_eq_getElem hi]
  | i :: ix, h, k + 1 => by
    have hi := h i List.mem_cons_self
    rw [List.filterMap_cons]
    simp only [List.getElem?_eq_getElem hi]
    rw [List.getElem?_cons_succ, List.getElem?_cons_succ]
    exact fm_at (fun j hj => h j (List.mem_cons_of_mem _ hj)) k
theorem fm_len {r : List Lay} : ∀ {ix : List Nat}, (∀ i ∈ ix, i < r.length) → (ix.filterMap fun i => r[i]?).length = ix.length
  | [], _ => rfl
  | i :: ix, h => by
    have hi := h i List.mem_cons_self
    rw [List.filterMap_cons]
    simp only [List.getElem?_eq_getElem hi, List.length_cons]
    rw [fm_len fun j hj => h j (List.mem_cons_of_mem _ hj)]
section
variable {r : List Lay} {P : Nat → Bool}
abbrev ixM (r : List Lay) (P : Nat → Bool) : List Nat := (List.range r.length).filter P
theorem ixM_lt : ∀ i ∈ ixM r P, i < r.length := fun i hi => List.mem_range.mp (List.mem_filter.mp hi).1
theorem partM_len : (partM r P).length = (ixM r P).length := fm_len ixM_lt
theorem ixM_inc : (ixM r P).Pairwise (· < ·) := List.pairwise_lt_range.filter _
theorem stg_part {k : Nat} (hk : k < (ixM r P).length) : stg (partM r P) k = stg r (ixM r P)[k] := by
  have h1 : k < (partM r P).length := by rw [partM_len]; exact hk
  have h2 := ixM_lt _ (List.getElem_mem hk)
  rw [stg_at h1, stg_at h2]
  have e := fm_at (r := r) (ix := ixM r P) ixM_lt k
  have e1 : (partM r P)[k]? = some (partM r P)[k] := List.getElem?_eq_getElem h1
  rw [show (partM r P)[k]? = ((ixM r P).filterMap fun i => r[i]?)[k]? from rfl, e, List.getElem?_eq_getElem hk] at e1
  simp only [Option.bind_some, List.getElem?_eq_getElem h2] at e1
  rw [← Option.some.inj e1]
theorem ix_lt_iff {k l : Nat} (hk : k < (ixM r P).length) (hl : l < (ixM r P).length) : (ixM r P)[k] < (ixM r P)[l] ↔ k < l := by
  have hp := List.pairwise_iff_getElem.mp (ixM_inc (r := r) (P := P))
  constructor
  · intro h
    by_cases hlt : k < l
    · exact hlt
    · by_cases e : k = l
      · subst e; omega
      · have := hp l k hl hk (by omega)
        omega
  · intro h
    exact hp k l hk hl h
theorem ahead_part {k l : Nat} (hk : k < (ixM r P).length) (hl : l < (ixM r P).length) : ahead (partM r P) k l = ahead r (ixM r P)[k] (ixM r P)[l] := by
  unfold ahead
  rw [stg_part hk, stg_part hl]
  have e : decide (l < k) = decide ((ixM r P)[l] < (ixM r P)[k]) := by
    have := ix_lt_iff hl hk
    by_cases h : l < k
    · rw [decide_eq_true h, decide_eq_true (this.mpr h)]
    · rw [decide_eq_false h, decide_eq_false (fun z => h (this.mp z))]
  rw [e]
theorem range_map (l : List Nat) (p : Nat → Bool) : ((List.range l.length).filter fun k => match l[k]? with | some i => p i | none => false).length = (l.filter p).length := by
  induction l with
  | nil => rfl
  | cons a l ih =>
    rw [List.length_cons, List.range_succ_eq_map, List.filter_cons, List.filter_cons]
    have e : ((List.map Nat.succ (List.range l.length)).filter fun k => match (a :: l)[k]? with | some i => p i | none => false).length = (l.filter p).length := by
      rw [List.filter_map, List.length_map, ← ih]
      rfl
    simp only [List.getElem?_cons_zero]
    by_cases hp : p a = true
    · rw [if_pos hp, if_pos hp, List.length_cons, List.length_cons, e]
    · rw [if_neg hp, if_neg hp, e]
/-- ranks within a part: those of the part that rank ahead -/
theorem cnt_part {k : Nat} (hk : k < (ixM r P).length) : cntM (partM r P) k = ((ixM r P).filter fun j => ahead r j (ixM r P)[k]).length := by
  unfold cntM
  rw [partM_len, ← range_map (ixM r P) fun j => ahead r j (ixM r P)[k]]
  congr 1
  refine List.filter_congr fun l hl => ?_
  have hl := List.mem_range.mp hl
  rw [ahead_part hl hk, List.getElem?_eq_getElem hl]
/-- .. the same rank, where the part has all that rank ahead -/
theorem cnt_part_same {k : Nat} (hk : k < (ixM r P).length) (h : ∀ j, j < r.length → ahead r j (ixM r P)[k] = true → P j = true) : cntM (partM r P) k = cntM r (ixM r P)[k] := by
  rw [cnt_part hk]
  unfold cntM
  rw [List.filter_filter]
  congr 1
  refine List.filter_congr fun j hj => ?_
  cases e : ahead r j (ixM r P)[k] with
  | false => rfl
  | true => rw [h j (List.mem_range.mp hj) e]; rfl
/-- a part of a part -/
theorem part_part (P' Q' : Nat → Bool) (h : ∀ k (hk : k < (ixM r P).length), P' k = Q' (ixM r P)[k]) : partM (partM r P) P' = partM r fun i => P i && Q' i := by
  unfold partM
  have key : ∀ (ix : List Nat) (_ : ∀ i ∈ ix, i < r.length) (P' : Nat → Bool) (_ : ∀ k (hk : k < ix.length), P' k = Q' ix[k]),
      ((List.range ix.length).filter P').filterMap (fun k => (ix.filterMap fun i => r[i]?)[k]?) = (ix.filter Q').filterMap fun i => r[i]? := by
    intro ix
    induction ix with
    | nil => intro _ _ _; rfl
    | cons i ix ih =>
      intro hix P' hP
      have hi := hix i List.mem_cons_self
      have ih' := ih (fun j hj => hix j (List.mem_cons_of_mem _ hj)) (P' ∘ Nat.succ) fun k hk => hP (k + 1) (by simpa using hk)
      have h0 := hP 0 (by simp)
      simp only [List.getElem_cons_zero] at h0
      rw [List.length_cons, List.range_succ_eq_map, List.filter_cons, List.filter_cons, h0]
      have ei : ((i :: ix).filterMap fun i => r[i]?) = r[i] :: ix.filterMap fun i => r[i]? := by
        rw [List.filterMap_cons]
        simp only [List.getElem?_eq_getElem hi]
      have e : (List.filter P' (List.map Nat.succ (List.range ix.length))).filterMap (fun k => ((i :: ix).filterMap fun i => r[i]?)[k]?) = (ix.filter Q').filterMap fun i => r[i]? := by
        rw [List.filter_map, List.filterMap_map, ← ih']
        congr 1
        funext k
        show ((i :: ix).filterMap fun i => r[i]?)[k + 1]? = _
        rw [ei, List.getElem?_cons_succ]
      cases Q' i with
      | false => simpa using e
      | true =>
        simp only [if_true]
        rw [List.filterMap_cons, e, ei]
        simp only [List.getElem?_cons_zero]
        rw [List.filterMap_cons]
        simp only [List.getElem?_eq_getElem hi]
  have h2 := key (ixM r P) ixM_lt P' h
  have el : (((List.range r.length).filter P).filterMap fun i => r[i]?).length = (ixM r P).length := partM_len
  rw [el]
  rw [h2, List.filter_filter]
  congr 2
  funext i
  exact Bool.and_comm _ _
end
/-- thinned, then thinned again -/
theorem thin_thin (r : List Lay) (m l : Nat) : thinM (thinM r m) l = thinM r (min m l) := by
  rw [thinM_part (thinM r m), thinM_part r, part_part (r := r) (P := fun i => decide (cntM r i < m)) _ (fun i => decide (cntM r i < l))]
  · rw [thinM_part]
    unfold partM
    congr 2
    funext i
    rw [← Bool.decide_and]
    congr 1
    exact propext ⟨fun h => by omega, fun h => by omega⟩
  · intro k hk
    rw [cnt_part_same hk]
    intro j hj hja
    have hm := (List.mem_filter.mp (List.getElem_mem hk)).2
    have hlt := cnt_lt_of_ahead hj (ixM_lt _ (List.getElem_mem hk)) hja
    have hm' := of_decide_eq_true hm
    exact decide_eq_true (by omega)
theorem thin_all {r : List Lay} {m : Nat} (h : r.length ≤ m) : thinM r m = r := by
  rw [thinM_part]
  unfold partM
  have e : (List.range r.length).filter (fun i => decide (cntM r i < m)) = List.range r.length := List.filter_eq_self.mpr fun i hi => by
    have := cntM_lt (r := r) (List.mem_range.mp hi)
    exact decide_eq_true (by omega)
  rw [e]
  refine List.ext_getElem? fun k => ?_
  rw [fm_at fun i hi => List.mem_range.mp hi]
  by_cases hk : k < r.length
  · rw [List.getElem?_range hk]
    rfl
  · rw [List.getElem?_eq_none (by simpa using hk), List.getElem?_eq_none (by omega)]
    rfl
theorem thin_len (r : List Lay) (m : Nat) : (thinM r m).length = min m r.length := by
  have e : (thinM r m).length = (keepI r m).length := fm_len fun i hi => List.mem_range.mp (List.mem_filter.mp hi).1
  rw [e]
  have hp : (keepI r m).Perm ((rankM r).take m) := by
    have nd : ((rankM r).take m).Nodup := (rankM_nodup r).sublist (List.take_sublist _ _)
    have hs : ((rankM r).take m).mergeSort.Perm ((rankM r).take m) := List.mergeSort_perm _ _
    have hq : ((rankM r).take m).mergeSort.Pairwise (· ≤ ·) := by
      have := List.pairwise_mergeSort (le := fun a b : Nat => decide (a ≤ b)) (fun a b c h1 h2 => by simp at *; omega) (fun a b => by simp; omega) ((rankM r).take m)
      exact this.imp fun h => by simpa using h
    rw [← take_sorted hs hq]
    exact hs
  rw [hp.length_eq, List.length_take, rankM_length]

/-! ### small helps -/
theorem cut_take {xs : List V} {m : Int} (h : 0 ≤ m) : cutV xs none (some m) = xs.take m.toNat := by
  obtain ⟨n, rfl⟩ : ∃ n : Nat, m = n := ⟨m.toNat, by omega⟩
  unfold cutV
  rw [show HT.sIx xs.length 0 none = 0 from rfl, HT.sIx_nat, List.drop_zero, Nat.sub_zero, Int.toNat_natCast]
  by_cases hn : n ≤ xs.length
  · rw [Nat.min_eq_left hn]
  · rw [Nat.min_eq_right (by omega), List.take_length, List.take_of_length_le (by omega)]
theorem natV_ints (l : List Nat) : natV l = (l.map fun i : Nat => (i : Int)).map V.int := by rw [List.map_map]; rfl
theorem sort_nats {l : List Nat} {ns : List Int} (p : ns.Perm (l.map fun i : Nat => (i : Int))) (s : ns.Pairwise (· ≤ ·)) : ∃ zs : List Nat, ns.map V.int = natV zs ∧ zs.Perm l ∧ zs.Pairwise (· ≤ ·) := by
  have hn : ∀ n ∈ ns, 0 ≤ n := fun n hn => by
    obtain ⟨i, _, e⟩ := List.mem_map.mp (p.mem_iff.mp hn)
    omega
  refine ⟨ns.map Int.toNat, ?_, ?_, ?_⟩
  · unfold natV
    rw [List.map_map]
    exact List.map_congr_left fun n h => by
      have := hn n h
      show V.int n = V.int (n.toNat : Int)
      rw [Int.toNat_of_nonneg this]
  · have q := p.map Int.toNat
    rw [List.map_map] at q
    have e : l.map (Int.toNat ∘ fun i : Nat => (i : Int)) = l := by
      rw [show (Int.toNat ∘ fun i : Nat => (i : Int)) = id from rfl, List.map_id]
    rw [e] at q
    exact q
  · exact List.pairwise_map.mpr (s.imp fun {a b} h => by omega)
/-- the layer at a number -/
theorem row_at {K : PySem.W.Frag} {H : Hp} {t : Addr} {xs : List V} {r : List Lay} (hxs : ImAll K H xs (r.map layD)) {i : Nat} (hi : i < r.length) : ∃ a, xs[i]? = some (.ref a) ∧ Im K H (.ref a) (layD r[i]) ∧ Tp K H a [.str r[i].1, .int r[i].2] := by
  obtain ⟨v, e1, e2⟩ := hxs.at_ (i := i) (d := layD r[i]) (by rw [List.getElem?_map, List.getElem?_eq_getElem hi]; rfl)
  obtain ⟨a, rfl, ha⟩ := e2.layInv
  exact ⟨a, e1, e2, ha⟩
section
variable [Tb] {K : PySem.W.Frag} {g : TG} {tt : TT} {te : TE} {vs : List Nat} {σ : L2.St} {H1 : Hp} {D : Addr} {Qd : Hp → Prop}
/-- a comprehension over a range from lo on -/
theorem lc_mapRg {β : Type} (dB : β → PyData) (f : Nat → Option β) {lo : Int} {n : Nat} (hD : H1 D = none) (hl : n ≤ 100000)
    (hs : ∀ (i : Nat) Ha (k : VK) (kn : Hp → Prop), i < n → Kp No H1 Ha → (∀ y b H4, f i = some b → Kp No Ha H4 → Im K H4 y (dB b) → k y H4) → (∀ H3, f i = none → Kp No Ha H3 → kn H3) →
      g (.int (lo + i)) (wipe σ vs) Ha fun σ2 H2 => wipe σ2 vs = wipe σ vs ∧ tt σ2 H2 fun b H3 => if b = true then te σ2 H3 k else kn H3)
    (hd : ∀ ys H, H D = some (.lst ys) → Kp No H1 H → ImAll K H ys (((List.range n).filterMap f).map dB) → Qd H) : LcGoal (Itr lo n) g tt te vs σ H1 D Qd := by
  have wr : Walk (Itr lo n) (List.range n).length (fun _ => True) (YFn fun i => .int (lo + (i : Int))) := by
    rw [List.length_range]
    exact walk_range
  refine lc_map (fun c : Nat => PyData.int (lo + (c : Int))) dB f (List.range n) wr hD (fun i Ha x Hb hi k y => ?_) (by simpa using hl) (fun _ _ => trivial) (fun x a Ha k kn ha im kp h1 h2 => ?_) hd
  · obtain ⟨eH, rfl⟩ := y
    refine ⟨eH, ?_⟩
    rw [List.getElem_range]
    exact .int _
  · have e : x = .int (lo + a) := by cases im; rfl
    subst e
    exact hs a Ha k kn (List.mem_range.mp ha) kp h1 h2
end
/-! ### ranks counted by strengths -/
theorem cnt_split {r : List Lay} {i : Nat} (hi : i < r.length) : cntM r i = ((List.range r.length).filter fun j => decide (stg r i < stg r j)).length + ((List.range (r.length - (i + 1))).filter fun k => decide (stg r (i + 1 + k) = stg r i)).length := by
  have e2 : ((List.range (r.length - (i + 1))).filter fun k => decide (stg r (i + 1 + k) = stg r i)).length = ((List.range r.length).filter fun j => decide (stg r j = stg r i) && decide (i < j)).length := by
    have e : r.length = (i + 1) + (r.length - (i + 1)) := by omega
    generalize r.length - (i + 1) = b at e
    rw [e, List.range_add, List.filter_append, List.length_append]
    have z : (List.range (i + 1)).filter (fun j => decide (stg r j = stg r i) && decide (i < j)) = [] := List.filter_eq_nil_iff.mpr fun j hj => by
      have := List.mem_range.mp hj
      simp
      omega
    rw [z, List.length_nil, Nat.zero_add, List.filter_map, List.length_map]
    congr 1
    refine List.filter_congr fun k _ => ?_
    show _ = (decide (stg r (i + 1 + k) = stg r i) && decide (i < i + 1 + k))
    rw [decide_eq_true (show i < i + 1 + k by omega), Bool.and_true]
  rw [e2]
  unfold cntM
  generalize List.range r.length = l
  induction l with
  | nil => rfl
  | cons j l ih =>
    rw [List.filter_cons, List.filter_cons, List.filter_cons]
    by_cases h1 : stg r i < stg r j
    · have a : ahead r j i = true := ahead_iff.mpr (.inl h1)
      have b : (decide (stg r j = stg r i) && decide (i < j)) = false := by simp; omega
      rw [if_pos a, if_pos (decide_eq_true h1), b]
      simp only [List.length_cons, Bool.false_eq_true, if_false, ih]
      omega
    · by_cases h2 : stg r j = stg r i ∧ i < j
      · have a : ahead r j i = true := ahead_iff.mpr (.inr h2)
        have b : (decide (stg r j = stg r i) && decide (i < j)) = true := by simp [h2]
        rw [if_pos a, if_neg (by simpa using h1), b]
        simp only [List.length_cons, if_true, ih]
        omega
      · have a : ahead r j i = false := ahead_no.mpr (by omega)
        have b : (decide (stg r j = stg r i) && decide (i < j)) = false := by
          cases e : (decide (stg r j = stg r i) && decide (i < j)) with
          | false => rfl
          | true => exact absurd (by simpa using e) h2
        rw [a, b, decide_eq_false h1]
        simp only [Bool.false_eq_true, if_false, ih]
end Y

set_option Elab.async false
set_option linter.all false
set_option maxRecDepth 100000
set_option maxHeartbeats 4000000
/-! E1: enumerate over tuples. -/
namespace Y
open PySem PySem.Spec PyProof.Rows L2

theorem enum_newT (l : Addr) (items : Array Value) (n : Nat) (dct : Option Addr) (sl : Array (Option Value)) :
    Meets (Builtin.«enumerate.__new__» ⟨[.type "enumerate", .ref l], []⟩) (fun _ R s => s.heap.get? l = some { cls := .type "tuple", dict := dct, data := .seq items n, slots := sl } ∧
      R (.ok (.ret (.ref (s.heap.push { cls := .type "tuple_iterator", data := .fields #[.ref l, .int 0 0] }).objs.size)))
        { s with heap := (s.heap.push { cls := .type "tuple_iterator", data := .fields #[.ref l, .int 0 0] }).push { cls := .type "enumerate", data := .fields #[.none, .bool false, .ref s.heap.objs.size, rawInt 0, .none, .none] } }) :=
  .of_wp fun prog w A R s h => by
    obtain ⟨hp, g, d, tk, os⟩ := s
    obtain ⟨hl, h⟩ := h
    have hL : hp.IsTuple l items := ⟨_, hl, rfl, _, rfl⟩
    have hsub := sub_enumerate
    wp_walk
    refine wpAny_stack_any fun st => wpAny_pure ?_
    split
    · rename_i c _ _ _ _ _
      cases (c == Value.type "enumerate")
      · wp_walk using wpAny_loadPart' hl, wpAny_pyIter_tuple hL
        exact ⟨_, rfl, h⟩
      · wp_walk using wpAny_loadPart' hl, wpAny_pyIter_tuple hL
        exact ⟨_, rfl, h⟩
    · wp_walk using wpAny_loadPart' hl, wpAny_pyIter_tuple hL
      exact ⟨_, rfl, h⟩
section
variable {prog : Program} {w : World} {A : Around} {E : Value → Shared → Prop} {s : Shared}
theorem call_enumT {l : Addr} {items : Array Value} {Q : Value → Shared → Prop} (hL : s.heap.IsTuple l items)
    (h : ∀ h', IsEnum h' (s.heap.objs.size + 1) s.heap.objs.size 0 .none → h'.IsTupleIter s.heap.objs.size l 0 → (∀ b o, s.heap.get? b = some o → h'.get? b = some o) → Q (.ref (s.heap.objs.size + 1)) { s with heap := h' }) :
    wpAny (model prog w) A (call (.type "enumerate") [.ref l]) Q E s := by
  obtain ⟨⟨c, dct, dt, sl⟩, hl, hc, n, hd⟩ := hL
  replace hc : c = .type "tuple" := hc
  replace hd : dt = .seq items n := hd
  subst hc hd
  refine callType_new F.called_enumerate (by decide) (F.typeCall_enumerate_1 _) (F.newCall_enumerate_1 _) (fun obj => F.args_object_init_2 obj _) F.entry_enumerate_new (enum_newT l items n dct sl) ⟨hl, ?_⟩
  have hz : (s.heap.push { cls := .type "tuple_iterator", data := .fields #[.ref l, .int 0 0] }).objs.size = s.heap.objs.size + 1 := Heap.size_push ..
  show _ ∧ _
  rw [hz]
  have he : IsEnum ((s.heap.push { cls := .type "tuple_iterator", data := .fields #[.ref l, .int 0 0] }).push
      { cls := .type "enumerate", data := .fields #[.none, .bool false, .ref s.heap.objs.size, rawInt 0, .none, .none] }) (s.heap.objs.size + 1) s.heap.objs.size 0 .none := by
    have := Heap.get?_push_size (s.heap.push { cls := .type "tuple_iterator", data := .fields #[.ref l, .int 0 0] })
      (o := { cls := .type "enumerate", data := .fields #[.none, .bool false, .ref s.heap.objs.size, rawInt 0, .none, .none] }) rfl
    rw [hz] at this
    exact this
  exact ⟨⟨_, he, rfl⟩, h _ he ⟨_, Heap.get?_push_of_some _ (Heap.get?_push_size _ rfl), rfl, rfl⟩ fun b o x => Heap.get?_push_of_some _ (Heap.get?_push_of_some _ x)⟩
end
/-- a tuple's items, each in a new pair with its number -/
def IteT (K : PySem.W.Frag) (a : Addr) : It :=
  ⟨fun i H => ∃ (xs : List V) (x : V), SqT K H a xs ∧ xs[i]? = some x, fun i H v H' => ∃ T x, v = .ref T ∧ H T = none ∧ H' = upd H T (.tup [.int (i : Nat), x]) ∧ ∀ xs, SqT K H a xs → xs[i]? = some x, fun i H => ∃ xs : List V, SqT K H a xs ∧ xs.length ≤ i⟩
theorem turn_enumT {P : Program} {w : World} {K : PySem.W.Frag} {elts : List Expr} {kk : Nat} {tpos : Pos} (a e it : Addr) :
    Turn P w K (.Tuple elts kk tpos) (IteT K a) [e, it] e (fun i h => (∃ old, IsEnum h e it ((i : Nat) : Int) old) ∧ h.IsTupleIter it a i ∧ e ≠ it) where
  mem := by simp
  obj := fun i h st b hb => by
    obtain ⟨⟨old, he⟩, ⟨o, ho, hc, hd⟩, _⟩ := st
    have e' : b = e ∨ b = it := by simpa using hb
    rcases e' with z | z
    · rw [z]; exact ⟨_, he, fun v q => nomatch q⟩
    · rw [z]; exact ⟨o, ho, fun v q => by rw [hd] at q; cases q⟩
  keep := fun i h h' st k => let ⟨⟨old, he⟩, hi, hne⟩ := st; ⟨⟨old, k e (by simp) _ he⟩, hi.at fun o q => k it (by simp) o q, hne⟩
  item := by
    intro X hP hw hK hc i pins s σ H E I hf st hg
    subst hP hw hK
    obtain ⟨⟨old, he⟩, hit, hne⟩ := st
    obtain ⟨xs, x, hq, hx⟩ := hg
    obtain ⟨its, rv, p, hz⟩ := I.tuple hq
    obtain ⟨u, hu, ru⟩ := rv.get hx
    have hel : e < s.heap.objs.size := Heap.lt_size he
    have hil : it < s.heap.objs.size := by obtain ⟨_, q, _⟩ := hit; exact Heap.lt_size q
    have pT : s.heap.IsTuple a its.toArray := p
    have nea : a ≠ it := fun z => by
      obtain ⟨o1, h1, c1, _⟩ := pT
      obtain ⟨o2, h2, c2, _⟩ := hit
      rw [z, h2] at h1
      cases h1
      rw [c2] at c1
      injection c1 with c3
      exact absurd c3 (by decide)
    have neae : e ≠ a := fun z => by
      obtain ⟨o1, h1, c1, _⟩ := pT
      have he' : s.heap.get? e = some _ := he
      rw [z, h1] at he'
      cases he'
      injection c1 with c3
      exact absurd c3 (by decide)
    have hlt : i < its.toArray.size := by
      have := (List.getElem?_eq_some_iff.mp hu).1
      simpa using this
    refine wpAny_pyNext_enum_itemD (fp := [it, a]) (Draws.tuple (A := X.A.in1) (I.ok.hd hc) it a nea its.toArray) he ⟨hit, pT⟩ hlt hne (by simp [hne, neae]) fun y h' tk hP ho hs' hT hsz hk => ?_
    obtain rfl : u = y := by
      have hP' : its.toArray[i]? = some y := hP
      rw [List.getElem?_toArray, hu] at hP'
      exact Option.some.inj hP'
    refine ⟨_, rfl, wpAny_letOwnedTupleGo_enum (s := { s with heap := h', toks := tk + 1 }) ho fun h'' he' sb => ?_⟩
    have hT2 : h''.get? s.heap.objs.size = some { cls := .type "tuple", data := .seq #[.int i tk, u] } := (sb.2 _ (Nat.ne_of_gt hel)).trans hT
    have new : ObjOk X.prog X.w (upd H s.heap.objs.size (.tup [.int (i : Nat), x])) h'' s.heap.objs.size (.tup [.int (i : Nat), x]) :=
      ⟨by show 2 ≤ sizeLine; decide, [.int i tk, u], .cons ⟨_, rfl⟩ (.cons ru .nil), ⟨_, hT2, rfl, _, rfl⟩⟩
    have I1 : Inv X pins σ (upd H s.heap.objs.size (.tup [.int (i : Nat), x])) { s with heap := h'', toks := tk + 1 } :=
      I.turnedNew (ch := [e, it]) (fun b ob hb q => (sb.2 b (fun z => hb (by simp [z]))).trans (hk b ob (fun z => hb (by simp [z])) (fun z => hb (by simp [z])) q)) hf (Nat.le_refl _) new
    refine ⟨.ref s.heap.objs.size, _, I1, rfl, ⟨_, x, rfl, I.hok.fresh (Nat.le_refl _), rfl, fun ys hy => by rw [I.tuple_inj hy hq]; exact hx⟩, ⟨⟨u, ?_⟩, hs'.1.at fun o q => (sb.2 it (Ne.symm hne)).trans q, hne⟩, fun b hb => ?_⟩
    · have e1 : ((i + 1 : Nat) : Int) = (i : Int) + 1 := by omega
      rw [e1]; exact he'
    · have hb' : b < s.heap.objs.size := by
        have e' : b = e ∨ b = it := by simpa using hb
        rcases e' with z | z
        · rw [z]; exact hel
        · rw [z]; exact hil
      rw [upd_ne (Nat.ne_of_lt hb')]
      exact (hf b hb).1
  done := by
    intro X hP hw hK hc i pins s σ H E I hf st hg
    subst hP hw hK
    obtain ⟨⟨old, he⟩, hit, hne⟩ := st
    obtain ⟨xs, hq, hx⟩ := hg
    obtain ⟨its, rv, p, hz⟩ := I.tuple hq
    obtain ⟨f0, f1, f2, f3, f4, f5⟩ := hf it (by simp)
    have hl := rv.length
    have pT : s.heap.IsTuple a its.toArray := p
    have D : Draws X.prog X.w X.A.in1 it [it, a] i (fun _ _ => True) (fun j h => j = i ∧ h.IsTupleIter it a i ∧ h.IsTuple a its.toArray) :=
      { live := fun _ _ st => let ⟨o, ho, _⟩ := st.2.1; ⟨o, ho⟩
        frame := fun _ _ _ st hk => ⟨st.1, st.2.1.at fun o e => hk it (by simp) o e, st.2.2.at fun o e => hk a (by simp) o e⟩
        item := fun j s Q E hj st _ => absurd st.1 (Nat.ne_of_lt hj)
        done := fun s Q E st hE => wpAny_nextOf_tuple_end (I.ok.hd hc) st.2.1 st.2.2 (by simp; omega) hE }
    exact wpAny_pyNext_enum_endD D he ⟨rfl, hit, pT⟩ fun h' eb => ⟨rfl, I.turned (t' := s.toks) (fun b o hb q => eb b o hb q) f0 f1 f3 f4 f5⟩
  self := fun A i s Q E st h => let ⟨⟨_, he⟩, _⟩ := st; wpAny_pyIter_enum he h
theorem walk_enumT {K : PySem.W.Frag} {a : Addr} {xs : List V} : Walk (IteT K a) xs.length (fun H => SqT K H a xs) (YPair (fun i => some (.int (i : Nat))) (fun i => xs[i]?)) := by
  refine ⟨fun i _ hi q => ⟨xs, xs[i], q, by simp [hi]⟩, fun _ q => ⟨xs, q, Nat.le_refl _⟩, fun i H v H' _ q y => ?_⟩
  obtain ⟨T, x, h1, h2, h3, h4⟩ := y
  exact ⟨T, .int (i : Nat), x, h1, h2, h3, rfl, h4 xs q⟩
def yEnumT (K : PySem.W.Frag) (ta : TA) : TI := fun σ H R => ta σ H fun vs H1 => match vs with
  | [.ref a] => (∃ xs, SqT K H1 a xs) ∧ R (IteT K a) H1
  | _ => False
theorem yi_enumT {X : Cx} {K : PySem.W.Frag} {e : Expr} {ta : TA} {p pos tpos : Pos} {elts : List Expr} {kk : Nat} (h0 : X.K = K) (hg : Gl X "enumerate") (hm : X.mg "enumerate" = none) (ha : PA X [e] ta) (hs : starEach [e] X.env = [(false, eval e X.env)] := by rfl) :
    PI X (.Tuple elts kk tpos) (.Call (.Name "enumerate" p) [e] [] pos) (yEnumT K ta) := by
  subst h0
  refine ⟨fun pins s σ H R I h => ?_⟩
  refine Call_ (ld_blt I hg hm boot_enumerate (PyProof.Rows.callWith_type1 (thn (ha.run pos pins s σ H _ I h) fun us s1 ⟨vs, H1, I1, r1, q1⟩ => ?_) hs rfl))
  dsimp only at q1
  split at q1
  · rename_i a
    obtain ⟨⟨xs, hq⟩, q⟩ := q1
    obtain rfl := Vals.ref1 r1
    obtain ⟨its, rv, p', hz⟩ := I1.tuple hq
    refine call_enumT (show s1.heap.IsTuple a its.toArray from p') fun h' he hit hk => wpAny_pyIter_enum he ?_
    have I2 : Inv X pins σ H1 { s1 with heap := h' } := I1.kept (t' := s1.toks) hk
    refine ⟨s1.heap.objs.size + 1, [s1.heap.objs.size + 1, s1.heap.objs.size], _, _, H1, rfl, I2, turn_enumT a (s1.heap.objs.size + 1) s1.heap.objs.size, ⟨⟨.none, he⟩, hit, Nat.succ_ne_self _⟩, fun b hb => ?_, q⟩
    have e' : b = s1.heap.objs.size + 1 ∨ b = s1.heap.objs.size := by simpa using hb
    have hle : s1.heap.objs.size ≤ b := by
      rcases e' with z | z
      · rw [z]; exact Nat.le_add_right _ _
      · rw [z]; exact Nat.le_refl _
    exact I1.fpOk hle (I1.hok.fresh hle)
  · exact q1.elim

/-! ### comprehensions over enumerate(tuple) -/
def fmI {α β : Type} (f : Nat → α → Option β) (r : List α) : List β := r.zipIdx.filterMap fun p => f p.2 p.1
theorem fmI_take {α β : Type} (f : Nat → α → Option β) (r : List α) {i : Nat} (hi : i < r.length) : fmI f (r.take (i + 1)) = fmI f (r.take i) ++ (f i r[i]).toList := by
  unfold fmI
  rw [List.take_add_one, List.getElem?_eq_getElem hi, List.zipIdx_append, List.filterMap_append]
  congr 1
  rw [Option.toList_some, List.zipIdx_singleton, List.length_take, Nat.min_eq_left (Nat.le_of_lt hi)]
  rw [Nat.zero_add]
  cases h : f i r[i] <;> simp [h]
section
variable [Tb] {K : PySem.W.Frag} {g : TG} {tt : TT} {te : TE} {vs : List Nat} {σ : L2.St} {H1 : Hp} {D : Addr} {Qd : Hp → Prop}
theorem lc_mapE {α β : Type} (dA : α → PyData) (dB : β → PyData) (f : Nat → α → Option β) (r : List α) {a : Addr} {xs : List V} (hD : H1 D = none) (ht : Tp K H1 a xs) (src : ImAll K H1 xs (r.map dA)) (hl : r.length ≤ 100000)
    (hs : ∀ (i : Nat) (T : Addr) (x : V) (Ha : Hp) (k : VK) (kn : Hp → Prop) (hi : i < r.length), Im K Ha x (dA r[i]) → Ha T = some (.tup [.int (i : Nat), x]) → Kp No H1 Ha → (∀ y b H4, f i r[i] = some b → Kp No Ha H4 → Im K H4 y (dB b) → k y H4) → (∀ H3, f i r[i] = none → Kp No Ha H3 → kn H3) →
      g (.ref T) (wipe σ vs) Ha fun σ2 H2 => wipe σ2 vs = wipe σ vs ∧ tt σ2 H2 fun b H3 => if b = true then te σ2 H3 k else kn H3)
    (hd : ∀ ys H, H D = some (.lst ys) → Kp No H1 H → ImAll K H ys ((fmI f r).map dB) → Qd H) : LcGoal (IteT K a) g tt te vs σ H1 D Qd := by
  have el : xs.length = r.length := by rw [src.length, List.length_map]
  refine lc_it (walk_enumT (xs := xs)) (fun i H => ∃ ys, H D = some (.lst ys) ∧ Kp No H1 H ∧ ImAll K H ys ((fmI f (r.take i)).map dB)) ⟨[], upd_same, Kp.new hD, by simpa [fmI] using ImAll.nil⟩ (fun i H _ ⟨ys, _, h2, _⟩ => (ht.up h2).sq) ?_ ?_
  · rintro i x Ha Hb hix ⟨ys, h1, h2, h3⟩ ⟨T, x1, x2, rfl, hT, rfl, e1, e2⟩
    cases e1
    have hir : i < r.length := by omega
    obtain ⟨d, h4, h5⟩ := src.get e2
    rw [List.getElem?_map, List.getElem?_eq_getElem hir] at h4
    obtain rfl := Option.some.inj h4
    have kT : Kp No Ha (upd Ha T (.tup [.int (i : Nat), x2])) := Kp.new hT
    have k2 := h2.trans kT
    have hD2 := kT.all D _ h1 id
    have ely : ys.length ≤ i := by
      rw [h3.length, List.length_map]
      exact Nat.le_trans (List.length_filterMap_le _ _) (by rw [List.length_zipIdx, List.length_take]; omega)
    refine hs i T x2 _ _ _ hir (Im.up k2 _ _ h5) upd_same k2 (fun y b H4 e k4 im => ?_) (fun H3 e k3 => ?_)
    · have hD4 := k4.all D _ hD2 id
      refine ⟨ys, hD4, Nat.lt_of_le_of_lt ely (Nat.lt_of_lt_of_le (show i < 1000000 by omega) (by decide)), ys ++ [y], upd_same, (k2.trans k4).put hD hD4, ?_⟩
      rw [fmI_take f r hir, e, List.map_append]
      have k5 : Kp (At D) _ (upd _ D (.lst (ys ++ [y]))) := Kp.set rfl hD4
      exact (ImAll.up k5 _ _ (ImAll.up k4 _ _ (ImAll.up kT _ _ h3))).snoc (Im.up k5 _ _ im)
    · refine ⟨ys, k3.all D _ hD2 id, k2.trans k3, ?_⟩
      rw [fmI_take f r hir, e]
      simpa using ImAll.up k3 _ _ (ImAll.up kT _ _ h3)
  · rintro H ⟨ys, h1, h2, h3⟩
    rw [el, List.take_length] at h3
    exact hd ys H h1 h2 h3
end

/-! ### the first layer rubbed, scraped -/
/-- the number of the layer of rank 0 -/
def topN (r : List Lay) : Nat := (rankM r).headD 0
theorem rankM_cons {r : List Lay} (h : r ≠ []) : ∃ m, rankM r = topN r :: m := by
  unfold topN
  cases e : rankM r with
  | nil =>
    have := rankM_length r
    rw [e] at this
    cases r with
    | nil => exact absurd rfl h
    | cons a r => simp at this
  | cons i m => exact ⟨m, rfl⟩
theorem topN_lt {r : List Lay} (h : r ≠ []) : topN r < r.length := by
  obtain ⟨m, e⟩ := rankM_cons h
  exact rankM_mem.mp (by rw [e]; exact List.mem_cons_self)
theorem firstV_top {r : List Lay} (h : r ≠ []) : firstV r = .int (topN r : Nat) := by
  obtain ⟨m, e⟩ := rankM_cons h
  unfold firstV
  rw [e]
theorem firstV_nil : firstV [] = .non := by
  unfold firstV
  rw [rankM_nil]
/-- nothing ranks ahead of it, and it alone is so -/
theorem topN_first {r : List Lay} (h : r ≠ []) {j : Nat} (hj : j < r.length) : ahead r j (topN r) = false := by
  obtain ⟨m, e⟩ := rankM_cons h
  have hs := rankM_sorted r
  rw [e] at hs
  have hm : j ∈ topN r :: m := by rw [← e]; exact rankM_mem.mpr hj
  rcases List.mem_cons.mp hm with z | z
  · rw [z]; exact ahead_irr r _
  · exact (List.pairwise_cons.mp hs).1 j z
theorem topN_uniq {r : List Lay} {t : Nat} (ht : t < r.length) (h : ∀ j, j < r.length → ahead r j t = false) : topN r = t := by
  have hne : r ≠ [] := fun z => by rw [z] at ht; simp at ht
  exact ahead_anti r _ _ (topN_first hne ht) (h _ (topN_lt hne)) |>.symm ▸ rfl
def scrapM (r : List Lay) : List Lay := r.eraseIdx (topN r)
def lowM (r : List Lay) (t : Nat) (n : Int) : List Lay := r.set t ((r.getD t (default, 0)).1, stg r t - n)
def rubM (r : List Lay) (n : Int) : List Lay := if 0 < stg r (topN r) - n then lowM r (topN r) n else scrapM r
theorem erase_idx {α : Type} : ∀ (r : List α) (k t : Nat), (r.zipIdx k).filterMap (fun p => if p.2 ≠ t then some p.1 else none) = if t < k then r else r.eraseIdx (t - k)
  | [], k, t => by simp
  | a :: r, k, t => by
    rw [List.zipIdx_cons, List.filterMap_cons, erase_idx r (k + 1) t]
    by_cases h : t < k
    · rw [if_pos (show k ≠ t by omega), if_pos h, if_pos (show t < k + 1 by omega)]
    · by_cases e : k = t
      · rw [if_neg (by simp [e]), if_neg h, if_pos (show t < k + 1 by omega), e, Nat.sub_self, List.eraseIdx_cons_zero]
      · rw [if_pos e, if_neg h, if_neg (show ¬ t < k + 1 by omega)]
        obtain ⟨d, hd⟩ : ∃ d, t - k = d + 1 := ⟨t - k - 1, by omega⟩
        rw [hd, List.eraseIdx_cons_succ, show t - (k + 1) = d by omega]
theorem fmI_erase {α : Type} (r : List α) (t : Nat) : fmI (fun i l => if i ≠ t then some l else none) r = r.eraseIdx t := by
  have := erase_idx r 0 t
  rw [if_neg (Nat.not_lt_zero t), Nat.sub_zero] at this
  exact this
theorem set_idx {α : Type} (g : α → α) : ∀ (r : List α) (k t : Nat), (r.zipIdx k).map (fun p => if p.2 = t then g p.1 else p.1) = if t < k then r else r.modify (t - k) g
  | [], k, t => by simp
  | a :: r, k, t => by
    rw [List.zipIdx_cons, List.map_cons, set_idx g r (k + 1) t]
    by_cases h : t < k
    · rw [if_neg (show ¬ k = t by omega), if_pos h, if_pos (show t < k + 1 by omega)]
    · by_cases e : k = t
      · rw [if_pos e, if_neg h, if_pos (show t < k + 1 by omega), e, Nat.sub_self, List.modify_zero_cons]
      · rw [if_neg e, if_neg h, if_neg (show ¬ t < k + 1 by omega)]
        obtain ⟨d, hd⟩ : ∃ d, t - k = d + 1 := ⟨t - k - 1, by omega⟩
        rw [hd, List.modify_succ_cons, show t - (k + 1) = d by omega]
theorem fmI_low {r : List Lay} {t : Nat} (n : Int) : fmI (fun i (l : Lay) => some ((l.1, l.2 - n * (if ((i : Nat) : Int) = (t : Int) then 1 else 0)) : Lay)) r = lowM r t n := by
  have e : (fun p : Lay × Nat => some ((p.1.1, p.1.2 - n * (if ((p.2 : Nat) : Int) = (t : Int) then 1 else 0)) : Lay)) = fun p => some (if p.2 = t then ((p.1.1, p.1.2 - n) : Lay) else p.1) := by
    funext p
    by_cases h : p.2 = t
    · rw [if_pos h, if_pos (by omega), Int.mul_one]
    · rw [if_neg h, if_neg (by omega), Int.mul_zero, Int.sub_zero]
  unfold fmI
  rw [e, List.filterMap_eq_map' (f := fun p : Lay × Nat => if p.2 = t then ((p.1.1, p.1.2 - n) : Lay) else p.1)]
  have := set_idx (fun l : Lay => (l.1, l.2 - n)) r 0 t
  rw [if_neg (Nat.not_lt_zero t), Nat.sub_zero] at this
  rw [this]
  unfold lowM stg
  refine List.ext_getElem? fun j => ?_
  rw [List.getElem?_modify, List.getElem?_set]
  by_cases hj : t = j
  · subst hj
    by_cases ht : t < r.length
    · rw [List.getElem?_eq_getElem ht, List.getD_eq_getElem?_getD, List.getElem?_eq_getElem ht]
      simp [ht]
    · rw [List.getElem?_eq_none (by omega)]
      simp
      omega
  · simp [hj]
/-- what comes to nought goes: the first alone can -/
theorem there_low {r : List Lay} {n : Int} (hne : r ≠ []) (hpos : ∀ l ∈ r, 0 < l.2) : (lowM r (topN r) n).filter (fun l => decide (0 < l.2)) = rubM r n := by
  have ht := topN_lt hne
  have es : stg r (topN r) = r[topN r].2 := stg_at ht
  have eg : (r.getD (topN r) (default, 0)) = r[topN r] := by
    rw [List.getD_eq_getElem?_getD, List.getElem?_eq_getElem ht]
    rfl
  unfold rubM lowM scrapM
  rw [eg, es]
  generalize topN r = t at ht
  have hsplit : r = r.take t ++ r[t] :: r.drop (t + 1) := by
    rw [List.getElem_cons_drop ht, List.take_append_drop]
  have hset : r.set t ((r[t].1, r[t].2 - n) : Lay) = r.take t ++ ((r[t].1, r[t].2 - n) : Lay) :: r.drop (t + 1) := List.set_eq_take_append_cons_drop .. |>.trans (by rw [if_pos ht])
  have her : r.eraseIdx t = r.take t ++ r.drop (t + 1) := List.eraseIdx_eq_take_drop_succ ..
  have f1 : (r.take t).filter (fun l => decide (0 < l.2)) = r.take t := List.filter_eq_self.mpr fun l hl => decide_eq_true (hpos l (List.mem_of_mem_take hl))
  have f2 : (r.drop (t + 1)).filter (fun l => decide (0 < l.2)) = r.drop (t + 1) := List.filter_eq_self.mpr fun l hl => decide_eq_true (hpos l (List.mem_of_mem_drop hl))
  rw [hset, her, List.filter_append, List.filter_cons, f1, f2]
  by_cases h : 0 < r[t].2 - n
  · rw [if_pos h, if_pos (decide_eq_true h)]
  · rw [if_neg h, if_neg (by simpa using h)]
/-! ### max, min of a list of whole numbers -/
section
variable {X : Cx} {K : PySem.W.Frag}
def yMaxL (K : PySem.W.Frag) : List V → Hp → VK → Prop := fun vs H Q => match vs with
  | [.ref a] => ∃ ns : List Int, SqL K H a (ns.map V.int) ∧ 0 < ns.length ∧ ∀ m, m ∈ ns → (∀ y, y ∈ ns → y ≤ m) → Q (.int m) H
  | _ => False
theorem kMaxL (h : X.K = K) (hc : X.calm = true) : CallR X (.builtin "max") (yMaxL K) := by
  subst h
  refine CallR.imp (cr_max hc) fun vs H Q q => ?_
  unfold yMaxL at q
  split at q
  · obtain ⟨ns, h1, h2, h3⟩ := q
    exact ⟨_, ns, rfl, h1, h2, h3⟩
  · exact q.elim
def yMinL (K : PySem.W.Frag) : List V → Hp → VK → Prop := fun vs H Q => match vs with
  | [.ref a] => ∃ ns : List Int, SqL K H a (ns.map V.int) ∧ 0 < ns.length ∧ ∀ m, m ∈ ns → (∀ y, y ∈ ns → m ≤ y) → Q (.int m) H
  | _ => False
theorem kMinL (h : X.K = K) (hc : X.calm = true) : CallR X (.builtin "min") (yMinL K) := by
  subst h
  refine CallR.imp (cr_min hc) fun vs H Q q => ?_
  unfold yMinL at q
  split at q
  · obtain ⟨ns, h1, h2, h3⟩ := q
    exact ⟨_, ns, rfl, h1, h2, h3⟩
  · exact q.elim
end

/-! ### tuples cut and put together, as data -/
def cutG {α : Type} (xs : List α) (lo hi : Option Int) : List α := (xs.drop (HT.sIx xs.length 0 lo)).take (HT.sIx xs.length xs.length hi - HT.sIx xs.length 0 lo)
theorem cutG_map {α β : Type} (f : α → β) (xs : List α) (lo hi : Option Int) : cutG (xs.map f) lo hi = (cutG xs lo hi).map f := by
  unfold cutG
  rw [List.length_map, List.map_take, List.map_drop]
theorem cutG_to {α : Type} (xs : List α) (n : Nat) : cutG xs none (some (n : Int)) = xs.take n := by
  unfold cutG
  rw [show HT.sIx xs.length 0 none = 0 from rfl, HT.sIx_nat, List.drop_zero, Nat.sub_zero]
  by_cases hn : n ≤ xs.length
  · rw [Nat.min_eq_left hn]
  · rw [Nat.min_eq_right (by omega), List.take_length, List.take_of_length_le (by omega)]
theorem cutG_from {α : Type} (xs : List α) (n : Nat) : cutG xs (some (n : Int)) none = xs.drop n := by
  unfold cutG
  rw [show HT.sIx xs.length xs.length none = xs.length from rfl, HT.sIx_nat]
  by_cases hn : n ≤ xs.length
  · rw [Nat.min_eq_left hn]
    exact List.take_of_length_le (by rw [List.length_drop]; exact Nat.le_refl _)
  · rw [Nat.min_eq_right (by omega), Nat.sub_self, List.take_zero, List.drop_of_length_le (by omega)]
theorem ImAll.drop {K : PySem.W.Frag} {H : Hp} : ∀ {vs : List V} {ds : List PyData} (n : Nat), ImAll K H vs ds → ImAll K H (vs.drop n) (ds.drop n)
  | _, _, 0, h => h
  | [], [], n + 1, _ => by simpa using ImAll.nil
  | _ :: _, _ :: _, n + 1, .cons _ h => h.drop n
theorem ImAll.take {K : PySem.W.Frag} {H : Hp} : ∀ {vs : List V} {ds : List PyData} (n : Nat), ImAll K H vs ds → ImAll K H (vs.take n) (ds.take n)
  | _, _, 0, h => by simpa using ImAll.nil
  | [], [], n + 1, _ => by simpa using ImAll.nil
  | _ :: _, _ :: _, n + 1, .cons h1 h => .cons h1 (h.take n)
theorem ImAll.cut {K : PySem.W.Frag} {H : Hp} {vs : List V} {ds : List PyData} (h : ImAll K H vs ds) (lo hi : Option Int) : ImAll K H (cutV vs lo hi) (cutG ds lo hi) := by
  unfold cutV cutG
  rw [h.length]
  exact (h.drop _).take _
section
variable [Tb] {K : PySem.W.Frag} {H : Hp}
theorem sl_im {v : V} {ds : List PyData} {lo hi : Option Int} {Q : VK} (him : Im K H v (.tuple ds)) (q : ∀ v' H', Kp No H H' → Im K H' v' (.tuple (cutG ds lo hi)) → Q v' H') : ySl K v lo hi H Q := by
  obtain ⟨a, xs, rfl, ht, hxs⟩ := id him.tupInv
  refine .inr ⟨a, xs, rfl, ht.sq, fun h => q _ _ (Kp.refl _) ?_, fun _ p hp => q _ _ (Kp.new hp) (Im.mk upd_same (ImAll.up (Kp.new (S := No) hp) _ _ (hxs.cut lo hi)))⟩
  have e : cutG ds lo hi = ds := by
    unfold cutG
    rw [← hxs.length, h.1, h.2, List.drop_zero, Nat.sub_zero, hxs.length, List.take_length]
  rw [e]
  exact him
theorem add_im {v w : V} {ds es : List PyData} {Q : VK} (h1 : Im K H v (.tuple ds)) (h2 : Im K H w (.tuple es)) (hl : ds.length + es.length ≤ 1000000) (q : ∀ v' H', Kp No H H' → Im K H' v' (.tuple (ds ++ es)) → Q v' H') : yAdd K v w H Q := by
  obtain ⟨a, xs, rfl, ht, hxs⟩ := id h1.tupInv
  obtain ⟨b, ys, rfl, hu, hys⟩ := id h2.tupInv
  refine .inr ⟨a, b, xs, ys, rfl, rfl, ht.sq, hu.sq, ?_, fun e => q _ _ (Kp.refl _) ?_, fun _ e => q _ _ (Kp.refl _) ?_, fun _ _ p hp => q _ _ (Kp.new hp) (Im.mk upd_same (ImAll.up (Kp.new (S := No) hp) _ _ (hxs.app hys)))⟩
  · rw [hxs.length, hys.length]
    exact Nat.le_trans hl (by decide)
  · subst e
    cases hxs
    exact h2
  · subst e
    cases hys
    rw [List.append_nil]
    exact h1
end
end Y

set_option Elab.async false
set_option linter.all false
set_option maxRecDepth 100000
set_option maxHeartbeats 4000000
/-! N1: normal rows, as mathematics. -/
namespace Y
open PySem PySem.Spec PyProof.Rows L2

/-- a layer put below a row, moved up through its stretch as long as that is weaker -/
def insM (x : Lay) : List Lay → List Lay
  | [] => [x]
  | y :: t => if x.1 = y.1 ∧ y.2 < x.2 then y :: insM x t else x :: y :: t
def normM (r : List Lay) : List Lay := r.foldr insM []
theorem normM_cons (x : Lay) (r : List Lay) : normM (x :: r) = insM x (normM r) := rfl
theorem lay_eq {x y : Lay} (h1 : x.1 = y.1) (h2 : x.2 = y.2) : x = y := Prod.ext h1 h2
/-- two of one tag: either order -/
theorem insM_comm {x y : Lay} (h : x.1 = y.1) : ∀ t : List Lay, insM x (insM y t) = insM y (insM x t)
  | [] => by
    by_cases h1 : y.2 < x.2
    · simp [insM, h, h1, show ¬ x.2 < y.2 by omega]
    · by_cases h2 : x.2 < y.2
      · simp [insM, h, h1, h2]
      · rw [lay_eq h (by omega)]
  | z :: t => by
    by_cases hz : x.1 = z.1
    · have hy : y.1 = z.1 := h ▸ hz
      by_cases a : z.2 < x.2
      · by_cases b : z.2 < y.2
        · simp only [insM, hz, hy, a, b, and_self, if_true]
          rw [insM_comm h t]
        · have c : y.2 < x.2 := by omega
          simp only [insM, hz, hy, a, b, and_false, and_self, if_true, if_false, true_and, c]
      · by_cases b : z.2 < y.2
        · have c : x.2 < y.2 := by omega
          simp only [insM, hz, hy, a, b, and_false, and_self, if_true, if_false, true_and, c]
        · by_cases c : y.2 < x.2
          · simp [insM, hz, hy, a, b, c, show ¬ x.2 < y.2 by omega]
          · by_cases d : x.2 < y.2
            · simp [insM, hz, hy, a, b, c, d]
            · rw [lay_eq h (by omega)]
    · have hy : ¬ y.1 = z.1 := fun e => hz (h.trans e)
      by_cases c : y.2 < x.2
      · simp [insM, hz, hy, c, h, show ¬ x.2 < y.2 by omega]
      · by_cases d : x.2 < y.2
        · simp [insM, hz, hy, c, d, h]
        · rw [lay_eq h (by omega)]
/-- no neighbours of one tag of which the lower is stronger -/
def LocS : List Lay → Prop
  | x :: y :: t => ¬ (x.1 = y.1 ∧ y.2 < x.2) ∧ LocS (y :: t)
  | _ => True
theorem insM_id {x : Lay} {t : List Lay} (h : LocS (x :: t)) : insM x t = x :: t := by
  cases t with
  | nil => rfl
  | cons y t => exact if_neg h.1
theorem LocS.tail {x : Lay} {t : List Lay} (h : LocS (x :: t)) : LocS t := by
  cases t with
  | nil => trivial
  | cons y t => exact h.2
theorem norm_id : ∀ {r : List Lay}, LocS r → normM r = r
  | [], _ => rfl
  | x :: r, h => by rw [normM_cons, norm_id h.tail, insM_id h]
theorem insM_loc {x : Lay} : ∀ {t : List Lay}, LocS t → LocS (insM x t)
  | [], _ => trivial
  | y :: t, h => by
    by_cases c : x.1 = y.1 ∧ y.2 < x.2
    · have e : insM x (y :: t) = y :: insM x t := if_pos c
      rw [e]
      have ih := insM_loc (x := x) h.tail
      cases t with
      | nil =>
        refine ⟨fun z => ?_, trivial⟩
        have := z.2
        have := c.2
        omega
      | cons w t =>
        by_cases d : x.1 = w.1 ∧ w.2 < x.2
        · have e2 : insM x (w :: t) = w :: insM x t := if_pos d
          rw [e2] at ih ⊢
          exact ⟨h.1, ih⟩
        · have e2 : insM x (w :: t) = x :: w :: t := if_neg d
          rw [e2] at ih ⊢
          refine ⟨fun z => ?_, ih⟩
          have := z.2
          have := c.2
          omega
    · have e : insM x (y :: t) = x :: y :: t := if_neg c
      rw [e]
      exact ⟨c, h⟩
theorem norm_loc : ∀ r : List Lay, LocS (normM r)
  | [] => trivial
  | x :: r => insM_loc (norm_loc r)
theorem norm_norm (r : List Lay) : normM (normM r) = normM r := norm_id (norm_loc r)
theorem normM_app (a b : List Lay) : normM (a ++ b) = a.foldr insM (normM b) := by
  unfold normM
  rw [List.foldr_append]
/-- neighbours of one tag exchanged -/
theorem norm_swap {x y : Lay} (h : x.1 = y.1) (a b : List Lay) : normM (a ++ x :: y :: b) = normM (a ++ y :: x :: b) := by
  rw [normM_app, normM_app, normM_cons, normM_cons, normM_cons, normM_cons, insM_comm h]
/-- a block of one tag rearranged -/
theorem fold_perm {g g' : List Lay} (p : g.Perm g') (h : ∀ x ∈ g, ∀ y ∈ g, x.1 = y.1) (t : List Lay) : g.foldr insM t = g'.foldr insM t := by
  induction p generalizing t with
  | nil => rfl
  | cons x _ ih => rw [List.foldr_cons, List.foldr_cons, ih fun a ha b hb => h a (List.mem_cons_of_mem _ ha) b (List.mem_cons_of_mem _ hb)]
  | swap x y l =>
    rw [List.foldr_cons, List.foldr_cons, List.foldr_cons, List.foldr_cons]
    exact insM_comm (h y List.mem_cons_self x (List.mem_cons_of_mem _ List.mem_cons_self)) _
  | trans p1 _ ih1 ih2 =>
    rw [ih1 h, ih2 fun a ha b hb => h a (p1.mem_iff.mpr ha) b (p1.mem_iff.mpr hb)]
theorem insM_perm (x : Lay) : ∀ t : List Lay, (insM x t).Perm (x :: t)
  | [] => .refl _
  | y :: t => by
    unfold insM
    split
    · exact ((insM_perm x t).cons y).trans (.swap x y t)
    · exact .refl _
theorem norm_perm : ∀ r : List Lay, (normM r).Perm r
  | [] => .refl _
  | x :: r => (insM_perm x _).trans ((norm_perm r).cons x)
theorem insM_tags (x : Lay) : ∀ t : List Lay, (insM x t).map (·.1) = x.1 :: t.map (·.1)
  | [] => rfl
  | y :: t => by
    unfold insM
    split
    · rename_i h
      rw [List.map_cons, insM_tags x t, List.map_cons, h.1]
    · rfl
theorem norm_tags : ∀ r : List Lay, (normM r).map (·.1) = r.map (·.1)
  | [] => rfl
  | x :: r => by rw [normM_cons, insM_tags, norm_tags r]; rfl
theorem norm_len (r : List Lay) : (normM r).length = r.length := (norm_perm r).length_eq
theorem norm_mem {r : List Lay} {l : Lay} : l ∈ normM r ↔ l ∈ r := (norm_perm r).mem_iff

/-! ### exchanges one by one -/
/-- the first neighbours of one tag of which the lower is stronger, exchanged -/
def nextM : List Lay → Option (List Lay)
  | x :: y :: t => if x.1 = y.1 ∧ y.2 < x.2 then some (y :: x :: t) else (nextM (y :: t)).map (x :: ·)
  | _ => none
theorem next_none : ∀ {r : List Lay}, nextM r = none → LocS r
  | [], _ => trivial
  | [_], _ => trivial
  | x :: y :: t, h => by
    unfold nextM at h
    split at h
    · cases h
    · rename_i c
      exact ⟨c, next_none (by simpa using h)⟩
theorem next_norm : ∀ {r r' : List Lay}, nextM r = some r' → normM r' = normM r
  | [], _, h => by cases h
  | [_], _, h => by cases h
  | x :: y :: t, r', h => by
    unfold nextM at h
    split at h
    · rename_i c
      obtain rfl := Option.some.inj h
      exact norm_swap c.1.symm [] t
    · cases e : nextM (y :: t) with
      | none => rw [e] at h; cases h
      | some u =>
        rw [e] at h
        obtain rfl := Option.some.inj h
        rw [normM_cons, normM_cons, next_norm e]
/-- how many pairs stand the wrong way about -/
def invs : List Lay → Nat
  | [] => 0
  | x :: t => (t.filter fun y => decide (y.2 < x.2)).length + invs t
theorem next_perm : ∀ {r r' : List Lay}, nextM r = some r' → r'.Perm r
  | [], _, h => by cases h
  | [_], _, h => by cases h
  | x :: y :: t, r', h => by
    unfold nextM at h
    split at h
    · obtain rfl := Option.some.inj h
      exact .swap x y t
    · cases e : nextM (y :: t) with
      | none => rw [e] at h; cases h
      | some u =>
        rw [e] at h
        obtain rfl := Option.some.inj h
        exact (next_perm e).cons x
theorem next_invs : ∀ {r r' : List Lay}, nextM r = some r' → invs r' < invs r
  | [], _, h => by cases h
  | [_], _, h => by cases h
  | x :: y :: t, r', h => by
    unfold nextM at h
    split at h
    · rename_i c
      obtain rfl := Option.some.inj h
      have c2 := c.2
      simp only [invs, List.filter_cons, decide_eq_true c2, decide_eq_false (show ¬ x.2 < y.2 by omega), if_true, List.length_cons]
      simp only [Bool.false_eq_true, if_false]
      omega
    · cases e : nextM (y :: t) with
      | none => rw [e] at h; cases h
      | some u =>
        rw [e] at h
        obtain rfl := Option.some.inj h
        have ih := next_invs e
        have p := next_perm e
        show (u.filter _).length + invs u < ((y :: t).filter _).length + invs (y :: t)
        rw [(p.filter _).length_eq]
        omega
theorem invs_le : ∀ r : List Lay, invs r ≤ r.length * r.length
  | [] => Nat.le_refl _
  | x :: t => by
    have ih := invs_le t
    have h1 := List.length_filter_le (fun y : Lay => decide (y.2 < x.2)) t
    show (t.filter fun y => decide (y.2 < x.2)).length + invs t ≤ (t.length + 1) * (t.length + 1)
    rw [Nat.add_mul, Nat.mul_add]
    omega
/-- exchanged k times, or till there are none -/
def stepM (r : List Lay) : List Lay := (nextM r).getD r
theorem step_norm (r : List Lay) : normM (stepM r) = normM r := by
  unfold stepM
  cases e : nextM r with
  | none => rfl
  | some u => exact next_norm e
theorem step_perm (r : List Lay) : (stepM r).Perm r := by
  unfold stepM
  cases e : nextM r with
  | none => exact .refl _
  | some u => exact next_perm e
def stepsM (r : List Lay) : Nat → List Lay
  | 0 => r
  | k + 1 => stepM (stepsM r k)
theorem steps_norm (r : List Lay) : ∀ k, normM (stepsM r k) = normM r
  | 0 => rfl
  | k + 1 => (step_norm _).trans (steps_norm r k)
theorem steps_perm (r : List Lay) : ∀ k, (stepsM r k).Perm r
  | 0 => .refl _
  | k + 1 => (step_perm _).trans (steps_perm r k)
theorem steps_done (r : List Lay) : ∀ k, nextM (stepsM r k) = none ∨ invs (stepsM r k) + k ≤ invs r
  | 0 => .inr (Nat.le_refl _)
  | k + 1 => by
    rcases steps_done r k with h | h
    · have e : stepsM r (k + 1) = stepsM r k := by
        show stepM (stepsM r k) = _
        unfold stepM
        rw [h]
        rfl
      rw [e]
      exact .inl h
    · cases e : nextM (stepsM r k) with
      | none =>
        have e2 : stepsM r (k + 1) = stepsM r k := by
          show stepM (stepsM r k) = _
          unfold stepM
          rw [e]
          rfl
        rw [e2]
        exact .inl e
      | some u =>
        have e2 : stepsM r (k + 1) = u := by
          show stepM (stepsM r k) = _
          unfold stepM
          rw [e]
          rfl
        rw [e2]
        have := next_invs e
        exact .inr (by omega)
theorem steps_all (r : List Lay) : stepsM r (r.length * r.length) = normM r := by
  have h : nextM (stepsM r (r.length * r.length)) = none := by
    rcases steps_done r (r.length * r.length) with h | h
    · exact h
    · have h1 := invs_le r
      have h0 : invs (stepsM r (r.length * r.length)) = 0 := by omega
      cases e : nextM (stepsM r (r.length * r.length)) with
      | none => rfl
      | some u =>
        have := next_invs e
        omega
  have hl := next_none h
  rw [← steps_norm r (r.length * r.length), norm_id hl]

/-! ### stretches -/
/-- neighbouring blocks have unlike tags -/
def Apart : List (List Lay) → Prop
  | g :: g' :: t => (∀ x ∈ g, ∀ y ∈ g', x.1 ≠ y.1) ∧ Apart (g' :: t)
  | _ => True
theorem Apart.snoc {g : List Lay} : ∀ {gs : List (List Lay)}, Apart gs → (∀ g0, gs.getLast? = some g0 → ∀ x ∈ g0, ∀ y ∈ g, x.1 ≠ y.1) → Apart (gs ++ [g])
  | [], _, _ => trivial
  | [g0], _, h => ⟨h g0 rfl, trivial⟩
  | g0 :: g1 :: t, ha, h => ⟨ha.1, Apart.snoc (gs := g1 :: t) ha.2 fun g2 e => h g2 (by rw [List.getLast?_cons_cons]; exact e)⟩
theorem Apart.more {g g' : List Lay} (h : ∀ y ∈ g', ∃ x ∈ g, x.1 = y.1) : ∀ {gs : List (List Lay)}, Apart (gs ++ [g]) → Apart (gs ++ [g'])
  | [], _ => trivial
  | [g0], ha => ⟨fun x hx y hy => by
      obtain ⟨z, hz, e⟩ := h y hy
      rw [← e]
      exact ha.1 x hx z hz, trivial⟩
  | g0 :: g1 :: t, ha => ⟨ha.1, Apart.more h (gs := g1 :: t) ha.2⟩
/-- a row parted into stretches -/
structure StrOk (gs : List (List Lay)) (r : List Lay) : Prop where
  flat : gs.flatten = r
  full : ∀ g ∈ gs, g ≠ []
  one : ∀ g ∈ gs, ∀ x ∈ g, ∀ y ∈ g, x.1 = y.1
  apart : Apart gs
theorem StrOk.nil : StrOk [] [] := ⟨rfl, fun _ h => (nomatch h), fun _ h => (nomatch h), trivial⟩
/-- the next layer, of the last stretch's tag -/
theorem StrOk.same {gs : List (List Lay)} {g r : List Lay} {l : Lay} (h : StrOk (gs ++ [g]) r) (x : Lay) (hx : x ∈ g) (e : x.1 = l.1) : StrOk (gs ++ [g ++ [l]]) (r ++ [l]) := by
  have o1 := h.one g (List.mem_append_right _ (List.mem_singleton.mpr rfl))
  refine ⟨by rw [← h.flat]; simp, fun g' hg' => ?_, fun g' hg' => ?_, h.apart.more fun y hy => ?_⟩
  · rcases List.mem_append.mp hg' with z | z
    · exact h.full g' (List.mem_append_left _ z)
    · rw [List.mem_singleton.mp z]; simp
  · rcases List.mem_append.mp hg' with z | z
    · exact h.one g' (List.mem_append_left _ z)
    · rw [List.mem_singleton.mp z]
      intro a ha b hb
      have t1 : ∀ a ∈ g ++ [l], a.1 = l.1 := fun a ha => by
        rcases List.mem_append.mp ha with q | q
        · rw [o1 a q x hx, e]
        · rw [List.mem_singleton.mp q]
      rw [t1 a ha, t1 b hb]
  · rcases List.mem_append.mp hy with q | q
    · exact ⟨y, q, rfl⟩
    · rw [List.mem_singleton.mp q]
      exact ⟨x, hx, e⟩
/-- .. of another tag, or the first -/
theorem StrOk.new {gs : List (List Lay)} {r : List Lay} {l : Lay} (h : StrOk gs r) (hn : ∀ g, gs.getLast? = some g → ∃ x ∈ g, x.1 ≠ l.1) : StrOk (gs ++ [[l]]) (r ++ [l]) := by
  refine ⟨by rw [← h.flat]; simp, fun g' hg' => ?_, fun g' hg' => ?_, h.apart.snoc fun g0 e x hx y hy => ?_⟩
  · rcases List.mem_append.mp hg' with z | z
    · exact h.full g' z
    · rw [List.mem_singleton.mp z]; simp
  · rcases List.mem_append.mp hg' with z | z
    · exact h.one g' z
    · rw [List.mem_singleton.mp z]
      intro a ha b hb
      rw [List.mem_singleton.mp ha, List.mem_singleton.mp hb]
  · obtain ⟨z, hz, ne⟩ := hn g0 e
    rw [List.mem_singleton.mp hy, h.one g0 (List.mem_of_getLast? e) x hx z hz]
    exact ne
/-- a block by strength -/
structure ByS (s g : List Lay) : Prop where
  perm : s.Perm g
  up : s.Pairwise fun x y => x.2 ≤ y.2
theorem locs_app : ∀ {s t : List Lay}, (s.Pairwise fun x y => x.2 ≤ y.2) → LocS t → (∀ x ∈ s, ∀ y, t.head? = some y → x.1 ≠ y.1) → LocS (s ++ t)
  | [], _, _, ht, _ => ht
  | [x], [], _, _, _ => trivial
  | [x], y :: t, _, ht, hn => ⟨fun z => hn x List.mem_cons_self y rfl z.1, ht⟩
  | x :: x' :: s, t, hs, ht, hn => by
    refine ⟨fun z => ?_, locs_app (s := x' :: s) (List.pairwise_cons.mp hs).2 ht fun a ha => hn a (List.mem_cons_of_mem _ ha)⟩
    have := (List.pairwise_cons.mp hs).1 x' List.mem_cons_self
    omega
theorem flat_norm : ∀ {ss gs : List (List Lay)}, Paired ByS ss gs → (∀ g ∈ gs, g ≠ []) → (∀ g ∈ gs, ∀ x ∈ g, ∀ y ∈ g, x.1 = y.1) → Apart gs → normM ss.flatten = normM gs.flatten ∧ LocS ss.flatten
  | _, _, .nil, _, _, _ => ⟨rfl, trivial⟩
  | s :: ss, g :: gs, .cons h hr, hf, h1, ha => by
    have ha' : Apart gs := by
      cases gs with
      | nil => trivial
      | cons g' t => exact ha.2
    have ih := flat_norm hr (fun a b => hf a (List.mem_cons_of_mem _ b)) (fun a b => h1 a (List.mem_cons_of_mem _ b)) ha'
    refine ⟨?_, ?_⟩
    · rw [List.flatten_cons, List.flatten_cons, normM_app, normM_app, ih.1]
      exact fold_perm h.perm (fun x hx y hy => h1 g List.mem_cons_self x (h.perm.mem_iff.mp hx) y (h.perm.mem_iff.mp hy)) _
    · rw [List.flatten_cons]
      refine locs_app h.up ih.2 fun x hx y hy => ?_
      cases hr with
      | nil => simp at hy
      | @cons s' g' ss' gs' h' hr' =>
        have hne : g' ≠ [] := hf g' (List.mem_cons_of_mem _ List.mem_cons_self)
        have hne' : s' ≠ [] := fun z => hne (by
          have := h'.perm.length_eq
          rw [z] at this
          exact List.length_eq_zero_iff.mp this.symm)
        cases hs : s' with
        | nil => exact absurd hs hne'
        | cons z s0 =>
          rw [hs, List.flatten_cons, List.cons_append, List.head?_cons] at hy
          obtain rfl := Option.some.inj hy
          exact ha.1 x (h.perm.mem_iff.mp hx) z (h'.perm.mem_iff.mp (by rw [hs]; exact List.mem_cons_self))
theorem flat_is {ss gs : List (List Lay)} {r : List Lay} (h : Paired ByS ss gs) (ok : StrOk gs r) : ss.flatten = normM r := by
  obtain ⟨h1, h2⟩ := flat_norm h ok.full ok.one ok.apart
  rw [← norm_id h2, h1, ok.flat]
theorem paired_last {α β : Type} {R : α → β → Prop} {b : β} : ∀ {l : List α} {m : List β}, Paired R l (m ++ [b]) → ∃ l0 a, l = l0 ++ [a] ∧ Paired R l0 m ∧ R a b
  | _, [], h => by
    cases h with
    | cons h1 h2 =>
      cases h2
      exact ⟨[], _, rfl, .nil, h1⟩
  | _, c :: m, h => by
    cases h with
    | cons h1 h2 =>
      obtain ⟨l0, a, rfl, h3, h4⟩ := paired_last h2
      exact ⟨_ :: l0, a, rfl, .cons h1 h3, h4⟩
theorem paired_memL {α β : Type} {R : α → β → Prop} {a : α} : ∀ {l : List α} {m : List β}, Paired R l m → a ∈ l → ∃ b ∈ m, R a b
  | _, _, .nil, h => nomatch h
  | _, _, .cons h t, ha => by
    rcases List.mem_cons.mp ha with e | ha
    · exact ⟨_, List.mem_cons_self, by rw [e]; exact h⟩
    · obtain ⟨b, hb, r⟩ := paired_memL t ha
      exact ⟨b, List.mem_cons_of_mem _ hb, r⟩
theorem paired_impM {α β : Type} {R R' : α → β → Prop} : ∀ {l : List α} {m : List β}, Paired R l m → (∀ a ∈ l, ∀ b, R a b → R' a b) → Paired R' l m
  | _, _, .nil, _ => .nil
  | _, _, .cons h t, f => .cons (f _ List.mem_cons_self _ h) (paired_impM t fun a ha => f a (List.mem_cons_of_mem _ ha))
/-- what a sort by strength of a list of layers gives -/
theorem sorted_block {K : PySem.W.Frag} {H : Hp} {vs : List V} {g : List Lay} {pq : List ((Int × Int) × V)} (im : ImAll K H vs (g.map layD)) (p : pq.Perm ((g.map fun l : Lay => ((l.2, 0) : Int × Int)).zip vs)) (s : SrtO.Srtd (fun x y => SrtO.lexB x.1 y.1) pq) :
    ∃ z : List Lay, ByS z g ∧ ImAll K H (pq.map (·.2)) (z.map layD) := by
  have el : vs.length = g.length := by rw [im.length, List.length_map]
  have pr : Paired (fun (t : Lay × V) (q : (Int × Int) × V) => q = ((t.1.2, 0), t.2)) (g.zip vs) ((g.map fun l : Lay => ((l.2, 0) : Int × Int)).zip vs) := by
    clear p s im
    induction g generalizing vs with
    | nil => rw [List.zip_nil_left, List.map_nil, List.zip_nil_left]; exact .nil
    | cons a g ih =>
      cases vs with
      | nil => simp at el
      | cons v vs => exact .cons rfl (ih (by simpa using el))
  obtain ⟨T, pT, rT⟩ := paired_perm p.symm pr
  have hm : ∀ t ∈ g.zip vs, Im K H t.2 (layD t.1) := by
    clear pT rT pr p s
    induction g generalizing vs with
    | nil => intro t ht; simp at ht
    | cons a g ih =>
      cases vs with
      | nil => simp at el
      | cons v vs =>
        cases im with
        | cons h1 h2 =>
          intro t ht
          rw [List.zip_cons_cons] at ht
          rcases List.mem_cons.mp ht with e | ht
          · rw [e]; exact h1
          · exact ih h2 (by simpa using el) t ht
  refine ⟨T.map (·.1), ⟨?_, ?_⟩, ?_⟩
  · have q := pT.map (·.1)
    rw [List.map_fst_zip (by rw [el]; exact Nat.le_refl _)] at q
    exact q
  · refine List.pairwise_map.mpr (paired_pairwise (T' := fun a b => SrtO.lexB b.1 a.1 = false) (fun t q t' q' h1 h2 z => ?_) rT s)
    rw [h1, h2, SrtO.lexB_no] at z
    simp only at z
    omega
  · have hT : ∀ t ∈ T, Im K H t.2 (layD t.1) := fun t ht => hm t (pT.mem_iff.mp ht)
    have key : ∀ {l : List (Lay × V)} {m : List ((Int × Int) × V)}, Paired (fun (t : Lay × V) (q : (Int × Int) × V) => q = ((t.1.2, 0), t.2)) l m → (∀ t ∈ l, Im K H t.2 (layD t.1)) → ImAll K H (m.map (·.2)) ((l.map (·.1)).map layD) := by
      intro l m z
      induction z with
      | nil => intro _; exact .nil
      | cons h _ ih =>
        intro hh
        rw [h]
        exact .cons (hh _ List.mem_cons_self) (ih fun t ht => hh t (List.mem_cons_of_mem _ ht))
    exact key rT hT
theorem bys_len : ∀ {ss gs : List (List Lay)}, Paired ByS ss gs → ss.flatten.length = gs.flatten.length
  | _, _, .nil => rfl
  | _, _, .cons h t => by rw [List.flatten_cons, List.flatten_cons, List.length_append, List.length_append, bys_len t, h.perm.length_eq]
theorem take_flat {α : Type} : ∀ (gs : List (List α)) (i : Nat), (gs.take i).flatten.length ≤ gs.flatten.length
  | [], i => by simp
  | g :: gs, 0 => Nat.zero_le _
  | g :: gs, i + 1 => by
    rw [List.take_succ_cons, List.flatten_cons, List.flatten_cons, List.length_append, List.length_append]
    have := take_flat gs i
    omega
/-- the pair at j stands the wrong way about -/
def BadAt (r : List Lay) (j : Nat) : Prop := ∃ x y, r[j]? = some x ∧ r[j + 1]? = some y ∧ x.1 = y.1 ∧ y.2 < x.2
theorem next_at : ∀ {i : Nat} {r : List Lay} {x y : Lay}, r[i]? = some x → r[i + 1]? = some y → (∀ j, j < i → ¬ BadAt r j) → x.1 = y.1 → y.2 < x.2 → nextM r = some (r.take i ++ [y, x] ++ r.drop (i + 2))
  | 0, x0 :: y0 :: t, x, y, h1, h2, _, h3, h4 => by
    obtain rfl : x0 = x := by simpa using h1
    obtain rfl : y0 = y := by simpa using h2
    exact if_pos ⟨h3, h4⟩
  | i + 1, x0 :: y0 :: t, x, y, h1, h2, hb, h3, h4 => by
    have hb0 : ¬ (x0.1 = y0.1 ∧ y0.2 < x0.2) := fun z => hb 0 (Nat.succ_pos i) ⟨x0, y0, rfl, rfl, z⟩
    have ih := next_at (i := i) (r := y0 :: t) (x := x) (y := y) (by simpa using h1) (by simpa using h2) (fun j hj z => hb (j + 1) (by omega) (by
      obtain ⟨a, b, e1, e2, e3⟩ := z
      exact ⟨a, b, by simpa using e1, by simpa using e2, e3⟩)) h3 h4
    show (if x0.1 = y0.1 ∧ y0.2 < x0.2 then some (y0 :: x0 :: t) else (nextM (y0 :: t)).map (x0 :: ·)) = _
    rw [if_neg hb0, ih]
    rfl
  | 0, [x0], _, _, _, h2, _, _, _ => by simp at h2
  | 0, [], _, _, h1, _, _, _, _ => by simp at h1
  | i + 1, [x0], _, _, h1, _, _, _, _ => by simp at h1
  | i + 1, [], _, _, h1, _, _, _, _ => by simp at h1
theorem next_no : ∀ {r : List Lay}, (∀ j, ¬ BadAt r j) → nextM r = none
  | [], _ => rfl
  | [_], _ => rfl
  | x :: y :: t, h => by
    have h0 : ¬ (x.1 = y.1 ∧ y.2 < x.2) := fun z => h 0 ⟨x, y, rfl, rfl, z⟩
    show (if x.1 = y.1 ∧ y.2 < x.2 then some (y :: x :: t) else (nextM (y :: t)).map (x :: ·)) = none
    rw [if_neg h0, next_no (r := y :: t) fun j z => h (j + 1) (by
      obtain ⟨a, b, e1, e2, e3⟩ := z
      exact ⟨a, b, by simpa using e1, by simpa using e2, e3⟩)]
    rfl
/-- a walk from 0 on -/
theorem walk_range0 {n : Nat} : Walk (Itr 0 n) n (fun _ => True) (YFn fun i => .int (i : Int)) :=
  walk_range.mono (fun _ h => h) fun i H x H' _ _ y => ⟨y.1, by rw [y.2]; show V.int (0 + (i : Int)) = V.int (i : Int); rw [Int.zero_add]⟩
end Y

set_option Elab.async false
set_option linter.all false
set_option maxRecDepth 100000
set_option maxHeartbeats 4000000
/-! S1: sorted(..) of a tuple or a list of layers. -/
namespace Y
open PySem PySem.Spec PyProof.Rows L2 PySem.W
def layLe : Lay → Lay → Bool := dataLe false layD
def ySortLay (K : PySem.W.Frag) : List V → Hp → VK → Prop := fun vs H Q => match vs with
  | [.ref a] => ∃ (xs : List V) (r : List Lay), (SqL K H a xs ∨ SqT K H a xs) ∧ ImAll K H xs (r.map layD) ∧ ∀ ys p, ImAll K H ys ((r.mergeSort layLe).map layD) → H p = none → Q (.ref p) (upd H p (.lst ys))
  | _ => False
theorem zip_each {xs : List V} {r : List Lay} {its : List Value} (rv : Vals xs its) (el : xs.length = r.length) : EachIs (fun (v : Value) (b : V × Lay) => L2.RelV b.1 v) its (xs.zip r) := by
  induction rv generalizing r with
  | nil => rw [List.zip_nil_left]; exact .nil
  | cons h _ ih =>
    cases r with
    | nil => simp at el
    | cons a r => exact .cons h (ih (by simpa using el))
theorem each_vals {out : List Value} {bs : List (V × Lay)} (h : EachIs (fun (v : Value) (b : V × Lay) => L2.RelV b.1 v) out bs) : Vals (bs.map (·.1)) out := by
  induction h with
  | nil => exact .nil
  | cons h _ ih => exact .cons h ih
theorem zip_im {K : PySem.W.Frag} {H : Hp} : ∀ {xs : List V} {r : List Lay}, ImAll K H xs (r.map layD) → ∀ t ∈ xs.zip r, Im K H t.1 (layD t.2)
  | [], [], _, t, h => by simp at h
  | _ :: _, _ :: _, .cons h1 h2, t, ht => by
    rw [List.zip_cons_cons] at ht
    rcases List.mem_cons.mp ht with e | ht
    · rw [e]; exact h1
    · exact zip_im h2 t ht
theorem im_map {K : PySem.W.Frag} {H : Hp} : ∀ {bs : List (V × Lay)}, (∀ t ∈ bs, Im K H t.1 (layD t.2)) → ImAll K H (bs.map (·.1)) ((bs.map (·.2)).map layD)
  | [], _ => .nil
  | b :: bs, h => .cons (h b List.mem_cons_self) (im_map fun t ht => h t (List.mem_cons_of_mem _ ht))
theorem lay_alike (a b : Lay) : alike (layD a) (layD b) = true := by
  simp [layD, alike, alikeAll]
theorem each_reads {X : Cx} {pins : List (Addr × Obj)} {σ : L2.St} {H : Hp} {s : Shared} {h' : Heap} {D : Addr} (I : L2.Inv X pins σ H s) (k : ∀ b o, s.heap.get? b = some o → h'.get? b = some o) {xs : List V} {r : List Lay} {its : List Value} (rv : Vals xs its) (im : ImAll X.K H xs (r.map layD)) :
    EachIs (fun (v : Value) (b : V × Lay) => ∃ as, Reads h' v (layD b.2) as ∧ D ∉ as) its (xs.zip r) := by
  induction rv generalizing r with
  | nil => rw [List.zip_nil_left]; exact .nil
  | cons h _ ih =>
    cases r with
    | nil => cases im
    | cons a r =>
      cases im with
      | cons h1 h2 =>
        obtain ⟨as, rd⟩ := Dp.reads I _ _ _ (Im.dp _ _ h1) h
        have rd' := PyProof.Rows.Reads.keeps k rd
        have e : as = [] := by
          cases rd with
          | tuple _ _ _ ra =>
            rename_i vs n _ _ _
            generalize vs.toList = L at ra
            cases ra with
            | cons r1 r2 =>
              cases r1
              cases r2 with
              | cons r3 r4 =>
                cases r3
                cases r4
                rfl
        exact .cons ⟨as, rd', by rw [e]; simp⟩ (ih h2)
theorem cSortLay {X : Cx} {K : PySem.W.Frag} (h0 : X.K = K) (hu : X.A.units + 64 < cLine) : CallR X (.builtin "sorted") (ySortLay K) := by
  subst h0
  intro pins s σ H vs us Q I r h
  unfold ySortLay at h
  split at h
  · rename_i a
    obtain ⟨xs, lr, hs, im, q⟩ := h
    obtain rfl := Vals.ref1 r
    have el : xs.length = lr.length := by rw [im.length, List.length_map]
    obtain ⟨its, rv, hz, T, o, n, hT, ho, hc, hd⟩ : ∃ its, Vals xs its ∧ xs.length ≤ sizeLine ∧ ∃ (T : String) (o : Obj) (n : Nat), (T = "list" ∨ T = "tuple") ∧ s.heap.get? a = some o ∧ o.cls = .type T ∧ o.data = .seq its.toArray n := by
      rcases hs with hs | hs
      · obtain ⟨its, rv, hl, hz⟩ := I.list hs
        obtain ⟨o, ho, hc, n, hd⟩ := hl.isList
        exact ⟨its, rv, hz, "list", o, n, .inl rfl, ho, hc, hd⟩
      · obtain ⟨its, rv, ⟨o, ho, hc, n, hd⟩, hz⟩ := I.tuple hs
        exact ⟨its, rv, hz, "tuple", o, n, .inr rfl, ho, hc, hd⟩
    have hzi : its.length ≤ sizeLine := by rw [← rv.length]; exact hz
    refine call_function_entry_kw kind_sorted plain_sorted entry_sorted (args_sorted1 _) ?_
    unfold Builtin.«sorted»
    refine wpAny_bind (m := checkCount "sorted" 1 1 _) (wpAny_pure ?_)
    refine wpAny_bind (wpAny_collect_seq a hT ho hc hd (fun h' hk => ?_) (by rw [List.size_toArray]; exact hzi))
    refine wpAny_bind (wpAny_newList ?_ (by simpa using hzi))
    have e0 : its.toArray.toList = its := by simp
    rw [e0]
    have hoL : (h'.push (seqObj "list" its.toArray 0)).get? h'.objs.size = some (seqObj "list" its.toArray 0) := Heap.get?_push_size _ rfl
    have hk2 : ∀ b o, s.heap.get? b = some o → (h'.push (seqObj "list" its.toArray 0)).get? b = some o := fun b o e => Heap.get?_push_of_some _ (hk b o e)
    have hlen : (xs.zip lr).length = its.length := by rw [List.length_zip, ← el, Nat.min_self, rv.length]
    refine wpAny_bind (wpAny_holding (list_sort_data (s := { s with heap := h'.push (seqObj "list" its.toArray 0) }) (enc := fun b : V × Lay => layD b.2) (R := fun (v : Value) (b : V × Lay) => L2.RelV b.1 v) (bs := xs.zip lr) hoL (zip_each rv el) (each_reads I hk2 rv im)
      (AllAlike.of fun b b' => lay_alike b.2 b'.2) (Sortable.tuples fun b => ⟨_, _, rfl⟩) (by rw [hlen]; exact hzi) (fun b _ => ?_) fun out ol eo => ?_))
    · have hd2 := layD_deep b.2
      show X.A.units + 1 + 1 + (layD b.2).depth < cLine
      omega
    · refine wpAny_pure ⟨_, rfl, ?_⟩
      have vo := each_vals eo
      have pm : ((xs.zip lr).mergeSort (dataLe false fun b : V × Lay => layD b.2)).Perm (xs.zip lr) := List.mergeSort_perm _ _
      have imo := im_map (K := X.K) (H := H) fun t ht => zip_im im t (pm.mem_iff.mp ht)
      have e2 : ((xs.zip lr).mergeSort (dataLe false fun b : V × Lay => layD b.2)).map (·.2) = lr.mergeSort layLe := by
        have z := List.map_mergeSort (r := dataLe false fun b : V × Lay => layD b.2) (s := layLe) (f := fun b : V × Lay => b.2) (l := xs.zip lr) (fun a _ b _ => rfl)
        rw [List.map_snd_zip (by rw [el]; exact Nat.le_refl _)] at z
        exact z
      rw [e2] at imo
      obtain ⟨ep, he'⟩ := PyProof.Rows.sortedHeap_at (vs := its) (out := out.toArray) hoL
      have I3 : L2.Inv X pins σ H { s with heap := h' } := I.kept (t' := s.toks) hk
      refine ⟨.ref h'.objs.size, upd H h'.objs.size (.lst _), I3.laid (t' := s.toks) (fun b u e => ?_) (Nat.le_refl _) ⟨?_, out, ep, vo, he'⟩, rfl, q _ _ imo (I3.hok.fresh (Nat.le_refl _))⟩
      · have e' : h'.get? b = some u := e
        have e2 : (h'.push (seqObj "list" its.toArray 0)).get? b = some u := Heap.get?_push_of_some _ e'
        exact (PyProof.Rows.sortedHeap_old (Nat.ne_of_lt (Heap.lt_size e')) (Heap.lt_size e2)).trans e2
      · rw [List.length_map, pm.length_eq, hlen]
        exact hzi
  · exact h.elim

/-! ### the order of layers -/
def tg (a : Lay) : List Nat := a.1.cps.toList
theorem tg_eq {a b : Lay} (h : tg a = tg b) : a.1 = b.1 := str_eq h
theorem layLt_iff (a b : Lay) : dataLt (layD a) (layD b) = true ↔ tg a < tg b ∨ (a.1 = b.1 ∧ a.2 < b.2) := by
  show dataLt (.tuple [.str a.1, .int a.2]) (.tuple [.str b.1, .int b.2]) = true ↔ _
  rw [dataLt_pair (by simp [alike]) (by simp [alike]), dataLt_str, dataLt_int]
  simp only [PyData.eqv, beq_iff_eq]
  by_cases h1 : a.1 = b.1
  · have hn : ¬ tg a < tg b := by
      unfold tg
      rw [h1]
      exact List.lt_irrefl _
    by_cases h2 : a.2 = b.2
    · simp [h1, h2, hn]
    · simp [h1, h2, hn]
  · simp [h1, tg]
theorem layLe_iff (a b : Lay) : layLe a b = true ↔ ¬ (tg b < tg a ∨ (b.1 = a.1 ∧ b.2 < a.2)) := by
  have e : layLe a b = !dataLt (layD b) (layD a) := rfl
  rw [e, ← layLt_iff]
  cases dataLt (layD b) (layD a) <;> simp
theorem layLe_trans (a b c : Lay) (h1 : layLe a b = true) (h2 : layLe b c = true) : layLe a c = true := by
  rw [layLe_iff] at *
  intro h
  have n1 : ¬ tg b < tg a := fun z => h1 (.inl z)
  have n2 : ¬ tg c < tg b := fun z => h2 (.inl z)
  have l1 : tg a ≤ tg b := List.not_lt.mp n1
  have l2 : tg b ≤ tg c := List.not_lt.mp n2
  have l3 := List.le_trans l1 l2
  rcases h with h | ⟨e, h⟩
  · exact List.not_lt.mpr l3 h
  · have e3 : tg c = tg a := by unfold tg; rw [e]
    rw [e3] at l2
    have e4 := tg_eq (List.le_antisymm l1 l2)
    have x1 : ¬ b.2 < a.2 := fun z => h1 (.inr ⟨e4.symm, z⟩)
    have x2 : ¬ c.2 < b.2 := fun z => h2 (.inr ⟨e.trans e4, z⟩)
    omega
theorem layLe_total (a b : Lay) : (layLe a b || layLe b a) = true := by
  cases h1 : layLe a b with
  | true => rfl
  | false =>
    have h1' : ¬ layLe a b = true := by rw [h1]; simp
    rw [layLe_iff] at h1'
    have h := Classical.not_not.mp h1'
    have h2 : layLe b a = true := by
      rw [layLe_iff]
      intro z
      rcases h with h | ⟨e, h⟩
      · rcases z with z | ⟨e, z⟩
        · exact List.lt_asymm h z
        · have e3 : tg a = tg b := by unfold tg; rw [e]
          rw [e3] at h
          exact List.lt_irrefl _ h
      · rcases z with z | ⟨_, z⟩
        · have e3 : tg a = tg b := by unfold tg; rw [e]
          rw [e3] at z
          exact List.lt_irrefl _ z
        · omega
    rw [h2]
    rfl
theorem layLe_anti (a b : Lay) (h1 : layLe a b = true) (h2 : layLe b a = true) : a = b := by
  rw [layLe_iff] at *
  have n1 : ¬ tg b < tg a := fun z => h1 (.inl z)
  have n2 : ¬ tg a < tg b := fun z => h2 (.inl z)
  have e := tg_eq (List.le_antisymm (List.not_lt.mp n1) (List.not_lt.mp n2))
  have x1 : ¬ b.2 < a.2 := fun z => h1 (.inr ⟨e.symm, z⟩)
  have x2 : ¬ a.2 < b.2 := fun z => h2 (.inr ⟨e, z⟩)
  exact lay_eq e (by omega)
theorem sort_perm {a b : List Lay} (p : a.Perm b) : a.mergeSort layLe = b.mergeSort layLe :=
  perm_uniq (R := fun x y => layLe x y = true) (fun x y => layLe_anti x y) ((List.mergeSort_perm _ _).trans (p.trans (List.mergeSort_perm _ _).symm)) (List.pairwise_mergeSort (fun a b c => layLe_trans a b c) (fun a b => layLe_total a b) _) (List.pairwise_mergeSort (fun a b c => layLe_trans a b c) (fun a b => layLe_total a b) _)
theorem tp_ty {K : PySem.W.Frag} {H : Hp} {a : Addr} {xs : List V} (h : Tp K H a xs) : TyX K H (.ref a) (.type "tuple") := by
  rcases h with h | h
  · exact .base (.tup h)
  · rcases h (fun _ => none) with (h | ⟨o, h⟩) | ⟨o, its, n, h1, h2, _⟩
    · cases h
    · cases h
    · exact .kTuple h1 h2
/-- lists of texts, of layers: compared with themselves -/
def strsL (l : List Str) : PyData := .list (l.map PyData.str)
theorem strsL_fine {l : List Str} (h : ∀ z ∈ l, Nm z) : fine (strsL l) = true := fineAll_of fun d hd => by
  obtain ⟨z, hz, rfl⟩ := List.mem_map.mp hd
  exact nm_fine (h z hz)
theorem strsL_deep (l : List Str) : (strsL l).depth ≤ 1 := by
  rw [strsL, PyData.depth]
  have := depthAll_le (n := 0) (ds := l.map PyData.str) fun d hd => by
    obtain ⟨z, _, rfl⟩ := List.mem_map.mp hd
    simp [PyData.depth]
  omega
def laysL (r : List Lay) : PyData := .list (r.map layD)
theorem laysL_fine {r : List Lay} (h : ∀ l ∈ r, LayOk l) : fine (laysL r) = true := fineAll_of fun d hd => by
  obtain ⟨l, hl, rfl⟩ := List.mem_map.mp hd
  exact layD_fine (h l hl)
theorem laysL_deep (r : List Lay) : (laysL r).depth ≤ 2 := by
  rw [laysL, PyData.depth]
  have := depthAll_le (n := 1) (ds := r.map layD) fun d hd => by
    obtain ⟨l, _, rfl⟩ := List.mem_map.mp hd
    exact layD_deep l
  omega
theorem eqv_self {d : PyData} (h : fine d = true) : PyData.eqv d d = true := SeqAt.eqv_refl _ (fine_lay _ h)
end Y

set_option Elab.async false
set_option linter.all false
set_option maxRecDepth 100000
set_option maxHeartbeats 4000000
/-! T2: rows that are alike stay so: exchanges and all that is done to rows. -/
namespace Y
open PySem PySem.Spec PyProof.Rows L2

/-- neighbours of one tag exchanged -/
inductive Sw : List Lay → List Lay → Prop
  | mk (a : List Lay) (x y : Lay) (b : List Lay) (h : x.1 = y.1) : Sw (a ++ x :: y :: b) (a ++ y :: x :: b)
theorem Sw.symm {r r' : List Lay} (h : Sw r r') : Sw r' r := by
  cases h with
  | mk a x y b h => exact .mk a y x b h.symm
theorem Sw.norm {r r' : List Lay} (h : Sw r r') : normM r = normM r' := by
  cases h with
  | mk a x y b h => exact norm_swap h a b
theorem Sw.cons {r r' : List Lay} (z : Lay) (h : Sw r r') : Sw (z :: r) (z :: r') := by
  cases h with
  | mk a x y b h => exact .mk (z :: a) x y b h
/-- led to by exchanges -/
inductive Sws : List Lay → List Lay → Prop
  | refl (r : List Lay) : Sws r r
  | step {r r' r'' : List Lay} : Sw r r' → Sws r' r'' → Sws r r''
theorem Sws.trans {r r' r'' : List Lay} (h : Sws r r') (k : Sws r' r'') : Sws r r'' := by
  induction h with
  | refl => exact k
  | step s _ ih => exact .step s (ih k)
theorem Sws.one {r r' : List Lay} (h : Sw r r') : Sws r r' := .step h (.refl _)
theorem Sws.symm {r r' : List Lay} (h : Sws r r') : Sws r' r := by
  induction h with
  | refl => exact .refl _
  | step s _ ih => exact ih.trans (.one s.symm)
theorem Sws.norm {r r' : List Lay} (h : Sws r r') : normM r = normM r' := by
  induction h with
  | refl => rfl
  | step s _ ih => exact s.norm.trans ih
theorem Sws.cons {r r' : List Lay} (z : Lay) (h : Sws r r') : Sws (z :: r) (z :: r') := by
  induction h with
  | refl => exact .refl _
  | step s _ ih => exact .step (s.cons z) ih
theorem ins_sws (x : Lay) : ∀ t : List Lay, Sws (x :: t) (insM x t)
  | [] => .refl _
  | y :: t => by
    unfold insM
    split
    · rename_i h
      exact .step (.mk [] x y t h.1) ((ins_sws x t).cons y)
    · exact .refl _
theorem norm_sws : ∀ r : List Lay, Sws r (normM r)
  | [] => .refl _
  | x :: r => ((norm_sws r).cons x).trans (ins_sws x _)
/-- alike just where exchanges lead from the one to the other -/
theorem alike_sws {r r' : List Lay} (h : normM r = normM r') : Sws r r' := (norm_sws r).trans (h ▸ (norm_sws r').symm)
/-- what keeps exchanges keeps what is alike -/
theorem keeps_alike {f : List Lay → List Lay} (hf : ∀ r r', Sw r r' → f r = f r' ∨ Sw (f r) (f r')) {r r' : List Lay} (h : normM r = normM r') : normM (f r) = normM (f r') := by
  have s := alike_sws h
  clear h
  induction s with
  | refl => rfl
  | step s _ ih =>
    rw [← ih]
    rcases hf _ _ s with e | e
    · rw [e]
    · exact e.norm
theorem keeps_eq {α : Type} {f : List Lay → α} (hf : ∀ r r', Sw r r' → f r = f r') {r r' : List Lay} (h : normM r = normM r') : f r = f r' := by
  have s := alike_sws h
  clear h
  induction s with
  | refl => rfl
  | step s _ ih => rw [← ih, hf _ _ s]

/-! ### maps, filters, tops -/
theorem sw_map {f : Lay → Lay} (ht : ∀ x y : Lay, x.1 = y.1 → (f x).1 = (f y).1) {r r' : List Lay} (h : Sw r r') : Sw (r.map f) (r'.map f) := by
  cases h with
  | mk a x y b h =>
    rw [List.map_append, List.map_append, List.map_cons, List.map_cons, List.map_cons, List.map_cons]
    exact .mk _ _ _ _ (ht x y h)
theorem sw_filter (p : Lay → Bool) {r r' : List Lay} (h : Sw r r') : r.filter p = r'.filter p ∨ Sw (r.filter p) (r'.filter p) := by
  cases h with
  | mk a x y b h =>
    rw [List.filter_append, List.filter_append, List.filter_cons, List.filter_cons, List.filter_cons, List.filter_cons]
    cases p x <;> cases p y
    · exact .inl rfl
    · exact .inl rfl
    · exact .inl rfl
    · exact .inr (.mk _ _ _ _ h)
theorem sw_app (t : List Lay) {r r' : List Lay} (h : Sw r r') : Sw (r ++ t) (r' ++ t) := by
  cases h with
  | mk a x y b h =>
    rw [List.append_assoc, List.append_assoc]
    exact .mk a x y (b ++ t) h
theorem alike_app (t : List Lay) {r r' : List Lay} (h : normM r = normM r') : normM (r ++ t) = normM (r' ++ t) := keeps_alike (f := fun r => r ++ t) (fun _ _ s => .inr (sw_app t s)) h

/-! ### numbers exchanged -/
def tr (k i : Nat) : Nat := if i = k then k + 1 else if i = k + 1 then k else i
theorem tr_tr (k i : Nat) : tr k (tr k i) = i := by
  unfold tr
  split <;> split <;> first | omega | (split <;> omega)
theorem tr_lt {k i n : Nat} (hk : k + 1 < n) (hi : i < n) : tr k i < n := by
  unfold tr
  split <;> first | omega | (split <;> omega)
section
variable {a b : List Lay} {x y : Lay}
theorem sw_get (i : Nat) : (a ++ y :: x :: b)[tr a.length i]? = (a ++ x :: y :: b)[i]? := by
  unfold tr
  by_cases h1 : i = a.length
  · rw [if_pos h1, h1, List.getElem?_append_right (by omega), List.getElem?_append_right (by omega)]
    simp
  · by_cases h2 : i = a.length + 1
    · rw [if_neg h1, if_pos h2, h2, List.getElem?_append_right (by omega), List.getElem?_append_right (by omega)]
      simp
    · rw [if_neg h1, if_neg h2]
      by_cases h3 : i < a.length
      · rw [List.getElem?_append_left h3, List.getElem?_append_left h3]
      · rw [List.getElem?_append_right (by omega), List.getElem?_append_right (by omega)]
        obtain ⟨d, hd⟩ : ∃ d, i - a.length = d + 2 := ⟨i - a.length - 2, by omega⟩
        rw [hd]
        rfl
theorem sw_stg (i : Nat) : stg (a ++ y :: x :: b) (tr a.length i) = stg (a ++ x :: y :: b) i := by
  unfold stg
  rw [List.getD_eq_getElem?_getD, List.getD_eq_getElem?_getD, sw_get]
theorem sw_ahead (hne : x.2 ≠ y.2) (i j : Nat) : ahead (a ++ y :: x :: b) (tr a.length i) (tr a.length j) = ahead (a ++ x :: y :: b) i j := by
  unfold ahead
  rw [sw_stg, sw_stg]
  have sx : stg (a ++ x :: y :: b) a.length = x.2 := by
    unfold stg
    rw [List.getD_eq_getElem?_getD, List.getElem?_append_right (Nat.le_refl _)]
    simp
  have sy : stg (a ++ x :: y :: b) (a.length + 1) = y.2 := by
    unfold stg
    rw [List.getD_eq_getElem?_getD, List.getElem?_append_right (by omega)]
    simp
  by_cases hs : stg (a ++ x :: y :: b) i = stg (a ++ x :: y :: b) j
  · have key : decide (tr a.length j < tr a.length i) = decide (j < i) := by
      have no : ¬ ((i = a.length ∧ j = a.length + 1) ∨ (i = a.length + 1 ∧ j = a.length)) := by
        rintro (⟨e1, e2⟩ | ⟨e1, e2⟩)
        · rw [e1, e2, sx, sy] at hs
          exact hne hs
        · rw [e1, e2, sx, sy] at hs
          exact hne hs.symm
      have iff : tr a.length j < tr a.length i ↔ j < i := by
        unfold tr
        by_cases e1 : j = a.length
        · rw [if_pos e1]
          by_cases e2 : i = a.length
          · rw [if_pos e2]; omega
          · rw [if_neg e2]
            by_cases e3 : i = a.length + 1
            · exact absurd (.inr ⟨e3, e1⟩) no
            · rw [if_neg e3]; omega
        · rw [if_neg e1]
          by_cases e4 : j = a.length + 1
          · rw [if_pos e4]
            by_cases e2 : i = a.length
            · exact absurd (.inl ⟨e2, e4⟩) no
            · rw [if_neg e2]
              by_cases e3 : i = a.length + 1
              · rw [if_pos e3]; omega
              · rw [if_neg e3]; omega
          · rw [if_neg e4]
            by_cases e2 : i = a.length
            · rw [if_pos e2]; omega
            · rw [if_neg e2]
              by_cases e3 : i = a.length + 1
              · rw [if_pos e3]; omega
              · rw [if_neg e3]
      by_cases c : j < i
      · rw [decide_eq_true c, decide_eq_true (iff.mpr c)]
      · rw [decide_eq_false c, decide_eq_false fun z => c (iff.mp z)]
    rw [key]
  · rw [decide_eq_false hs, Bool.false_and, Bool.false_and]
end
/-- the layers by rank -/
def byRank (r : List Lay) : List Lay := (rankM r).filterMap fun i => r[i]?
theorem sw_rank {a b : List Lay} {x y : Lay} (hne : x.2 ≠ y.2) : rankM (a ++ y :: x :: b) = (rankM (a ++ x :: y :: b)).map (tr a.length) := by
  symm
  have el : (a ++ y :: x :: b).length = (a ++ x :: y :: b).length := by simp
  have hk : a.length + 1 < (a ++ x :: y :: b).length := by simp
  refine rankM_uniq ?_ ?_
  · refine (List.perm_ext_iff_of_nodup ?_ List.nodup_range).mpr fun i => ?_
    · refine List.Pairwise.map _ (fun i j h => ?_) (rankM_nodup _)
      intro e
      have e2 := congrArg (tr a.length) e
      rw [tr_tr, tr_tr] at e2
      exact h e2
    · rw [List.mem_map, List.mem_range, el]
      constructor
      · rintro ⟨j, hj, rfl⟩
        exact tr_lt hk (rankM_mem.mp hj)
      · intro hi
        exact ⟨tr a.length i, rankM_mem.mpr (tr_lt hk hi), tr_tr _ _⟩
  · refine List.pairwise_map.mpr ((rankM_sorted _).imp fun {i j} h => ?_)
    rw [sw_ahead hne]
    exact h
theorem sw_same {a b : List Lay} {x y : Lay} (h : x.1 = y.1) (e : x.2 = y.2) : a ++ x :: y :: b = a ++ y :: x :: b := by rw [lay_eq h e]
theorem sw_byRank {r r' : List Lay} (h : Sw r r') : byRank r = byRank r' := by
  cases h with
  | mk a x y b h =>
    by_cases e : x.2 = y.2
    · rw [sw_same h e]
    · unfold byRank
      rw [sw_rank e, List.filterMap_map]
      congr 1
      funext i
      exact (sw_get i).symm
theorem alike_byRank {r r' : List Lay} (h : normM r = normM r') : byRank r = byRank r' := keeps_eq (fun _ _ s => sw_byRank s) h
theorem sw_cnt {a b : List Lay} {x y : Lay} (hne : x.2 ≠ y.2) {i : Nat} (hi : i < (a ++ x :: y :: b).length) : cntM (a ++ y :: x :: b) (tr a.length i) = cntM (a ++ x :: y :: b) i := by
  refine cntM_pos ?_
  rw [sw_rank hne, List.getElem?_map, rankM_at hi]
  rfl
theorem sw_top {a b : List Lay} {x y : Lay} (hne : x.2 ≠ y.2) : topN (a ++ y :: x :: b) = tr a.length (topN (a ++ x :: y :: b)) := by
  obtain ⟨m, e⟩ := rankM_cons (r := a ++ x :: y :: b) (by simp)
  have e2 : rankM (a ++ y :: x :: b) = _ := sw_rank hne
  rw [e, List.map_cons] at e2
  unfold topN
  rw [e2]
  rw [List.headD_cons]
  rw [show topN (a ++ x :: y :: b) = (rankM (a ++ x :: y :: b)).headD 0 from rfl, e, List.headD_cons]

/-! ### what is done number by number -/
theorem fmI_range {α β : Type} (f : Nat → α → Option β) : ∀ (r : List α) (k : Nat), (r.zipIdx k).filterMap (fun p => f p.2 p.1) = (List.range r.length).filterMap fun i => (r[i]?).bind (f (k + i))
  | [], k => by simp
  | a :: r, k => by
    rw [List.zipIdx_cons, List.filterMap_cons, List.length_cons, List.range_succ_eq_map, List.filterMap_cons, fmI_range f r (k + 1), List.filterMap_map]
    simp only [List.getElem?_cons_zero, Option.bind_some, Nat.add_zero]
    have e : (fun i => (r[i]?).bind (f (k + 1 + i))) = (fun i => ((a :: r)[i]?).bind (f (k + i))) ∘ Nat.succ := by
      funext i
      show _ = ((a :: r)[i + 1]?).bind (f (k + (i + 1)))
      rw [List.getElem?_cons_succ, Nat.add_assoc, Nat.add_comm 1 i]
    rw [e]
theorem partM_fmI (r : List Lay) (P : Nat → Bool) : partM r P = fmI (fun i l => if P i = true then some l else none) r := by
  unfold partM fmI
  rw [fmI_range (fun i l => if P i = true then some l else none) r 0, List.filterMap_filter]
  congr 1
  funext i
  rw [Nat.zero_add]
  cases P i with
  | true => simp
  | false => simp
theorem fmI_app {α β : Type} (f : Nat → α → Option β) (a b : List α) : fmI f (a ++ b) = fmI f a ++ fmI (fun i => f (a.length + i)) b := by
  have key : ∀ (b : List α) (k j : Nat), (b.zipIdx (k + j)).filterMap (fun p => f p.2 p.1) = (b.zipIdx j).filterMap fun p => f (k + p.2) p.1 := by
    intro b
    induction b with
    | nil => intro k j; rfl
    | cons c b ih =>
      intro k j
      rw [List.zipIdx_cons, List.zipIdx_cons, List.filterMap_cons, List.filterMap_cons, Nat.add_assoc, ih k (j + 1)]
  unfold fmI
  rw [List.zipIdx_append, List.filterMap_append, Nat.zero_add]
  congr 1
  have := key b a.length 0
  rw [Nat.add_zero] at this
  exact this
theorem fmI_cons {α β : Type} (f : Nat → α → Option β) (x : α) (b : List α) : fmI f (x :: b) = (f 0 x).toList ++ fmI (fun i => f (i + 1)) b := by
  have h := fmI_app f [x] b
  have e : fmI f [x] = (f 0 x).toList := by
    unfold fmI
    rw [List.zipIdx_singleton]
    cases h : f 0 x <;> simp [h]
  rw [e] at h
  rw [show x :: b = [x] ++ b from rfl, h]
  congr 2
  funext i
  rw [List.length_singleton, Nat.add_comm]
theorem fm_congr {α β : Type} {f g : α → Option β} : ∀ {l : List α}, (∀ a ∈ l, f a = g a) → l.filterMap f = l.filterMap g
  | [], _ => rfl
  | a :: l, h => by rw [List.filterMap_cons, List.filterMap_cons, h a List.mem_cons_self, fm_congr fun b hb => h b (List.mem_cons_of_mem _ hb)]
theorem fmI_congr {α β : Type} {f g : Nat → α → Option β} {r : List α} (h : ∀ i l, r[i]? = some l → f i l = g i l) : fmI f r = fmI g r := by
  unfold fmI
  rw [fmI_range f r 0, fmI_range g r 0]
  apply fm_congr
  intro i hi
  have hi := List.mem_range.mp hi
  rw [Nat.zero_add, List.getElem?_eq_getElem hi]
  exact h i _ (List.getElem?_eq_getElem hi)
/-- exchanged rows, done the same to the same layers -/
theorem sw_fmI {a b : List Lay} {x y : Lay} (h : x.1 = y.1) {f f' : Nat → Lay → Option Lay} (ht : ∀ i l l', f i l = some l' → l'.1 = l.1) (hf : ∀ i l, (a ++ x :: y :: b)[i]? = some l → f' (tr a.length i) l = f i l) :
    fmI f (a ++ x :: y :: b) = fmI f' (a ++ y :: x :: b) ∨ Sw (fmI f (a ++ x :: y :: b)) (fmI f' (a ++ y :: x :: b)) := by
  have eA : fmI f a = fmI f' a := fmI_congr fun i l hl => by
    have hi := (List.getElem?_eq_some_iff.mp hl).1
    have e := hf i l (by rw [List.getElem?_append_left hi]; exact hl)
    rw [show tr a.length i = i from by unfold tr; rw [if_neg (by omega), if_neg (by omega)]] at e
    exact e.symm
  have ex : f' (a.length + 1) x = f a.length x := by
    have e := hf a.length x (by rw [List.getElem?_append_right (Nat.le_refl _)]; simp)
    rw [show tr a.length a.length = a.length + 1 from by unfold tr; rw [if_pos rfl]] at e
    exact e
  have ey : f' a.length y = f (a.length + 1) y := by
    have e := hf (a.length + 1) y (by rw [List.getElem?_append_right (by omega)]; simp)
    rw [show tr a.length (a.length + 1) = a.length from by unfold tr; rw [if_neg (by omega), if_pos rfl]] at e
    exact e
  have eB : fmI (fun i => f (a.length + (i + 1 + 1))) b = fmI (fun i => f' (a.length + (i + 1 + 1))) b := fmI_congr fun i l hl => by
    have e := hf (a.length + (i + 1 + 1)) l (by
      rw [List.getElem?_append_right (by omega), show a.length + (i + 1 + 1) - a.length = i + 2 by omega]
      exact hl)
    rw [show tr a.length (a.length + (i + 1 + 1)) = a.length + (i + 1 + 1) from by unfold tr; rw [if_neg (by omega), if_neg (by omega)]] at e
    exact e.symm
  rw [fmI_app, fmI_app, fmI_cons, fmI_cons, fmI_cons, fmI_cons, eA]
  simp only [Nat.add_zero, Nat.zero_add]
  rw [eB, ex, ey]
  cases e1 : f a.length x with
  | none => exact .inl (by simp)
  | some u =>
    cases e2 : f (a.length + 1) y with
    | none => exact .inl (by simp)
    | some w =>
      refine .inr ?_
      have e3 : u.1 = w.1 := by rw [ht _ _ _ e1, ht _ _ _ e2, h]
      have := Sw.mk (fmI f' a) u w (fmI (fun i => f' (a.length + (i + 1 + 1))) b) e3
      simpa using this
/-- thinned -/
theorem thin_fmI (r : List Lay) (m : Nat) : thinM r m = fmI (fun i l => if decide (cntM r i < m) = true then some l else none) r := partM_fmI r _
theorem sw_thin (m : Nat) {r r' : List Lay} (h : Sw r r') : thinM r m = thinM r' m ∨ Sw (thinM r m) (thinM r' m) := by
  cases h with
  | mk a x y b h =>
    by_cases e : x.2 = y.2
    · exact .inl (by rw [sw_same h e])
    · rw [thin_fmI, thin_fmI]
      refine sw_fmI h (fun i l l' z => ?_) fun i l hl => ?_
      · split at z
        · rw [Option.some.inj z]
        · cases z
      · rw [sw_cnt e (List.getElem?_eq_some_iff.mp hl).1]
theorem alike_thin (m : Nat) {r r' : List Lay} (h : normM r = normM r') : normM (thinM r m) = normM (thinM r' m) := keeps_alike (fun _ _ s => sw_thin m s) h
theorem scrap_fmI (r : List Lay) : scrapM r = fmI (fun i l => if i ≠ topN r then some l else none) r := (fmI_erase r _).symm
theorem tr_inj {k i j : Nat} (h : tr k i = tr k j) : i = j := by
  have := congrArg (tr k) h
  rw [tr_tr, tr_tr] at this
  exact this
theorem sw_scrap {r r' : List Lay} (h : Sw r r') : scrapM r = scrapM r' ∨ Sw (scrapM r) (scrapM r') := by
  cases h with
  | mk a x y b h =>
    by_cases e : x.2 = y.2
    · exact .inl (by rw [sw_same h e])
    · rw [scrap_fmI, scrap_fmI]
      refine sw_fmI h (fun i l l' z => ?_) fun i l hl => ?_
      · split at z
        · rw [Option.some.inj z]
        · cases z
      · rw [sw_top e]
        by_cases c : i = topN (a ++ x :: y :: b)
        · rw [if_neg (by simp [c]), if_neg (by simp [c])]
        · rw [if_pos (fun z => c (tr_inj z)), if_pos c]
theorem alike_scrap {r r' : List Lay} (h : normM r = normM r') : normM (scrapM r) = normM (scrapM r') := keeps_alike (fun _ _ s => sw_scrap s) h
/-! ### rubbed -/
theorem rub_fmI {r : List Lay} {n : Int} (hpos : ∀ l ∈ r, 0 < l.2) : rubM r n = fmI (fun i (l : Lay) => if 0 < l.2 - n * (if ((i : Nat) : Int) = ((topN r : Nat) : Int) then 1 else 0) then some ((l.1, l.2 - n * (if ((i : Nat) : Int) = ((topN r : Nat) : Int) then 1 else 0)) : Lay) else none) r := by
  by_cases hne : r = []
  · subst hne
    unfold rubM lowM scrapM
    split <;> simp [fmI]
  · rw [← there_low hne hpos, ← fmI_low]
    unfold fmI
    rw [List.filter_filterMap]
    apply fm_congr
    intro p _
    simp only [Option.filter_some]
    by_cases c : 0 < p.1.2 - n * (if ((p.2 : Nat) : Int) = ((topN r : Nat) : Int) then 1 else 0)
    · rw [if_pos c, if_pos (decide_eq_true c)]
    · rw [if_neg c, if_neg (by simpa using c)]
theorem Sw.mem {r r' : List Lay} (h : Sw r r') {l : Lay} : l ∈ r' ↔ l ∈ r := by
  cases h with
  | mk a x y b h =>
    simp only [List.mem_append, List.mem_cons]
    constructor
    · rintro (z | z | z | z)
      · exact .inl z
      · exact .inr (.inr (.inl z))
      · exact .inr (.inl z)
      · exact .inr (.inr (.inr z))
    · rintro (z | z | z | z)
      · exact .inl z
      · exact .inr (.inr (.inl z))
      · exact .inr (.inl z)
      · exact .inr (.inr (.inr z))
theorem sw_rub (n : Int) {r r' : List Lay} (hpos : ∀ l ∈ r, 0 < l.2) (h : Sw r r') : rubM r n = rubM r' n ∨ Sw (rubM r n) (rubM r' n) := by
  have hpos' : ∀ l ∈ r', 0 < l.2 := fun l hl => hpos l (h.mem.mp hl)
  cases h with
  | mk a x y b h =>
    by_cases e : x.2 = y.2
    · exact .inl (by rw [sw_same h e])
    · rw [rub_fmI hpos, rub_fmI hpos']
      refine sw_fmI h (fun i l l' z => ?_) fun i l hl => ?_
      · by_cases c : 0 < l.2 - n * (if ((i : Nat) : Int) = ((topN (a ++ x :: y :: b) : Nat) : Int) then 1 else 0)
        · rw [if_pos c] at z
          rw [← Option.some.inj z]
        · rw [if_neg c] at z
          cases z
      · rw [sw_top e]
        have c : (((tr a.length i : Nat) : Int) = ((tr a.length (topN (a ++ x :: y :: b)) : Nat) : Int)) = ((i : Int) = ((topN (a ++ x :: y :: b) : Nat) : Int)) := propext ⟨fun z => by
          have := tr_inj (k := a.length) (i := i) (j := topN (a ++ x :: y :: b)) (by omega)
          omega, fun z => by
          have : i = topN (a ++ x :: y :: b) := by omega
          rw [← this]⟩
        simp only [c]
theorem alike_pos {r r' : List Lay} (h : normM r = normM r') (hp : ∀ l ∈ r, 0 < l.2) : ∀ l ∈ r', 0 < l.2 := fun l hl => hp l (norm_mem.mp (h ▸ norm_mem.mpr hl))
theorem alike_rub (n : Int) {r r' : List Lay} (hp : ∀ l ∈ r, 0 < l.2) (h : normM r = normM r') : normM (rubM r n) = normM (rubM r' n) := by
  have s := alike_sws h
  clear h
  induction s with
  | refl => rfl
  | step s _ ih =>
    rw [← ih fun l hl => hp l (s.mem.mp hl)]
    rcases sw_rub n hp s with e | e
    · rw [e]
    · exact e.norm
/-! ### weaker, stronger -/
def shiftM (r : List Lay) (n : Int) : List Lay := r.map fun l => (l.1, l.2 + n)
theorem alike_shift (n : Int) {r r' : List Lay} (h : normM r = normM r') : normM (shiftM r n) = normM (shiftM r' n) := keeps_alike (f := fun r => shiftM r n) (fun _ _ s => .inr (sw_map (f := fun l : Lay => (l.1, l.2 + n)) (fun x y e => e) s)) h
theorem alike_filter (p : Lay → Bool) {r r' : List Lay} (h : normM r = normM r') : normM (r.filter p) = normM (r'.filter p) := keeps_alike (f := fun r => r.filter p) (fun _ _ s => sw_filter p s) h
theorem shift_stg {r : List Lay} {n : Int} {i : Nat} (h : i < r.length) : stg (shiftM r n) i = stg r i + n := by
  have h' : i < (shiftM r n).length := by unfold shiftM; rw [List.length_map]; exact h
  unfold stg shiftM
  rw [List.getD_eq_getElem?_getD, List.getD_eq_getElem?_getD, List.getElem?_map, List.getElem?_eq_getElem h]
  rfl
theorem shift_ahead {r : List Lay} {n : Int} {i j : Nat} (hi : i < r.length) (hj : j < r.length) : ahead (shiftM r n) i j = ahead r i j := by
  unfold ahead
  rw [shift_stg hi, shift_stg hj]
  have e1 : decide (stg r j + n < stg r i + n) = decide (stg r j < stg r i) := by
    by_cases h : stg r j < stg r i
    · rw [decide_eq_true h, decide_eq_true (by omega)]
    · rw [decide_eq_false h, decide_eq_false (by omega)]
  have e2 : decide (stg r i + n = stg r j + n) = decide (stg r i = stg r j) := by
    by_cases h : stg r i = stg r j
    · rw [decide_eq_true h, decide_eq_true (by omega)]
    · rw [decide_eq_false h, decide_eq_false (by omega)]
  rw [e1, e2]
theorem shift_cnt {r : List Lay} {n : Int} {i : Nat} (hi : i < r.length) : cntM (shiftM r n) i = cntM r i := by
  unfold cntM
  have el : (shiftM r n).length = r.length := by unfold shiftM; rw [List.length_map]
  rw [el]
  congr 1
  exact List.filter_congr fun j hj => shift_ahead (List.mem_range.mp hj) hi
theorem thin_shift (r : List Lay) (n : Int) (m : Nat) : thinM (shiftM r n) m = shiftM (thinM r m) n := by
  have el : (shiftM r n).length = r.length := by unfold shiftM; rw [List.length_map]
  rw [thinM_eq, thinM_eq]
  unfold shiftM
  rw [List.map_filterMap, List.length_map]
  apply fm_congr
  intro i hi
  have hi := List.mem_range.mp hi
  have e := shift_cnt (n := n) hi
  unfold shiftM at e
  rw [e, List.getElem?_map]
  cases decide (cntM r i < m) <;> rfl
/-- thinned of a part that has all of a rank below -/
theorem thin_part {s : List Lay} {P : Nat → Bool} {m : Nat} (h : ∀ i, i < s.length → cntM s i < m → P i = true) : thinM (partM s P) m = thinM s m := by
  rw [thinM_part (partM s P), part_part (r := s) (P := P) _ (fun i => decide (cntM s i < m))]
  · rw [thinM_part s, partM_fmI, partM_fmI]
    refine fmI_congr fun i l hl => ?_
    have hi := (List.getElem?_eq_some_iff.mp hl).1
    by_cases c : cntM s i < m
    · rw [h i hi c, decide_eq_true c]
      rfl
    · rw [decide_eq_false c, Bool.and_false]
  · intro k hk
    have hi := ixM_lt (r := s) (P := P) _ (List.getElem_mem hk)
    have e := cnt_part hk
    by_cases c : cntM s (ixM s P)[k] < m
    · have c2 : cntM (partM s P) k < m := by
        rw [e]
        refine Nat.lt_of_le_of_lt ?_ c
        unfold cntM
        rw [List.filter_filter]
        refine List.Sublist.length_le ?_
        have : (List.range s.length).filter (fun a => ahead s a (ixM s P)[k] && P a) = ((List.range s.length).filter fun a => ahead s a (ixM s P)[k]).filter P := by
          rw [List.filter_filter]
          congr 1
          funext a
          exact Bool.and_comm _ _
        rw [this]
        exact List.filter_sublist
      rw [decide_eq_true c, decide_eq_true c2]
    · have c2 : ¬ cntM (partM s P) k < m := by
        rw [e]
        have sub : ((rankM s).take m).length ≤ ((ixM s P).filter fun j => ahead s j (ixM s P)[k]).length := by
          refine nodup_le ((rankM_nodup s).sublist (List.take_sublist _ _)) fun j hj => ?_
          obtain ⟨q, hq⟩ := List.mem_iff_getElem?.mp hj
          rw [List.getElem?_take] at hq
          split at hq
          · rename_i hqm
            have hjr := rankM_mem.mp (List.mem_of_getElem? hq)
            have cj := cntM_pos hq
            refine List.mem_filter.mpr ⟨List.mem_filter.mpr ⟨List.mem_range.mpr hjr, h j hjr (by omega)⟩, ?_⟩
            have e1 := rankM_at hi
            have hs := List.pairwise_iff_getElem.mp (rankM_strict s) q (cntM s (ixM s P)[k]) (List.getElem?_eq_some_iff.mp hq).1 (List.getElem?_eq_some_iff.mp e1).1 (by omega)
            rw [(List.getElem?_eq_some_iff.mp hq).2, (List.getElem?_eq_some_iff.mp e1).2] at hs
            exact hs
          · cases hq
        rw [List.length_take, rankM_length] at sub
        have := cntM_lt hi
        omega
      rw [decide_eq_false c, decide_eq_false c2]
theorem fmI_plain {α β : Type} (f : α → Option β) (r : List α) : fmI (fun _ l => f l) r = r.filterMap f := by
  unfold fmI
  have : (fun p : α × Nat => f p.1) = f ∘ Prod.fst := rfl
  rw [this, ← List.filterMap_map, List.zipIdx_map_fst]
theorem stg_get {r : List Lay} {i : Nat} {l : Lay} (h : r[i]? = some l) : stg r i = l.2 := by
  unfold stg
  rw [List.getD_eq_getElem?_getD, h]
  rfl
abbrev posB (l : Lay) : Bool := decide (0 < l.2)
theorem filter_part (r : List Lay) : r.filter posB = partM r fun i => decide (0 < stg r i) := by
  rw [partM_fmI, ← fm_filter, ← fmI_plain]
  exact fmI_congr fun i l hl => by rw [stg_get hl]
theorem part_congr {r : List Lay} {P Q : Nat → Bool} (h : ∀ i, i < r.length → P i = Q i) : partM r P = partM r Q := by
  rw [partM_fmI, partM_fmI]
  exact fmI_congr fun i l hl => by rw [h i (List.getElem?_eq_some_iff.mp hl).1]
theorem thin_pos (r : List Lay) (m : Nat) : thinM (r.filter posB) m = (thinM r m).filter posB := by
  rw [filter_part r, filter_part (thinM r m), thinM_part, thinM_part, part_part (r := r) (P := fun i => decide (0 < stg r i)) _ (fun i => decide (cntM r i < m)), part_part (r := r) (P := fun i => decide (cntM r i < m)) _ (fun i => decide (0 < stg r i))]
  · exact part_congr fun i _ => Bool.and_comm _ _
  · intro k hk
    rw [stg_part hk]
  · intro k hk
    rw [cnt_part_same hk]
    intro j hj hja
    have hm := of_decide_eq_true (List.mem_filter.mp (List.getElem_mem hk)).2
    have := ahead_iff.mp hja
    exact decide_eq_true (by omega)
/-- layers put on top -/
theorem app_stg {r t : List Lay} {i : Nat} (h : i < r.length) : stg (r ++ t) i = stg r i := by
  unfold stg
  rw [List.getD_eq_getElem?_getD, List.getD_eq_getElem?_getD, List.getElem?_append_left h]
theorem app_ahead {r t : List Lay} {i j : Nat} (hi : i < r.length) (hj : j < r.length) : ahead (r ++ t) i j = ahead r i j := by
  unfold ahead
  rw [app_stg hi, app_stg hj]
theorem app_cnt {r t : List Lay} {i : Nat} (hi : i < r.length) : cntM r i ≤ cntM (r ++ t) i := by
  unfold cntM
  rw [List.length_append, List.range_add, List.filter_append, List.length_append]
  have e : (List.range r.length).filter (fun o => ahead (r ++ t) o i) = (List.range r.length).filter fun o => ahead r o i := List.filter_congr fun j hj => app_ahead (List.mem_range.mp hj) hi
  rw [e]
  omega
theorem part_all (r : List Lay) : partM r (fun _ => true) = r := by
  rw [partM_fmI]
  show fmI (fun _ (l : Lay) => if true = true then some l else none) r = r
  have := fmI_plain (fun l : Lay => if true = true then some l else none) r
  rw [this]
  have e : (fun l : Lay => if true = true then some l else none) = some := by funext l; exact if_pos rfl
  rw [e, List.filterMap_some]
theorem thin_app (r t : List Lay) (m : Nat) : thinM (thinM r m ++ t) m = thinM (r ++ t) m := by
  have e : thinM r m ++ t = partM (r ++ t) fun i => decide (i < r.length → cntM r i < m) := by
    rw [partM_fmI, fmI_app, thin_fmI]
    congr 1
    · exact fmI_congr fun i l hl => by
        have hi := (List.getElem?_eq_some_iff.mp hl).1
        have : (i < r.length → cntM r i < m) ↔ cntM r i < m := ⟨fun z => z hi, fun z _ => z⟩
        simp only [this]
    · have e2 : fmI (fun i (l : Lay) => if decide (r.length + i < r.length → cntM r (r.length + i) < m) = true then some l else none) t = partM t fun _ => true := by
        rw [partM_fmI]
        exact fmI_congr fun i l _ => by
          rw [decide_eq_true (fun z => absurd z (by omega))]
      rw [e2, part_all]
  rw [e]
  refine thin_part fun i _ hc => decide_eq_true fun hi => ?_
  exact Nat.lt_of_le_of_lt (app_cnt hi) hc
/-- scraped -/
theorem cnt_zero {r : List Lay} {i : Nat} (hi : i < r.length) : cntM r i = 0 ↔ i = topN r := by
  have hne : r ≠ [] := fun z => by rw [z] at hi; simp at hi
  obtain ⟨m, e⟩ := rankM_cons hne
  constructor
  · intro h
    have := rankM_at hi
    rw [h, e] at this
    simpa using this.symm
  · intro h
    refine cntM_pos ?_
    rw [e, h]
    rfl
theorem scrap_part (r : List Lay) : scrapM r = partM r fun i => decide (cntM r i ≠ 0) := by
  rw [scrap_fmI, partM_fmI]
  refine fmI_congr fun i l hl => ?_
  have hi := (List.getElem?_eq_some_iff.mp hl).1
  have := cnt_zero hi
  by_cases c : i = topN r
  · rw [if_neg (by simp [c]), if_neg (by simp [this.mpr c])]
  · have c0 : cntM r i ≠ 0 := fun z => c (this.mp z)
    rw [if_pos c, if_pos (decide_eq_true c0)]
theorem filter_ne_len {p : Nat → Bool} {t : Nat} : ∀ {l : List Nat}, l.Nodup → t ∈ l → p t = true → (l.filter fun j => p j && decide (j ≠ t)).length + 1 = (l.filter p).length
  | a :: l, hn, ht, hp => by
    obtain ⟨h1, h2⟩ := List.nodup_cons.mp hn
    rw [List.filter_cons, List.filter_cons]
    by_cases e : a = t
    · subst e
      rw [hp, Bool.true_and, if_neg (by simp), if_pos rfl, List.length_cons]
      congr 1
      congr 1
      exact List.filter_congr fun j hj => by
        have c0 : j ≠ a := fun z => h1 (z ▸ hj)
        rw [decide_eq_true c0, Bool.and_true]
    · have ht' : t ∈ l := (List.mem_cons.mp ht).resolve_left fun z => e z.symm
      have ih := filter_ne_len h2 ht' hp
      rw [decide_eq_true e, Bool.and_true]
      cases p a with
      | true => simp only [if_true, List.length_cons]; omega
      | false => simpa using ih
theorem thin_scrap (r : List Lay) (m : Nat) : thinM (scrapM r) m = scrapM (thinM r (m + 1)) := by
  rw [scrap_part r, scrap_part (thinM r (m + 1)), thinM_part, thinM_part, part_part (r := r) (P := fun i => decide (cntM r i ≠ 0)) _ (fun i => decide (cntM r i < m + 1)), part_part (r := r) (P := fun i => decide (cntM r i < m + 1)) _ (fun i => decide (cntM r i ≠ 0))]
  · exact part_congr fun i _ => Bool.and_comm _ _
  · intro k hk
    rw [cnt_part_same hk]
    intro j hj hja
    have hm := of_decide_eq_true (List.mem_filter.mp (List.getElem_mem hk)).2
    have := cnt_lt_of_ahead hj (ixM_lt _ (List.getElem_mem hk)) hja
    exact decide_eq_true (by omega)
  · intro k hk
    have hi := ixM_lt (r := r) (P := fun i => decide (cntM r i ≠ 0)) _ (List.getElem_mem hk)
    have hm : cntM r (ixM r fun i => decide (cntM r i ≠ 0))[k] ≠ 0 := of_decide_eq_true (List.mem_filter.mp (List.getElem_mem hk)).2
    have hne : r ≠ [] := fun z => by
      have hp : 0 < r.length := Nat.lt_of_le_of_lt (Nat.zero_le _) hi
      rw [z] at hp
      simp at hp
    have e := cnt_part hk
    rw [List.filter_filter] at e
    have e2 : (List.range r.length).filter (fun a => ahead r a (ixM r fun i => decide (cntM r i ≠ 0))[k] && decide (cntM r a ≠ 0)) = (List.range r.length).filter fun a => ahead r a (ixM r fun i => decide (cntM r i ≠ 0))[k] && decide (a ≠ topN r) := List.filter_congr fun a ha => by
      have := cnt_zero (List.mem_range.mp ha)
      by_cases c : a = topN r
      · rw [decide_eq_false (by simp [this.mpr c]), decide_eq_false (by simp [c])]
      · have c0 : cntM r a ≠ 0 := fun z => c (this.mp z)
        rw [decide_eq_true c0, decide_eq_true c]
    rw [e2] at e
    have hta : ahead r (topN r) (ixM r fun i => decide (cntM r i ≠ 0))[k] = true := by
      have h0 := topN_first hne hi
      have hn : (ixM r fun i => decide (cntM r i ≠ 0))[k] ≠ topN r := fun z => hm ((cnt_zero hi).mpr z)
      rw [ahead_no] at h0
      rw [ahead_iff]
      omega
    have e3 := filter_ne_len (p := fun a => ahead r a (ixM r fun i => decide (cntM r i ≠ 0))[k]) List.nodup_range (List.mem_range.mpr (topN_lt hne)) hta
    have e4 : cntM (partM r fun i => decide (cntM r i ≠ 0)) k + 1 = cntM r (ixM r fun i => decide (cntM r i ≠ 0))[k] := by
      rw [e]
      exact e3
    by_cases c : cntM r (ixM r fun i => decide (cntM r i ≠ 0))[k] < m + 1
    · rw [decide_eq_true c, decide_eq_true (by omega)]
    · rw [decide_eq_false c, decide_eq_false (by omega)]
/-- the first layer -/
def topL (r : List Lay) : Option Lay := r[topN r]?
theorem thin_topL (r : List Lay) (m : Nat) : topL (thinM r (m + 1)) = topL r := by
  by_cases hne : r = []
  · subst hne
    rfl
  · have ht := topN_lt hne
    have h0 : cntM r (topN r) = 0 := (cnt_zero ht).mpr rfl
    have hmem : topN r ∈ ixM r fun i => decide (cntM r i < m + 1) := List.mem_filter.mpr ⟨List.mem_range.mpr ht, decide_eq_true (by omega)⟩
    obtain ⟨k, hk, ek⟩ := List.mem_iff_getElem.mp hmem
    have hkl : k < (thinM r (m + 1)).length := by
      rw [thinM_part, partM_len]
      exact hk
    have ck : cntM (thinM r (m + 1)) k = 0 := by
      rw [thinM_part, cnt_part_same hk, ek, h0]
      intro j hj hja
      have := cnt_lt_of_ahead hj (ixM_lt _ (List.getElem_mem hk)) hja
      rw [ek, h0] at this
      exact absurd this (Nat.not_lt_zero _)
    have e := (cnt_zero hkl).mp ck
    unfold topL
    rw [← e, thinM_part]
    show ((ixM r fun i => decide (cntM r i < m + 1)).filterMap fun i => r[i]?)[k]? = _
    rw [fm_at ixM_lt, List.getElem?_eq_getElem hk, ek]
    rfl
theorem topL_rank (r : List Lay) : topL r = (byRank r).head? := by
  by_cases hne : r = []
  · subst hne
    unfold topL byRank
    rw [rankM_nil]
    rfl
  · obtain ⟨m, e⟩ := rankM_cons hne
    have ht := topN_lt hne
    unfold topL byRank
    rw [e, List.filterMap_cons, List.getElem?_eq_getElem ht]
    rfl
theorem alike_topL {r r' : List Lay} (h : normM r = normM r') : topL r = topL r' := by rw [topL_rank, topL_rank, alike_byRank h]
theorem filter_ne_le {p : Nat → Bool} {t : Nat} : ∀ {l : List Nat}, l.Nodup → (l.filter p).length ≤ (l.filter fun j => p j && decide (j ≠ t)).length + 1
  | [], _ => Nat.zero_le _
  | a :: l, hn => by
    obtain ⟨h1, h2⟩ := List.nodup_cons.mp hn
    have ih := filter_ne_le (p := p) (t := t) h2
    rw [List.filter_cons, List.filter_cons]
    by_cases e : a = t
    · subst e
      have e2 : l.filter (fun j => p j && decide (j ≠ a)) = l.filter p := List.filter_congr fun j hj => by
        have c0 : j ≠ a := fun z => h1 (z ▸ hj)
        rw [decide_eq_true c0, Bool.and_true]
      rw [e2]
      cases p a with
      | true => simp
      | false => simp
    · rw [decide_eq_true e, Bool.and_true]
      cases p a with
      | true => simp only [if_true, List.length_cons]; omega
      | false => simpa using ih
theorem low_len (r : List Lay) (t : Nat) (n : Int) : (lowM r t n).length = r.length := by unfold lowM; rw [List.length_set]
theorem low_get {r : List Lay} {t i : Nat} {n : Int} (h : i ≠ t) : (lowM r t n)[i]? = r[i]? := by
  unfold lowM
  rw [List.getElem?_set_ne (Ne.symm h)]
theorem low_stg {r : List Lay} {t i : Nat} {n : Int} (h : i ≠ t) : stg (lowM r t n) i = stg r i := by
  unfold stg
  rw [List.getD_eq_getElem?_getD, List.getD_eq_getElem?_getD, low_get h]
theorem low_cnt {r : List Lay} {t i : Nat} {n : Int} (h : i ≠ t) : cntM r i ≤ cntM (lowM r t n) i + 1 := by
  unfold cntM
  rw [low_len]
  refine Nat.le_trans (filter_ne_le (t := t) List.nodup_range) ?_
  refine Nat.add_le_add_right ?_ 1
  have e : (List.range r.length).filter (fun j => ahead r j i && decide (j ≠ t)) = ((List.range r.length).filter fun j => ahead (lowM r t n) j i).filter fun j => decide (j ≠ t) := by
    rw [List.filter_filter]
    refine List.filter_congr fun j _ => ?_
    by_cases c : j = t
    · rw [decide_eq_false (by simp [c]), Bool.and_false, Bool.false_and]
    · rw [decide_eq_true c, Bool.and_true, Bool.true_and]
      unfold ahead
      rw [low_stg c, low_stg h]
  rw [e]
  exact List.length_filter_le _ _
/-- a part of a row whose layer at t is lowered -/
theorem part_low {r : List Lay} {P : Nat → Bool} {k0 : Nat} (hk0 : k0 < (ixM r P).length) (n : Int) : lowM (partM r P) k0 n = partM (lowM r (ixM r P)[k0] n) P := by
  have eix : ixM (lowM r (ixM r P)[k0] n) P = ixM r P := by
    unfold ixM
    rw [low_len]
  refine List.ext_getElem? fun k => ?_
  have hR : (partM (lowM r (ixM r P)[k0] n) P)[k]? = (ixM r P)[k]?.bind fun i => (lowM r (ixM r P)[k0] n)[i]? := by
    show ((ixM (lowM r (ixM r P)[k0] n) P).filterMap fun i => (lowM r (ixM r P)[k0] n)[i]?)[k]? = _
    rw [fm_at ixM_lt, eix]
  have hP : ∀ k, (partM r P)[k]? = (ixM r P)[k]?.bind fun i => r[i]? := fun k => fm_at ixM_lt k
  rw [hR]
  by_cases hk : k < (ixM r P).length
  · rw [List.getElem?_eq_getElem hk]
    simp only [Option.bind_some]
    by_cases e : k = k0
    · subst e
      have hi := ixM_lt (r := r) (P := P) _ (List.getElem_mem hk)
      unfold lowM
      rw [List.getElem?_set_self (by rw [partM_len]; exact hk), List.getElem?_set_self hi, stg_part hk]
      have eg : (partM r P).getD k (default, 0) = r.getD (ixM r P)[k] (default, 0) := by
        rw [List.getD_eq_getElem?_getD, List.getD_eq_getElem?_getD, hP, List.getElem?_eq_getElem hk]
        rfl
      rw [eg]
    · have e2 : (ixM r P)[k] ≠ (ixM r P)[k0] := fun z => by
        have nd : (ixM r P).Nodup := ixM_inc.imp fun h => Nat.ne_of_lt h
        exact e ((List.getElem_inj nd).mp z)
      rw [low_get e, low_get e2, hP, List.getElem?_eq_getElem hk]
      rfl
  · rw [List.getElem?_eq_none (by rw [low_len, partM_len]; omega), List.getElem?_eq_none (by omega)]
    rfl
theorem thin_rub (r : List Lay) (n : Int) (m : Nat) : thinM (rubM (thinM r (m + 1)) n) m = thinM (rubM r n) m := by
  by_cases hne : r = []
  · subst hne
    have e : thinM [] (m + 1) = [] := rfl
    rw [e]
  · have ht := topN_lt hne
    have h0 : cntM r (topN r) = 0 := (cnt_zero ht).mpr rfl
    have hmem : topN r ∈ ixM r fun i => decide (cntM r i < m + 1) := List.mem_filter.mpr ⟨List.mem_range.mpr ht, decide_eq_true (by omega)⟩
    obtain ⟨k, hk, ek⟩ := List.mem_iff_getElem.mp hmem
    have hkl : k < (thinM r (m + 1)).length := by
      rw [thinM_part, partM_len]
      exact hk
    have ck : cntM (thinM r (m + 1)) k = 0 := by
      rw [thinM_part, cnt_part_same hk, ek, h0]
      intro j hj hja
      have := cnt_lt_of_ahead hj (ixM_lt _ (List.getElem_mem hk)) hja
      rw [ek, h0] at this
      exact absurd this (Nat.not_lt_zero _)
    have e := (cnt_zero hkl).mp ck
    have es : stg (thinM r (m + 1)) k = stg r (topN r) := by rw [thinM_part, stg_part hk, ek]
    unfold rubM
    rw [← e, es]
    by_cases c : 0 < stg r (topN r) - n
    · rw [if_pos c, if_pos c]
      have e2 : lowM (thinM r (m + 1)) k n = partM (lowM r (topN r) n) fun i => decide (cntM r i < m + 1) := by
        rw [thinM_part, part_low hk, ek]
      rw [e2]
      refine thin_part fun i hi hc => decide_eq_true ?_
      by_cases ci : i = topN r
      · rw [ci, h0]
        omega
      · have := low_cnt (r := r) (n := n) ci
        omega
    · rw [if_neg c, if_neg c]
      rw [show scrapM (thinM r (m + 1)) = thinM (scrapM r) m from (thin_scrap r m).symm, thin_thin, Nat.min_self]
end Y

set_option Elab.async false
set_option linter.all false
set_option maxRecDepth 100000
set_option maxHeartbeats 4000000
/-! S2: rows compared as data; x is True; lists unpacked. -/
namespace Y
open PySem PySem.Spec PyProof.Rows L2
theorem eqv_lay (a b : Lay) : PyData.eqv (layD a) (layD b) = decide (a = b) := by
  obtain ⟨a1, a2⟩ := a
  obtain ⟨b1, b2⟩ := b
  simp [layD, PyData.eqv, PyData.eqvAll]
  by_cases h1 : a1 = b1 <;> by_cases h2 : a2 = b2 <;> simp [h1, h2]
theorem eqv_lays : ∀ a b : List Lay, PyData.eqvAll (a.map layD) (b.map layD) = decide (a = b)
  | [], [] => by simp [PyData.eqvAll]
  | [], b :: bs => by simp [PyData.eqvAll]
  | a :: as, [] => by simp [PyData.eqvAll]
  | a :: as, b :: bs => by
    rw [List.map_cons, List.map_cons, PyData.eqvAll, eqv_lay, eqv_lays as bs]
    by_cases h1 : a = b <;> by_cases h2 : as = bs <;> simp [h1, h2]
theorem eqv_row (a b : List Lay) : PyData.eqv (rowD a) (rowD b) = decide (a = b) := by
  rw [rowD, rowD, PyData.eqv, eqv_lays]
theorem eqv_laysL (a b : List Lay) : PyData.eqv (laysL a) (laysL b) = decide (a = b) := by
  rw [laysL, laysL, PyData.eqv, eqv_lays]
section
variable {X : Cx} {K : PySem.W.Frag}
def yIsB : R2 := fun x y H Q => match x, y with
  | .bl a, .bl b => Q (.bl (decide (a = b))) H
  | _, _ => False
def yNotB : R2 := fun x y H Q => match x, y with
  | .bl a, .bl b => Q (.bl (!decide (a = b))) H
  | _, _ => False
theorem oIsB : OpR X (compareOp .Is) yIsB := by
  intro pins s σ H x y v u Q I rx ry h
  unfold yIsB at h
  split at h
  · rename_i a b
    cases rx
    cases ry
    have e : compareOp .Is (.bool a) (.bool b) = pure (.bool (decide (a = b))) := by
      cases a <;> cases b <;> rfl
    rw [e]
    exact wpAny_pure ⟨.bl _, H, I, rfl, h⟩
  · exact h.elim
theorem oNotB : OpR X (compareOp .IsNot) yNotB := by
  intro pins s σ H x y v u Q I rx ry h
  unfold yNotB at h
  split at h
  · rename_i a b
    cases rx
    cases ry
    have e : compareOp .IsNot (.bool a) (.bool b) = pure (.bool (!decide (a = b))) := by
      cases a <;> cases b <;> rfl
    rw [e]
    exact wpAny_pure ⟨.bl _, H, I, rfl, h⟩
  · exact h.elim
def yLstG (K : PySem.W.Frag) (n : Nat) (t : TGs) : TG := fun v σ H Q => match v with
  | .ref a => ∃ xs, SqL K H a xs ∧ xs.length = n ∧ t xs σ H Q
  | _ => False
theorem kgLst {tgs : List Expr} {k : Nat} {t : TGs} {n : Nat} {pos : Pos} (h0 : X.K = K) (hc : X.calm = true) (h : PGs X tgs t)
    (hn : (assignEach tgs X.env).length = n := by rfl) (hst : (assignEach tgs X.env).findIdx? (·.1) = none := by rfl) : PG X (.Tuple tgs k pos) (yLstG K n t) := by
  subst h0
  exact PG.imp (pg_lst hc h hn hst) fun v σ H Q h => by
    unfold yLstG at h
    split at h
    · obtain ⟨xs, h1, h2, h3⟩ := h
      exact ⟨_, xs, rfl, h1, h2, h3⟩
    · exact h.elim
end
/-- neighbours exchanged, as the texts write it: row[:k] + (row[k + 1], row[k]) + row[k + 2:] -/
theorem swap_im [Tb] {K : PySem.W.Frag} {H : Hp} {t : Addr} {xs : List V} {r : List Lay} (ht : Tp K H t xs) (hxs : ImAll K H xs (r.map layD)) {k : Nat} (hk : k + 1 < r.length) (hl : r.length ≤ 100000) {Q : VK} (MID : Hp → VK → Prop)
    (mid : ∀ (a1 a2 : Addr) H3 (R : VK), xs[k]? = some (.ref a1) → xs[k + 1]? = some (.ref a2) → Kp No H H3 → (∀ p1, H3 p1 = none → R (.ref p1) (upd H3 p1 (.tup [.ref a2, .ref a1]))) → MID H3 R)
    (q : ∀ v' H', Kp No H H' → Im K H' v' (rowD (r.take k ++ [r[k + 1], r[k]] ++ r.drop (k + 2))) → Q v' H') :
    ySl K (.ref t) none (some ((k : Nat) : Int)) H fun x H3 => MID H3 fun y H4 => yAdd K x y H4 fun z H5 => ySl K (.ref t) (some (((k : Nat) : Int) + 2)) none H5 fun w H6 => yAdd K z w H6 Q := by
  have him : Im K H (.ref t) (rowD r) := .tup ht hxs
  have hi1 : k < r.length := by omega
  obtain ⟨a1, e1, e2, e3⟩ := row_at (t := t) hxs hi1
  obtain ⟨a2, f1, f2, f3⟩ := row_at (t := t) hxs hk
  have ez2 : ((k : Nat) : Int) + 2 = ((k + 2 : Nat) : Int) := by omega
  refine sl_im him fun v1 H3 k3 im3 => ?_
  rw [cutG_map, cutG_to] at im3
  refine mid a1 a2 H3 _ e1 f1 k3 fun p1 hp1 => ?_
  have kp1 : Kp No H3 (upd H3 p1 (.tup [.ref a2, .ref a1])) := Kp.new hp1
  have k31 := k3.trans kp1
  have im2 : Im K _ (.ref p1) (.tuple [layD r[k + 1], layD r[k]]) := Im.mk upd_same (.cons (Im.up k31 _ _ f2) (.cons (Im.up k31 _ _ e2) .nil))
  refine add_im (Im.up kp1 _ _ im3) im2 (by rw [List.length_map, List.length_take]; simp only [List.length_cons, List.length_nil]; omega) fun v4 H4 k4 im4 => ?_
  have k04 := k31.trans k4
  refine sl_im (Im.up k04 _ _ him) fun v5 H5 k5 im5 => ?_
  rw [cutG_map, ez2, cutG_from] at im5
  refine add_im (Im.up k5 _ _ im4) im5 (by simp only [List.length_append, List.length_map, List.length_take, List.length_drop, List.length_cons, List.length_nil]; omega) fun v6 H6 k6 im6 => q _ _ ((k04.trans k5).trans k6) ?_
  rw [rowD, List.map_append, List.map_append]
  exact im6
theorem split2 {r : List Lay} {k : Nat} (hk : k + 1 < r.length) : r = r.take k ++ r[k] :: r[k + 1] :: r.drop (k + 2) := by
  have h1 : k < r.length := by omega
  conv => lhs; rw [← List.take_append_drop k r]
  rw [← List.getElem_cons_drop h1, ← List.getElem_cons_drop hk]
theorem sw_at {r : List Lay} {k : Nat} (hk : k + 1 < r.length) (h : r[k].1 = r[k + 1].1) : Sw r (r.take k ++ [r[k + 1], r[k]] ++ r.drop (k + 2)) := by
  have e := Sw.mk (r.take k) r[k] r[k + 1] (r.drop (k + 2)) h
  rw [← split2 hk] at e
  rw [List.append_assoc]
  exact e
theorem Sws.perm {r r' : List Lay} (h : Sws r r') : r.Perm r' := by
  induction h with
  | refl => exact .refl _
  | step s _ ih =>
    refine List.Perm.trans ?_ ih
    cases s with
    | mk a x y b h => exact List.Perm.append_left a (.swap y x b)
/-! ### lists of whole numbers, as data -/
def intsL (l : List Int) : PyData := .list (l.map PyData.int)
theorem intsL_fine {l : List Int} (h : ∀ i ∈ l, i.natAbs < 10 ^ 500) : fine (intsL l) = true := fineAll_of fun d hd => by
  obtain ⟨i, hi, rfl⟩ := List.mem_map.mp hd
  exact decide_eq_true (h i hi)
theorem intsL_deep (l : List Int) : (intsL l).depth ≤ 1 := by
  rw [intsL, PyData.depth]
  have := depthAll_le (n := 0) (ds := l.map PyData.int) fun d hd => by
    obtain ⟨z, _, rfl⟩ := List.mem_map.mp hd
    simp [PyData.depth]
  omega
theorem intsL_dp {K : PySem.W.Frag} {H : Hp} {a : Addr} {l : List Int} (h : H a = some (.lst (l.map V.int))) : Dp K H (.ref a) (intsL l) := by
  refine .lst (.inl (.inl h)) ?_
  clear h
  induction l with
  | nil => exact .nil
  | cons i l ih => exact .cons (.int _) ih
theorem intsL_nil (l : List Int) : PyData.eqv (intsL l) (.list []) = l.isEmpty := by
  cases l <;> simp [intsL, PyData.eqv, PyData.eqvAll]
theorem intsL_shaped {l : List Int} (h : ∀ i ∈ l, i.natAbs < 10 ^ 500) : SeqAt.shaped (intsL l) = true := fine_shaped (intsL_fine h) (Nat.le_trans (intsL_deep l) (by decide))
end Y

set_option Elab.async false
set_option linter.all false
set_option maxRecDepth 100000
set_option maxHeartbeats 2000000
set_option exponentiation.threshold 600
/-! D1: constants of the module; things of any kind shown, flat dicts too. -/
namespace Y
open PySem PySem.Spec PyProof.Rows L2
section
variable {X : Cx} {x : Str} {pos : Pos}
theorem ye_gint {i : Int} (hm : ∃ t, X.mg x = some (.int i t)) (hg : Gl X x) (hd : (x == ("__debug__" : Str)) = false := by decide) : PE X (.Name x pos) (tC (.int i)) := by
  obtain ⟨t, hm⟩ := hm
  exact pe_glob hg hm ⟨t, rfl⟩ hd
theorem ye_gstr {z : Str} (hm : ∃ t, X.mg x = some (.str z t)) (hg : Gl X x) (hd : (x == ("__debug__" : Str)) = false := by decide) : PE X (.Name x pos) (tC (.str z)) := by
  obtain ⟨t, hm⟩ := hm
  exact pe_glob hg hm ⟨t, rfl⟩ hd
end
def keyD : Key → PyData
  | .inl i => .int i
  | .inr z => .str z
def flatD : V → PyData
  | .int i => .int i
  | .str z => .str z
  | .bl b => .bool b
  | _ => .none
def FlatV : V → Prop
  | .int _ => True
  | .str _ => True
  | .bl _ => True
  | .non => True
  | _ => False
def dictD (kvs : List (Key × V)) : PyData := .dict (kvs.map fun p => (keyD p.1, flatD p.2))
theorem key_reads {h : Heap} {k : Key} {u : Value} (e : keyIs k u = true) : Reads h u (keyD k) [] := by
  rcases keyIs_shape e with ⟨i, t, rfl, rfl⟩ | ⟨x, t, rfl, rfl⟩
  · exact .int _ _
  · exact .str _ _
theorem flat_reads {h : Heap} {v : V} {u : Value} (f : FlatV v) (r : RelV v u) : Reads h u (flatD v) [] := by
  cases v with
  | int i => obtain ⟨t, rfl⟩ := r; exact .int _ _
  | str z => obtain ⟨t, rfl⟩ := r; exact .str _ _
  | bl b => cases r; exact .bool _
  | non => cases r; exact .none
  | _ => exact f.elim
theorem dict_reads {P : Program} {w : World} {H : Hp} {h : Heap} {a : Addr} {kvs : List (Key × V)} (ok : HOk P w H h) (e : H a = some (.dK kvs)) (f : ∀ p ∈ kvs, FlatV p.2) : Reads h (.ref a) (dictD kvs) [a] ∧ a ≠ sysModules := by
  obtain ⟨_, hs, vs, kv, o, es, ep, h1, h2, h3, _, h4, _⟩ := dk_of ok e
  refine ⟨?_, fun z => by rw [z] at hs; simp at hs⟩
  have key : ∀ {l : List DictEntry} {vs : List (Key × Value)} {kvs : List (Key × V)}, Pairs (mixKind P w) l vs → KV kvs vs → (∀ p ∈ kvs, FlatV p.2) → ReadsAll h (l.map (·.key)) ((kvs.map fun p => (keyD p.1, flatD p.2)).map (·.1)) [] ∧ ReadsAll h (l.map (·.val)) ((kvs.map fun p => (keyD p.1, flatD p.2)).map (·.2)) [] := by
    intro l
    induction l with
    | nil =>
      intro vs kvs p r f
      cases p
      cases r
      exact ⟨.nil, .nil⟩
    | cons x l ih =>
      intro vs kvs p r f
      cases p with
      | cons p1 pv p2 =>
      cases r with
      | cons r1 r2 =>
      obtain ⟨g1, g2⟩ := ih p2 r2 fun q hq => f q (List.mem_cons_of_mem _ hq)
      have f1 := f _ List.mem_cons_self
      refine ⟨?_, ?_⟩
      · refine .cons (as := []) (bs := []) ?_ g1
        have z := key_reads (h := h) (show keyIs _ _ = true from p1)
        rw [← r1.1] at z
        exact z
      · refine .cons (as := []) (bs := []) ?_ g2
        have z := flat_reads (h := h) f1 r1.2
        rw [← pv] at z
        exact z
  obtain ⟨g1, g2⟩ := key h4 kv f
  exact .dict (as := []) (bs := []) h1 h2.1 h3 g1 g2
/-- a thing that repr can show -/
def Tg (K : PySem.W.Frag) (H : Hp) (v : V) (d : PyData) : Prop :=
  (Dp K H v d ∧ Sh d) ∨ ∃ a kvs, v = .ref a ∧ H a = some (.dK kvs) ∧ (∀ p ∈ kvs, FlatV p.2) ∧ d = dictD kvs ∧ (dictD kvs).showable = true ∧ (dictD kvs).depth ≤ 50 ∧ (dictD kvs).shown.length ≤ sizeLine
def yReprX (K : PySem.W.Frag) : List V → Hp → VK → Prop := fun xs H Q => match xs with
  | [v] => ∃ d, Tg K H v d ∧ Q (.str d.shown) H
  | _ => False
theorem kReprX {X : Cx} {K : PySem.W.Frag} (h0 : X.K = K) (hu : X.A.units + 64 < cLine) (gd : X.A.guards = some []) : CallR X (.builtin "repr") (yReprX K) := by
  intro pins s σ H xs us Q I r h
  unfold yReprX at h
  split at h
  · rename_i v
    obtain ⟨d, hd, q⟩ := h
    rcases hd with ⟨hd, hS⟩ | ⟨a, kvs, rfl, ha, hf, rfl, h1, h2, h3⟩
    · exact kRepr h0 hu gd pins s σ H [v] us Q I r ⟨d, hd, hS, q⟩
    · obtain ⟨u, rfl, ru⟩ := vals1 r
      obtain rfl : u = Value.ref a := ru
      obtain ⟨rd, ns⟩ := dict_reads I.hok ha hf
      exact repr_of_reads' rd h1 (fun _ z => ns (List.mem_singleton.mp z).symm) gd (by omega) (fun _ _ e => e) (fun h' u tk hk => ⟨.str _, H, I.kept hk, ⟨_, rfl⟩, q⟩) h3
  · exact h.elim
theorem Tg.up [Tb] {K : PySem.W.Frag} {H H' : Hp} {a : Addr} {kvs : List (Key × V)} (k : Kp No H H') (h : H a = some (.dK kvs)) : H' a = some (.dK kvs) := k.all a _ h id
end Y
namespace Y
open PySem PySem.Spec PyProof.Rows L2
/-! ### names, amounts, of things of any kind -/
def tyO : HO → Option String
  | .lst _ => some "list"
  | .tup _ => some "tuple"
  | .dK _ => some "dict"
  | _ => none
inductive Kd (H : Hp) : V → Prop
  | str (z : Str) (h : z.length ≤ 1000) (hf : fine (.str z) = true) : Kd H (.str z)
  | int (i : Int) : Kd H (.int i)
  | bl (b : Bool) : Kd H (.bl b)
  | non : Kd H .non
  | ref {a : Addr} {o : HO} {m : String} (h : H a = some o) (e : tyO o = some m) : Kd H (.ref a)
theorem Kd.up [Tb] {S : Addr → Prop} {H H' : Hp} {v : V} (h : Kd H v) (k : Kp S H H') (n : ∀ a, v = .ref a → ¬ S a) : Kd H' v := by
  cases h with
  | str z h hf => exact .str z h hf
  | int i => exact .int i
  | bl b => exact .bl b
  | non => exact .non
  | @ref a o m h e =>
    refine .ref (k.all a o h (n a rfl) ?_) e
    cases o <;> first | exact True.intro | cases e
def whV : V → Bool
  | .int _ => true
  | _ => false
def amV : V → Bool
  | .int i => decide (0 < i)
  | _ => false
def nmB (z : Str) : Bool := decide (1 ≤ z.length) && (decide (z.length ≤ 8) && (z.cps.toList.map fun c => decide (c ∈ abc.cps.toList)).all id)
def nmV : V → Bool
  | .str z => nmB z
  | _ => false
theorem nmB_no {z : Str} (h : z.length < 1 ∨ 8 < z.length) : nmB z = false := by
  unfold nmB
  rcases h with h | h
  · rw [decide_eq_false (by omega)]; rfl
  · rw [decide_eq_false (show ¬ z.length ≤ 8 by omega), Bool.false_and, Bool.and_false]
theorem nmB_yes {z : Str} (h1 : 1 ≤ z.length) (h2 : z.length ≤ 8) : nmB z = (z.cps.toList.map fun c => decide (c ∈ abc.cps.toList)).all id := by
  unfold nmB
  rw [decide_eq_true h1, decide_eq_true h2, Bool.true_and, Bool.true_and]
theorem nm_nmB {z : Str} (h : Nm z) : nmB z = true := by
  obtain ⟨h1, h2, h3⟩ := h
  rw [nmB_yes h1 h2, List.all_map, List.all_eq_true]
  intro c hc
  have := h3 c hc
  show decide (c ∈ abc.cps.toList) = true
  rw [abc_list]
  refine decide_eq_true (List.mem_map.mpr ⟨c - 97, List.mem_range.mpr (by omega), by omega⟩)
theorem iteN0 {A B : Prop} {b : Bool} (h : b = false) (hA : A) : if (!b) = true then A else B := by
  rw [h]; exact hA
end Y

set_option Elab.async false
set_option linter.all false
set_option maxRecDepth 100000
set_option maxHeartbeats 2000000
set_option exponentiation.threshold 600
/-! J1: runs joined, as mathematics: pairs (many, number of a thing). -/
namespace Y
open PySem PySem.Spec PyProof.Rows L2
abbrev Pr := Int × Nat
/-- one more pair; what was found is kept the last one first -/
def stepR (acc : List Pr) (p : Pr) : List Pr :=
  if 0 < p.1 then (match acc with
    | q :: t => if q.2 = p.2 then (q.1 + p.1, p.2) :: t else p :: q :: t
    | [] => [p]) else acc
def joinR (l : List Pr) : List Pr := l.foldl stepR []
def joinM (l : List Pr) : List Pr := (joinR l).reverse
theorem joinR_snoc (l : List Pr) (x : Pr) : joinR (l ++ [x]) = stepR (joinR l) x := by simp [joinR, List.foldl_append]
theorem step_zero {acc : List Pr} {p : Pr} (h : ¬ 0 < p.1) : stepR acc p = acc := by unfold stepR; rw [if_neg h]
theorem join_filter : ∀ (l : List Pr) (acc : List Pr), (∀ p ∈ l, 0 ≤ p.1) → (l.filter fun p => decide (p.1 ≠ 0)).foldl stepR acc = l.foldl stepR acc
  | [], _, _ => rfl
  | x :: l, acc, h => by
    have h' : ∀ p ∈ l, 0 ≤ p.1 := fun p hp => h p (List.mem_cons_of_mem _ hp)
    have hx := h x List.mem_cons_self
    by_cases c : x.1 = 0
    · rw [List.filter_cons_of_neg (by simpa using c), List.foldl_cons, step_zero (by omega)]
      exact join_filter l acc h'
    · rw [List.filter_cons_of_pos (by simpa using c), List.foldl_cons, List.foldl_cons]
      exact join_filter l _ h'
/-- positive, neighbours unlike -/
def Gd : List Pr → Prop
  | [] => True
  | [a] => 0 < a.1
  | a :: b :: l => 0 < a.1 ∧ a.2 ≠ b.2 ∧ Gd (b :: l)
theorem Gd.tail {x : Pr} {l : List Pr} (h : Gd (x :: l)) : Gd l := by
  cases l with
  | nil => trivial
  | cons y l => exact h.2.2
theorem Gd.pos {x : Pr} {l : List Pr} (h : Gd (x :: l)) : 0 < x.1 := by
  cases l with
  | nil => exact h
  | cons y l => exact h.1
theorem step_good {acc : List Pr} (h : Gd acc) (p : Pr) : Gd (stepR acc p) := by
  unfold stepR
  by_cases c : 0 < p.1
  · rw [if_pos c]
    cases acc with
    | nil => exact c
    | cons q t =>
      show Gd (if q.2 = p.2 then (q.1 + p.1, p.2) :: t else p :: q :: t)
      by_cases e : q.2 = p.2
      · rw [if_pos e]
        have hp := h.pos
        cases t with
        | nil => show 0 < q.1 + p.1; omega
        | cons y t => exact ⟨by show 0 < q.1 + p.1; omega, by show p.2 ≠ y.2; rw [← e]; exact h.2.1, h.2.2⟩
      · rw [if_neg e]
        exact ⟨c, fun z => e z.symm, h⟩
  · rw [if_neg c]; exact h
theorem fold_good : ∀ (l acc : List Pr), Gd acc → Gd (l.foldl stepR acc)
  | [], _, h => h
  | x :: l, acc, h => fold_good l _ (step_good h x)
theorem join_good (l : List Pr) : Gd (joinR l) := fold_good l [] trivial
theorem good_join : ∀ {r : List Pr}, Gd r → joinR r.reverse = r
  | [], _ => rfl
  | x :: r, h => by
    rw [List.reverse_cons, joinR_snoc, good_join h.tail]
    unfold stepR
    rw [if_pos h.pos]
    cases r with
    | nil => rfl
    | cons y r =>
      show (if y.2 = x.2 then _ else x :: y :: r) = _
      rw [if_neg fun z => h.2.1 z.symm]
theorem join_join (l : List Pr) : joinM (joinM l) = joinM l := by
  unfold joinM
  rw [good_join (join_good l)]
theorem step_mem {acc : List Pr} {p q : Pr} {n : Nat} (ha : ∀ x ∈ acc, x.2 < n) (hp : p.2 < n) (h : q ∈ stepR acc p) : q.2 < n := by
  unfold stepR at h
  by_cases c : 0 < p.1
  · rw [if_pos c] at h
    cases acc with
    | nil =>
      rw [List.mem_singleton.mp h]; exact hp
    | cons y t =>
      have h : q ∈ (if y.2 = p.2 then (y.1 + p.1, p.2) :: t else p :: y :: t) := h
      by_cases e : y.2 = p.2
      · rw [if_pos e] at h
        rcases List.mem_cons.mp h with h | h
        · rw [h]; exact hp
        · exact ha q (List.mem_cons_of_mem _ h)
      · rw [if_neg e] at h
        rcases List.mem_cons.mp h with h | h
        · rw [h]; exact hp
        · exact ha q h
  · rw [if_neg c] at h
    exact ha q h
/-- the sum of all is kept -/
def tot (l : List Pr) : Int := (l.map (·.1)).sum
theorem step_tot (acc : List Pr) {p : Pr} (h : 0 ≤ p.1) : tot (stepR acc p) = tot acc + p.1 := by
  unfold stepR
  by_cases c : 0 < p.1
  · rw [if_pos c]
    cases acc with
    | nil => simp [tot]
    | cons q t =>
      show tot (if q.2 = p.2 then (q.1 + p.1, p.2) :: t else p :: q :: t) = _
      by_cases e : q.2 = p.2
      · rw [if_pos e]
        simp only [tot, List.map_cons, List.sum_cons]
        omega
      · rw [if_neg e]
        simp only [tot, List.map_cons, List.sum_cons]
        omega
  · rw [if_neg c]
    omega
theorem step_len (acc : List Pr) (p : Pr) : (stepR acc p).length ≤ acc.length + 1 := by
  unfold stepR
  split
  · cases acc with
    | nil => simp
    | cons q t =>
      show (if q.2 = p.2 then (q.1 + p.1, p.2) :: t else p :: q :: t).length ≤ _
      split <;> simp
  · omega
theorem fold_ok {n : Nat} : ∀ (l acc : List Pr), (∀ p ∈ l, 0 ≤ p.1 ∧ p.2 < n) → (∀ p ∈ acc, p.2 < n) → (∀ p ∈ l.foldl stepR acc, p.2 < n) ∧ tot (l.foldl stepR acc) = tot acc + tot l ∧ (l.foldl stepR acc).length ≤ acc.length + l.length
  | [], acc, _, h => ⟨h, by simp [tot], by simp⟩
  | x :: l, acc, hl, h => by
    have hx := hl x List.mem_cons_self
    obtain ⟨a, b, c⟩ := fold_ok l (stepR acc x) (fun p hp => hl p (List.mem_cons_of_mem _ hp)) (fun p hp => step_mem h hx.2 hp)
    refine ⟨a, ?_, ?_⟩
    · rw [List.foldl_cons, b, step_tot acc hx.1]
      simp only [tot, List.map_cons, List.sum_cons]
      omega
    · have := step_len acc x
      rw [List.foldl_cons, List.length_cons]
      omega
theorem mem_le_tot : ∀ {l : List Pr}, (∀ p ∈ l, 0 ≤ p.1) → ∀ p ∈ l, p.1 ≤ tot l
  | x :: l, h, p, hp => by
    have h0 : 0 ≤ tot l := by
      clear hp
      have h2 : ∀ p ∈ l, 0 ≤ p.1 := fun p hp => h p (List.mem_cons_of_mem _ hp)
      clear h
      induction l with
      | nil => simp [tot]
      | cons y l ih =>
        have := ih fun p hp => h2 p (List.mem_cons_of_mem _ hp)
        have := h2 y List.mem_cons_self
        simp only [tot, List.map_cons, List.sum_cons] at *
        omega
    have hx := h x List.mem_cons_self
    rcases List.mem_cons.mp hp with z | z
    · subst z
      simp only [tot, List.map_cons, List.sum_cons] at *
      omega
    · have := mem_le_tot (fun p hp => h p (List.mem_cons_of_mem _ hp)) p z
      simp only [tot, List.map_cons, List.sum_cons] at *
      omega
theorem tot_le {B : Int} : ∀ {l : List Pr}, (∀ p ∈ l, p.1 ≤ B) → tot l ≤ B * l.length
  | [], _ => by simp [tot]
  | x :: l, h => by
    have h1 := tot_le fun p hp => h p (List.mem_cons_of_mem _ hp)
    have h2 := h x List.mem_cons_self
    have e : B * ((x :: l).length : Nat) = B * (l.length : Nat) + B := by
      rw [List.length_cons]
      push_cast
      rw [Int.mul_add, Int.mul_one]
    rw [e]
    simp only [tot, List.map_cons, List.sum_cons] at *
    omega

/-! ### the due one: by where stretches begin -/
def tgA (l : List Pr) (k : Nat) : Nat := (l.getD k (0, 0)).2
def bgA (l : List Pr) (k : Nat) : Bool := decide (k = 0) || !decide (tgA l k = tgA l (k - 1))
def begM (l : List Pr) : List Nat := (List.range l.length).filter (bgA l)
def smA (l : List Pr) (b e : Nat) : Int := (((l.drop b).take (e - b)).map (·.1)).sum
def zipA (B : List Nat) (n : Nat) : List (Nat × Nat) := B.zip (B.tail ++ [n])
def dueJ (l : List Pr) : List Pr := (zipA (begM l) l.length).map fun q => (smA l q.1 q.2, tgA l q.1)
theorem tgA_app {l : List Pr} {x : Pr} {k : Nat} (h : k < l.length) : tgA (l ++ [x]) k = tgA l k := by
  unfold tgA
  rw [List.getD_eq_getElem?_getD, List.getD_eq_getElem?_getD, List.getElem?_append_left h]
theorem tgA_last (l : List Pr) (x : Pr) : tgA (l ++ [x]) l.length = x.2 := by
  unfold tgA
  rw [List.getD_eq_getElem?_getD, List.getElem?_append_right (Nat.le_refl _)]
  simp
theorem zipA_snoc (B : List Nat) (b n : Nat) : zipA (B ++ [b]) n = zipA B b ++ [(b, n)] := by
  unfold zipA
  cases B with
  | nil => rfl
  | cons c B =>
    show ((c :: B) ++ [b]).zip ((B ++ [b]) ++ [n]) = (c :: B).zip (B ++ [b]) ++ [(b, n)]
    rw [List.zip_append (by simp)]
    rfl
theorem zipA_mem {B : List Nat} {n : Nat} (h1 : B.Pairwise (· < ·)) (h2 : ∀ b ∈ B, b < n) : ∀ q ∈ zipA B n, q.1 < n ∧ q.1 ≤ q.2 ∧ q.2 ≤ n := by
  intro q hq
  obtain ⟨a, b⟩ := q
  unfold zipA at hq
  have h3 : a ∈ B := (List.of_mem_zip hq).1
  have h4 : b ∈ B.tail ++ [n] := (List.of_mem_zip hq).2
  have hb : b ≤ n := by
    rcases List.mem_append.mp h4 with z | z
    · exact Nat.le_of_lt (h2 b (List.mem_of_mem_tail z))
    · rw [List.mem_singleton.mp z]; exact Nat.le_refl _
  refine ⟨h2 a h3, ?_, hb⟩
  show a ≤ b
  clear h3 h4 hb
  induction B with
  | nil => simp at hq
  | cons c B ih =>
    cases B with
    | nil =>
      simp at hq
      obtain ⟨rfl, rfl⟩ := hq
      exact Nat.le_of_lt (h2 a (by simp))
    | cons d B =>
      have e : (c :: d :: B).zip ((c :: d :: B).tail ++ [n]) = (c, d) :: (d :: B).zip ((d :: B).tail ++ [n]) := rfl
      rw [e] at hq
      rcases List.mem_cons.mp hq with z | z
      · cases z
        exact Nat.le_of_lt (List.rel_of_pairwise_cons h1 (by simp))
      · exact ih (List.Pairwise.of_cons h1) (fun b hb => h2 b (List.mem_cons_of_mem _ hb)) z
theorem begM_lt {l : List Pr} : ∀ b ∈ begM l, b < l.length := fun b hb => List.mem_range.mp (List.mem_filter.mp hb).1
theorem begM_inc (l : List Pr) : (begM l).Pairwise (· < ·) := List.pairwise_lt_range.filter _
theorem begM_snoc (l : List Pr) (x : Pr) : begM (l ++ [x]) = begM l ++ (if bgA (l ++ [x]) l.length = true then [l.length] else []) := by
  unfold begM
  rw [List.length_append, List.length_singleton, List.range_succ, List.filter_append]
  congr 1
  · refine List.filter_congr fun k hk => ?_
    have hk := List.mem_range.mp hk
    unfold bgA
    rw [tgA_app hk, tgA_app (show k - 1 < l.length by omega)]
  · cases c : bgA (l ++ [x]) l.length <;> simp [c]
theorem smA_app {l : List Pr} {x : Pr} {b e : Nat} (h : e ≤ l.length) : smA (l ++ [x]) b e = smA l b e := by
  unfold smA
  by_cases hb : b ≤ l.length
  · rw [List.drop_append_of_le_length hb, List.take_append_of_le_length (by rw [List.length_drop]; omega)]
  · have e0 : e - b = 0 := by omega
    rw [e0, List.take_zero, List.take_zero]
theorem smA_all {l : List Pr} {x : Pr} {b : Nat} (h : b ≤ l.length) : smA (l ++ [x]) b (l.length + 1) = smA l b l.length + x.1 := by
  unfold smA
  rw [List.drop_append_of_le_length h]
  have e1 : ((l.drop b) ++ [x]).take (l.length + 1 - b) = l.drop b ++ [x] := List.take_of_length_le (by rw [List.length_append, List.length_drop, List.length_singleton]; omega)
  have e2 : (l.drop b).take (l.length - b) = l.drop b := List.take_of_length_le (by rw [List.length_drop]; omega)
  rw [e1, e2, List.map_append, List.sum_append]
  simp
theorem dueJ_old {l : List Pr} {x : Pr} {B : List Nat} {n : Nat} (h1 : B.Pairwise (· < ·)) (h2 : ∀ b ∈ B, b < n) (hn : n ≤ l.length) :
    ((zipA B n).map fun q => (smA (l ++ [x]) q.1 q.2, tgA (l ++ [x]) q.1)) = (zipA B n).map fun q => (smA l q.1 q.2, tgA l q.1) := by
  refine List.map_congr_left fun q hq => ?_
  obtain ⟨a, b, c⟩ := zipA_mem h1 h2 q hq
  rw [smA_app (by omega), tgA_app (by omega)]
theorem due_join : ∀ (r : List Pr), (∀ p ∈ r, 0 < p.1) → dueJ r.reverse = joinM r.reverse ∧ (r ≠ [] → ∃ B b, begM r.reverse = B ++ [b] ∧ tgA r.reverse b = tgA r.reverse (r.length - 1))
  | [], _ => ⟨rfl, fun h => absurd rfl h⟩
  | x :: r, h => by
    have hx := h x List.mem_cons_self
    obtain ⟨ih, ihb⟩ := due_join r fun p hp => h p (List.mem_cons_of_mem _ hp)
    rw [List.reverse_cons]
    have el : r.reverse.length = r.length := List.length_reverse
    generalize hl : r.reverse = l at *
    have ejM : joinM (l ++ [x]) = (stepR (joinR l) x).reverse := by unfold joinM; rw [joinR_snoc]
    cases hb : bgA (l ++ [x]) l.length with
    | true =>
      have eB := begM_snoc l x
      rw [hb, if_pos rfl] at eB
      have hne : ∀ q t, joinR l = q :: t → q.2 ≠ x.2 := by
        intro q t e z
        unfold bgA at hb
        have hr : r ≠ [] := by
          intro e0
          rw [e0] at hl
          rw [← hl] at e
          cases e
        obtain ⟨B, b, e1, e2⟩ := ihb hr
        have hlen : 0 < l.length := by rw [el]; exact List.length_pos_iff.mpr hr
        have e3 : dueJ l = ((zipA B b).map fun q => (smA l q.1 q.2, tgA l q.1)) ++ [(smA l b l.length, tgA l b)] := by
          unfold dueJ
          rw [e1, zipA_snoc, List.map_append]
          rfl
        have e4 : (joinM l) = t.reverse ++ [q] := by unfold joinM; rw [e, List.reverse_cons]
        rw [← ih, e3] at e4
        have e5 := (List.append_inj' e4 rfl).2
        have e6 : tgA l b = q.2 := congrArg (fun z : List Pr => tgA z 0) e5
        rw [Bool.or_eq_true, decide_eq_true_eq, Bool.not_eq_true', decide_eq_false_iff_not] at hb
        rcases hb with hb | hb
        · omega
        · rw [tgA_last, tgA_app (show l.length - 1 < l.length by omega), el, ← e2, e6] at hb
          exact hb z.symm
      refine ⟨?_, fun _ => ⟨begM l, l.length, eB, ?_⟩⟩
      · unfold dueJ
        rw [eB, List.length_append, List.length_singleton, zipA_snoc, List.map_append, dueJ_old (begM_inc l) begM_lt (Nat.le_refl _)]
        have e7 : smA (l ++ [x]) l.length (l.length + 1) = x.1 := by
          rw [smA_all (Nat.le_refl _)]
          unfold smA
          simp
        rw [ejM]
        have e8 : (zipA (begM l) l.length).map (fun q => (smA l q.1 q.2, tgA l q.1)) = joinM l := ih
        rw [e8, List.map_cons, List.map_nil, e7, tgA_last]
        unfold stepR
        rw [if_pos hx]
        unfold joinM
        cases e9 : joinR l with
        | nil => rfl
        | cons q t =>
          show _ = (if q.2 = x.2 then _ else x :: q :: t).reverse
          rw [if_neg (hne q t e9), List.reverse_cons (a := x)]
      · rw [List.length_cons, ← el, Nat.add_sub_cancel]
    | false =>
      have eB := begM_snoc l x
      rw [hb, if_neg (by decide), List.append_nil] at eB
      unfold bgA at hb
      rw [Bool.or_eq_false_iff, decide_eq_false_iff_not, Bool.not_eq_false', decide_eq_true_eq] at hb
      have hlen : 0 < l.length := by omega
      have hr : r ≠ [] := by
        intro e0
        rw [e0] at el
        simp at el
        rw [el] at hlen
        simp at hlen
      obtain ⟨B, b, e1, e2⟩ := ihb hr
      have hbl : b < l.length := begM_lt b (by rw [e1]; simp)
      have hinc := begM_inc l
      rw [e1, List.pairwise_append] at hinc
      have hBlt : ∀ c ∈ B, c < b := fun c hc => hinc.2.2 c hc b (List.mem_singleton.mpr rfl)
      have ht : tgA l b = x.2 := by
        rw [e2, ← el, ← tgA_app (x := x) (show l.length - 1 < l.length by omega), ← hb.2, tgA_last]
      refine ⟨?_, fun _ => ⟨B, b, eB.trans e1, ?_⟩⟩
      · unfold dueJ
        rw [eB, e1, List.length_append, List.length_singleton, zipA_snoc, List.map_append, dueJ_old hinc.1 hBlt (Nat.le_of_lt hbl), List.map_cons, List.map_nil, smA_all (Nat.le_of_lt hbl), tgA_app hbl]
        have e3 : joinM l = (zipA B b).map (fun q => (smA l q.1 q.2, tgA l q.1)) ++ [(smA l b l.length, tgA l b)] := by
          rw [← ih]
          unfold dueJ
          rw [e1, zipA_snoc, List.map_append]
          rfl
        have e4 : joinR l = (smA l b l.length, tgA l b) :: ((zipA B b).map (fun q => (smA l q.1 q.2, tgA l q.1))).reverse := by
          have := congrArg List.reverse e3
          unfold joinM at this
          rw [List.reverse_reverse, List.reverse_append] at this
          exact this
        rw [ejM, e4]
        unfold stepR
        rw [if_pos hx]
        show _ = (if tgA l b = x.2 then _ else _ : List Pr).reverse
        rw [if_pos ht, List.reverse_cons, List.reverse_reverse, ht]
      · rw [tgA_app hbl, List.length_cons, Nat.add_sub_cancel, ← el, tgA_last, ht]
theorem dueJ_is {l : List Pr} (h : ∀ p ∈ l, 0 < p.1) : dueJ l = joinM l := by
  have := (due_join l.reverse fun p hp => h p (List.mem_reverse.mp hp)).1
  rw [List.reverse_reverse] at this
  exact this
end Y

set_option Elab.async false
set_option linter.all false
set_option maxRecDepth 100000
set_option maxHeartbeats 2000000
set_option exponentiation.threshold 600
/-! J2: == and != of data that never change; the things of the law of runs. -/
namespace Y
open PySem PySem.Spec PyProof.Rows L2
section
variable {K : PySem.W.Frag} {H : Hp} {x y : V} {d e : PyData} {Q : VK}
theorem beq_dec {α : Type} [DecidableEq α] [BEq α] [LawfulBEq α] (a b : α) : (a == b) = decide (a = b) := by
  rw [Bool.eq_iff_iff]
  simp
theorem yEq_im (hx : Im K H x d) (hy : Im K H y e) (sd : fine d = true) (dd : d.depth ≤ 50) (se : fine e = true) (de : e.depth ≤ 50) (q : Q (.bl (PyData.eqv d e)) H) : yEq K x y H Q := by
  have base : rEqD K x y H Q := ⟨d, e, Im.dp _ _ hx, Im.dp _ _ hy, fine_shaped sd dd, fine_shaped se de, q⟩
  cases hx <;> cases hy <;> first | exact base | (show Q _ _; simpa [PyData.eqv, beq_dec] using q)
theorem yNe_im (hx : Im K H x d) (hy : Im K H y e) (sd : fine d = true) (dd : d.depth ≤ 50) (se : fine e = true) (de : e.depth ≤ 50) (q : Q (.bl (!PyData.eqv d e)) H) : yNe K x y H Q := by
  have base : rNeD K x y H Q := ⟨d, e, Im.dp _ _ hx, Im.dp _ _ hy, fine_shaped sd dd, fine_shaped se de, q⟩
  cases hx <;> cases hy <;> first | exact base | (show Q _ _; simpa [PyData.eqv, beq_dec] using q)
end
def thD : Nat → PyData
  | 0 => .int 3
  | 1 => .int 40
  | 2 => .str "a"
  | 3 => .str ""
  | 4 => .none
  | 5 => .tuple [.int 1, .int 2]
  | 6 => .tuple [.str "a", .tuple []]
  | _ => .tuple [.tuple [], .tuple []]
def runPrD (p : Pr) : PyData := .tuple [.int p.1, thD p.2]
theorem th_eqv {i j : Nat} (hi : i < 8) (hj : j < 8) : PyData.eqv (thD i) (thD j) = decide (i = j) := by
  have h : ∀ a : Fin 8, ∀ b : Fin 8, PyData.eqv (thD a.1) (thD b.1) = decide (a.1 = b.1) := by decide +kernel
  exact h ⟨i, hi⟩ ⟨j, hj⟩
theorem th_sh {i : Nat} (hi : i < 8) : fine (thD i) = true ∧ (thD i).depth ≤ 3 ∧ (thD i).bulk ≤ 20 := by
  have h : ∀ a : Fin 8, fine (thD a.1) = true ∧ (thD a.1).depth ≤ 3 ∧ (thD a.1).bulk ≤ 20 := by decide +kernel
  exact h ⟨i, hi⟩
structure PrOk (p : Pr) : Prop where
  lo : 0 ≤ p.1
  hi : p.1 < 10 ^ 400
  th : p.2 < 8
theorem runPrD_fine {p : Pr} (h : PrOk p) : fine (runPrD p) = true := fine_tuple fun d hd => by
  rcases List.mem_cons.mp hd with rfl | hd
  · exact pos_fine h.lo h.hi
  · rw [List.mem_singleton.mp hd]; exact (th_sh h.th).1
theorem runPrD_deep {p : Pr} (h : PrOk p) : (runPrD p).depth ≤ 4 := by
  have := (th_sh h.th).2.1
  unfold runPrD
  have e : PyData.depthAll [.int p.1, thD p.2] ≤ 3 := depthAll_le fun d hd => by
    rcases List.mem_cons.mp hd with rfl | hd
    · simp [PyData.depth]
    · rw [List.mem_singleton.mp hd]; exact this
  simp only [PyData.depth]
  omega
theorem runPrD_bulk {p : Pr} (h : PrOk p) : (runPrD p).bulk ≤ 60 := by
  have := (th_sh h.th).2.2
  unfold runPrD
  have e := bulkAll_le (n := 20) (ds := [.int p.1, thD p.2]) fun d hd => by
    rcases List.mem_cons.mp hd with rfl | hd
    · simp [PyData.bulk]
    · rw [List.mem_singleton.mp hd]; exact this
  simp only [PyData.bulk] at e ⊢
  simp only [List.length_cons, List.length_nil] at e
  omega
def pairsL (l : List Pr) : PyData := .list (l.map runPrD)
theorem pairsL_fine {l : List Pr} (h : ∀ p ∈ l, PrOk p) : fine (pairsL l) = true := fine_list fun d hd => by
  obtain ⟨p, hp, rfl⟩ := List.mem_map.mp hd
  exact runPrD_fine (h p hp)
theorem pairsL_deep {l : List Pr} (h : ∀ p ∈ l, PrOk p) : (pairsL l).depth ≤ 5 := by
  have e : PyData.depthAll (l.map runPrD) ≤ 4 := depthAll_le fun d hd => by
    obtain ⟨p, hp, rfl⟩ := List.mem_map.mp hd
    exact runPrD_deep (h p hp)
  unfold pairsL
  simp only [PyData.depth]
  omega
theorem pairsL_sh {l : List Pr} (h : ∀ p ∈ l, PrOk p) (hl : l.length ≤ 400) : Sh (pairsL l) := by
  refine ⟨pairsL_fine h, Nat.le_trans (pairsL_deep h) (by decide), ?_⟩
  have e := bulkAll_le (n := 60) (ds := l.map runPrD) fun d hd => by
    obtain ⟨p, hp, rfl⟩ := List.mem_map.mp hd
    exact runPrD_bulk (h p hp)
  unfold pairsL
  simp only [PyData.bulk]
  rw [List.length_map] at e
  omega
theorem pairsL_shaped {l : List Pr} (h : ∀ p ∈ l, PrOk p) : SeqAt.shaped (pairsL l) = true := fine_shaped (pairsL_fine h) (Nat.le_trans (pairsL_deep h) (by decide))
theorem eqv_nilL (ds : List PyData) : PyData.eqv (.list ds) (.list []) = ds.isEmpty := by
  cases ds <;> simp [PyData.eqv, PyData.eqvAll]
theorem Im.pairInv {K : PySem.W.Frag} {H : Hp} {v : V} {p : Pr} (h : Im K H v (runPrD p)) : ∃ a w, v = .ref a ∧ Tp K H a [.int p.1, w] ∧ Im K H w (thD p.2) := by
  obtain ⟨a, xs, rfl, h1, h2⟩ := id h.tupInv
  cases h2 with
  | cons z1 z2 =>
  cases z2 with
  | cons z2 z3 =>
  cases z3
  obtain rfl := z1.intInv
  exact ⟨a, _, rfl, h1, z2⟩
theorem joinM_ok {l : List Pr} (h : ∀ p ∈ l, PrOk p) (hB : ∀ p ∈ l, p.1 ≤ 10 ^ 60) (hl : l.length ≤ 400) : (∀ p ∈ joinM l, PrOk p) ∧ (joinM l).length ≤ l.length ∧ tot (joinM l) = tot l := by
  obtain ⟨a, b, c⟩ := fold_ok (n := 8) l [] (fun p hp => ⟨(h p hp).lo, (h p hp).th⟩) (fun p hp => (nomatch hp))
  have hg := join_good l
  have pos : ∀ {m : List Pr}, Gd m → ∀ p ∈ m, 0 ≤ p.1 := by
    intro m
    induction m with
    | nil => intro _ p hp; exact (nomatch hp)
    | cons x m ih =>
      intro g p hp
      rcases List.mem_cons.mp hp with rfl | hp
      · exact Int.le_of_lt g.pos
      · exact ih g.tail p hp
  have t1 : tot (joinR l) = tot l := by
    have : tot ([] : List Pr) = 0 := rfl
    show tot (l.foldl stepR []) = tot l
    omega
  have t2 := tot_le (B := 10 ^ 60) hB
  have t3 : (10 : Int) ^ 60 * (l.length : Nat) ≤ 10 ^ 60 * 400 := Int.mul_le_mul_of_nonneg_left (by omega) (by decide)
  refine ⟨fun p hp => ?_, by unfold joinM; rw [List.length_reverse]; show (l.foldl stepR []).length ≤ _; simpa using c, by
    unfold joinM
    have e : tot (joinR l).reverse = tot (joinR l) := by
      unfold tot
      rw [List.map_reverse, List.sum_reverse]
    rw [e, t1]⟩
  have hp' : p ∈ joinR l := List.mem_reverse.mp hp
  have h1 := mem_le_tot (pos hg) p hp'
  exact ⟨pos hg p hp', by omega, a p hp'⟩
end Y

set_option Elab.async false
set_option linter.all false
set_option maxRecDepth 100000
set_option maxHeartbeats 4000000
set_option exponentiation.threshold 600
namespace K12
open PySem PySem.Spec PyProof.Rows L2 Y LamX NdefX
def topS (i : Nat) : Stmt := PySem.Challenge.pw_fadeleaf_k12_names_and_amounts.main.body.getD i (.Pass ⟨0, 0, 0, 0⟩)
abbrev s_is_whole : Stmt := topS 7
abbrev n_is_whole : List Str := ["thing"]
theorem sc_is_whole : FnScope n_is_whole ["thing"] (defScope s_is_whole) := ⟨rfl, rfl, rfl, by decide +kernel, rfl, by decide +kernel, by decide +kernel⟩
abbrev s_is_name : Stmt := topS 8
abbrev n_is_name : List Str := ["thing", "sign"]
theorem sc_is_name : FnScope n_is_name ["thing"] (defScope s_is_name) := ⟨rfl, rfl, rfl, by decide +kernel, rfl, by decide +kernel, by decide +kernel⟩
abbrev s_is_amount : Stmt := topS 9
abbrev n_is_amount : List Str := ["thing"]
theorem sc_is_amount : FnScope n_is_amount ["thing"] (defScope s_is_amount) := ⟨rfl, rfl, rfl, by decide +kernel, rfl, by decide +kernel, by decide +kernel⟩
abbrev s_l_cell : Stmt := topS 11
abbrev n_l_cell : List Str := ["_law_script", "_law_k"]
theorem sc_l_cell : FnScope n_l_cell ["_law_script", "_law_k"] (defScope s_l_cell) := ⟨rfl, rfl, rfl, by decide +kernel, rfl, by decide +kernel, by decide +kernel⟩
abbrev s_l_pot : Stmt := topS 12
abbrev n_l_pot : List Str := ["_law_cell_here", "_law_k"]
theorem sc_l_pot : FnScope n_l_pot ["_law_cell_here", "_law_k"] (defScope s_l_pot) := ⟨rfl, rfl, rfl, by decide +kernel, rfl, by decide +kernel, by decide +kernel⟩
abbrev s_l_take : Stmt := topS 13
abbrev n_l_take : List Str := ["_law_pot_here", "_law_many", "_law_digit"]
theorem sc_l_take : FnScope n_l_take ["_law_pot_here", "_law_many"] (defScope s_l_take) := ⟨rfl, rfl, rfl, by decide +kernel, rfl, by decide +kernel, by decide +kernel⟩
abbrev s_l_text : Stmt := topS 14
abbrev n_l_text : List Str := ["_law_pot_here", "_law_letters", "_law_signs", "_law_k", "_law_odd"]
theorem sc_l_text : FnScope n_l_text ["_law_pot_here"] (defScope s_l_text) := ⟨rfl, rfl, rfl, by decide +kernel, rfl, by decide +kernel, by decide +kernel⟩
abbrev s_l_number : Stmt := topS 15
abbrev n_l_number : List Str := ["_law_pot_here"]
theorem sc_l_number : FnScope n_l_number ["_law_pot_here"] (defScope s_l_number) := ⟨rfl, rfl, rfl, by decide +kernel, rfl, by decide +kernel, by decide +kernel⟩
abbrev s_l_is_name : Stmt := topS 16
abbrev n_l_is_name : List Str := ["_law_thing", "_law_sign"]
theorem sc_l_is_name : FnScope n_l_is_name ["_law_thing"] (defScope s_l_is_name) := ⟨rfl, rfl, rfl, by decide +kernel, rfl, by decide +kernel, by decide +kernel⟩
abbrev s_l_is_amount : Stmt := topS 17
abbrev n_l_is_amount : List Str := ["_law_thing"]
theorem sc_l_is_amount : FnScope n_l_is_amount ["_law_thing"] (defScope s_l_is_amount) := ⟨rfl, rfl, rfl, by decide +kernel, rfl, by decide +kernel, by decide +kernel⟩
abbrev s_l_right : Stmt := topS 18
abbrev n_l_right : List Str := ["_law_thing", "_law_before", "_law_turn", "_law_told"]
theorem sc_l_right : FnScope n_l_right ["_law_thing"] (defScope s_l_right) := ⟨rfl, rfl, rfl, by decide +kernel, rfl, by decide +kernel, by decide +kernel⟩
abbrev s_law : Stmt := topS 19
abbrev n_law : List Str := ["_law_script", "_law_k", "_law_pot_here", "_law_texts", "_law_turn", "_law_numbers", "_law_others", "_law_thing"]
theorem sc_law : FnScope n_law ["_law_script"] (defScope s_law) := ⟨rfl, rfl, rfl, by decide +kernel, rfl, by decide +kernel, by decide +kernel⟩
structure Fr (mg : Str → Option Value) : Prop where
  abs_ : mg "abs" = none
  all_ : mg "all" = none
  bool_ : mg "bool" = none
  divmod_ : mg "divmod" = none
  int_ : mg "int" = none
  isinstance_ : mg "isinstance" = none
  len_ : mg "len" = none
  max_ : mg "max" = none
  min_ : mg "min" = none
  range_ : mg "range" = none
  repr_ : mg "repr" = none
  str_ : mg "str" = none
  LETTERS_ : ∃ t, mg "LETTERS" = some (.str "abcdefghijklmnopqrstuvwxyz" t)
  MOST_INKS_ : ∃ t, mg "MOST_INKS" = some (.int (8) t)
  MOST_LETTERS_ : ∃ t, mg "MOST_LETTERS" = some (.int (8) t)
  MOST_PLACES_ : ∃ t, mg "MOST_PLACES" = some (.int (1000000000000000000) t)
  MOST_WEAR_ : ∃ t, mg "MOST_WEAR" = some (.int (6) t)
  WEAR_ : ∃ t, mg "WEAR" = some (.int (3) t)
section
variable [Tb] {P : Program} {w : World} {K : PySem.W.Frag} {mg : Str → Option Value} {base : Heap}
/-! ### the law's draws -/
def spCell [Tb] (K : PySem.W.Frag) : Sp := fun vs H Q _ => ∃ (a : Addr) (ns : List Int) (k : Int), vs = [.ref a, .int k] ∧ SqL K H a (ns.map V.int) ∧ 0 ≤ k ∧ ∀ c : Int, Q (.int c) H
theorem ok_l_cell (D : DefAt K mg "_law_cell" s_l_cell) (fr : Fr mg) : Cal P w K mg base 1 "_law_cell" (spCell K) := by
  refine cal_of D sc_l_cell (fun _ _ _ _ _ _ us hl => match us, hl with | [_, _], _ => rfl) (fun vs H Q E h => by obtain ⟨p, m, k, rfl, _⟩ := h; rfl) fun f cd A out s H vs Q E room gd h => ?_
  obtain ⟨a, ns, k, rfl, hS, hk, q⟩ := h
  refine ⟨_, (pss_one (ps_ret (pe_ifExp (yt_cmp oLt (yv 1) (pe_callB (kLen (K := K) (by rfl)) (by rfl) fr.len_ (by decide +kernel) (pa_cons (yv 0) pa_nil)) (nomark _)) (kIx (K := K) (by rfl) (yv 0) (yv 1)) pe_int))), ?_⟩
  refine ⟨_, .inl hS, ite2 (fun h0 => ?_) fun h0 => q _⟩
  have h1 : k < ((ns.map V.int).length : Nat) := of_decide_eq_true h0
  have h2 : k.toNat < ns.length := by rw [List.length_map] at h1; omega
  refine ⟨_, .int ns[k.toNat], .inl hS, at_of (j := k.toNat) (by omega) ?_, q _⟩
  rw [List.getElem?_map, List.getElem?_eq_getElem h2]; rfl
def spPot [Tb] : Sp := fun vs H Q _ => ∃ (c k : Int), vs = [.int c, .int k] ∧ 0 ≤ k ∧ k ≤ 1000 ∧ ∀ (p : Addr) H', H p = none → Kp No H H' → Pot H' p → Q (.ref p) H'
theorem ok_l_pot (D : DefAt K mg "_law_pot" s_l_pot) (fr : Fr mg) : Cal P w K mg base 1 "_law_pot" spPot := by
  refine cal_of D sc_l_pot (fun _ _ _ _ _ _ us hl => match us, hl with | [_, _], _ => rfl) (fun vs H Q E h => by obtain ⟨p, m, rfl, _⟩ := h; rfl) fun f cd A out s H vs Q E room gd h => ?_
  obtain ⟨c, k, rfl, h1, h2, q⟩ := h
  refine ⟨_, (pss_one (ps_ret (ye_lst (pa_cons (pe_callB (cMax2 rfl) (by rfl) fr.max_ (by decide +kernel) (pa_cons pe_int (pa_cons (pe_op oSub (pe_callB cAbs (by rfl) fr.abs_ (by decide +kernel) (pa_cons (yv 0) pa_nil)) (pe_op oPow pe_int pe_int)) pa_nil))) (pa_cons (pe_op (kAdd (K := K) (by rfl)) (pe_op (kAdd (K := K) (by rfl)) (pe_op oMod (pe_callB cAbs (by rfl) fr.abs_ (by decide +kernel) (pa_cons (yv 0) pa_nil)) pe_int) (pe_op oMul pe_int (yv 1))) pe_int) pa_nil))))), ?_⟩
  refine ⟨⟨by decide, by decide, by decide⟩, by decide, mid64 (by omega) (by omega), mid64 (by omega) (by omega), fun p hp => ?_⟩
  refine q p _ hp (Kp.new hp) ⟨_, _, upd_same, by omega, by omega, by omega⟩
def spTake [Tb] : Sp := fun vs H Q _ => ∃ (p : Addr) (m : Int), vs = [.ref p, .int m] ∧ Pot H p ∧ 0 < m ∧ m < 10 ^ 70 ∧ ∀ (d : Int) H', Kp (At p) H H' → Pot H' p → 0 ≤ d → d < m → Q (.int d) H'
theorem ok_l_take (D : DefAt K mg "_law_take" s_l_take) (fr : Fr mg) : Cal P w K mg base 1 "_law_take" spTake := by
  refine cal_of D sc_l_take (fun _ _ _ _ _ _ us hl => match us, hl with | [_, _], _ => rfl) (fun vs H Q E h => by obtain ⟨p, m, rfl, _⟩ := h; rfl) fun f cd A out s H vs Q E room gd h => ?_
  obtain ⟨p, m, rfl, ⟨a, b, hp, ha, hb, hb2⟩, hm, hm2, q⟩ := h
  refine ⟨_, (pss_cons (ps_if (yt_cmp oGt (kIx (K := K) (by rfl) (yv 0) pe_int) pe_int (nomark _)) (pss_cons (ps_asg (pe_callB cDivmod (by rfl) fr.divmod_ (by decide +kernel) (pa_cons (kIx (K := K) (by rfl) (yv 0) pe_int) (pa_cons (yv 1) pa_nil))) (kgTup (K := K) (n := 2) (by rfl) rfl (yg_cons (pg_sub (yv 0) pe_int oSetI) (yg_cons (yg_name 2 sc_l_take.nd) yg_nil))))
    (pss_one (ps_ret (yv 2)))) pss_nil)
    (pss_cons (ps_asg (pe_op oMod (pe_op (kAdd (K := K) (by rfl)) (pe_op oMul (kIx (K := K) (by rfl) (yv 0) pe_int) pe_int) pe_int) pe_int) (pg_sub (yv 0) pe_int oSetI))
    (pss_one (ps_ret (pe_op oMod (pe_op oFdv (pe_op oMod (pe_op oMul (kIx (K := K) (by rfl) (yv 0) pe_int) (kIx (K := K) (by rfl) (yv 0) pe_int)) pe_int) pe_int) (yv 1)))))), ?_⟩
  refine ⟨_, _, .inl (.inl (.inl hp)), rfl, ite2 (fun h0 => ?_) fun h0 => ?_⟩
  · refine ⟨_, _, .inl (.inl (.inl hp)), rfl, ⟨hm, hm2⟩, fun t ht => ?_⟩
    have np : p ≠ t := ne_of_none hp ht
    have hp2 : upd H t (.tup [.int (a / m), .int (a % m)]) p = some (.lst [.int a, .int b]) := by rw [upd_ne np]; exact hp
    refine ⟨_, .inl (.inl upd_same), rfl, _, 0, hp2, rfl, ?_⟩
    exact q _ _ ((Kp.new ht).trans (Kp.set rfl hp2)) ⟨a / m, b, upd_same, Int.ediv_nonneg ha (Int.le_of_lt hm), hb, hb2⟩ (Int.emod_nonneg _ (by omega)) (Int.emod_lt_of_pos _ hm)
  · refine ⟨_, _, .inl (.inl (.inl hp)), rfl, mid64 (by omega) (by omega), mid64 (by omega) (by omega), by decide, _, 1, hp, rfl, ?_⟩
    have e1 : 0 ≤ (b * 45991 + 4057) % 2147483647 := Int.emod_nonneg _ (by decide)
    have e2 : (b * 45991 + 4057) % 2147483647 < 2147483647 := Int.emod_lt_of_pos _ (by decide)
    have hp2 : ∀ l, upd H p (.lst l) p = some (.lst l) := fun l => upd_same
    refine ⟨_, _, .inl (.inl (.inl (hp2 _))), rfl, _, _, .inl (.inl (.inl (hp2 _))), rfl, mid64 (by omega) (by omega), mid64 (by omega) (by omega), by decide, by decide, by decide, hm, ?_⟩
    exact q _ _ (Kp.set rfl hp) ⟨a, _, upd_same, ha, e1, by omega⟩ (Int.emod_nonneg _ (by omega)) (Int.emod_lt_of_pos _ hm)

theorem Kd.ty {K : PySem.W.Frag} {H : Hp} {a : Addr} {o : HO} {m : String} (h : H a = some o) (e : tyO o = some m) : TyX K H (.ref a) (.type m) := by
  cases o with
  | lst xs => cases e; exact .base (.lst h)
  | tup xs => cases e; exact .base (.tup h)
  | dK kvs => cases e; exact .base (.dK h)
  | _ => cases e
theorem tyO_str {o : HO} {m : String} (e : tyO o = some m) : kitB m "str" = some false ∧ kitB m "int" = some false ∧ kitB m "bool" = some false := by
  cases o with
  | lst xs => cases e; decide +kernel
  | tup xs => cases e; decide +kernel
  | dK kvs => cases e; decide +kernel
  | _ => cases e
def spIsWhole [Tb] (K : PySem.W.Frag) : Sp := fun vs H Q _ => ∃ v : V, vs = [v] ∧ Kd H v ∧ Q (.bl (whV v)) H
theorem ok_is_whole (D : DefAt K mg "is_whole" s_is_whole) (fr : Fr mg) : Cal P w K mg base 1 "is_whole" (spIsWhole K) := by
  refine cal_of D sc_is_whole (fun _ _ _ _ _ _ us hl => match us, hl with | [_], _ => rfl) (fun vs H Q E h => by obtain ⟨v, rfl, _⟩ := h; rfl) fun f cd A out s H vs Q E room gd h => ?_
  obtain ⟨v, rfl, kd, q⟩ := h
  refine ⟨_, (pss_one (ps_ret (ye_and (pe_callB (kIsi (K := K) (by rfl)) (by rfl) fr.isinstance_ (by decide +kernel) (pa_cons (yv 0) (pa_cons (ye_ty (n := "int") (by rfl) fr.int_ (by decide +kernel)) pa_nil))) (pe_one (ye_not (pe_callB (kIsi (K := K) (by rfl)) (by rfl) fr.isinstance_ (by decide +kernel) (pa_cons (yv 0) (pa_cons (ye_ty (n := "bool") (by rfl) fr.bool_ (by decide +kernel)) pa_nil)))))))), ?_⟩
  cases kd with
  | str z hz hf => exact ⟨"str", false, .base (.str _), by decide +kernel, q⟩
  | int i => exact ⟨"int", true, .base (.int _), by decide +kernel, "int", false, .base (.int _), by decide +kernel, q⟩
  | bl b => exact ⟨"bool", true, .base (.bl _), by decide +kernel, "bool", true, .base (.bl _), by decide +kernel, q⟩
  | non => exact ⟨"NoneType", false, .base .non, by decide +kernel, q⟩
  | ref h e => exact ⟨_, false, Kd.ty h e, (tyO_str e).2.1, q⟩
def spIsName [Tb] (K : PySem.W.Frag) : Sp := fun vs H Q _ => ∃ v : V, vs = [v] ∧ Kd H v ∧ ∀ H', Kp No H H' → Q (.bl (nmV v)) H'
theorem ok_is_name (D : DefAt K mg "is_name" s_is_name) (fr : Fr mg) : Cal P w K mg base 1 "is_name" (spIsName K) := by
  refine cal_of D sc_is_name (fun _ _ _ _ _ _ us hl => match us, hl with | [_], _ => rfl) (fun vs H Q E h => by obtain ⟨v, rfl, _⟩ := h; rfl) fun f cd A out s H vs Q E room gd h => ?_
  obtain ⟨v, rfl, kd, q⟩ := h
  refine ⟨_, (pss_cons (ps_if (PW.pt (pw_or (pt_not (yt_val (pe_callB (kIsi (K := K) (by rfl)) (by rfl) fr.isinstance_ (by decide +kernel) (pa_cons (yv 0) (pa_cons (ye_ty (n := "str") (by rfl) fr.str_ (by decide +kernel)) pa_nil))))) (pw_or1 (pt_not (pt_chain oLe oLe pe_int (pe_callB (kLen (K := K) (by rfl)) (by rfl) fr.len_ (by decide +kernel) (pa_cons (yv 0) pa_nil)) (ye_gint fr.MOST_LETTERS_ (by rfl))))))) (pss_one (ps_ret pe_bl)) pss_nil)
    (pss_one (ps_ret (pe_callB (kAll (K := K) (by rfl) rfl) (by rfl) fr.all_ (by decide +kernel) (pa_cons (pe_lc (own := [("sign", 1)]) rfl sc_is_name.nd (yi_str (yv 0)) (blkOk_by (own := [("sign", 1)]) (N := n_is_name) (sc := defScope s_is_name) (by decide +kernel)) (fun _ _ _ _ _ => (yg_name 1 sc_is_name.nd)) (fun _ _ _ _ _ => pts_nil) (fun _ _ _ _ _ => (pe_cmpR (kIn (K := K) (by rfl)) (yv 1) (ye_gstr fr.LETTERS_ (by rfl)) (by rfl)))) pa_nil))))), ?_⟩
  cases kd with
  | str z hz hf =>
    have hzl : z.length ≤ sizeLine := Nat.le_trans hz (by decide)
    refine ⟨"str", true, .base (.str _), by decide +kernel, iteNb rfl ⟨hzl, _, rfl, ?_⟩⟩
    have qf : nmB z = false → ∀ H', Kp No H H' → Q (.bl false) H' := fun e H' k => by
      have := q H' k
      rw [show nmV (.str z) = nmB z from rfl, e] at this
      exact this
    refine iteD (fun h1 => ⟨_, rfl, ?_⟩) fun h1 => ⟨_, rfl, qf (nmB_no (.inl (by omega))) _ (Kp.refl _)⟩
    have key : z.length ≤ 8 → (∀ Dd, H Dd = none → LcGoal (Its z) (gName 1) tYes (tOp (yIn K false) (yVar 1) (tC (.str "abcdefghijklmnopqrstuvwxyz"))) [1] [some (.str z), none] H Dd fun H1 => ∃ bs : List Bool, SqL K H1 Dd (bs.map V.bl) ∧ Q (.bl (bs.all id)) H1) := by
      intro h8 Dd hD
      refine lc_mapS (K := K) PyData.bool (fun c => some (decide (c ∈ abc.cps.toList))) hD (by have := len_tl z; omega) (fun c Hc k kn hc kc hk hkn => ?_) (fun ys H2 h2 k2 im => ?_)
      · exact ⟨rfl, c, rfl, hk _ (decide (c ∈ abc.cps.toList)) _ rfl (Kp.refl _) (.bl _)⟩
      · have e2 := ImAll.bools im
        subst e2
        refine ⟨_, .inl (.inl h2), ?_⟩
        have := q H2 k2
        rw [show nmV (.str z) = nmB z from rfl, nmB_yes (by omega) h8] at this
        rw [List.filterMap_eq_map' (f := fun c : Nat => decide (c ∈ abc.cps.toList))]
        exact this
    by_cases h2 : z.length ≤ 8
    · have e2 : decide (((z.length : Nat) : Int) ≤ 8) = true := decide_eq_true (by omega)
      refine iteNb e2 ?_
      exact fun Dd hD => key h2 Dd hD
    · have e2 : decide (((z.length : Nat) : Int) ≤ 8) = false := decide_eq_false (by omega)
      exact iteN0 e2 (qf (nmB_no (.inr (by omega))) _ (Kp.refl _))
  | int i => exact ⟨"int", false, .base (.int _), by decide +kernel, q _ (Kp.refl _)⟩
  | bl b => exact ⟨"bool", false, .base (.bl _), by decide +kernel, q _ (Kp.refl _)⟩
  | non => exact ⟨"NoneType", false, .base .non, by decide +kernel, q _ (Kp.refl _)⟩
  | ref h e => exact ⟨_, false, Kd.ty h e, (tyO_str e).1, q _ (Kp.refl _)⟩
def spIsAmount [Tb] (K : PySem.W.Frag) : Sp := fun vs H Q _ => ∃ v : V, vs = [v] ∧ Kd H v ∧ Q (.bl (amV v)) H
theorem ok_is_amount (D : DefAt K mg "is_amount" s_is_amount) (fr : Fr mg) (c_is_whole : Cal P w K mg base 1 "is_whole" (spIsWhole K)) : Cal P w K mg base 2 "is_amount" (spIsAmount K) := by
  refine cal_of D sc_is_amount (fun _ _ _ _ _ _ us hl => match us, hl with | [_], _ => rfl) (fun vs H Q E h => by obtain ⟨v, rfl, _⟩ := h; rfl) fun f cd A out s H vs Q E room gd h => ?_
  obtain ⟨v, rfl, kd, q⟩ := h
  refine ⟨_, (pss_one (ps_ret (ye_and (ye_call c_is_whole room gd (by rfl) (pa_cons (yv 0) pa_nil)) (pe_one (pe_cmpR oGt (yv 0) pe_int (nomark _)))))), ?_⟩
  refine ⟨v, rfl, kd, ?_⟩
  cases kd with
  | str z hz hf => exact q
  | int i => exact q
  | bl b => exact q
  | non => exact q
  | ref h e => exact q

def spLawName [Tb] (K : PySem.W.Frag) : Sp := spIsName K
theorem ok_l_is_name (D : DefAt K mg "_law_is_name" s_l_is_name) (fr : Fr mg) : Cal P w K mg base 1 "_law_is_name" (spLawName K) := by
  refine cal_of D sc_l_is_name (fun _ _ _ _ _ _ us hl => match us, hl with | [_], _ => rfl) (fun vs H Q E h => by obtain ⟨v, rfl, _⟩ := h; rfl) fun f cd A out s H vs Q E room gd h => ?_
  obtain ⟨v, rfl, kd, q⟩ := h
  refine ⟨_, (pss_cons (ps_if (PW.pt (pw_or (pt_not (yt_val (pe_callB (kIsi (K := K) (by rfl)) (by rfl) fr.isinstance_ (by decide +kernel) (pa_cons (yv 0) (pa_cons (ye_ty (n := "str") (by rfl) fr.str_ (by decide +kernel)) pa_nil))))) (pw_or1 (pt_not (pt_chain oLt oLt pe_int (pe_callB (kLen (K := K) (by rfl)) (by rfl) fr.len_ (by decide +kernel) (pa_cons (yv 0) pa_nil)) pe_int))))) (pss_one (ps_ret pe_bl)) pss_nil)
    (pss_one (ps_ret (pe_cmpR (kEq (K := K) (by rfl) room.units) (pe_lc (own := [("_law_sign", 1)]) rfl sc_l_is_name.nd (yi_str (yv 0)) (blkOk_by (own := [("_law_sign", 1)]) (N := n_l_is_name) (sc := defScope s_l_is_name) (by decide +kernel)) (fun _ _ _ _ _ => (yg_name 1 sc_l_is_name.nd)) (fun _ _ _ _ _ => (pts_one (yt_cmp (kNotIn (K := K) (by rfl)) (yv 1) pe_str (by rfl)))) (fun _ _ _ _ _ => (yv 1))) (ye_lst pa_nil) (nomark _))))), ?_⟩
  cases kd with
  | str z hz hf =>
    have hzl : z.length ≤ sizeLine := Nat.le_trans hz (by decide)
    refine ⟨"str", true, .base (.str _), by decide +kernel, iteNb rfl ⟨hzl, _, rfl, ?_⟩⟩
    have qf : nmB z = false → ∀ H', Kp No H H' → Q (.bl false) H' := fun e H' k => by
      have := q H' k
      rw [show nmV (.str z) = nmB z from rfl, e] at this
      exact this
    refine iteD (fun h1 => ⟨_, rfl, ?_⟩) fun h1 => ⟨_, rfl, qf (nmB_no (.inl (by omega))) _ (Kp.refl _)⟩
    by_cases h2 : z.length ≤ 8
    · have e2 : decide (((z.length : Nat) : Int) < 9) = true := decide_eq_true (by omega)
      refine iteNb e2 (fun Dd hD => ?_)
      refine lc_mapS (K := K) (fun c : Nat => PyData.str ⟨#[c]⟩) (fun c => if (!decide (c ∈ abc.cps.toList)) = true then some c else none) hD (by have := len_tl z; omega) (fun c Hc k kn hc kc hk hkn => ?_) (fun ys H2 h3 k2 im => fun u hu => ?_)
      · exact ⟨rfl, c, rfl, ite2 (fun h0 => hk _ c _ (if_pos h0) (Kp.refl _) (.str _)) fun h0 => hkn _ (if_neg h0) (Kp.refl _)⟩
      · have ku : Kp No H2 (upd H2 u (.lst [])) := Kp.new hu
        rw [fm_filter] at im
        refine ⟨_, _, .lst (.inl (.inl (ku.all Dd _ h3 id))) (ImAll.dp _ _ (ImAll.up ku _ _ im)), .lst (.inl (.inl upd_same)) .nil, ?_, by decide, ?_⟩
        · refine fine_shaped (d := .list ((z.cps.toList.filter fun c => !decide (c ∈ abc.cps.toList)).map fun c : Nat => PyData.str ⟨#[c]⟩)) (fine_list fun d hd => ?_) ?_
          · obtain ⟨c, hc, rfl⟩ := List.mem_map.mp hd
            have hc' := (List.mem_filter.mp hc).1
            have z1 := List.all_eq_true.mp (show (z.cps.toList.all fun c => decide (c < 0x110000)) = true from hf) c hc'
            show ([c].all fun c => decide (c < 0x110000)) = true
            simpa using z1
          · have e : PyData.depthAll ((z.cps.toList.filter fun c => !decide (c ∈ abc.cps.toList)).map fun c : Nat => PyData.str ⟨#[c]⟩) ≤ 0 := depthAll_le fun d hd => by
              obtain ⟨c, hc, rfl⟩ := List.mem_map.mp hd
              simp [PyData.depth]
            simp only [PyData.depth]
            omega
        · rw [eqv_nilL, List.isEmpty_map]
          have := q _ (k2.trans ku)
          rw [show nmV (.str z) = nmB z from rfl, nmB_yes (by omega) h2] at this
          have e3 : (z.cps.toList.filter fun c => !decide (c ∈ abc.cps.toList)).isEmpty = (z.cps.toList.map fun c => decide (c ∈ abc.cps.toList)).all id := by
            rw [List.all_map, Bool.eq_iff_iff, List.isEmpty_iff, List.filter_eq_nil_iff, List.all_eq_true]
            simp
          rw [e3]
          exact this
    · have e2 : decide (((z.length : Nat) : Int) < 9) = false := decide_eq_false (by omega)
      exact iteN0 e2 (qf (nmB_no (.inr (by omega))) _ (Kp.refl _))
  | int i => exact ⟨"int", false, .base (.int _), by decide +kernel, q _ (Kp.refl _)⟩
  | bl b => exact ⟨"bool", false, .base (.bl _), by decide +kernel, q _ (Kp.refl _)⟩
  | non => exact ⟨"NoneType", false, .base .non, by decide +kernel, q _ (Kp.refl _)⟩
  | ref h e => exact ⟨_, false, Kd.ty h e, (tyO_str e).1, q _ (Kp.refl _)⟩
theorem ok_l_is_amount (D : DefAt K mg "_law_is_amount" s_l_is_amount) (fr : Fr mg) : Cal P w K mg base 1 "_law_is_amount" (spIsAmount K) := by
  refine cal_of D sc_l_is_amount (fun _ _ _ _ _ _ us hl => match us, hl with | [_], _ => rfl) (fun vs H Q E h => by obtain ⟨v, rfl, _⟩ := h; rfl) fun f cd A out s H vs Q E room gd h => ?_
  obtain ⟨v, rfl, kd, q⟩ := h
  refine ⟨_, (pss_one (ps_ret (ye_and (pe_callB (kIsi (K := K) (by rfl)) (by rfl) fr.isinstance_ (by decide +kernel) (pa_cons (yv 0) (pa_cons (ye_ty (n := "int") (by rfl) fr.int_ (by decide +kernel)) pa_nil))) (ye_and (ye_not (pe_callB (kIsi (K := K) (by rfl)) (by rfl) fr.isinstance_ (by decide +kernel) (pa_cons (yv 0) (pa_cons (ye_ty (n := "bool") (by rfl) fr.bool_ (by decide +kernel)) pa_nil)))) (pe_one (pe_cmpR oGt (yv 0) pe_int (nomark _))))))), ?_⟩
  cases kd with
  | str z hz hf => exact ⟨"str", false, .base (.str _), by decide +kernel, q⟩
  | int i => exact ⟨"int", true, .base (.int _), by decide +kernel, "int", false, .base (.int _), by decide +kernel, q⟩
  | bl b => exact ⟨"bool", true, .base (.bl _), by decide +kernel, "bool", true, .base (.bl _), by decide +kernel, q⟩
  | non => exact ⟨"NoneType", false, .base .non, by decide +kernel, q⟩
  | ref h e => exact ⟨_, false, Kd.ty h e, (tyO_str e).2.1, q⟩
def boolsL (l : List Bool) : PyData := .list (l.map PyData.bool)
theorem bools_sh2 (a b : Bool) : Sh (boolsL [a, b]) := by
  cases a <;> cases b <;> exact ⟨by decide, by decide, by decide⟩
/-- a thing that can be asked -/
def Th (K : PySem.W.Frag) (H : Hp) (v : V) : Prop := Kd H v ∧ ∃ d, Tg K H v d
def spRight [Tb] (K : PySem.W.Frag) : Sp := fun vs H Q _ => ∃ v : V, vs = [v] ∧ (∀ H', Kp No H H' → Kd H' v) ∧ (∃ d, ∀ H', Kp No H H' → Tg K H' v d) ∧ ∀ H', Kp No H H' → Q (.bl true) H'
theorem ok_l_right (D : DefAt K mg "_law_right" s_l_right) (fr : Fr mg) (c_is_name : Cal P w K mg base 1 "is_name" (spIsName K)) (c_is_amount : Cal P w K mg base 2 "is_amount" (spIsAmount K)) (c_l_is_name : Cal P w K mg base 1 "_law_is_name" (spLawName K)) (c_l_is_amount : Cal P w K mg base 1 "_law_is_amount" (spIsAmount K)) : Cal P w K mg base 3 "_law_right" (spRight K) := by
  refine cal_of D sc_l_right (fun _ _ _ _ _ _ us hl => match us, hl with | [_], _ => rfl) (fun vs H Q E h => by obtain ⟨v, rfl, _⟩ := h; rfl) fun f cd A out s H vs Q E room gd h => ?_
  obtain ⟨v, rfl, kd, ⟨d, tg⟩, q⟩ := h
  refine ⟨_, (pss_cons (ys_set 1 sc_l_right.nd (pe_callB (kReprX (K := K) (by rfl) room.units gd) (by rfl) fr.repr_ (by decide +kernel) (pa_cons (yv 0) pa_nil)))
    (pss_cons (ps_for PassesOwn.never rfl (yi_range1 (by rfl) fr.range_ (pa_cons pe_int pa_nil)) (yg_name 2 sc_l_right.nd) (pss_cons (ys_set 3 sc_l_right.nd (ye_lst (pa_cons (ye_call c_is_name room gd (by rfl) (pa_cons (yv 0) pa_nil)) (pa_cons (ye_call c_is_amount room gd (by rfl) (pa_cons (yv 0) pa_nil)) pa_nil))))
    (pss_one (ps_if (yt_cmp (kNe (K := K) (by rfl) room.units) (pe_callB (kRepr (K := K) (by rfl) room.units gd) (by rfl) fr.repr_ (by decide +kernel) (pa_cons (yv 3) pa_nil)) (pe_callB (kRepr (K := K) (by rfl) room.units gd) (by rfl) fr.repr_ (by decide +kernel) (pa_cons (ye_lst (pa_cons (ye_call c_l_is_name room gd (by rfl) (pa_cons (yv 0) pa_nil)) (pa_cons (ye_call c_l_is_amount room gd (by rfl) (pa_cons (yv 0) pa_nil)) pa_nil))) pa_nil)) (nomark _)) (pss_one (ps_ret pe_bl)) pss_nil))))
    (pss_one (ps_ret (pe_cmpR (kEq (K := K) (by rfl) room.units) (pe_callB (kReprX (K := K) (by rfl) room.units gd) (by rfl) fr.repr_ (by decide +kernel) (pa_cons (yv 0) pa_nil)) (yv 1) (nomark _)))))), ?_⟩
  refine ⟨d, tg _ (Kp.refl _), ⟨by decide, by decide⟩, ?_⟩
  refine for_it walk_range (fun i σ H' => ∃ y2 y3, σ = [some v, some (.str d.shown), y2, y3] ∧ Kp No H H')
    ⟨none, none, rfl, Kp.refl _⟩ (fun _ _ _ _ _ => trivial) ?_ ?_
  · rintro i x σ Ha Hb hi ⟨y2, y3, rfl, ka⟩ ⟨rfl, rfl⟩
    refine ⟨v, rfl, kd _ ka, fun H1 k1 => ⟨v, rfl, kd _ (ka.trans k1), fun l hl => ?_⟩⟩
    have kl : Kp No H1 (upd H1 l (.lst [.bl (nmV v), .bl (amV v)])) := Kp.new hl
    refine ⟨_, .lst (.inl (.inl upd_same)) (.cons (.bl _) (.cons (.bl _) .nil)), bools_sh2 _ _, v, rfl, kd _ (ka.trans (k1.trans kl)), fun H2 k2 => ⟨v, rfl, kd _ (ka.trans ((k1.trans kl).trans k2)), fun l2 hl2 => ?_⟩⟩
    have kl2 : Kp No H2 (upd H2 l2 (.lst [.bl (nmV v), .bl (amV v)])) := Kp.new hl2
    exact ⟨_, .lst (.inl (.inl upd_same)) (.cons (.bl _) (.cons (.bl _) .nil)), bools_sh2 _ _, iteNS rfl ⟨_, _, rfl, ka.trans ((k1.trans kl).trans (k2.trans kl2))⟩⟩
  · rintro σ H' ⟨y2, y3, rfl, ka⟩
    exact ⟨d, tg _ ka, yEq_str (K := K) (q _ ka)⟩
def spNumber [Tb] : Sp := fun vs H Q _ => ∃ p : Addr, vs = [.ref p] ∧ Pot H p ∧ ∀ (n : Int) H', Kp (At p) H H' → Pot H' p → n.natAbs < 10 ^ 70 → Q (.int n) H'
theorem ok_l_number (D : DefAt K mg "_law_number" s_l_number) (fr : Fr mg) (c_l_take : Cal P w K mg base 1 "_law_take" spTake) : Cal P w K mg base 2 "_law_number" spNumber := by
  refine cal_of D sc_l_number (fun _ _ _ _ _ _ us hl => match us, hl with | [_], _ => rfl) (fun vs H Q E h => by obtain ⟨p, rfl, _⟩ := h; rfl) fun f cd A out s H vs Q E room gd h => ?_
  obtain ⟨p, rfl, pot, q⟩ := h
  refine ⟨_, (pss_one (ps_ret (kIx (K := K) (by rfl) (ye_lst (pa_cons (pe_op oSub (ye_call c_l_take room gd (by rfl) (pa_cons (yv 0) (pa_cons pe_int pa_nil))) pe_int) (pa_cons (ye_call c_l_take room gd (by rfl) (pa_cons (yv 0) (pa_cons (pe_op oPow pe_int pe_int) pa_nil))) (pa_cons (pe_op oSub pe_int (ye_call c_l_take room gd (by rfl) (pa_cons (yv 0) (pa_cons (pe_op oPow pe_int pe_int) pa_nil)))) (pa_cons pe_int pa_nil))))) (ye_call c_l_take room gd (by rfl) (pa_cons (yv 0) (pa_cons pe_int pa_nil)))))), ?_⟩
  refine ⟨p, 7, rfl, pot, by decide, by decide, fun d1 H1 k1 p1 a1 b1 => ⟨⟨by decide, by decide, by decide⟩, p, _, rfl, p1, by decide, by decide, fun d2 H2 k2 p2 a2 b2 => ⟨⟨by decide, by decide, by decide⟩, p, _, rfl, p2, by decide, by decide, fun d3 H3 k3 p3 a3 b3 => fun l hl => ?_⟩⟩⟩
  have b2' : d2 < 10 ^ 60 := b2
  have b3' : d3 < 10 ^ 60 := b3
  have npl := p3.ne hl
  refine ⟨p, 4, rfl, p3.upd_ npl, by decide, by decide, fun d4 H4 k4 p4 a4 b4 => ?_⟩
  have l4 := k4.all l _ upd_same fun e => npl e.symm
  have kk : Kp (At p) H H4 := ((k1.trans k2).trans k3).trans ((Kp.new hl).trans k4)
  have c : d4 = 0 ∨ d4 = 1 ∨ d4 = 2 ∨ d4 = 3 := by omega
  rcases c with c | c | c | c
  · exact ⟨_, _, .inl (.inl (.inl l4)), at_of (j := 0) c rfl, q _ _ kk p4 (by omega)⟩
  · exact ⟨_, _, .inl (.inl (.inl l4)), at_of (j := 1) c rfl, q _ _ kk p4 (by omega)⟩
  · exact ⟨_, _, .inl (.inl (.inl l4)), at_of (j := 2) c rfl, q _ _ kk p4 (by omega)⟩
  · exact ⟨_, _, .inl (.inl (.inl l4)), at_of (j := 3) c rfl, q _ _ kk p4 (by decide)⟩
abbrev odds : Str := "ABCDEFGHIJKLMNOPQRSTUVWXYZ0123456789 _-.,:;!?()[]{}<>=+*/|&#@$^~\"'\n"
theorem odds_lt : (odds.cps.toList.all fun c => decide (c < 128)) = true := by decide +kernel
def spText [Tb] : Sp := fun vs H Q _ => ∃ p : Addr, vs = [.ref p] ∧ Pot H p ∧ ∀ (z : Str) H', Kp (At p) H H' → Pot H' p → z.length ≤ 10 → fine (.str z) = true → Q (.str z) H'
theorem ok_l_text (D : DefAt K mg "_law_text" s_l_text) (fr : Fr mg) (c_l_take : Cal P w K mg base 1 "_law_take" spTake) : Cal P w K mg base 2 "_law_text" spText := by
  refine cal_of D sc_l_text (fun _ _ _ _ _ _ us hl => match us, hl with | [_], _ => rfl) (fun vs H Q E h => by obtain ⟨p, rfl, _⟩ := h; rfl) fun f cd A out s H vs Q E room gd h => ?_
  obtain ⟨p, rfl, pot, q⟩ := h
  refine ⟨_, (pss_cons (ys_set 1 sc_l_text.nd pe_str)
    (pss_cons (ps_setLc (i := 2) (own := [("_law_k", 3)]) rfl sc_l_text.nd rfl rfl (sw_true rfl rfl rfl (by decide +kernel)) (yi_range1 (by rfl) fr.range_ (pa_cons (ye_call c_l_take room gd (by rfl) (pa_cons (yv 0) (pa_cons pe_int pa_nil))) pa_nil)) (blkOk_by (own := [("_law_k", 3)]) (N := n_l_text) (sc := defScope s_l_text) (by decide +kernel)) (fun _ _ _ _ _ => (yg_name 3 sc_l_text.nd)) (fun _ _ _ _ _ => pts_nil) (fun _ _ _ _ _ => (kIx (K := K) (by rfl) (yv 1) (ye_call c_l_take room gd (by rfl) (pa_cons (yv 0) (pa_cons pe_int pa_nil))))))
    (pss_cons (ps_if (PW.pt (pw_and (yt_cmp (kNe (K := K) (by rfl) room.units) (yv 2) (ye_lst pa_nil) (nomark _)) (pw_and1 (yt_cmp (kEq (K := K) (by rfl) room.units) (ye_call c_l_take room gd (by rfl) (pa_cons (yv 0) (pa_cons pe_int pa_nil))) pe_int (nomark _))))) (pss_cons (ys_set 4 sc_l_text.nd pe_str)
    (pss_one (ps_asg (kIx (K := K) (by rfl) (yv 4) (ye_call c_l_take room gd (by rfl) (pa_cons (yv 0) (pa_cons (pe_callB (kLen (K := K) (by rfl)) (by rfl) fr.len_ (by decide +kernel) (pa_cons (yv 4) pa_nil)) pa_nil)))) (pg_sub (yv 2) (ye_call c_l_take room gd (by rfl) (pa_cons (yv 0) (pa_cons (pe_callB (kLen (K := K) (by rfl)) (by rfl) fr.len_ (by decide +kernel) (pa_cons (yv 2) pa_nil)) pa_nil))) oSetI)))) pss_nil)
    (pss_one (ps_ret (kJoin (K := K) (by rfl) pe_str (yv 2))))))), ?_⟩
  refine ⟨p, 11, rfl, pot, by decide, by decide, fun d H1 k1 p1 d0 d1 => ⟨⟨by omega, by omega⟩, fun Dd hD => ?_⟩⟩
  refine lc_draw (K := K) (fun c : Nat => PyData.str ⟨#[c]⟩) (fun c => c < 128) hD p1 (by omega) (fun i Ha k kn hi ka pa hk => ?_) (fun ys bs H2 h2 k2 pot2 hl hP im => ?_)
  · refine ⟨rfl, p, 26, rfl, pa, by decide, by decide, fun e H4 k4 pot4 e0 e1 => ⟨by decide, _, abc_at e0 e1, ?_⟩⟩
    exact hk _ _ _ (by omega) k4 pot4 (.str _)
  have e : bs.map (fun c : Nat => PyData.str ⟨#[c]⟩) = (bs.map fun c => (⟨#[c]⟩ : Str)).map PyData.str := by rw [List.map_map]; rfl
  have im0 := im
  rw [e] at im
  have e2 := im.strs
  subst e2
  have hDH : H Dd = none := k1.dom Dd hD
  have nDp : Dd ≠ p := fun e => (pot.ne hDH) e.symm
  have fin : ∀ (cs : List Nat) (H3 : Hp), Kp (At p) H H3 → Pot H3 p → H3 Dd = some (.lst ((cs.map fun c => (⟨#[c]⟩ : Str)).map V.str)) → cs.length ≤ 10 → (∀ c ∈ cs, c < 128) → (∃ ys : List Str, (SqL K H3 Dd (ys.map V.str) ∨ SqT K H3 Dd (ys.map V.str)) ∧ (ys.map (·.length)).sum + ys.length * ("" : Str).length ≤ 16777216 ∧ Q (.str (Txt.join "" ys)) H3) := by
    intro cs H3 k3 p3 h3 l3 c3
    refine ⟨_, .inl (.inl (.inl h3)), ?_, ?_⟩
    · rw [signs_len]
      show _ + _ * 0 ≤ _
      omega
    · rw [join_signs]
      refine q _ _ k3 p3 ?_ ?_
      · show cs.toArray.size ≤ 10
        simpa using l3
      · show (cs.toArray.toList.all fun c => decide (c < 0x110000)) = true
        rw [List.all_eq_true]
        intro c hc
        have := c3 c (by simpa using hc)
        exact decide_eq_true (by omega)
  have lb : bs.length ≤ 10 := by omega
  have k02 := k1.trans k2
  intro u0 hu0
  have k0 : Kp No H2 (upd H2 u0 (.lst [])) := Kp.new hu0
  have h20 := k0.all Dd _ h2 id
  refine ⟨_, _, .lst (.inl (.inl h20)) (ImAll.dp _ _ (ImAll.up k0 _ _ im)), .lst (.inl (.inl upd_same)) .nil, ?_, by decide, ?_⟩
  · refine fine_shaped (d := .list _) (fine_list fun d hd => ?_) ?_
    · obtain ⟨z, hz, rfl⟩ := List.mem_map.mp hd
      obtain ⟨c, hc, rfl⟩ := List.mem_map.mp hz
      have := hP c hc
      show ([c].all fun c => decide (c < 0x110000)) = true
      simpa using (show c < 1114112 by omega)
    · have e : PyData.depthAll ((bs.map fun c => (⟨#[c]⟩ : Str)).map PyData.str) ≤ 0 := depthAll_le fun d hd => by
        obtain ⟨c, hc, rfl⟩ := List.mem_map.mp hd
        simp [PyData.depth]
      simp only [PyData.depth]
      omega
  rw [eqv_nilL, List.isEmpty_map, List.isEmpty_map]
  refine ite2 (fun hb => ?_) fun hb => fin bs _ (k02.trans k0.no) (pot2.keep k0 id) h20 lb hP
  have bpos : 0 < bs.length := by
    cases bs with
    | nil => simp at hb
    | cons a b => simp
  refine ⟨p, 3, rfl, pot2.keep k0 id, by decide, by decide, fun d3 H3 k3 p3 a3 b3 => iteD (fun h0 => ?_) fun h0 => fin bs _ ((k02.trans k0.no).trans k3) p3 (k3.all Dd _ h20 nDp) lb hP⟩
  have h23 := k3.all Dd _ h20 nDp
  refine ⟨by decide, p, _, rfl, p3, by decide, by decide, fun d4 H4 k4 p4 a4 b4 => ⟨by decide, ?_⟩⟩
  have b4' : d4.toNat < odds.cps.toList.length := by
    have b4 : d4 < ((odds.length : Nat) : Int) := b4
    rw [len_tl] at b4
    omega
  refine ⟨odds.cps.toList[d4.toNat], ?_, ?_⟩
  · have z : atI odds.cps.toList ((d4.toNat : Nat) : Int) = some odds.cps.toList[d4.toNat] := atI_nat (by simp [b4'])
    rw [show ((d4.toNat : Nat) : Int) = d4 by omega] at z
    exact z
  have codd : odds.cps.toList[d4.toNat] < 128 := of_decide_eq_true (List.all_eq_true.mp odds_lt _ (List.getElem_mem b4'))
  have h24 := k4.all Dd _ h23 nDp
  refine ⟨_, .inl (.inl (.inl h24)), p, _, rfl, p4, by rw [List.length_map, List.length_map]; omega, by rw [List.length_map, List.length_map]; omega, fun d5 H5 k5 p5 a5 b5 => ?_⟩
  have h25 := k5.all Dd _ h24 nDp
  rw [List.length_map, List.length_map] at b5
  refine ⟨_, d5.toNat, h25, by rw [List.length_map, List.length_map, show d5 = ((d5.toNat : Nat) : Int) by omega]; exact ixNat (by omega), ?_⟩
  have eset : ((bs.map fun c => (⟨#[c]⟩ : Str)).map V.str).set d5.toNat (.str ⟨#[odds.cps.toList[d4.toNat]]⟩) = ((bs.set d5.toNat odds.cps.toList[d4.toNat]).map fun c => (⟨#[c]⟩ : Str)).map V.str := by
    rw [List.map_set, List.map_set]
  rw [eset]
  have kS : Kp (At Dd) H5 (upd H5 Dd (.lst (((bs.set d5.toNat odds.cps.toList[d4.toNat]).map fun c => (⟨#[c]⟩ : Str)).map V.str))) := Kp.set rfl h25
  have k25 : Kp (At p) H H5 := (((k02.trans k0.no).trans k3).trans k4).trans k5
  refine fin _ _ (k25.put hDH h25) (p5.keep kS fun e => nDp e.symm) upd_same (by rw [List.length_set]; exact lb) ?_
  intro c hc
  rcases List.mem_or_eq_of_mem_set hc with z | z
  · exact hP c z
  · rw [z]; exact codd
theorem lc_true {K : PySem.W.Frag} {g : TG} {tt : TT} {te : TE} {vs : List Nat} {σ : L2.St} {H1 : Hp} {D : Addr} {Qd : Hp → Prop} {a : Addr} {xs : List V} (hD : H1 D = none) (ht : SqL K H1 a xs) (hl : xs.length ≤ 100000)
    (hs : ∀ x ∈ xs, ∀ Ha (k : VK) (kn : Hp → Prop), Kp No H1 Ha → (∀ H4, Kp No Ha H4 → k (.bl true) H4) → g x (wipe σ vs) Ha fun σ2 H2 => wipe σ2 vs = wipe σ vs ∧ tt σ2 H2 fun b H3 => if b = true then te σ2 H3 k else kn H3)
    (hd : ∀ H, H D = some (.lst ((List.replicate xs.length true).map V.bl)) → Kp No H1 H → Qd H) : LcGoal (Itl K a) g tt te vs σ H1 D Qd := by
  refine lc_it (walk_list (xs := xs)) (fun i H => H D = some (.lst ((List.replicate i true).map V.bl)) ∧ Kp No H1 H) ⟨upd_same, Kp.new hD⟩ (fun i H _ h => h.2.seq ht) ?_ ?_
  · rintro i x Ha Hb hi ⟨h1, h2⟩ ⟨rfl, hx⟩
    refine hs x (List.mem_of_getElem? hx) _ _ _ h2 fun H4 k4 => ?_
    have hD4 := k4.all D _ h1 fun z => z
    refine ⟨_, hD4, ?_, ?_, (h2.trans k4).put hD hD4⟩
    · rw [List.length_map, List.length_replicate]
      exact Nat.lt_of_lt_of_le (show i < 1000000 by omega) (by decide)
    · rw [upd_same, List.replicate_succ', List.map_append]
      rfl
  · rintro H ⟨h1, h2⟩
    exact hd H h1 h2
theorem str_sh {z : Str} (h1 : z.length ≤ 10) (h2 : fine (.str z) = true) : Sh (.str z) := ⟨h2, by simp [PyData.depth], by have e : z.cps.size = z.length := rfl; simp [PyData.bulk]; omega⟩
theorem texts_sh {ss : List Str} (h : ss.length = 3) (hp : ∀ z ∈ ss, z.length ≤ 10 ∧ fine (.str z) = true) : Sh (.list [.list (ss.map PyData.str)]) := by
  have hd : ∀ d ∈ ss.map PyData.str, Sh d := fun d hd => by
    obtain ⟨z, hz, rfl⟩ := List.mem_map.mp hd
    exact str_sh (hp z hz).1 (hp z hz).2
  have hb : ∀ d ∈ ss.map PyData.str, d.bulk ≤ 30 := fun d hd => by
    obtain ⟨z, hz, rfl⟩ := List.mem_map.mp hd
    have e : z.cps.size = z.length := rfl
    have := (hp z hz).1
    simp [PyData.bulk]
    omega
  refine ⟨fine_list fun d hd' => ?_, ?_, ?_⟩
  · rw [List.mem_singleton.mp hd']
    exact fine_list fun d h => (hd d h).fine
  · have e : PyData.depthAll (ss.map PyData.str) ≤ 0 := depthAll_le fun d hd => by
      obtain ⟨c, hc, rfl⟩ := List.mem_map.mp hd
      simp [PyData.depth]
    simp only [PyData.depth, PyData.depthAll]
    omega
  · have e := bulkAll_le hb
    rw [List.length_map, h] at e
    simp only [PyData.bulk, PyData.bulkAll]
    omega
theorem one_sh {n : Int} (h : n.natAbs < 10 ^ 70) : Sh (.tuple [.int n]) := by
  refine ⟨fine_tuple fun d hd => ?_, by simp [PyData.depth, PyData.depthAll], by simp [PyData.bulk, PyData.bulkAll]⟩
  rw [List.mem_singleton.mp hd]
  exact int_fine (Nat.lt_trans h (by decide +kernel))
def ints4 : PyData := .list [.int 8, .int 6, .int 3, .int (10 ^ 18)]
def spLaw [Tb] (K : PySem.W.Frag) : Sp := fun vs H Q _ => ∃ (a : Addr) (ns : List Int), vs = [.ref a] ∧ SqL K H a (ns.map V.int) ∧ ns.length ≤ 63 ∧ ∀ H', Q (.bl true) H'
theorem ok_law {f : Addr} {fd : FuncData} (F : FunD K "law" "law" (defArgs s_law) (defBody s_law) (defScope s_law) [] [] f fd) (fr : Fr mg) (c_l_cell : Cal P w K mg base 1 "_law_cell" (spCell K)) (c_l_pot : Cal P w K mg base 1 "_law_pot" spPot)
    (c_l_text : Cal P w K mg base 2 "_law_text" spText) (c_l_number : Cal P w K mg base 2 "_law_number" spNumber) (c_l_right : Cal P w K mg base 3 "_law_right" (spRight K)) : FnG P w K mg base CX0 4 f fd ["_law_script"] (spLaw K) := by
  refine fnG_of F sc_law (fun vs H Q E h => by obtain ⟨p, t, rfl, _⟩ := h; rfl) fun f cd A out s H vs Q E room gd h => ?_
  obtain ⟨a, ns, rfl, hS, hlen, q⟩ := h
  refine ⟨_, (pss_cons (ps_for PassesOwn.never rfl (yi_range1 (by rfl) fr.range_ (pa_cons (pe_callB (cMax2 rfl) (by rfl) fr.max_ (by decide +kernel) (pa_cons pe_int (pa_cons (pe_callB (cMin2 rfl) (by rfl) fr.min_ (by decide +kernel) (pa_cons pe_int (pa_cons (pe_callB (kLen (K := K) (by rfl)) (by rfl) fr.len_ (by decide +kernel) (pa_cons (yv 0) pa_nil)) pa_nil))) pa_nil))) pa_nil)) (yg_name 1 sc_law.nd) (pss_cons (ys_set 2 sc_law.nd (ye_call c_l_pot room gd (by rfl) (pa_cons (ye_call c_l_cell room gd (by rfl) (pa_cons (yv 0) (pa_cons (yv 1) pa_nil))) (pa_cons (yv 1) pa_nil))))
    (pss_cons (ps_setLc (i := 3) (own := [("_law_turn", 4)]) rfl sc_law.nd rfl rfl (sw_true rfl rfl rfl (by decide +kernel)) (yi_range1 (by rfl) fr.range_ (pa_cons pe_int pa_nil)) (blkOk_by (own := [("_law_turn", 4)]) (N := n_law) (sc := defScope s_law) (by decide +kernel)) (fun _ _ _ _ _ => (yg_name 4 sc_law.nd)) (fun _ _ _ _ _ => pts_nil) (fun _ _ _ _ _ => (ye_call c_l_text room gd (by rfl) (pa_cons (yv 2) pa_nil))))
    (pss_cons (ps_setLc (i := 5) (own := [("_law_turn", 4)]) rfl sc_law.nd rfl rfl (sw_true rfl rfl rfl (by decide +kernel)) (yi_range1 (by rfl) fr.range_ (pa_cons pe_int pa_nil)) (blkOk_by (own := [("_law_turn", 4)]) (N := n_law) (sc := defScope s_law) (by decide +kernel)) (fun _ _ _ _ _ => (yg_name 4 sc_law.nd)) (fun _ _ _ _ _ => pts_nil) (fun _ _ _ _ _ => (ye_call c_l_number room gd (by rfl) (pa_cons (yv 2) pa_nil))))
    (pss_cons (ys_set 6 sc_law.nd (ye_lst (pa_cons pe_non (pa_cons pe_bl (pa_cons pe_bl (pa_cons pe_int (pa_cons pe_str (pa_cons (ye_tup pa_nil) (pa_cons (ye_lst pa_nil) (pa_cons pe_dnewK (pa_cons (ye_tup (pa_cons pe_int pa_nil)) (pa_cons (ye_lst (pa_cons pe_int pa_nil)) (pa_cons (ye_tup (pa_cons pe_str pa_nil)) (pa_cons (ye_lst (pa_cons pe_str pa_nil)) (pa_cons (pe_disp (pps_cons pe_str pe_int pps_nil) (by rfl) (by rfl) (fun z => by cases z) (by decide)) (pa_cons pe_str (pa_cons (ye_lst (pa_cons (yv 3) pa_nil)) (pa_cons (ye_tup (pa_cons (kIx (K := K) (by rfl) (yv 5) pe_int) pa_nil)) pa_nil))))))))))))))))))
    (pss_one (ps_if (pt_not (yt_val (pe_callB (kAll (K := K) (by rfl) rfl) (by rfl) fr.all_ (by decide +kernel) (pa_cons (pe_lc (own := [("_law_thing", 7)]) rfl sc_law.nd (kiList (K := K) (by rfl) (pe_op (kAdd (K := K) (by rfl)) (pe_op (kAdd (K := K) (by rfl)) (pe_op (kAdd (K := K) (by rfl)) (yv 3) (yv 5)) (yv 6)) (yv 3))) (blkOk_by (own := [("_law_thing", 7)]) (N := n_law) (sc := defScope s_law) (by decide +kernel)) (fun _ _ _ _ _ => (yg_name 7 sc_law.nd)) (fun _ _ _ _ _ => pts_nil) (fun _ _ _ _ _ => (ye_call c_l_right room gd (by rfl) (pa_cons (yv 7) pa_nil)))) pa_nil)))) (pss_one (ps_ret pe_bl)) pss_nil)))))))
    (pss_one (ps_ret (pe_cmpR (kEq (K := K) (by rfl) room.units) (pe_callB (kRepr (K := K) (by rfl) room.units gd) (by rfl) fr.repr_ (by decide +kernel) (pa_cons (ye_lst (pa_cons (ye_gint fr.MOST_INKS_ (by rfl)) (pa_cons (ye_gint fr.MOST_WEAR_ (by rfl)) (pa_cons (ye_gint fr.WEAR_ (by rfl)) (pa_cons (ye_gint fr.MOST_PLACES_ (by rfl)) pa_nil))))) pa_nil)) (pe_callB (kRepr (K := K) (by rfl) room.units gd) (by rfl) fr.repr_ (by decide +kernel) (pa_cons (ye_lst (pa_cons pe_int (pa_cons pe_int (pa_cons pe_int (pa_cons (pe_op oPow pe_int pe_int) pa_nil))))) pa_nil)) (nomark _))))), ?_⟩
  refine ⟨_, .inl hS, ⟨by omega, by omega⟩, ?_⟩
  refine for_it walk_range (fun i σ H' => ∃ y1 y2 y3 y4 y5 y6 y7, σ = [some (.ref a), y1, y2, y3, y4, y5, y6, y7] ∧ Kp No H H')
    ⟨none, none, none, none, none, none, none, rfl, Kp.refl _⟩ (fun _ _ _ _ _ => trivial) ?_ ?_
  · rintro i x σ Ha Hb hi ⟨y1, y2, y3, y4, y5, y6, y7, rfl, ka⟩ ⟨rfl, rfl⟩
    have hi6 : i < 6 ∨ i < 1 := by omega
    refine ⟨a, ns, _, rfl, ka.seq hS, by omega, fun c => ⟨c, _, rfl, by omega, by omega, fun p H1 hp k1 p1 => ?_⟩⟩
    have hpH : H p = none := ka.dom p hp
    clear hlen hi hi6
    refine ⟨⟨by decide, by decide⟩, fun D1 hD1 => ?_⟩
    refine lc_draw (K := K) PyData.str (fun z : Str => z.length ≤ 10 ∧ fine (.str z) = true) hD1 p1 (by decide) (fun j Hx k kn hj kx px hk => ?_) (fun ys ss H2 h2 k2 p2 hls hPs im2 => ?_)
    · exact ⟨rfl, p, rfl, px, fun z H4 k4 p4 z1 z2 => hk _ z _ ⟨z1, z2⟩ k4 p4 (.str _)⟩
    have e2 := im2.strs
    subst e2
    have nDp : D1 ≠ p := fun e => (p1.ne hD1) e.symm
    refine ⟨⟨by decide, by decide⟩, fun D2 hD2 => ?_⟩
    refine lc_draw (K := K) PyData.int (fun n : Int => n.natAbs < 10 ^ 70) hD2 p2 (by decide) (fun j Hx k kn hj kx px hk => ?_) (fun ys ns H3 h3 k3 p3 hln hPn im3 => ?_)
    · exact ⟨rfl, p, rfl, px, fun n H4 k4 p4 z1 => hk _ n _ z1 k4 p4 (.int _)⟩
    have e3 := im3.ints
    subst e3
    have h23 := k3.all D1 _ h2 nDp
    have k03 : Kp No H H3 := (ka.trans k1).drop hpH (k2.trans k3)
    have hls : ss.length = 3 := hls
    have hln : ns.length = 3 := hln
    obtain ⟨n0, n1, n2, rfl⟩ : ∃ n0 n1 n2, ns = [n0, n1, n2] := by
      match ns, hln with
      | [a, b, c], _ => exact ⟨a, b, c, rfl⟩
    refine fun t1 h_t1 l1 h_l1 d1 h_d1 t2 h_t2 l2 h_l2 t3 h_t3 l3 h_l3 d2 h_d2 => ⟨upd_same, [(Sum.inr "a", .int 1)], rfl, by decide, fun l4 h_l4 => ?_⟩
    have k_t1 := Kp.new (S := No) (o := .tup []) h_t1
    have k_l1 := Kp.new (S := No) (o := .lst []) h_l1
    have k_d1 := Kp.new (S := No) (o := .dK []) h_d1
    have k_t2 := Kp.new (S := No) (o := .tup [.int 1]) h_t2
    have k_l2 := Kp.new (S := No) (o := .lst [.int 1]) h_l2
    have k_t3 := Kp.new (S := No) (o := .tup [.str "a"]) h_t3
    have k_l3 := Kp.new (S := No) (o := .lst [.str "a"]) h_l3
    have k_d2 := (Kp.new (S := No) (o := .dK []) h_d2).put (o := .dK (mergeK [] [(Sum.inr "a", .int 1)])) h_d2 upd_same
    have k_l4 := Kp.new (S := No) (o := .lst [.ref D1]) h_l4
    have c_l4 := k_t1.trans (k_l1.trans (k_d1.trans (k_t2.trans (k_l2.trans (k_t3.trans (k_l3.trans (k_d2.trans k_l4)))))))
    refine ⟨_, _, .inl (.inl (.inl (c_l4.all D2 _ h3 id))), at_of (j := 0) rfl rfl, fun t4 h_t4 lo h_lo => ?_⟩
    have k_t4 := Kp.new (S := No) (o := .tup [.int n0]) h_t4
    have k_lo := Kp.new (S := No) (o := .lst [.non, .bl true, .bl false, .int 0, .str "", .ref t1, .ref l1, .ref d1, .ref t2, .ref l2, .ref t3, .ref l3, .ref d2, .str "1", .ref l4, .ref t4]) h_lo
    have c_lo := c_l4.trans (k_t4.trans k_lo)
    have g1 := c_lo.all D1 _ h23 id
    have g2 := c_lo.all D2 _ h3 id
    have lss : (ss.map V.str).length = 3 := by rw [List.length_map]; exact hls
    refine .inl ⟨D1, D2, _, _, rfl, rfl, g1, g2, by rw [lss]; show 3 + 3 ≤ sizeLine; decide, fun s1 h_s1 => ?_⟩
    have k_s1 := Kp.new (S := No) (o := .lst ((ss.map V.str) ++ ([n0, n1, n2].map V.int))) h_s1
    refine .inl ⟨s1, lo, _, _, rfl, rfl, upd_same, k_s1.all lo _ upd_same id, by rw [List.length_append, lss]; show 3 + 3 + 16 ≤ sizeLine; decide, fun s2 h_s2 => ?_⟩
    have k_s2 := Kp.new (S := No) (o := .lst ((ss.map V.str) ++ ([n0, n1, n2].map V.int) ++ [.non, .bl true, .bl false, .int 0, .str "", .ref t1, .ref l1, .ref d1, .ref t2, .ref l2, .ref t3, .ref l3, .ref d2, .str "1", .ref l4, .ref t4])) h_s2
    refine .inl ⟨s2, D1, _, _, rfl, rfl, upd_same, (k_s1.trans k_s2).all D1 _ g1 id, by rw [List.length_append, List.length_append, lss]; show 3 + 3 + 16 + 3 ≤ sizeLine; decide, fun s3 h_s3 => ?_⟩
    have k_s3 := Kp.new (S := No) (o := .lst ((ss.map V.str) ++ ([n0, n1, n2].map V.int) ++ [.non, .bl true, .bl false, .int 0, .str "", .ref t1, .ref l1, .ref d1, .ref t2, .ref l2, .ref t3, .ref l3, .ref d2, .str "1", .ref l4, .ref t4] ++ (ss.map V.str))) h_s3
    have f_s3 := k_s3
    have f_s2 := k_s2.trans f_s3
    have f_s1 := k_s1.trans f_s2
    have f_lo := k_lo.trans f_s1
    have f_t4 := k_t4.trans f_lo
    have f_l4 := k_l4.trans f_t4
    have f_d2 := k_d2.trans f_l4
    have f_l3 := k_l3.trans f_d2
    have f_t3 := k_t3.trans f_l3
    have f_l2 := k_l2.trans f_t3
    have f_t2 := k_t2.trans f_l2
    have f_d1 := k_d1.trans f_t2
    have f_l1 := k_l1.trans f_d1
    have f_t1 := k_t1.trans f_l1
    have a_t1 := f_l1.all t1 _ upd_same id
    have a_l1 := f_d1.all l1 _ upd_same id
    have a_d1 := f_t2.all d1 _ upd_same id
    have a_t2 := f_l2.all t2 _ upd_same id
    have a_l2 := f_t3.all l2 _ upd_same id
    have a_t3 := f_l3.all t3 _ upd_same id
    have a_l3 := f_d2.all l3 _ upd_same id
    have a_d2 := f_l4.all d2 _ upd_same id
    have a_l4 := f_t4.all l4 _ upd_same id
    have a_t4 := f_lo.all t4 _ upd_same id
    have a_D1 := f_t1.all D1 _ h23 id
    refine ⟨⟨_, .inl (.inl upd_same)⟩, fun Dd hDd => ?_⟩
    have kF : Kp No H _ := k03.trans f_t1
    clear h_t1 h_l1 h_d1 h_t2 h_l2 h_t3 h_l3 h_d2 h_l4 h_t4 h_lo h_s1 h_s2 h_s3 k_t1 k_l1 k_d1 k_t2 k_l2 k_t3 k_l3 k_d2 k_l4 k_t4 k_lo k_s1 k_s2 k_s3 f_l1 f_d1 f_t2 f_l2 f_t3 f_l3 f_d2 f_l4 f_t4 f_lo f_s1 f_s2 f_s3 c_l4 c_lo g1 g2
    refine lc_true (K := K) hDd (.inl (.inl upd_same)) (by rw [List.length_append, List.length_append, List.length_append, lss]; show 3 + 3 + 16 + 3 ≤ 100000; decide) (fun x hx Hx k kn kx hk => ?_) (fun HZ hZ kZ => ?_)
    · have th : (∀ H', Kp No Hx H' → Kd H' x) ∧ ∃ d, ∀ H', Kp No Hx H' → Tg K H' x d := by
        have ofS : x ∈ ss.map V.str → (∀ H', Kp No Hx H' → Kd H' x) ∧ ∃ d, ∀ H', Kp No Hx H' → Tg K H' x d := fun hz0 => by
          obtain ⟨z, hz, rfl⟩ := List.mem_map.mp hz0
          obtain ⟨z1, z2⟩ := hPs z hz
          exact ⟨fun _ _ => .str z (by omega) z2, _, fun _ _ => .inl ⟨.str z, str_sh z1 z2⟩⟩
        rcases List.mem_append.mp hx with hx | hx
        · rcases List.mem_append.mp hx with hx | hx
          · rcases List.mem_append.mp hx with hx | hx
            · exact ofS hx
            · obtain ⟨n, hn, rfl⟩ := List.mem_map.mp hx
              exact ⟨fun _ _ => .int n, _, fun _ _ => .inl ⟨.int n, int_sh (by have := hPn n hn; exact Nat.lt_trans this (by decide +kernel))⟩⟩
          · have one : ∀ {HF : Hp} {a : Addr} {o : HO} {m : String} {d : PyData}, Kp No HF Hx → HF a = some o → tyO o = some m → NT o → (∀ H' : Hp, H' a = some o → Tg K H' (.ref a) d) → (∀ H', Kp No Hx H' → Kd H' (.ref a)) ∧ ∃ d, ∀ H', Kp No Hx H' → Tg K H' (.ref a) d := fun {HF a o m d} kx h e nt tg => ⟨fun H' k => .ref ((kx.trans k).all _ _ h id nt) e, d, fun H' k => tg H' ((kx.trans k).all _ _ h id nt)⟩
            have flat : ∀ {v : V} {d : PyData}, (∀ H', Kd H' v) → (∀ H', Dp K H' v d) → Sh d → (∀ H', Kp No Hx H' → Kd H' v) ∧ ∃ d, ∀ H', Kp No Hx H' → Tg K H' v d := fun h1 h2 h3 => ⟨fun H' _ => h1 H', _, fun H' _ => .inl ⟨h2 H', h3⟩⟩
            rcases List.mem_cons.mp hx with rfl | hx
            · exact flat (fun _ => .non) (fun _ => .non) none_sh
            rcases List.mem_cons.mp hx with rfl | hx
            · exact flat (fun _ => .bl _) (fun _ => .bl true) ⟨by decide, by decide, by decide⟩
            rcases List.mem_cons.mp hx with rfl | hx
            · exact flat (fun _ => .bl _) (fun _ => .bl false) ⟨by decide, by decide, by decide⟩
            rcases List.mem_cons.mp hx with rfl | hx
            · exact flat (fun _ => .int _) (fun _ => .int 0) (int_sh (by decide +kernel))
            rcases List.mem_cons.mp hx with rfl | hx
            · exact flat (fun _ => .str _ (by decide) (by decide)) (fun _ => .str "") (str_sh (by decide) (by decide))
            rcases List.mem_cons.mp hx with rfl | hx
            · exact one (d := .tuple []) kx a_t1 rfl trivial fun H' h => .inl ⟨.tup (.inl (.inl h)) .nil, ⟨by decide +kernel, by decide +kernel, by decide +kernel⟩⟩
            rcases List.mem_cons.mp hx with rfl | hx
            · exact one (d := .list []) kx a_l1 rfl trivial fun H' h => .inl ⟨.lst (.inl (.inl h)) .nil, ⟨by decide +kernel, by decide +kernel, by decide +kernel⟩⟩
            rcases List.mem_cons.mp hx with rfl | hx
            · exact one kx a_d1 rfl trivial fun H' h => .inr ⟨d1, [], rfl, h, fun p hp => (nomatch hp), rfl, by decide +kernel, by decide +kernel, by decide +kernel⟩
            rcases List.mem_cons.mp hx with rfl | hx
            · exact one (d := .tuple [.int 1]) kx a_t2 rfl trivial fun H' h => .inl ⟨.tup (.inl (.inl h)) (.cons (.int _) .nil), ⟨by decide +kernel, by decide +kernel, by decide +kernel⟩⟩
            rcases List.mem_cons.mp hx with rfl | hx
            · exact one (d := .list [.int 1]) kx a_l2 rfl trivial fun H' h => .inl ⟨.lst (.inl (.inl h)) (.cons (.int _) .nil), ⟨by decide +kernel, by decide +kernel, by decide +kernel⟩⟩
            rcases List.mem_cons.mp hx with rfl | hx
            · exact one (d := .tuple [.str "a"]) kx a_t3 rfl trivial fun H' h => .inl ⟨.tup (.inl (.inl h)) (.cons (.str _) .nil), ⟨by decide +kernel, by decide +kernel, by decide +kernel⟩⟩
            rcases List.mem_cons.mp hx with rfl | hx
            · exact one (d := .list [.str "a"]) kx a_l3 rfl trivial fun H' h => .inl ⟨.lst (.inl (.inl h)) (.cons (.str _) .nil), ⟨by decide +kernel, by decide +kernel, by decide +kernel⟩⟩
            rcases List.mem_cons.mp hx with rfl | hx
            · exact one kx a_d2 rfl trivial fun H' h => .inr ⟨d2, [(Sum.inr "a", .int 1)], rfl, h, fun p hp => by rw [List.mem_singleton.mp hp]; exact True.intro, rfl, by decide +kernel, by decide +kernel, by decide +kernel⟩
            rcases List.mem_cons.mp hx with rfl | hx
            · exact flat (fun _ => .str _ (by decide) (by decide)) (fun _ => .str "1") (str_sh (by decide) (by decide))
            rcases List.mem_cons.mp hx with rfl | hx
            · refine ⟨fun H' k => .ref ((kx.trans k).all _ _ a_l4 id) rfl, .list [.list (ss.map PyData.str)], fun H' k => .inl ⟨.lst (.inl (.inl ((kx.trans k).all _ _ a_l4 id))) (.cons (.lst (.inl (.inl ((kx.trans k).all _ _ a_D1 id))) (ImAll.dp _ _ (ImAll.ofStrs ss))) .nil), ?_⟩⟩
              exact texts_sh hls hPs
            have hx := List.mem_singleton.mp hx
            subst hx
            exact one (d := .tuple [.int n0]) kx a_t4 rfl trivial fun H' h => .inl ⟨.tup (.inl (.inl h)) (.cons (.int _) .nil), one_sh (hPn n0 (by simp))⟩
        · exact ofS hx
      exact ⟨rfl, x, rfl, th.1, th.2, hk⟩
    · refine ⟨_, .inl (.inl hZ), ?_⟩
      exact iteNb (by simp) ⟨_, _, _, _, _, _, _, rfl, kF.trans kZ⟩
  · rintro σ H' ⟨y1, y2, y3, y4, y5, y6, y7, rfl, ka⟩
    have i4 : Sh ints4 := ⟨by decide, by decide, by decide⟩
    refine fun u1 hu1 => ⟨ints4, .lst (.inl (.inl upd_same)) (.cons (.int _) (.cons (.int _) (.cons (.int _) (.cons (.int _) .nil)))), i4, ⟨by decide, by decide, by decide⟩, fun u2 hu2 => ⟨ints4, .lst (.inl (.inl upd_same)) (.cons (.int _) (.cons (.int _) (.cons (.int _) (.cons (.int _) .nil)))), i4, yEq_str (K := K) (q _)⟩⟩
end
/-! ### the head: facts by names, the run -/
def d_is_whole : He.DefD := ⟨("is_whole", none), "is_whole", "is_whole", defArgs s_is_whole, defBody s_is_whole, defScope s_is_whole, [], []⟩
def d_is_name : He.DefD := ⟨("is_name", none), "is_name", "is_name", defArgs s_is_name, defBody s_is_name, defScope s_is_name, [], []⟩
def d_is_amount : He.DefD := ⟨("is_amount", none), "is_amount", "is_amount", defArgs s_is_amount, defBody s_is_amount, defScope s_is_amount, [], []⟩
def d_l_cell : He.DefD := ⟨("_law_cell", none), "_law_cell", "_law_cell", defArgs s_l_cell, defBody s_l_cell, defScope s_l_cell, [], []⟩
def d_l_pot : He.DefD := ⟨("_law_pot", none), "_law_pot", "_law_pot", defArgs s_l_pot, defBody s_l_pot, defScope s_l_pot, [], []⟩
def d_l_take : He.DefD := ⟨("_law_take", none), "_law_take", "_law_take", defArgs s_l_take, defBody s_l_take, defScope s_l_take, [], []⟩
def d_l_text : He.DefD := ⟨("_law_text", none), "_law_text", "_law_text", defArgs s_l_text, defBody s_l_text, defScope s_l_text, [], []⟩
def d_l_number : He.DefD := ⟨("_law_number", none), "_law_number", "_law_number", defArgs s_l_number, defBody s_l_number, defScope s_l_number, [], []⟩
def d_l_is_name : He.DefD := ⟨("_law_is_name", none), "_law_is_name", "_law_is_name", defArgs s_l_is_name, defBody s_l_is_name, defScope s_l_is_name, [], []⟩
def d_l_is_amount : He.DefD := ⟨("_law_is_amount", none), "_law_is_amount", "_law_is_amount", defArgs s_l_is_amount, defBody s_l_is_amount, defScope s_l_is_amount, [], []⟩
def d_l_right : He.DefD := ⟨("_law_right", none), "_law_right", "_law_right", defArgs s_l_right, defBody s_l_right, defScope s_l_right, [], []⟩
def d_law : He.DefD := ⟨("law", none), "law", "law", defArgs s_law, defBody s_law, defScope s_law, [], []⟩
def fnL : List He.DefD := [d_is_whole, d_is_name, d_is_amount, d_l_cell, d_l_pot, d_l_take, d_l_text, d_l_number, d_l_is_name, d_l_is_amount, d_l_right, d_law]
def faL : List He.Fa := [.glo "is_whole", .glo "is_name", .glo "is_amount", .glo "_law_cell", .glo "_law_pot", .glo "_law_take", .glo "_law_text", .glo "_law_number", .glo "_law_is_name", .glo "_law_is_amount", .glo "_law_right", .glo "law", .free "abs", .free "all", .free "bool", .free "divmod", .free "int", .free "isinstance", .free "len", .free "max", .free "min", .free "range", .free "repr", .free "str", .str "LETTERS" "abcdefghijklmnopqrstuvwxyz", .int "MOST_INKS" (8), .int "MOST_LETTERS" (8), .int "MOST_PLACES" (1000000000000000000), .int "MOST_WEAR" (6), .int "WEAR" (3)]
def tfL : List He.Defn := []
abbrev tabA (K : PySem.W.Frag) (x : Str) : Addr := (He.cT K (x, none)).2
def exL (K : PySem.W.Frag) : Bool := true
abbrev namesL : List Str := ["MOST_INKS", "MOST_WEAR", "WEAR", "MOST_PLACES", "MOST_LETTERS", "LETTERS", "is_whole", "is_name", "is_amount", "_law_cell", "_law_pot", "_law_take", "_law_text", "_law_number", "_law_is_name", "_law_is_amount", "_law_right"]
abbrev R : PySem.W.OpenRow := PySem.W.OpenLaw.row PySem.Challenge.rw_fadeleaf_k12_names_and_amounts
abbrev hk : PySem.W.Hook := He.hookX 4 faL fnL [] tfL exL
def ob (s : PySem.W.SharedT) : He.AlX := He.obsX 4 faL fnL [] tfL exL (HandSHeadRun.getT s)
theorem ob_eq (s : PySem.W.SharedT) : ob s = hk.obs s.abs := He.obsX_eq (HandSHeadRun.getT_eq s)
theorem run (w : World) : HandSHeadRun.RunEq R (PySem.W.view R.prog [19]) hk ob 2000 namesL w := by
  intro os
  kernel_rfl
theorem facts {l : PySem.W.OpenLaw} {w : World} {K : PySem.W.Frag} {h : Heap} {mg : Str → Option Value} {f : Addr} (X : K.In h) (G : h.Ns mainGlobals mg) (hfa : mg ("law" : Str) = some (.ref f)) (cx : He.SaysX faL fnL [] tfL exL w h K) :
    LawIs l w K CX0 4 63 "_law_script" mg f h := by
  have c := cx.t.d
  letI tb : Tb := ⟨([] : List (Addr × Str))⟩
  have D_is_whole : DefAt K mg "is_whole" s_is_whole := let ⟨fd, F⟩ := c.def_ 0 (d := d_is_whole) rfl; ⟨_, fd, F, He.glo_ok X G (c.fact 0 (f := .glo "is_whole") rfl)⟩
  have D_is_name : DefAt K mg "is_name" s_is_name := let ⟨fd, F⟩ := c.def_ 1 (d := d_is_name) rfl; ⟨_, fd, F, He.glo_ok X G (c.fact 1 (f := .glo "is_name") rfl)⟩
  have D_is_amount : DefAt K mg "is_amount" s_is_amount := let ⟨fd, F⟩ := c.def_ 2 (d := d_is_amount) rfl; ⟨_, fd, F, He.glo_ok X G (c.fact 2 (f := .glo "is_amount") rfl)⟩
  have D_l_cell : DefAt K mg "_law_cell" s_l_cell := let ⟨fd, F⟩ := c.def_ 3 (d := d_l_cell) rfl; ⟨_, fd, F, He.glo_ok X G (c.fact 3 (f := .glo "_law_cell") rfl)⟩
  have D_l_pot : DefAt K mg "_law_pot" s_l_pot := let ⟨fd, F⟩ := c.def_ 4 (d := d_l_pot) rfl; ⟨_, fd, F, He.glo_ok X G (c.fact 4 (f := .glo "_law_pot") rfl)⟩
  have D_l_take : DefAt K mg "_law_take" s_l_take := let ⟨fd, F⟩ := c.def_ 5 (d := d_l_take) rfl; ⟨_, fd, F, He.glo_ok X G (c.fact 5 (f := .glo "_law_take") rfl)⟩
  have D_l_text : DefAt K mg "_law_text" s_l_text := let ⟨fd, F⟩ := c.def_ 6 (d := d_l_text) rfl; ⟨_, fd, F, He.glo_ok X G (c.fact 6 (f := .glo "_law_text") rfl)⟩
  have D_l_number : DefAt K mg "_law_number" s_l_number := let ⟨fd, F⟩ := c.def_ 7 (d := d_l_number) rfl; ⟨_, fd, F, He.glo_ok X G (c.fact 7 (f := .glo "_law_number") rfl)⟩
  have D_l_is_name : DefAt K mg "_law_is_name" s_l_is_name := let ⟨fd, F⟩ := c.def_ 8 (d := d_l_is_name) rfl; ⟨_, fd, F, He.glo_ok X G (c.fact 8 (f := .glo "_law_is_name") rfl)⟩
  have D_l_is_amount : DefAt K mg "_law_is_amount" s_l_is_amount := let ⟨fd, F⟩ := c.def_ 9 (d := d_l_is_amount) rfl; ⟨_, fd, F, He.glo_ok X G (c.fact 9 (f := .glo "_law_is_amount") rfl)⟩
  have D_l_right : DefAt K mg "_law_right" s_l_right := let ⟨fd, F⟩ := c.def_ 10 (d := d_l_right) rfl; ⟨_, fd, F, He.glo_ok X G (c.fact 10 (f := .glo "_law_right") rfl)⟩
  obtain ⟨fdL, FL⟩ := c.def_ 11 (d := d_law) rfl
  have eL := hfa.symm.trans (He.glo_ok X G (c.fact 11 (f := .glo "law") rfl))
  cases eL
  have fr : Fr mg := ⟨He.free_ok X G (c.fact 12 (f := .free "abs") rfl), He.free_ok X G (c.fact 13 (f := .free "all") rfl), He.free_ok X G (c.fact 14 (f := .free "bool") rfl), He.free_ok X G (c.fact 15 (f := .free "divmod") rfl), He.free_ok X G (c.fact 16 (f := .free "int") rfl), He.free_ok X G (c.fact 17 (f := .free "isinstance") rfl), He.free_ok X G (c.fact 18 (f := .free "len") rfl), He.free_ok X G (c.fact 19 (f := .free "max") rfl), He.free_ok X G (c.fact 20 (f := .free "min") rfl), He.free_ok X G (c.fact 21 (f := .free "range") rfl), He.free_ok X G (c.fact 22 (f := .free "repr") rfl), He.free_ok X G (c.fact 23 (f := .free "str") rfl), He.str_ok X G (c.fact 24 (f := .str "LETTERS" "abcdefghijklmnopqrstuvwxyz") rfl), He.int_ok X G (c.fact 25 (f := .int "MOST_INKS" (8)) rfl), He.int_ok X G (c.fact 26 (f := .int "MOST_LETTERS" (8)) rfl), He.int_ok X G (c.fact 27 (f := .int "MOST_PLACES" (1000000000000000000)) rfl), He.int_ok X G (c.fact 28 (f := .int "MOST_WEAR" (6)) rfl), He.int_ok X G (c.fact 29 (f := .int "WEAR" (3)) rfl)⟩
  have b := FunD.bindsA (ps := ["_law_script"]) FL fun _ _ _ _ _ _ us hl => match us, hl with | [_], _ => rfl
  refine ⟨fdL, tfL.map (He.cT K), spLaw K, fun p hp => ?_, fun p hp => ?_, fun p hp => ?_, fun s v => b s [v] rfl, fun H a ns hl hTb hS => ⟨a, ns, rfl, hS, hl, fun _ => rfl⟩, fun base _ _ hTB => ?_⟩
  · obtain ⟨q, hq, rfl⟩ := List.mem_map.mp hp
    exact cx.empty q hq
  · obtain ⟨q, hq, rfl⟩ := List.mem_map.mp hp
    exact cx.out q hq
  · obtain ⟨q, hq, rfl⟩ := List.mem_map.mp hp
    exact PySem.W.codeHd_of_K X (cx.hd q hq)
  have c_l_cell := ok_l_cell (P := l.prog) (w := w) (base := base) D_l_cell fr 
  have c_l_pot := ok_l_pot (P := l.prog) (w := w) (base := base) D_l_pot fr 
  have c_l_take := ok_l_take (P := l.prog) (w := w) (base := base) D_l_take fr 
  have c_is_whole := ok_is_whole (P := l.prog) (w := w) (base := base) D_is_whole fr 
  have c_is_name := ok_is_name (P := l.prog) (w := w) (base := base) D_is_name fr 
  have c_is_amount := ok_is_amount (P := l.prog) (w := w) (base := base) D_is_amount fr c_is_whole
  have c_l_is_name := ok_l_is_name (P := l.prog) (w := w) (base := base) D_l_is_name fr 
  have c_l_is_amount := ok_l_is_amount (P := l.prog) (w := w) (base := base) D_l_is_amount fr 
  have c_l_right := ok_l_right (P := l.prog) (w := w) (base := base) D_l_right fr c_is_name c_is_amount c_l_is_name c_l_is_amount
  have c_l_number := ok_l_number (P := l.prog) (w := w) (base := base) D_l_number fr c_l_take
  have c_l_text := ok_l_text (P := l.prog) (w := w) (base := base) D_l_text fr c_l_take
  exact ok_law FL fr c_l_cell c_l_pot c_l_text c_l_number c_l_right
end K12
open PySem PySem.W PySem.Calls PyProof.Rows
theorem PySem.Challenge.cw_fadeleaf_k12_names_and_amounts_holds : PySem.Challenge.rw_fadeleaf_k12_names_and_amounts.Holds := by
  w_on; o_law
  refine HandSHeadRun.head_any (r := OpenLaw.row PySem.Challenge.rw_fadeleaf_k12_names_and_amounts) (q := view (OpenLaw.row PySem.Challenge.rw_fadeleaf_k12_names_and_amounts).prog [19]) (H := K12.hk) (ob := K12.ob) (M := 2000) (loose := K12.namesL) (d := HandSHeadRun.topDef (OpenLaw.row PySem.Challenge.rw_fadeleaf_k12_names_and_amounts).prog 19) (kwd := []) K12.ob_eq
    (by kernel_rfl) (fun s => by kernel_rfl) K12.run (by kernel_rfl) (by kernel_rfl) (by kernel_rfl) (by rfl) (by first | assumption | decide +kernel) (by decide +kernel) ⟨rfl, rfl, rfl, rfl, rfl, by decide +kernel⟩ ?hw ?hc
  case hw => w_witness2
  case hc =>
    refine Y.walk_G (l := PySem.Challenge.rw_fadeleaf_k12_names_and_amounts) (n := 63) (k := 4) (x := "_law_script") (CX := L2.CX0) rfl (by decide) (by kernel_rfl) ⟨rfl, by decide, by decide⟩ ?F (fun _ _ _ _ z => z)
    intro w mg fa h Yh G hmg0
    obtain ⟨K, KX, c⟩ := Yh
    have en : (HandSHeadRun.topDef (OpenLaw.row PySem.Challenge.rw_fadeleaf_k12_names_and_amounts).prog 19).name = ("law" : PySem.Str) := by kernel_rfl
    rw [en] at hmg0
    exact ⟨K, KX, K12.facts KX G hmg0 c⟩
