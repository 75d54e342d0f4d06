import PyProof.Rows.All
import HandS.ForMost
import HandS.WideBits
import HandS.Wide
import HandS.TupAny
import HandS.SortInts
import HandS.Zip
import HandS.Rev
import HandS.Style
import HandS.RevRange
import HandS.IsInst
import HandS.TupMul
import HandS.Deep
import HandS.RaiseMore
import HandS.More
import KE.KSortedM
import HandS.Strs
import HandS.Conv
import KE.KRevSl
import KE.DataFind
import PyProof.SeqIndex
import KE.GoesMore
import KE.SortData
import HandS.SetFor
import KE.KDictZip
import PySem.Challenge.RW_twowaycounts_k08_whole_primes_beside_all
set_option Elab.async false
set_option linter.all false
set_option maxRecDepth 100000
namespace DL
open PySem PySem.Spec PyProof.Rows L2

/-! ### defs that are called where no repr is running -/
structure RmG (k : Nat) (A : Around) : Prop where
  room : Room k A
  gd : A.guards = some []
theorem RmG.mono {j k : Nat} {A : Around} (r : RmG k A) (h : j ≤ k) : RmG j A := ⟨r.room.mono h, r.gd⟩
structure FnG (P : Program) (w : World) (K : PySem.W.Frag) (mg : Str → Option Value) (base : Heap) (CX : CXT) (k : Nat) (f : Addr) (fd : FuncData) (ps : List Str) (sp : Sp) : Prop where
  len : ∀ vs H Q E, sp vs H Q E → vs.length = ps.length
  run : ∀ (A : Around) (outer : List Env) (s : Shared) (H : Hp) (args : Args) (us : List Value) (vs : List V) (Q : VK) (E : XK), RmG k A → Env0 P w K mg base A outer s H →
    BindsTo s fd args (ps.zip us) → Vals vs us → sp vs H Q E → codeAny (model P w) A (.call (.ref f) args) (CR CX outer P w H s Q E) s
section
variable {P : Program} {w : World} {K : PySem.W.Frag} {mg : Str → Option Value} {base : Heap} {CX : CXT} {j k : Nat} {f : Addr} {fd : FuncData} {ps : List Str} {sp : Sp}
theorem FnG.mono (F : FnG P w K mg base CX j f fd ps sp) (h : j ≤ k) : FnG P w K mg base CX k f fd ps sp :=
  ⟨F.len, fun A outer s H args us vs Q E hr => F.run A outer s H args us vs Q E (hr.mono h)⟩
theorem CE.of_inv {X : Cx} {pins σ H s v u} {Q : VK} {s' : Shared} {outer : List Env} {H' : Hp} (hs : X.s_0 = s) (hH : X.H_0 = H) (ho : X.outer = outer) (hx : X.ex = []) (J : Inv X pins σ H' s') (r : RelV v u) (q : Q v H') : CE outer X.prog X.w H s Q u s' := by
  subst hs hH ho
  refine ⟨v, H', J.os, J.bare, ?_, J.hok, r, q⟩
  have := J.base
  rw [hx] at this
  exact this
theorem fnG_of {name qual : Str} {params : Arguments} {body : List Stmt} {scope : Scope} {dV kV doc pm cdv ct oc : Value} {an od : Option Addr} {osl : Array (Option Value)} {N : List Str}
    (lk : K.lookup f = some ⟨oc, od, .func (PySem.W.fnOf name qual params body scope dV kV doc pm an cdv ct), osl⟩) (hcd : PySem.W.codeIn K cdv qual = true) (S : FnScope N ps scope) (len : ∀ vs H Q E, sp vs H Q E → vs.length = ps.length)
    (hb : ∀ (A : Around) (outer : List Env) (s : Shared) (H : Hp) (vs : List V) (Q : VK) (E : XK), RmG k (A.deeper (envOfC qual scope s.heap.objs.size f cdv)) → sp vs H Q E →
      ∃ t, PSs (cxOf CX P w K mg base N qual scope f cdv A outer s H E) body t ∧ t { nx := fun _ H' => Q .non H', rt := Q } (start N vs) H) :
    FnG P w K mg base CX (k + 1) f (PySem.W.fnOf name qual params body scope dV kV doc pm an cdv ct) ps sp := by
  constructor
  · exact len
  intro A outer s H args us vs Q E hr e0 hbd r hsp
  have KX : K.In s.heap := e0.mod.kin.keeps fun b o e => (e0.bs b o e).1
  have lim := e0.mod.nolimit.keeps (h' := s.heap) fun b o e => (e0.bs b o e).1
  refine codeAny_call_function hr.room.depth (KX _ _ lk) rfl S.co S.gen rfl (PySem.W.codeRec_of KX hcd) (hbd _ _ _ _ ?_)
  have hkind : ∀ y ∈ ps.zip us, scope.names.lookup y.1 = some .local ∨ (scope.names.lookup y.1 = some .cell ∧ ((cellsFrom (s.heap.objs.size + 1) scope.names []).lookup y.1).isSome = true) := by
    rintro ⟨n, v⟩ hy
    rcases S.par n (List.of_mem_zip hy).1 with q | q
    · exact Or.inl q
    · exact Or.inr ⟨q, PySem.W.cellsFrom_some _ _ _ (Or.inl q)⟩
  refine wpAny_newFunctionEnv_cells S.kind hkind ?_
  rintro env rfl s1 x
  refine ⟨lim.keeps x.toInCall.keep, codeAny_func ?_⟩
  obtain ⟨t, ht, hq⟩ := hb A outer s H vs Q E ⟨hr.room.deeper _, hr.gd⟩ hsp
  have I := inv_start (CX := CX) (E := E) (f := f) (cd := cdv) (qual := qual) S hr.room.hd e0 (len _ _ _ _ hsp) r x
  refine wpAny_mono (ht.run [] s1 (start N vs) H _ I hq) ?_ (fun e s' hs => hs)
  intro fl s' hs
  cases fl with
  | ret u =>
    obtain ⟨v, σ', H', J, rv, q⟩ := hs
    exact CE.of_inv rfl rfl rfl rfl J rv q
  | next =>
    obtain ⟨σ', H', J, q⟩ := hs
    exact CE.of_inv (v := V.non) (u := Value.none) rfl rfl rfl rfl J rfl q
  | brk => exact hs.elim fun _ h => h.elim fun _ h => h.2.elim
  | cont => exact hs.elim fun _ h => h.elim fun _ h => h.2.elim
theorem FunG.ok {x qual : Str} {st : Stmt} {N : List Str} (F : Fun K x qual st f fd) (S : FnScope N ps (defScope st)) (len : ∀ vs H Q E, sp vs H Q E → vs.length = ps.length)
    (hb : ∀ (cdv : Value) (A : Around) (outer : List Env) (s : Shared) (H : Hp) (vs : List V) (Q : VK) (E : XK), RmG k (A.deeper (envOfC qual (defScope st) s.heap.objs.size f cdv)) → sp vs H Q E →
      ∃ t, PSs (cxOf CX0 P w K mg base N qual (defScope st) f cdv A outer s H E).nox (defBody st) t ∧ t { nx := fun _ H' => Q .non H', rt := Q } (start N vs) H) :
    FnG P w K mg base CX0 (k + 1) f fd ps sp := by
  obtain ⟨oc, od, kV, doc, pm, an, cdv, ct, osl, rfl, lk, hcd⟩ := F.ex
  refine fnG_of lk hcd S len ?_
  intro A outer s H vs Q E hr hsp
  obtain ⟨t, h, q⟩ := hb cdv A outer s H vs Q E hr hsp
  exact ⟨t, h.nox, q⟩
end

/-! ### calls -/
section
variable {X : Cx} {k : Nat} {f : Addr} {fd : FuncData} {ps : List Str} {sp : Sp} {ds : List Value} {dvs : List V} {x : Str} {p pos : Pos} {e : Expr} {es : List Expr} {t tk : TA}
theorem runG {pins : List (Addr × Obj)} {σ : L2.St} {H : Hp} {s : Shared} {Q : VK} {us ws : List Value} {vs : List V} {args : Args} (F : FnG X.prog X.w X.K X.mg X.base CX0 k f fd ps sp) (hr : RmG k X.A)
    (hb : BindsTo s fd args (ps.zip ws)) (I : Inv X pins σ H s) (r : Vals vs ws) (h : sp vs H Q E0) (ha : args = ⟨us, args.kw⟩) : wpAny (model X.prog X.w) X.A (call (.ref f) us args.kw) (EP X pins σ Q) X.xe s := by
  have go := F.run X.A X.stack s H args ws vs Q E0 hr I.env0 hb r h
  rw [ha] at go
  refine wpAny_call (codeAny_mono go ?_)
  intro res s' hq
  cases res with
  | error e => exact hq.elim
  | ok fl =>
    cases fl with
    | ret u => exact I.after hq
    | next => exact hq.elim
    | brk => exact hq.elim
    | cont => exact hq.elim
/-- f(e, ..) -/
theorem pe_callG (F : FnG X.prog X.w X.K X.mg X.base CX0 k f fd ps sp) (hr : RmG k X.A) (hg : Gl X x) (hm : X.mg x = some (.ref f)) (hk : PySem.W.keepIn X.K (.ref f) = true) (hb : Binds X.K fd ps ds) (hd : Vals dvs ds)
    (ha : PA X (e :: es) t) (hdb : (x == ("__debug__" : Str)) = false := by decide) (he : starEach (e :: es) X.env = (false, eval e X.env) :: starEach es X.env := by rfl) (hpl : (backTo pos (starEach es X.env)).any (·.1) = false := by rfl) :
    PE X (.Call (.Name x p) (e :: es) [] pos) (tCall sp dvs E0 t) := by
  constructor
  intro pins s σ H Q I h
  refine wpAny_Call_Name_kw (ld_glob I hg hm ?_ hdb)
  refine PySem.W.callWith_K (h₀ := X.base) I.ok.mod.kin hk (thn (ha.run pos pins s σ H _ I h) ?_) he hpl
  rintro us s1 ⟨vs, H1, I1, r, q⟩
  have r2 : Vals (vs ++ dvs) (us ++ ds) := r.append hd
  have hl : (us ++ ds).length = ps.length := by rw [← r2.length]; exact F.len _ _ _ _ q
  exact ⟨I1.kIn, runG (args := ⟨us, []⟩) F hr (hb s1 us I1.kIn hl) I1 r2 q rfl⟩
theorem pe_call0G (F : FnG X.prog X.w X.K X.mg X.base CX0 k f fd ps sp) (hr : RmG k X.A) (hg : Gl X x) (hm : X.mg x = some (.ref f)) (hk : PySem.W.keepIn X.K (.ref f) = true) (hb : Binds X.K fd ps ds) (hd : Vals dvs ds)
    (hdb : (x == ("__debug__" : Str)) = false := by decide) : PE X (.Call (.Name x p) [] [] pos) (tCall sp dvs E0 tNil) := by
  constructor
  intro pins s σ H Q I h
  refine wpAny_Call_Name_kw (ld_glob I hg hm ?_ hdb)
  have hl : ([] ++ ds : List Value).length = ps.length := by
    have e := hd.length
    have e2 := F.len _ _ _ _ h
    simp only [List.nil_append] at e2 ⊢
    rw [← e]; exact e2
  exact PySem.W.callWith_K0 I.kIn hk (runG (args := ⟨[], []⟩) F hr (hb s [] I.kIn hl) I hd h rfl)
variable {ks : List Str} {g : List Value → List Value → List Value} {gV : List V → List V → List V} {kws : List Keyword}
/-- f(e, .., k = v, ..) -/
theorem pe_callKG (F : FnG X.prog X.w X.K X.mg X.base CX0 k f fd ps sp) (hr : RmG k X.A) (hg : Gl X x) (hm : X.mg x = some (.ref f)) (hk : PySem.W.keepIn X.K (.ref f) = true) (hb : KBinds X.K fd ps ks g gV)
    (ha : PA X (e :: es) t) (hkw : PK X kws tk) (hall : (backToKw pos (keywordEach kws X.env)).all (·.1.isSome) = true := by rfl) (hks : (backToKw pos (keywordEach kws X.env)).filterMap (·.1) = ks := by rfl)
    (hdb : (x == ("__debug__" : Str)) = false := by decide) (he : starEach (e :: es) X.env = (false, eval e X.env) :: starEach es X.env := by rfl)
    (hpl : ((backTo pos (starEach (e :: es) X.env)).any (·.1) || (backToKw pos (keywordEach kws X.env)).any (·.1.isNone)) = false := by rfl) :
    PE X (.Call (.Name x p) (e :: es) kws pos) (tCallK sp gV E0 t tk) := by
  constructor
  intro pins s σ H Q I h
  refine wpAny_Call_Name_kw (ld_glob I hg hm ?_ hdb)
  refine PySem.W.callWith_KW (h₀ := X.base) I.ok.mod.kin hk hall (thn (ha.run pos pins s σ H _ I h) ?_) hpl he
  rintro us s1 ⟨vs, H1, I1, r, q⟩
  refine thn (hkw.run pos pins s1 σ H1 _ I1 q) ?_
  rintro ws s2 ⟨zs, H2, I2, rz, q2⟩
  rw [hks]
  have r2 := hb.rel r rz
  have hl : (g us ws).length = ps.length := by rw [← r2.length]; exact F.len _ _ _ _ q2
  exact ⟨I2.kIn, runG (args := ⟨us, ks.zip ws⟩) F hr (hb.to s2 us ws I2.kIn hl) I2 r2 q2 rfl⟩
end

/-! ### the end of a law -/
theorem callG {P : Program} {w : World} {K : PySem.W.Frag} {mg mb : Str → Option Value} {k : Nat} {fa a : Addr} {fd : FuncData} {x : Str} {sp : Sp} {s₁ : Shared} {H : Hp} {hb0 : Heap} {o : Obj} {xs : List V}
    (F : FnG P w K mg hb0 CX0 k fa fd [x] sp) (hr : Room k callerA) (hbind : ∀ (s : Shared) (u : Value), BindsTo s fd ⟨[u], []⟩ [(x, u)]) (e0 : Env0 P w K mg hb0 callerA [] s₁ H)
    (hsp : sp [.ref a] H (fun v _ => v = .bl true) E0) (hO : Only H) :
    codeAny (model P w) callerA (.call (.ref fa) ⟨[.ref a], []⟩) (fun r s' => r = .ok (.ret (.bool true)) ∧ PySem.OldK s₁.heap s'.heap ∧ s'.os = s₁.os ∧ AllBare s'.gens) s₁ := by
  have go := F.run callerA [] s₁ H ⟨[.ref a], []⟩ [.ref a] [.ref a] _ _ ⟨hr, rfl⟩ e0 (hbind s₁ (.ref a)) (.cons rfl .nil) hsp
  refine codeAny_mono go ?_
  intro r s' h
  cases r with
  | error e => exact False.elim h
  | ok fl =>
    cases fl with
    | next => exact h.elim
    | brk => exact h.elim
    | cont => exact h.elim
    | ret u =>
      obtain ⟨v, H', os, bare, un, hok', r', rfl⟩ := h
      obtain rfl : u = Value.bool true := r'
      refine ⟨rfl, PySem.OldK.of_keep ?_, os, bare⟩
      intro b ob e
      have none_in : b ∉ frs [] := fun z => nomatch (show b ∈ ([] : List Addr) from z)
      cases q : H b with
      | none => exact un.keep b ob e q none_in (fun z => nomatch z)
      | some u =>
        rcases hO b with z | ⟨ob2, ys, z⟩
        · rw [q] at z; cases z
        · have e1 := (e0.hok b _ z).1
          have e2 := (hok' b _ (un.frzs b ob2 _ z)).1
          rw [e] at e1
          rw [e2, ← e1]
/-- the abstract heap at the law's entry: the script alone, read, not written -/
theorem enterG {P : Program} {w : World} {K : PySem.W.Frag} {mg mb : Str → Option Value} {k : Nat} {fa a : Addr} {fd : FuncData} {x : Str} {sp : Sp} {s₁ : Shared} {vs : List Value} {ns : List Int}
    (KX : K.In s₁.heap) (hns : s₁.heap.Ns mainGlobals mg) (hb : s₁.heap.Ns builtinsNs mb) (hbb : ∀ x : Str, x ≠ "__name__" → mb x = bootBuiltins x) (hlim : s₁.heap.NoLimit) (hg : s₁.gens = #[])
    (ha : s₁.heap.get? a = some { cls := .type "list", data := .seq vs.toArray }) (hi : PyProof.Rows.IntsAre vs ns) (hl : ns.length ≤ sizeLine) (hr : Room k callerA)
    (F : ∀ hb0 : Heap, K.In hb0 → hb0.Ns mainGlobals mg → FnG P w K mg hb0 CX0 k fa fd [x] sp) (hbind : ∀ (s : Shared) (u : Value), BindsTo s fd ⟨[u], []⟩ [(x, u)])
    (hsp : ∀ H : Hp, Only H → SqL K H a (ns.map V.int) → sp [.ref a] H (fun v _ => v = .bl true) E0) :
    codeAny (model P w) callerA (.call (.ref fa) ⟨[.ref a], []⟩) (fun r s' => r = .ok (.ret (.bool true)) ∧ PySem.OldK s₁.heap s'.heap ∧ s'.os = s₁.os ∧ AllBare s'.gens) s₁ := by
  have rv := vals_ints hi
  suffices go : ∀ H : Hp, (∀ b o, H b = some o → b = a ∧ K.lookup a = none) → Only H → SqL K H a (ns.map V.int) → HOk P w H s₁.heap →
      codeAny (model P w) callerA (.call (.ref fa) ⟨[.ref a], []⟩) (fun r s' => r = .ok (.ret (.bool true)) ∧ PySem.OldK s₁.heap s'.heap ∧ s'.os = s₁.os ∧ AllBare s'.gens) s₁ by
    cases hk : K.lookup a with
    | some o =>
      have e := KX a o hk
      rw [ha] at e
      obtain rfl := Option.some.inj e
      have sz : vs.toArray.size ≤ sizeLine := by rw [List.size_toArray, hi.length]; exact hl
      refine go (fun _ => none) (fun b o z => by cases z) (fun _ => .inl rfl) ?_ (fun b u z => by cases z)
      exact .inr ⟨_, _, _, hk, rfl, rfl, rfl, sz, rv⟩
    | none =>
      let ob : Obj := { cls := .type "list", data := .seq vs.toArray }
      let H0 : Hp := fun b => if b = a then some (.frz ob (.lst (ns.map V.int))) else none
      have at_a : H0 a = some (.frz ob (.lst (ns.map V.int))) := if_pos rfl
      have els : ∀ b, b ≠ a → H0 b = none := fun b h => if_neg h
      have dom : ∀ b o, H0 b = some o → b = a := fun b o z => Classical.byContradiction fun h => by rw [els b h] at z; cases z
      refine go H0 (fun b o z => ⟨dom b o z, hk⟩) ?_ (.inl (.inr ⟨ob, at_a⟩)) ?_
      · intro b
        by_cases h : b = a
        · subst h; exact .inr ⟨_, _, at_a⟩
        · exact .inl (els b h)
      · intro b u z
        obtain rfl := dom b u z
        rw [at_a] at z
        obtain rfl := Option.some.inj z
        exact ⟨ha, by rw [List.length_map]; exact hl, vs, _, rv, ha⟩
  intro H hA hO hS hok
  have free : ∀ {b : Addr} {o : Obj}, s₁.heap.get? b = some o → (b = a → False) → H b = none := by
    intro b o _ n
    cases q : H b with
    | none => rfl
    | some u => exact (n (hA b u q).1).elim
  have dic : ∀ {b : Addr} {o : Obj} {es : Array DictEntry} {ep : Nat}, s₁.heap.get? b = some o → o.data = .dict es ep → H b = none := by
    intro b o es ep e d
    refine free e ?_
    rintro rfl
    rw [ha] at e
    obtain rfl := Option.some.inj e
    cases d
  have ns2 : ∀ {b : Addr} {m : Str → Option Value}, s₁.heap.Ns b m → (hidT s₁.heap H).Ns b m := by
    rintro b m ⟨o, es, ep, e, d, r⟩
    exact ⟨o, es, ep, hidT_get e (dic e d), d, r⟩
  have kb : K.In (hidT s₁.heap H) := by
    intro b o e
    refine hidT_get (KX b o e) ?_
    cases q : H b with
    | none => rfl
    | some u =>
      obtain ⟨rfl, z⟩ := hA b u q
      rw [z] at e; cases e
  obtain ⟨mc, c1, c2⟩ := hlim
  have hM : Mod K mg (hidT s₁.heap H) := ⟨kb, ns2 hns, ⟨mb, ns2 hb, hbb⟩, ⟨mc, ns2 c1, c2⟩⟩
  have nofr : ∀ b ∈ frs [], H b = none := fun b z => nomatch (show b ∈ ([] : List Addr) from z)
  exact callG (mb := mb) (o := default) (xs := []) (F _ kb (ns2 hns)) hr hbind ⟨rfl, hM, fun b o e => of_hidT e, Nat.le_of_eq (hidT_size _ _), trivial, nofr, hok, .of_eq hg⟩ (hsp H hO hS) hO
/-- the law's row, from its promise -/
theorem walkG {l : PySem.W.OpenLaw} {n k : Nat} {q : Program} {loose : List Str} {XP : (Str → Option Value) → Heap → Prop} {YP : World → Heap → Prop} {d : DefRec} {K : Params → PySem.W.Frag} {sp : PySem.W.Frag → Sp} {x : Str}
    (hn : l.most = some n) (hn2 : n ≤ sizeLine) (hdf : d.params.defaults = []) (hr : Room k callerA) (hY : ∀ (w : World) (h : Heap), YP w h → (K w.params).In h)
    (F : ∀ (w : World) (mg : Str → Option Value) (fa : Addr) (h : Heap), (K w.params).In h → h.Ns mainGlobals mg → mg d.name = some (.ref fa) →
      ∃ fd : FuncData, (∀ (s : Shared) (u : Value), BindsTo s fd ⟨[u], []⟩ [(x, u)]) ∧ ∀ hb0 : Heap, (K w.params).In hb0 → hb0.Ns mainGlobals mg → FnG l.prog w (K w.params) mg hb0 CX0 k fa fd [x] (sp (K w.params)))
    (hsp : ∀ (K : PySem.W.Frag) (H : Hp) (a : Addr) (ns : List Int), ns.length ≤ n → Only H → SqL K H a (ns.map V.int) → sp K [.ref a] H (fun v _ => v = .bl true) E0) :
    PySem.W.WalkO q loose XP YP l.row.toRowW d [] (fun f vs => PySem.call f vs) := by
  refine Att.attach_call hn hdf ?_
  intro w s₀ s₁ mg mb fa o pm cd doc a vs ns G Y ho hd hcd hmg hobj hints hlen hg
  have KX := hY w _ Y
  obtain ⟨fd, hb, hF⟩ := F w mg fa _ KX G.T.g hmg
  exact enterG KX G.T.g G.T.b G.T.builtins G.T.nolimit hg hobj hints (Nat.le_trans hlen hn2) hr hF hb fun H hO hS => hsp _ H a ns hlen hO hS
end DL

namespace DL
open PySem PySem.Spec PyProof.Rows L2

abbrev D := PyData
/-- a key as data -/
def keyD : Key → D
  | .inl i => .int i
  | .inr x => .str x

/-- objects that never change -/
def Imm : HO → Prop
  | .lst _ => False
  | .dK _ => False
  | .dT _ => False
  | .set _ _ => False
  | .ins _ _ _ => False
  | .own _ => False
  | .ext _ => False
  | _ => True

/-! ### data that stays as it is: W, the addresses of the lists (dicts) that nobody changes any more -/
mutual
inductive Fz (K : PySem.W.Frag) (W : Addr → Prop) (H : Hp) : V → D → Prop
  | non : Fz K W H .non .none
  | bl (b : Bool) : Fz K W H (.bl b) (.bool b)
  | int (i : Int) : Fz K W H (.int i) (.int i)
  | str (x : Str) : Fz K W H (.str x) (.str x)
  | lst {a : Addr} {xs : List V} {ds : List D} : W a → H a = some (.lst xs) → FzA K W H xs ds → Fz K W H (.ref a) (.list ds)
  | tup {a : Addr} {xs : List V} {ds : List D} : SqT K H a xs → FzA K W H xs ds → Fz K W H (.ref a) (.tuple ds)
  | dct {a : Addr} {kvs : List (Key × V)} {ds : List D} : W a → H a = some (.dK kvs) → FzA K W H (kvs.map (·.2)) ds → Fz K W H (.ref a) (.dict ((kvs.map fun p => keyD p.1).zip ds))
inductive FzA (K : PySem.W.Frag) (W : Addr → Prop) (H : Hp) : List V → List D → Prop
  | nil : FzA K W H [] []
  | cons {v : V} {vs : List V} {d : D} {ds : List D} : Fz K W H v d → FzA K W H vs ds → FzA K W H (v :: vs) (d :: ds)
end

/-- the world goes on: what is fixed stays -/
structure Wxt (W : Addr → Prop) (H : Hp) (W' : Addr → Prop) (H' : Hp) : Prop where
  w : ∀ a, W a → W' a
  fix : ∀ a o, H a = some o → W a ∨ Imm o → H' a = some o
theorem Wxt.refl (W : Addr → Prop) (H : Hp) : Wxt W H W H := ⟨fun _ h => h, fun _ _ h _ => h⟩
theorem Wxt.trans {W H W1 H1 W2 H2} (a : Wxt W H W1 H1) (b : Wxt W1 H1 W2 H2) : Wxt W H W2 H2 :=
  ⟨fun x h => b.w x (a.w x h), fun x o h k => b.fix x o (a.fix x o h k) (k.elim (fun q => .inl (a.w x q)) .inr)⟩
theorem SqT.xt {K : PySem.W.Frag} {W H W' H'} (e : Wxt W H W' H') {a : Addr} {xs : List V} (h : SqT K H a xs) : SqT K H' a xs := by
  rcases h with (h | ⟨o, h⟩) | h
  · exact .inl (.inl (e.fix _ _ h (.inr trivial)))
  · exact .inl (.inr ⟨o, e.fix _ _ h (.inr trivial)⟩)
  · exact .inr h
mutual
theorem Fz.xt {K : PySem.W.Frag} {W H W' H'} (e : Wxt W H W' H') : ∀ {v : V} {d : D}, Fz K W H v d → Fz K W' H' v d
  | _, _, .non => .non
  | _, _, .bl b => .bl b
  | _, _, .int i => .int i
  | _, _, .str x => .str x
  | _, _, .lst w h r => .lst (e.w _ w) (e.fix _ _ h (.inl w)) (FzA.xt e r)
  | _, _, .tup h r => .tup (SqT.xt e h) (FzA.xt e r)
  | _, _, .dct w h r => .dct (e.w _ w) (e.fix _ _ h (.inl w)) (FzA.xt e r)
theorem FzA.xt {K : PySem.W.Frag} {W H W' H'} (e : Wxt W H W' H') : ∀ {vs : List V} {ds : List D}, FzA K W H vs ds → FzA K W' H' vs ds
  | _, _, .nil => .nil
  | _, _, .cons h r => .cons (Fz.xt e h) (FzA.xt e r)
end
theorem FzA.length {K W H} : ∀ {vs : List V} {ds : List D}, FzA K W H vs ds → vs.length = ds.length
  | _, _, .nil => rfl
  | _, _, .cons _ r => by rw [List.length_cons, List.length_cons, FzA.length r]
theorem FzA.get {K W H} : ∀ {vs : List V} {ds : List D} {i : Nat} {v : V}, FzA K W H vs ds → vs[i]? = some v → ∃ d, ds[i]? = some d ∧ Fz K W H v d
  | _, _, _, _, .nil, e => by simp at e
  | _, _, 0, _, .cons h _, e => by simp at e; subst e; exact ⟨_, rfl, h⟩
  | _, _, i + 1, _, .cons _ r, e => by
    obtain ⟨d, h1, h2⟩ := FzA.get (i := i) r (by simpa using e)
    exact ⟨d, by simpa using h1, h2⟩
theorem FzA.getD {K W H} : ∀ {vs : List V} {ds : List D} {i : Nat} {d : D}, FzA K W H vs ds → ds[i]? = some d → ∃ v, vs[i]? = some v ∧ Fz K W H v d
  | _, _, _, _, .nil, e => by simp at e
  | _, _, 0, _, .cons h _, e => by simp at e; subst e; exact ⟨_, rfl, h⟩
  | _, _, i + 1, _, .cons _ r, e => by
    obtain ⟨d, h1, h2⟩ := FzA.getD (i := i) r (by simpa using e)
    exact ⟨d, by simpa using h1, h2⟩
theorem FzA.append {K W H} : ∀ {vs us : List V} {ds es : List D}, FzA K W H vs ds → FzA K W H us es → FzA K W H (vs ++ us) (ds ++ es)
  | _, _, _, _, .nil, s => s
  | _, _, _, _, .cons h r, s => .cons h (FzA.append r s)
theorem FzA.take {K W H} : ∀ (n : Nat) {vs : List V} {ds : List D}, FzA K W H vs ds → FzA K W H (vs.take n) (ds.take n)
  | 0, _, _, _ => .nil
  | _ + 1, _, _, .nil => .nil
  | n + 1, _, _, .cons h r => .cons h (FzA.take n r)
theorem FzA.drop {K W H} : ∀ (n : Nat) {vs : List V} {ds : List D}, FzA K W H vs ds → FzA K W H (vs.drop n) (ds.drop n)
  | 0, _, _, r => r
  | _ + 1, _, _, .nil => .nil
  | n + 1, _, _, .cons _ r => FzA.drop n r
theorem FzA.set {K W H v d} (h : Fz K W H v d) : ∀ (n : Nat) {vs : List V} {ds : List D}, FzA K W H vs ds → FzA K W H (vs.set n v) (ds.set n d)
  | _, _, _, .nil => .nil
  | 0, _, _, .cons _ r => .cons h r
  | n + 1, _, _, .cons q r => .cons q (FzA.set h n r)
theorem FzA.one {K W H v d} (h : Fz K W H v d) : FzA K W H [v] [d] := .cons h .nil
theorem FzA.reverse {K W H} : ∀ {vs : List V} {ds : List D}, FzA K W H vs ds → FzA K W H vs.reverse ds.reverse
  | _, _, .nil => .nil
  | _, _, .cons h r => by rw [List.reverse_cons, List.reverse_cons]; exact FzA.append (FzA.reverse r) (.one h)
theorem FzA.ints {K W H} : ∀ (ns : List Int), FzA K W H (ns.map V.int) (ns.map PyData.int)
  | [] => .nil
  | n :: r => .cons (.int n) (FzA.ints r)

/-! ### what is there at this moment -/
mutual
inductive Ct (K : PySem.W.Frag) (H : Hp) : V → D → Prop
  | non : Ct K H .non .none
  | bl (b : Bool) : Ct K H (.bl b) (.bool b)
  | int (i : Int) : Ct K H (.int i) (.int i)
  | str (x : Str) : Ct K H (.str x) (.str x)
  | lst {a : Addr} {xs : List V} {ds : List D} : H a = some (.lst xs) → CtA K H xs ds → Ct K H (.ref a) (.list ds)
  | tup {a : Addr} {xs : List V} {ds : List D} : SqT K H a xs → CtA K H xs ds → Ct K H (.ref a) (.tuple ds)
  | dct {a : Addr} {kvs : List (Key × V)} {ds : List D} : H a = some (.dK kvs) → CtA K H (kvs.map (·.2)) ds → Ct K H (.ref a) (.dict ((kvs.map fun p => keyD p.1).zip ds))
inductive CtA (K : PySem.W.Frag) (H : Hp) : List V → List D → Prop
  | nil : CtA K H [] []
  | cons {v : V} {vs : List V} {d : D} {ds : List D} : Ct K H v d → CtA K H vs ds → CtA K H (v :: vs) (d :: ds)
end
mutual
theorem Fz.ct {K W H} : ∀ {v : V} {d : D}, Fz K W H v d → Ct K H v d
  | _, _, .non => .non
  | _, _, .bl b => .bl b
  | _, _, .int i => .int i
  | _, _, .str x => .str x
  | _, _, .lst _ h r => .lst h (FzA.ct r)
  | _, _, .tup h r => .tup h (FzA.ct r)
  | _, _, .dct _ h r => .dct h (FzA.ct r)
theorem FzA.ct {K W H} : ∀ {vs : List V} {ds : List D}, FzA K W H vs ds → CtA K H vs ds
  | _, _, .nil => .nil
  | _, _, .cons h r => .cons (Fz.ct h) (FzA.ct r)
end
theorem CtA.length {K H} : ∀ {vs : List V} {ds : List D}, CtA K H vs ds → vs.length = ds.length
  | _, _, .nil => rfl
  | _, _, .cons _ r => by rw [List.length_cons, List.length_cons, CtA.length r]
theorem CtA.ints {K H} : ∀ {vs : List V} {ns : List Int}, CtA K H vs (ns.map PyData.int) → vs = ns.map V.int
  | _, [], .nil => rfl
  | _, _ :: _, .cons (.int _) r => by rw [CtA.ints r]; rfl
theorem CtA.bools {K H} : ∀ {vs : List V} {ns : List Bool}, CtA K H vs (ns.map PyData.bool) → vs = ns.map V.bl
  | _, [], .nil => rfl
  | _, _ :: _, .cons (.bl _) r => by rw [CtA.bools r]; rfl

/-! ### owned values -/
inductive OwA (K : PySem.W.Frag) (W : Addr → Prop) (H : Hp) : List Addr → List (List D) → Prop
  | nil : OwA K W H [] []
  | cons {b : Addr} {bs : List Addr} {xs : List V} {ds : List D} {dss : List (List D)} : H b = some (.lst xs) → ¬ W b → FzA K W H xs ds → OwA K W H bs dss → OwA K W H (b :: bs) (ds :: dss)
/-- a value: fixed data; a list that is this one's own; one of own lists; a locked list (the script); what slot i holds -/
inductive Vl where
  | fz (d : D) | ow (ds : List D) | ow2 (dss : List (List D)) | lk (ds : List D) | od (ks : List Key) (ds : List D) | tp (ds : List D) | pk (i : Nat)
abbrev Rho := List (Option Vl)
/-- a list that is read, never written -/
def Lkd (K : PySem.W.Frag) (W : Addr → Prop) (H : Hp) (a : Addr) (xs : List V) : Prop :=
  (W a ∧ H a = some (.lst xs)) ∨ (∃ o, H a = some (.frz o (.lst xs))) ∨
    ∃ (o : Obj) (its : Array Value) (n : Nat), K.lookup a = some o ∧ o.cls = .type "list" ∧ o.dict = none ∧ o.data = .seq its n ∧ its.size ≤ sizeLine ∧ Vals xs its.toList
theorem Lkd.sq {K W H a xs} (h : Lkd K W H a xs) : SqL K H a xs := by
  rcases h with ⟨_, h⟩ | h | h
  · exact .inl (.inl h)
  · exact .inl (.inr h)
  · exact .inr h
theorem Lkd.xt {K W H W' H' a xs} (e : Wxt W H W' H') (h : Lkd K W H a xs) : Lkd K W' H' a xs := by
  rcases h with ⟨w, h⟩ | ⟨o, h⟩ | h
  · exact .inl ⟨e.w _ w, e.fix _ _ h (.inl w)⟩
  · exact .inr (.inl ⟨o, e.fix _ _ h (.inr trivial)⟩)
  · exact .inr (.inr h)
/-- a tuple that is known to have no names of its own -/
def Ktp (H : Hp) (a : Addr) (xs : List V) : Prop := ∃ o : Obj, H a = some (.frz o (.tup xs)) ∧ o.cls = .type "tuple" ∧ o.dict = none
theorem Ktp.sq {K H a xs} (h : Ktp H a xs) : SqT K H a xs := let ⟨o, e, _⟩ := h; .inl (.inr ⟨o, e⟩)
theorem Ktp.xt {W H W' H' a xs} (e : Wxt W H W' H') (h : Ktp H a xs) : Ktp H' a xs := let ⟨o, q, r⟩ := h; ⟨o, e.fix _ _ q (.inr trivial), r⟩
inductive RV (K : PySem.W.Frag) (W : Addr → Prop) (H : Hp) : V → Vl → List Addr → Prop
  | fz {v d} : Fz K W H v d → RV K W H v (.fz d) []
  | ow {a xs ds} : H a = some (.lst xs) → ¬ W a → FzA K W H xs ds → RV K W H (.ref a) (.ow ds) [a]
  | ow2 {a bs dss} : H a = some (.lst (bs.map V.ref)) → ¬ W a → OwA K W H bs dss → (a :: bs).Nodup → RV K W H (.ref a) (.ow2 dss) (a :: bs)
  | lk {a xs ds} : Lkd K W H a xs → FzA K W H xs ds → RV K W H (.ref a) (.lk ds) []
  | od {a kvs ds} : H a = some (.dK kvs) → ¬ W a → FzA K W H (kvs.map (·.2)) ds → RV K W H (.ref a) (.od (kvs.map (·.1)) ds) [a]
  | tp {a xs ds} : Ktp H a xs → FzA K W H xs ds → RV K W H (.ref a) (.tp ds) []

/-- one goes on; what fp holds may be changed -/
structure Ev (fp : Addr → Prop) (W : Addr → Prop) (H : Hp) (W' : Addr → Prop) (H' : Hp) : Prop where
  w : ∀ a, W a → W' a
  keep : ∀ a o, H a = some o → (fp a → Imm o) → H' a = some o
  nw : ∀ a o, H a = some o → ¬ fp a → W' a → W a
theorem Ev.refl {fp W H} : Ev fp W H W H := ⟨fun _ h => h, fun _ _ h _ => h, fun _ _ _ _ h => h⟩
theorem Ev.trans {fp fp1 W H W1 H1 W2 H2} (a : Ev fp W H W1 H1) (hs : ∀ x, fp1 x → fp x ∨ H x = none) (b : Ev fp1 W1 H1 W2 H2) : Ev fp W H W2 H2 where
  w := fun x h => b.w x (a.w x h)
  keep := fun x o h k => b.keep x o (a.keep x o h k) fun q => (hs x q).elim k fun z => by rw [h] at z; cases z
  nw := fun x o h k w2 => a.nw x o h k (b.nw x o (a.keep x o h fun z => absurd z k) (fun q => (hs x q).elim k fun z => by rw [h] at z; cases z) w2)
theorem Ev.mono {fp fp1 W H W' H'} (a : Ev fp W H W' H') (hs : ∀ x, fp x → fp1 x ∨ H x = none) : Ev fp1 W H W' H' where
  w := a.w
  keep := fun x o h k => a.keep x o h fun q => (hs x q).elim k fun z => by rw [h] at z; cases z
  nw := fun x o h k => a.nw x o h fun q => (hs x q).elim k fun z => by rw [h] at z; cases z
/-- new objects alone -/
theorem Ev.grow {fp W H H'} (h : ∀ a o, H a = some o → H' a = some o) : Ev fp W H W H' := ⟨fun _ h => h, fun a o e _ => h a o e, fun _ _ _ _ h => h⟩
theorem Ev.xt {fp W H W' H'} (e : Ev fp W H W' H') (hd : ∀ a, fp a → ¬ W a) : Wxt W H W' H' :=
  ⟨e.w, fun a o h k => e.keep a o h fun q => k.elim (fun w => absurd w (hd a q)) id⟩

theorem OwA.ev {K W H W' H' fp} (e : Ev fp W H W' H') (x : Wxt W H W' H') : ∀ {bs dss}, OwA K W H bs dss → (∀ b ∈ bs, ¬ fp b) → OwA K W' H' bs dss
  | _, _, .nil, _ => .nil
  | _, _, .cons h w f r, n => .cons (e.keep _ _ h fun q => absurd q (n _ List.mem_cons_self)) (fun q => w (e.nw _ _ h (n _ List.mem_cons_self) q)) (f.xt x) (OwA.ev e x r fun b hb => n b (List.mem_cons_of_mem _ hb))
theorem RV.ev {K W H W' H' fp v vl l} (e : Ev fp W H W' H') (x : Wxt W H W' H') (r : RV K W H v vl l) (n : ∀ b ∈ l, ¬ fp b) : RV K W' H' v vl l := by
  cases r with
  | fz f => exact .fz (f.xt x)
  | ow h w f => exact .ow (e.keep _ _ h fun q => absurd q (n _ List.mem_cons_self)) (fun q => w (e.nw _ _ h (n _ List.mem_cons_self) q)) (f.xt x)
  | ow2 h w f nd => exact .ow2 (e.keep _ _ h fun q => absurd q (n _ List.mem_cons_self)) (fun q => w (e.nw _ _ h (n _ List.mem_cons_self) q)) (OwA.ev e x f fun b hb => n b (List.mem_cons_of_mem _ hb)) nd
  | lk h f => exact .lk (h.xt x) (f.xt x)
  | tp h f => exact .tp (h.xt x) (f.xt x)
  | od h w f => exact .od (e.keep _ _ h fun q => absurd q (n _ List.mem_cons_self)) (fun q => w (e.nw _ _ h (n _ List.mem_cons_self) q)) (f.xt x)
theorem OwA.own {K W H} : ∀ {bs dss}, OwA K W H bs dss → ∀ b ∈ bs, ¬ W b ∧ ∃ o, H b = some o ∧ ¬ Imm o
  | _, _, .nil, _, hb => nomatch hb
  | _, _, .cons h w _ r, b, hb => by
    rcases List.mem_cons.mp hb with rfl | hb
    · exact ⟨w, _, h, fun z => z⟩
    · exact OwA.own r b hb
theorem RV.own {K W H v vl l} (r : RV K W H v vl l) : ∀ b ∈ l, ¬ W b ∧ ∃ o, H b = some o ∧ ¬ Imm o := by
  cases r with
  | fz f => exact fun _ z => nomatch z
  | lk h f => exact fun _ z => nomatch z
  | tp h f => exact fun _ z => nomatch z
  | ow h w f => intro b hb; obtain rfl := List.mem_singleton.mp hb; exact ⟨w, _, h, fun z => z⟩
  | od h w f => intro b hb; obtain rfl := List.mem_singleton.mp hb; exact ⟨w, _, h, fun z => z⟩
  | ow2 h w f nd =>
    intro b hb
    rcases List.mem_cons.mp hb with rfl | hb
    · exact ⟨w, _, h, fun z => z⟩
    · exact f.own b hb
theorem RV.nodup {K W H v vl l} (r : RV K W H v vl l) : l.Nodup := by
  cases r with
  | fz f => exact List.nodup_nil
  | lk h f => exact List.nodup_nil
  | tp h f => exact List.nodup_nil
  | ow h w f => exact List.nodup_cons.mpr ⟨by simp, List.nodup_nil⟩
  | od h w f => exact List.nodup_cons.mpr ⟨by simp, List.nodup_nil⟩
  | ow2 h w f nd => exact nd
end DL

namespace DL
open PySem PySem.Spec PyProof.Rows L2

abbrev Fp := Nat → List Addr
def InF (φ : Fp) (a : Addr) : Prop := ∃ i, a ∈ φ i
/-- the slots σ as ρ tells them, in the world W, H; φ: what each slot owns -/
structure SS (K : PySem.W.Frag) (W : Addr → Prop) (H : Hp) (σ : L2.St) (ρ : Rho) (φ : Fp) : Prop where
  len : σ.length = ρ.length
  sl : ∀ (i : Nat) (vl : Vl), ρ[i]? = some (some vl) → ∃ v, σ[i]? = some (some v) ∧ RV K W H v vl (φ i)
  em : ∀ i : Nat, (∀ vl, ρ[i]? ≠ some (some vl)) → φ i = []
  dj : ∀ (i j : Nat) (a : Addr), a ∈ φ i → a ∈ φ j → i = j
  wf : ∀ a, W a → ∃ o, H a = some o
section
variable {K : PySem.W.Frag} {W W' : Addr → Prop} {H H' : Hp} {σ : L2.St} {ρ : Rho} {φ : Fp}
theorem SS.own (s : SS K W H σ ρ φ) {a : Addr} (h : InF φ a) : ¬ W a ∧ ∃ o, H a = some o ∧ ¬ Imm o := by
  obtain ⟨i, hi⟩ := h
  by_cases q : ∃ vl, ρ[i]? = some (some vl)
  · obtain ⟨vl, e⟩ := q
    obtain ⟨v, _, r⟩ := s.sl i vl e
    exact r.own a hi
  · rw [s.em i fun vl e => q ⟨vl, e⟩] at hi
    cases hi
theorem SS.notW (s : SS K W H σ ρ φ) : ∀ a, InF φ a → ¬ W a := fun _ h => (s.own h).1
theorem SS.inH (s : SS K W H σ ρ φ) {a : Addr} (h : InF φ a) : H a ≠ none := fun e => by
  obtain ⟨_, o, q, _⟩ := s.own h
  rw [e] at q; cases q
theorem SS.new (s : SS K W H σ ρ φ) {p : Addr} (h : H p = none) : ¬ W p := fun w => by
  obtain ⟨o, e⟩ := s.wf p w
  rw [h] at e; cases e
/-- what others do leaves the slots as they are -/
theorem SS.ev {fp : Addr → Prop} (s : SS K W H σ ρ φ) (e : Ev fp W H W' H') (x : Wxt W H W' H') (n : ∀ a, InF φ a → ¬ fp a) (wf : ∀ a, W' a → ∃ o, H' a = some o) : SS K W' H' σ ρ φ :=
  ⟨s.len, fun i vl q => let ⟨v, h1, h2⟩ := s.sl i vl q; ⟨v, h1, h2.ev e x fun b hb => n b ⟨i, hb⟩⟩, s.em, s.dj, wf⟩
end

/-- a result: a value of its own, or what slot i holds -/
inductive RX (K : PySem.W.Frag) (W : Addr → Prop) (H : Hp) (σ : L2.St) : V → Vl → List Addr → Prop
  | rv {v vl l} : RV K W H v vl l → RX K W H σ v vl l
  | pk {v i} : σ[i]? = some (some v) → RX K W H σ v (.pk i) []
inductive RXs (K : PySem.W.Frag) (W : Addr → Prop) (H : Hp) (σ : L2.St) : List V → List Vl → List Addr → Prop
  | nil : RXs K W H σ [] [] []
  | cons {v vs r rs l ls} : RX K W H σ v r l → RXs K W H σ vs rs ls → (∀ a ∈ l, a ∉ ls) → RXs K W H σ (v :: vs) (r :: rs) (l ++ ls)
section
variable {K : PySem.W.Frag} {W W' : Addr → Prop} {H H' : Hp} {σ : L2.St} {ρ : Rho} {φ : Fp} {v : V} {r : Vl} {l : List Addr} {vs : List V} {rs : List Vl}
theorem RX.ev {fp : Addr → Prop} (e : Ev fp W H W' H') (x : Wxt W H W' H') (h : RX K W H σ v r l) (n : ∀ b ∈ l, ¬ fp b) : RX K W' H' σ v r l := by
  cases h with
  | rv h => exact .rv (h.ev e x n)
  | pk h => exact .pk h
theorem RX.own (h : RX K W H σ v r l) : ∀ b ∈ l, ¬ W b ∧ ∃ o, H b = some o ∧ ¬ Imm o := by
  cases h with
  | rv h => exact h.own
  | pk h => exact fun _ z => nomatch z
theorem RXs.ev {fp : Addr → Prop} (e : Ev fp W H W' H') (x : Wxt W H W' H') (h : RXs K W H σ vs rs l) (n : ∀ b ∈ l, ¬ fp b) : RXs K W' H' σ vs rs l := by
  induction h with
  | nil => exact .nil
  | cons h _ d ih => exact .cons (h.ev e x fun b hb => n b (List.mem_append_left _ hb)) (ih fun b hb => n b (List.mem_append_right _ hb)) d
theorem RXs.own (h : RXs K W H σ vs rs l) : ∀ b ∈ l, ¬ W b ∧ ∃ o, H b = some o ∧ ¬ Imm o := by
  induction h with
  | nil => exact fun _ z => nomatch z
  | cons h _ _ ih => exact fun b hb => (List.mem_append.mp hb).elim (h.own b) (ih b)
theorem RXs.length (h : RXs K W H σ vs rs l) : vs.length = rs.length := by
  induction h with
  | nil => rfl
  | cons _ _ _ ih => rw [List.length_cons, List.length_cons, ih]
theorem RXs.one (h : RX K W H σ v r l) : RXs K W H σ [v] [r] l := by
  have := RXs.cons h (.nil (K := K) (W := W) (H := H) (σ := σ)) (fun _ _ z => nomatch z)
  rwa [List.append_nil] at this

/-- the value told, at this moment -/
def cur0 : Vl → Option D
  | .fz d => some d
  | .ow ds => some (.list ds)
  | .ow2 dss => some (.list (dss.map .list))
  | .od ks ds => some (.dict ((ks.map keyD).zip ds))
  | .tp ds => some (.tuple ds)
  | .lk _ => none
  | .pk _ => none
def at? (ρ : Rho) (i : Nat) : Option Vl := match ρ[i]? with
  | some (some v) => some v
  | _ => none
/-- the slot behind a name -/
def nml (ρ : Rho) : Vl → Option Vl
  | .pk i => at? ρ i
  | v => some v
def cur (ρ : Rho) (v : Vl) : Option D := (nml ρ v).bind cur0
theorem at?_some {i : Nat} {vl : Vl} (h : at? ρ i = some vl) : ρ[i]? = some (some vl) := by
  unfold at? at h
  split at h
  · rename_i e; rw [e, Option.some.inj h]
  · cases h
/-- a name's result is its slot's -/
theorem RX.nml (s : SS K W H σ ρ φ) (h : RX K W H σ v r l) {vl : Vl} (e : DL.nml ρ r = some vl) : ∃ l', RV K W H v vl l' ∧ (l' = l ∨ ∃ i, r = .pk i ∧ l' = φ i) := by
  cases h with
  | rv h =>
    cases h with
    | fz f => cases e; exact ⟨_, .fz f, .inl rfl⟩
    | ow a b c => cases e; exact ⟨_, .ow a b c, .inl rfl⟩
    | ow2 a b c d => cases e; exact ⟨_, .ow2 a b c d, .inl rfl⟩
    | lk a b => cases e; exact ⟨_, .lk a b, .inl rfl⟩
    | tp a b => cases e; exact ⟨_, .tp a b, .inl rfl⟩
    | od a b c => cases e; exact ⟨_, .od a b c, .inl rfl⟩
  | @pk i h =>
    obtain ⟨w, e1, e2⟩ := s.sl i vl (at?_some e)
    rw [h] at e1
    cases e1
    exact ⟨φ i, e2, .inr ⟨i, rfl, rfl⟩⟩
theorem OwA.ct : ∀ {bs : List Addr} {dss : List (List D)}, OwA K W H bs dss → CtA K H (bs.map V.ref) (dss.map .list)
  | _, _, .nil => .nil
  | _, _, .cons h _ f r => .cons (.lst h f.ct) (OwA.ct r)
theorem RV.ct {d : D} (h : RV K W H v r l) (e : cur0 r = some d) : Ct K H v d := by
  cases h with
  | fz f => cases e; exact f.ct
  | ow a b c => cases e; exact .lst a c.ct
  | ow2 a b c nd => cases e; exact .lst a (OwA.ct c)
  | lk a b => cases e
  | tp a b => cases e; exact .tup a.sq b.ct
  | od a b c =>
    simp only [cur0, Option.some.injEq, List.map_map] at e
    subst e
    exact .dct a c.ct
theorem RX.ct (s : SS K W H σ ρ φ) (h : RX K W H σ v r l) {d : D} (e : cur ρ r = some d) : Ct K H v d := by
  unfold cur at e
  cases q : DL.nml ρ r with
  | none => rw [q] at e; cases e
  | some vl =>
    rw [q] at e
    obtain ⟨l', h', _⟩ := h.nml s q
    exact h'.ct e
/-- the value made fixed -/
def frz : Vl → Option D
  | .fz d => some d
  | .ow ds => some (.list ds)
  | .ow2 dss => some (.list (dss.map .list))
  | .od ks ds => some (.dict ((ks.map keyD).zip ds))
  | .tp ds => some (.tuple ds)
  | .lk _ => none
  | .pk _ => none
def Or (W : Addr → Prop) (l : List Addr) : Addr → Prop := fun a => W a ∨ a ∈ l
theorem Wxt.or : Wxt W H (Or W l) H := ⟨fun _ h => .inl h, fun _ _ h _ => h⟩
theorem OwA.frz {W1 : Addr → Prop} (x : ∀ a, W a → W1 a) : ∀ {bs : List Addr} {dss : List (List D)}, OwA K W H bs dss → (∀ b ∈ bs, W1 b) → FzA K W1 H (bs.map V.ref) (dss.map .list)
  | _, _, .nil, _ => .nil
  | _, _, .cons h _ f r, n => .cons (.lst (n _ List.mem_cons_self) h (f.xt ⟨x, fun _ _ q _ => q⟩)) (OwA.frz x r fun b hb => n b (List.mem_cons_of_mem _ hb))
theorem RV.frz {W1 : Addr → Prop} (x : ∀ a, W a → W1 a) (n : ∀ b ∈ l, W1 b) (h : RV K W H v r l) {d : D} (e : DL.frz r = some d) : Fz K W1 H v d := by
  have y : Wxt W H W1 H := ⟨x, fun _ _ q _ => q⟩
  cases h with
  | fz f => cases e; exact f.xt y
  | ow a b c => cases e; exact .lst (n _ List.mem_cons_self) a (c.xt y)
  | ow2 a b c nd => cases e; exact .lst (n _ List.mem_cons_self) a (OwA.frz x c fun b hb => n b (List.mem_cons_of_mem _ hb))
  | lk a b => cases e
  | tp a b => cases e; exact .tup a.sq (b.xt y)
  | od a b c =>
    simp only [DL.frz, Option.some.injEq, List.map_map] at e
    subst e
    exact .dct (n _ List.mem_cons_self) a (c.xt y)
theorem RX.frz {W1 : Addr → Prop} (x : ∀ a, W a → W1 a) (n : ∀ b ∈ l, W1 b) (h : RX K W H σ v r l) {d : D} (e : DL.frz r = some d) : Fz K W1 H v d := by
  cases h with
  | rv h => exact h.frz x n e
  | pk h => cases e
def frzA : List Vl → Option (List D)
  | [] => some []
  | r :: rs => match frz r, frzA rs with
    | some d, some ds => some (d :: ds)
    | _, _ => none
theorem RXs.frz {W1 : Addr → Prop} (x : ∀ a, W a → W1 a) : ∀ {vs : List V} {rs : List Vl} {l : List Addr}, RXs K W H σ vs rs l → (∀ b ∈ l, W1 b) → ∀ {ds : List D}, frzA rs = some ds → FzA K W1 H vs ds
  | _, _, _, .nil, _, _, e => by cases e; exact .nil
  | _, _, _, .cons h r d, n, _, e => by
    unfold frzA at e
    split at e
    · rename_i d' ds' e1 e2
      cases e
      exact .cons (h.frz x (fun b hb => n b (List.mem_append_left _ hb)) e1) (RXs.frz x r (fun b hb => n b (List.mem_append_right _ hb)) e2)
    · cases e
end

/-! ### an expression's function -/
abbrev DE := Rho → Option (Vl × Rho)
structure Out (K : PySem.W.Frag) (W : Addr → Prop) (H : Hp) (fp : Addr → Prop) (σ : L2.St) (ρ' : Rho) (r : Vl) (v : V) (W' : Addr → Prop) (H' : Hp) (φ' : Fp) (l : List Addr) : Prop where
  ev : Ev fp W H W' H'
  ss : SS K W' H' σ ρ' φ'
  rx : RX K W' H' σ v r l
  dj : ∀ a ∈ l, ¬ InF φ' a
  sub : ∀ a, InF φ' a → fp a ∨ H a = none
  subl : ∀ a ∈ l, fp a ∨ H a = none
structure OutA (K : PySem.W.Frag) (W : Addr → Prop) (H : Hp) (fp : Addr → Prop) (σ : L2.St) (ρ' : Rho) (rs : List Vl) (vs : List V) (W' : Addr → Prop) (H' : Hp) (φ' : Fp) (l : List Addr) : Prop where
  ev : Ev fp W H W' H'
  ss : SS K W' H' σ ρ' φ'
  rx : RXs K W' H' σ vs rs l
  dj : ∀ a ∈ l, ¬ InF φ' a
  sub : ∀ a, InF φ' a → fp a ∨ H a = none
  subl : ∀ a ∈ l, fp a ∨ H a = none
def tX (K : PySem.W.Frag) (f : DE) : TE := fun σ H Q => ∃ W ρ φ r ρ', SS K W H σ ρ φ ∧ f ρ = some (r, ρ') ∧ ∀ v W' H' φ' l, Out K W H (InF φ) σ ρ' r v W' H' φ' l → Q v H'
abbrev DA := Rho → Option (List Vl × Rho)
def tXA (K : PySem.W.Frag) (f : DA) : TA := fun σ H Q => ∃ W ρ φ rs ρ', SS K W H σ ρ φ ∧ f ρ = some (rs, ρ') ∧ ∀ vs W' H' φ' l, OutA K W H (InF φ) σ ρ' rs vs W' H' φ' l → Q vs H'
abbrev DT := Rho → Option (Bool × Rho)
structure OutT (K : PySem.W.Frag) (W : Addr → Prop) (H : Hp) (fp : Addr → Prop) (σ : L2.St) (ρ' : Rho) (W' : Addr → Prop) (H' : Hp) (φ' : Fp) : Prop where
  ev : Ev fp W H W' H'
  ss : SS K W' H' σ ρ' φ'
  sub : ∀ a, InF φ' a → fp a ∨ H a = none
def tXT (K : PySem.W.Frag) (f : DT) : TT := fun σ H Q => ∃ W ρ φ b ρ', SS K W H σ ρ φ ∧ f ρ = some (b, ρ') ∧ ∀ W' H' φ', OutT K W H (InF φ) σ ρ' W' H' φ' → Q b H'
abbrev PX (X : Cx) (e : Expr) (f : DE) : Prop := PE X e (tX X.K f)
abbrev PXA (X : Cx) (es : List Expr) (f : DA) : Prop := PA X es (tXA X.K f)
abbrev PXT (X : Cx) (e : Expr) (f : DT) : Prop := PT X e (tXT X.K f)
abbrev PXW (X : Cx) (e : Expr) (f : DT) : Prop := PW X e (tXT X.K f)
theorem PE.mono {X : Cx} {e : Expr} {t t' : TE} (h : PE X e t) (m : ∀ σ H Q, t' σ H Q → t σ H Q) : PE X e t' := ⟨fun pins s σ H Q I q => h.run pins s σ H Q I (m σ H Q q)⟩
theorem PA.mono {X : Cx} {e : List Expr} {t t' : TA} (h : PA X e t) (m : ∀ σ H Q, t' σ H Q → t σ H Q) : PA X e t' := ⟨fun pos pins s σ H Q I q => h.run pos pins s σ H Q I (m σ H Q q)⟩
theorem PT.mono {X : Cx} {e : Expr} {t t' : TT} (h : PT X e t) (m : ∀ σ H Q, t' σ H Q → t σ H Q) : PT X e t' := ⟨fun pins s σ H Q I q => h.run pins s σ H Q I (m σ H Q q)⟩
theorem PW.mono {X : Cx} {e : Expr} {t t' : TT} (h : PW X e t) (m : ∀ σ H Q, t' σ H Q → t σ H Q) : PW X e t' := ⟨fun wh pins s σ H Q I q => h.run wh pins s σ H Q I (m σ H Q q)⟩

section
variable {K : PySem.W.Frag} {W W1 W2 : Addr → Prop} {H H1 H2 : Hp} {fp : Addr → Prop} {σ : L2.St} {ρ ρ1 ρ2 : Rho} {φ φ1 φ2 : Fp} {r r2 : Vl} {v v2 : V} {l l2 : List Addr}
/-- two in a row -/
theorem Ev.then (a : Ev fp W H W1 H1) (sub : ∀ a, InF φ1 a → fp a ∨ H a = none) (b : Ev (InF φ1) W1 H1 W2 H2) : Ev fp W H W2 H2 := a.trans sub b
theorem sub2 (a : Ev fp W H W1 H1) (s1 : ∀ a, InF φ1 a → fp a ∨ H a = none) {p : Addr → Prop} (s2 : ∀ a, p a → InF φ1 a ∨ H1 a = none) (hfp : ∀ a, fp a → H a ≠ none) : ∀ x, p x → fp x ∨ H x = none := fun x h => by
  rcases s2 x h with q | q
  · exact s1 x q
  · cases e : H x with
    | none => exact .inr rfl
    | some o =>
      by_cases f : fp x
      · exact .inl f
      · rw [a.keep x o e fun z => absurd z f] at q; cases q
/-- a temporary stands through what follows -/
theorem RX.stay (rx : RX K W1 H1 σ v r l) (ss : SS K W1 H1 σ ρ1 φ1) (dj : ∀ a ∈ l, ¬ InF φ1 a) (e : Ev (InF φ1) W1 H1 W2 H2) : RX K W2 H2 σ v r l := rx.ev e (e.xt ss.notW) dj
theorem RXs.stay {vs : List V} {rs : List Vl} (rx : RXs K W1 H1 σ vs rs l) (ss : SS K W1 H1 σ ρ1 φ1) (dj : ∀ a ∈ l, ¬ InF φ1 a) (e : Ev (InF φ1) W1 H1 W2 H2) : RXs K W2 H2 σ vs rs l := rx.ev e (e.xt ss.notW) dj
/-- a temporary's objects are none of the slots' that follow -/
theorem dj2 (rx : RX K W1 H1 σ v r l) (dj : ∀ a ∈ l, ¬ InF φ1 a) {p : Addr → Prop} (sub : ∀ a, p a → InF φ1 a ∨ H1 a = none) : ∀ a ∈ l, ¬ p a := fun a h q => by
  rcases sub a q with z | z
  · exact dj a h z
  · obtain ⟨_, o, e, _⟩ := rx.own a h
    rw [z] at e; cases e
theorem dj2s {vs : List V} {rs : List Vl} (rx : RXs K W1 H1 σ vs rs l) (dj : ∀ a ∈ l, ¬ InF φ1 a) {p : Addr → Prop} (sub : ∀ a, p a → InF φ1 a ∨ H1 a = none) : ∀ a ∈ l, ¬ p a := fun a h q => by
  rcases sub a q with z | z
  · exact dj a h z
  · obtain ⟨_, o, e, _⟩ := rx.own a h
    rw [z] at e; cases e
/-- two values -/
theorem Out.two (s : SS K W H σ ρ φ) (o1 : Out K W H (InF φ) σ ρ1 r v W1 H1 φ1 l) (o2 : Out K W1 H1 (InF φ1) σ ρ2 r2 v2 W2 H2 φ2 l2) : OutA K W H (InF φ) σ ρ2 [r, r2] [v, v2] W2 H2 φ2 (l ++ l2) where
  ev := o1.ev.trans o1.sub o2.ev
  ss := o2.ss
  rx := .cons (o1.rx.stay o1.ss o1.dj o2.ev) (.one o2.rx) (dj2 (p := fun a => a ∈ l2) o1.rx o1.dj o2.subl)
  dj := fun a h => (List.mem_append.mp h).elim (dj2 o1.rx o1.dj o2.sub a) (o2.dj a)
  sub := sub2 o1.ev o1.sub o2.sub fun a => s.inH
  subl := fun a h => (List.mem_append.mp h).elim (o1.subl a) (sub2 (p := fun a => a ∈ l2) o1.ev o1.sub o2.subl (fun a => s.inH) a)
end
end DL

namespace DL
open PySem PySem.Spec PyProof.Rows L2

/-! ### scalars, contents with a locked root, items -/
inductive Sc : V → D → Prop
  | non : Sc .non .none
  | bl (b : Bool) : Sc (.bl b) (.bool b)
  | int (i : Int) : Sc (.int i) (.int i)
  | str (x : Str) : Sc (.str x) (.str x)
theorem Sc.fz {K W H v d} (h : Sc v d) : Fz K W H v d := by cases h <;> constructor
inductive CtR (K : PySem.W.Frag) (H : Hp) : V → D → Prop
  | ct {v d} : Ct K H v d → CtR K H v d
  | lk {a xs ds} : SqL K H a xs → CtA K H xs ds → CtR K H (.ref a) (.list ds)
inductive CtRA (K : PySem.W.Frag) (H : Hp) : List V → List D → Prop
  | nil : CtRA K H [] []
  | cons {v vs d ds} : CtR K H v d → CtRA K H vs ds → CtRA K H (v :: vs) (d :: ds)
mutual
theorem Ct.dp {K H} : ∀ {v : V} {d : D}, Ct K H v d → ∀ (h : SeqAt.shaped d = true ∨ PyData.canLay0 d = true), Dp K H v d
  | _, _, .non, _ => .non
  | _, _, .bl b, _ => .bl b
  | _, _, .int i, _ => .int i
  | _, _, .str x, _ => .str x
  | _, _, .lst h r, q => .lst (.of h) (CtA.dp r (by rcases q with q | q; exact PySem.SeqAt.canLay_of_shaped q; exact q))
  | _, _, .tup h r, q => .tup h (CtA.dp r (by rcases q with q | q; exact PySem.SeqAt.canLay_of_shaped q; exact q))
  | _, _, .dct _ _, q => by rcases q with q | q; exact nomatch PySem.SeqAt.canLay_of_shaped q; exact nomatch q
theorem CtA.dp {K H} : ∀ {vs : List V} {ds : List D}, CtA K H vs ds → PyData.canLayAll0 ds = true → DpAll K H vs ds
  | _, _, .nil, _ => .nil
  | _, _, .cons h r, q => by
    simp only [PyData.canLayAll0, Bool.and_eq_true] at q
    exact .cons (Ct.dp h (.inr q.1)) (CtA.dp r q.2)
end
theorem CtR.dp {K H v d} (h : CtR K H v d) (q : SeqAt.shaped d = true) : Dp K H v d := by
  cases h with
  | ct h => exact h.dp (.inl q)
  | lk h r => exact .lst h (r.dp (PySem.SeqAt.canLay_of_shaped q))
def curR0 : Vl → Option D
  | .lk ds => some (.list ds)
  | v => cur0 v
def curR (ρ : Rho) (v : Vl) : Option D := (nml ρ v).bind curR0
def curA (ρ : Rho) : List Vl → Option (List D)
  | [] => some []
  | r :: rs => (curR ρ r).bind fun d => (curA ρ rs).bind fun ds => some (d :: ds)
def curC (ρ : Rho) : List Vl → Option (List D)
  | [] => some []
  | r :: rs => (cur ρ r).bind fun d => (curC ρ rs).bind fun ds => some (d :: ds)
/-- the items of a list (true) or a tuple, all fixed -/
def itm0 : Vl → Option (Bool × List D)
  | .fz (.list ds) => some (true, ds)
  | .fz (.tuple ds) => some (false, ds)
  | .ow ds => some (true, ds)
  | .lk ds => some (true, ds)
  | .tp ds => some (false, ds)
  | _ => none
def itm (ρ : Rho) (v : Vl) : Option (Bool × List D) := (nml ρ v).bind itm0
section
variable {K : PySem.W.Frag} {W W1 W2 : Addr → Prop} {H H1 H2 : Hp} {σ : L2.St} {ρ ρ1 : Rho} {φ φ1 : Fp} {v : V} {r res : Vl} {l l2 : List Addr} {vs : List V} {rs : List Vl}
theorem RV.ctR {d : D} (h : RV K W H v r l) (e : curR0 r = some d) : CtR K H v d := by
  cases h with
  | lk a b => cases e; exact .lk a.sq b.ct
  | fz f => exact .ct (RV.ct (.fz f) e)
  | ow a b c => exact .ct (RV.ct (.ow a b c) e)
  | ow2 a b c n => exact .ct (RV.ct (.ow2 a b c n) e)
  | od a b c => exact .ct (RV.ct (.od a b c) e)
  | tp a b => exact .ct (RV.ct (.tp a b) e)
theorem RX.ctR (s : SS K W H σ ρ φ) (h : RX K W H σ v r l) {d : D} (e : curR ρ r = some d) : CtR K H v d := by
  unfold curR at e
  cases q : DL.nml ρ r with
  | none => rw [q] at e; cases e
  | some vl =>
    rw [q] at e
    obtain ⟨l', h', _⟩ := h.nml s q
    exact h'.ctR e
theorem RXs.ctR (s : SS K W H σ ρ φ) : ∀ {vs : List V} {rs : List Vl} {l : List Addr}, RXs K W H σ vs rs l → ∀ {ds : List D}, curA ρ rs = some ds → CtRA K H vs ds
  | _, _, _, .nil, _, e => by cases e; exact .nil
  | _, _, _, .cons h t _, _, e => by
    unfold curA at e
    obtain ⟨d, e1, e⟩ := Option.bind_eq_some_iff.mp e
    obtain ⟨ds, e2, e⟩ := Option.bind_eq_some_iff.mp e
    cases e
    exact .cons (h.ctR s e1) (RXs.ctR s t e2)
theorem RXs.ct (s : SS K W H σ ρ φ) : ∀ {vs : List V} {rs : List Vl} {l : List Addr}, RXs K W H σ vs rs l → ∀ {ds : List D}, curC ρ rs = some ds → CtA K H vs ds
  | _, _, _, .nil, _, e => by cases e; exact .nil
  | _, _, _, .cons h t _, _, e => by
    unfold curC at e
    obtain ⟨d, e1, e⟩ := Option.bind_eq_some_iff.mp e
    obtain ⟨ds, e2, e⟩ := Option.bind_eq_some_iff.mp e
    cases e
    exact .cons (h.ct s e1) (RXs.ct s t e2)
def noOwn : Vl → Prop
  | .fz _ => True
  | .lk _ => True
  | .tp _ => True
  | _ => False
theorem RV.nil_of (h : RV K W H v r l) (q : noOwn r) : l = [] := by
  cases h <;> first | rfl | exact q.elim
/-- items: the object and its fixed items -/
theorem RV.itm {b : Bool} {ds : List D} (h : RV K W H v r l) (e : itm0 r = some (b, ds)) : ∃ a xs, v = .ref a ∧ (if b then SqL K H a xs else SqT K H a xs) ∧ FzA K W H xs ds := by
  cases h with
  | fz f =>
    cases f with
    | lst w h r => cases e; exact ⟨_, _, rfl, .of h, r⟩
    | tup h r => cases e; exact ⟨_, _, rfl, h, r⟩
    | non => cases e
    | bl => cases e
    | int => cases e
    | str => cases e
    | dct => cases e
  | ow h w f => cases e; exact ⟨_, _, rfl, .of h, f⟩
  | ow2 => cases e
  | lk h f => cases e; exact ⟨_, _, rfl, h.sq, f⟩
  | tp h f => cases e; exact ⟨_, _, rfl, h.sq, f⟩
  | od => cases e
theorem RX.itm (s : SS K W H σ ρ φ) (h : RX K W H σ v r l) {b : Bool} {ds : List D} (e : DL.itm ρ r = some (b, ds)) : ∃ a xs, v = .ref a ∧ (if b then SqL K H a xs else SqT K H a xs) ∧ FzA K W H xs ds := by
  unfold DL.itm at e
  cases q : DL.nml ρ r with
  | none => rw [q] at e; cases e
  | some vl =>
    rw [q] at e
    obtain ⟨l', h', _⟩ := h.nml s q
    exact h'.itm e
/-- behind the operands: the operation's own step -/
theorem OutA.op (s : SS K W H σ ρ φ) (o : OutA K W H (InF φ) σ ρ1 rs vs W1 H1 φ1 l) (ev : Ev (fun a => a ∈ l) W1 H1 W2 H2) (wf : ∀ a, W2 a → ∃ o, H2 a = some o) (rv : RV K W2 H2 v res l2) (sub : ∀ a ∈ l2, a ∈ l ∨ H1 a = none) :
    Out K W H (InF φ) σ ρ1 res v W2 H2 φ1 l2 where
  ev := o.ev.trans o.subl ev
  ss := o.ss.ev ev (ev.xt fun a h => (o.rx.own a h).1) (fun a h q => o.dj a q h) wf
  rx := .rv rv
  dj := fun a h q => (sub a h).elim (fun z => o.dj a z q) fun z => o.ss.inH q z
  sub := o.sub
  subl := fun a h => (sub a h).elim (o.subl a) fun z => by
    cases e : H a with
    | none => exact .inr rfl
    | some ob =>
      by_cases f : InF φ a
      · exact .inl f
      · rw [o.ev.keep a ob e fun z => absurd z f] at z; cases z
end

/-! ### operations by values -/
def VOp (K : PySem.W.Frag) (r : List V → Hp → VK → Prop) (F : Rho → List Vl → Option Vl) : Prop :=
  ∀ W H σ ρ φ vs rs l res Q, SS K W H σ ρ φ → RXs K W H σ vs rs l → (∀ a ∈ l, ¬ InF φ a) → F ρ rs = some res →
    (∀ v W' H' l', Ev (fun a => a ∈ l) W H W' H' → (∀ a, W' a → ∃ o, H' a = some o) → RV K W' H' v res l' → (∀ a ∈ l', a ∈ l ∨ H a = none) → Q v H') → r vs H Q
/-- two operands as a list -/
def r2L (r : R2) : List V → Hp → VK → Prop := fun vs H Q => ∃ x y, vs = [x, y] ∧ r x y H Q
def r1L (r : V → Hp → VK → Prop) : List V → Hp → VK → Prop := fun vs H Q => ∃ x, vs = [x] ∧ r x H Q
def ctF (F : List D → Option D) : Rho → List Vl → Option Vl := fun ρ rs => (curA ρ rs).bind fun ds => (F ds).bind fun z => some (.fz z)
theorem vop_ct {K r F} (h : ∀ H vs ds z Q, CtRA K H vs ds → F ds = some z → (∀ v, Sc v z → Q v H) → r vs H Q) : VOp K r (ctF F) := by
  intro W H σ ρ φ vs rs l res Q s rx dj e k
  unfold ctF at e
  obtain ⟨ds, e1, e⟩ := Option.bind_eq_some_iff.mp e
  obtain ⟨z, e2, e⟩ := Option.bind_eq_some_iff.mp e
  cases e
  exact h H vs ds z Q (rx.ctR s e1) e2 fun v hv => k v W H [] (Ev.refl ..) s.wf (.fz hv.fz) fun a h => nomatch h
/-- a new list, tuple of fixed items -/
theorem new_list {K W H} {Q : VK} {xs ds} {fp : Addr → Prop} (f : FzA K W H xs ds) (wf : ∀ a, W a → ∃ o, H a = some o) (k : ∀ v W' H' l', Ev fp W H W' H' → (∀ a, W' a → ∃ o, H' a = some o) → RV K W' H' v (.ow ds) l' → (∀ a ∈ l', fp a ∨ H a = none) → Q v H') :
    ∀ p, H p = none → Q (.ref p) (upd H p (.lst xs)) := fun p np => by
  have up : ∀ a o, H a = some o → upd H p (.lst xs) a = some o := fun a o e => by rw [upd_ne (ne_of_none e np)]; exact e
  refine k (.ref p) W _ [p] (Ev.grow up) (fun a w => ?_) (.ow upd_same (fun w => ?_) (f.xt ⟨fun _ h => h, fun a o e _ => up a o e⟩)) fun a h => ?_
  · obtain ⟨o, e⟩ := wf a w; exact ⟨o, up a o e⟩
  · obtain ⟨o, e⟩ := wf p w; rw [np] at e; cases e
  · obtain rfl := List.mem_singleton.mp h; exact .inr np
theorem new_tuple {K W H} {Q : VK} {xs ds} {fp : Addr → Prop} (f : FzA K W H xs ds) (wf : ∀ a, W a → ∃ o, H a = some o) (k : ∀ v W' H' l', Ev fp W H W' H' → (∀ a, W' a → ∃ o, H' a = some o) → RV K W' H' v (.fz (.tuple ds)) l' → (∀ a ∈ l', fp a ∨ H a = none) → Q v H') :
    ∀ p, H p = none → Q (.ref p) (upd H p (.tup xs)) := fun p np => by
  have up : ∀ a o, H a = some o → upd H p (.tup xs) a = some o := fun a o e => by rw [upd_ne (ne_of_none e np)]; exact e
  refine k (.ref p) W _ [] (Ev.grow up) (fun a w => ?_) (.fz (.tup (.of upd_same) (f.xt ⟨fun _ h => h, fun a o e _ => up a o e⟩))) fun a h => nomatch h
  obtain ⟨o, e⟩ := wf a w; exact ⟨o, up a o e⟩

/-! ### expressions -/
def nmE (i : Nat) : DE := fun ρ => match ρ[i]? with
  | some (some (.fz d)) => some (.fz d, ρ)
  | some (some (.lk d)) => some (.lk d, ρ)
  | some (some (.tp d)) => some (.tp d, ρ)
  | some (some _) => some (.pk i, ρ)
  | _ => none
def cE (d : D) : DE := fun ρ => some (.fz d, ρ)
def nilA : DA := fun ρ => some ([], ρ)
def consA (f : DE) (fs : DA) : DA := fun ρ => (f ρ).bind fun p => (fs p.2).bind fun q => some (p.1 :: q.1, q.2)
def opE (F : Rho → List Vl → Option Vl) (fs : DA) : DE := fun ρ => (fs ρ).bind fun p => (F p.2 p.1).bind fun z => some (z, p.2)
def bT (f : DE) : DT := fun ρ => (f ρ).bind fun p => match p.1 with
  | .fz (.bool b) => some (b, p.2)
  | _ => none
def tB (f : DT) : DE := fun ρ => (f ρ).bind fun p => some (.fz (.bool p.1), p.2)
def andT (f g : DT) : DT := fun ρ => (f ρ).bind fun p => if p.1 = true then g p.2 else some (false, p.2)
def orT (f g : DT) : DT := fun ρ => (f ρ).bind fun p => if p.1 = true then some (true, p.2) else g p.2
def notT (f : DT) : DT := fun ρ => (f ρ).bind fun p => some (!p.1, p.2)
def ifE (c : DT) (f g : DE) : DE := fun ρ => (c ρ).bind fun p => if p.1 = true then f p.2 else g p.2
section
variable {K : PySem.W.Frag} {W W1 W2 : Addr → Prop} {H H1 H2 : Hp} {σ : L2.St} {ρ ρ1 ρ2 : Rho} {φ φ1 φ2 : Fp}
theorem Out.same (s : SS K W H σ ρ φ) {v r l} (rx : RX K W H σ v r l) (dj : ∀ a ∈ l, ¬ InF φ a) (hl : l = []) : Out K W H (InF φ) σ ρ r v W H φ l :=
  ⟨Ev.refl .., s, rx, dj, fun _ h => .inl h, fun a h => by rw [hl] at h; cases h⟩
theorem Out.then (s : SS K W H σ ρ φ) {r v l} (o1 : OutT K W H (InF φ) σ ρ1 W1 H1 φ1) (o2 : Out K W1 H1 (InF φ1) σ ρ2 r v W2 H2 φ2 l) : Out K W H (InF φ) σ ρ2 r v W2 H2 φ2 l :=
  ⟨o1.ev.trans o1.sub o2.ev, o2.ss, o2.rx, o2.dj, sub2 o1.ev o1.sub o2.sub fun a => s.inH, sub2 (p := fun a => a ∈ l) o1.ev o1.sub o2.subl fun a => s.inH⟩
theorem OutT.then (s : SS K W H σ ρ φ) (o1 : OutT K W H (InF φ) σ ρ1 W1 H1 φ1) (o2 : OutT K W1 H1 (InF φ1) σ ρ2 W2 H2 φ2) : OutT K W H (InF φ) σ ρ2 W2 H2 φ2 :=
  ⟨o1.ev.trans o1.sub o2.ev, o2.ss, sub2 o1.ev o1.sub o2.sub fun a => s.inH⟩
theorem Out.t {r v l fp} (o : Out K W H fp σ ρ1 r v W1 H1 φ1 l) : OutT K W H fp σ ρ1 W1 H1 φ1 := ⟨o.ev, o.ss, o.sub⟩
theorem OutT.refl (s : SS K W H σ ρ φ) : OutT K W H (InF φ) σ ρ W H φ := ⟨Ev.refl .., s, fun _ h => .inl h⟩
end
section
variable {X : Cx} {a b c e : Expr} {es : List Expr} {f g : DE} {fs : DA} {c1 c2 : DT} {pos : Pos} {rest : List Expr}
theorem px_name (i : Nat) {x : Str} (hN : X.N[i]? = some x := by rfl) (hv : Vis X.env.scope x := by first | exact Or.inl rfl | exact Or.inr (Or.inl rfl) | exact Or.inr (Or.inr rfl)) (hd : (x == ("__debug__" : Str)) = false := by decide)
    (hcd : (x == ("__classdict__" : Str)) = false := by decide) : PX X (.Name x pos) (nmE i) := by
  refine PE.mono (pe_var hN hv hd hcd) ?_
  rintro σ H Q ⟨W, ρ, φ, r, ρ', s, hf, k⟩
  unfold nmE at hf
  split at hf
  · rename_i d e
    cases hf
    obtain ⟨v, e1, rv⟩ := s.sl i _ e
    have z : φ i = [] := rv.nil_of (by trivial)
    rw [z] at rv
    exact ⟨v, e1, k v W H φ [] (.same s (.rv rv) (fun a h => nomatch h) rfl)⟩
  · rename_i d e
    cases hf
    obtain ⟨v, e1, rv⟩ := s.sl i _ e
    have z : φ i = [] := rv.nil_of (by trivial)
    rw [z] at rv
    exact ⟨v, e1, k v W H φ [] (.same s (.rv rv) (fun a h => nomatch h) rfl)⟩
  · rename_i d e
    cases hf
    obtain ⟨v, e1, rv⟩ := s.sl i _ e
    have z : φ i = [] := rv.nil_of (by trivial)
    rw [z] at rv
    exact ⟨v, e1, k v W H φ [] (.same s (.rv rv) (fun a h => nomatch h) rfl)⟩
  · rename_i vl _ _ _ e
    cases hf
    obtain ⟨v, e1, rv⟩ := s.sl i _ e
    exact ⟨v, e1, k v W H φ [] (.same s (.pk e1) (fun a h => nomatch h) rfl)⟩
  · cases hf
theorem px_const {t : TE} {v : V} {d : D} (h : PE X e (tC v)) (sc : Sc v d) : PX X e (cE d) := by
  refine PE.mono h ?_
  rintro σ H Q ⟨W, ρ, φ, r, ρ', s, hf, k⟩
  cases hf
  exact k v W H φ [] (.same s (.rv (.fz sc.fz)) (fun a h => nomatch h) rfl)
theorem px_int {i j pos} : PX X (.Constant (.int i) j pos) (cE (.int i)) := px_const (t := tC (.int i)) pe_int (.int i)
theorem px_bl {i j pos} : PX X (.Constant (.bool i) j pos) (cE (.bool i)) := px_const (t := tC (.bl i)) pe_bl (.bl i)
theorem px_str {i j pos} : PX X (.Constant (.str i) j pos) (cE (.str i)) := px_const (t := tC (.str i)) pe_str (.str i)
theorem px_non {j pos} : PX X (.Constant .none j pos) (cE .none) := px_const (t := tC .non) pe_non .non
/-- a module's constant: an int, a text -/
theorem px_glob {x : Str} {v : V} {d : D} {u : Value} (hg : Gl X x) (hm : X.mg x = some u) (r : RelV v u) (sc : Sc v d) (hd : (x == ("__debug__" : Str)) = false := by decide) : PX X (.Name x pos) (cE d) := px_const (t := tC v) (pe_glob hg hm r hd) sc
theorem pxa_nil : PXA X [] nilA := by
  refine PA.mono pa_nil ?_
  rintro σ H Q ⟨W, ρ, φ, r, ρ', s, hf, k⟩
  cases hf
  exact k [] W H φ [] ⟨Ev.refl .., s, .nil, (fun a h => nomatch h), fun _ h => .inl h, (fun a h => nomatch h)⟩
theorem pxa_cons (ha : PX X e f) (hr : PXA X es fs) (hs : starEach (e :: es) X.env = (false, eval e X.env) :: starEach es X.env := by rfl) : PXA X (e :: es) (consA f fs) := by
  refine PA.mono (pa_cons ha hr hs) ?_
  rintro σ H Q ⟨W, ρ, φ, r, ρ', s, hf, k⟩
  unfold consA at hf
  obtain ⟨⟨x, ρ1⟩, e1, hf⟩ := Option.bind_eq_some_iff.mp hf
  obtain ⟨⟨xs, ρ2⟩, e2, hf⟩ := Option.bind_eq_some_iff.mp hf
  cases hf
  refine ⟨W, ρ, φ, x, ρ1, s, e1, fun v W1 H1 φ1 l o1 => ?_⟩
  refine ⟨W1, ρ1, φ1, xs, _, o1.ss, e2, fun vs W2 H2 φ2 ls o2 => ?_⟩
  refine k (v :: vs) W2 H2 φ2 (l ++ ls) ⟨o1.ev.trans o1.sub o2.ev, o2.ss, .cons (o1.rx.stay o1.ss o1.dj o2.ev) o2.rx (dj2 (p := fun a => a ∈ ls) o1.rx o1.dj o2.subl), fun a h => ?_, sub2 o1.ev o1.sub o2.sub fun a => s.inH, fun a h => ?_⟩
  · exact (List.mem_append.mp h).elim (dj2 o1.rx o1.dj o2.sub a) (o2.dj a)
  · exact (List.mem_append.mp h).elim (o1.subl a) (sub2 (p := fun a => a ∈ ls) o1.ev o1.sub o2.subl (fun a => s.inH) a)
/-- a built-in function's call -/
theorem px_callB {id : String} {r : List V → Hp → VK → Prop} {F : Rho → List Vl → Option Vl} {x : Str} {p : Pos} (hc : CallR X (.builtin id) r) (vo : VOp X.K r F) (hg : Gl X x) (hm : X.mg x = none) (hv : bootBuiltins x = some (.builtin id)) (ha : PXA X (e :: es) fs)
    (hn : x ≠ "__name__" := by decide) (hdb : (x == ("__debug__" : Str)) = false := by decide) (he : starEach (e :: es) X.env = (false, eval e X.env) :: starEach es X.env := by rfl) (hpl : (backTo pos (starEach es X.env)).any (·.1) = false := by rfl) :
    PX X (.Call (.Name x p) (e :: es) [] pos) (opE F fs) := by
  refine PE.mono (pe_callB hc hg hm hv ha hn hdb he hpl) ?_
  rintro σ H Q ⟨W, ρ, φ, r, ρ', s, hf, k⟩
  unfold opE at hf
  obtain ⟨⟨rs, ρ1⟩, e1, hf⟩ := Option.bind_eq_some_iff.mp hf
  obtain ⟨z, e2, hf⟩ := Option.bind_eq_some_iff.mp hf
  cases hf
  refine ⟨W, ρ, φ, rs, ρ1, s, e1, fun vs W1 H1 φ1 l o => ?_⟩
  exact vo W1 H1 σ ρ1 φ1 vs rs l _ Q o.ss o.rx o.dj e2 fun v W2 H2 l2 ev wf rv sub => k v W2 H2 φ1 l2 (o.op s ev wf rv sub)
theorem px_callTy {id : String} {r : List V → Hp → VK → Prop} {F : Rho → List Vl → Option Vl} {x : Str} {p : Pos} (hc : CallR X (.type id) r) (vo : VOp X.K r F) (hg : Gl X x) (hm : X.mg x = none) (hv : bootBuiltins x = some (.type id)) (ha : PXA X (e :: es) fs)
    (hn : x ≠ "__name__" := by decide) (hdb : (x == ("__debug__" : Str)) = false := by decide) (he : starEach (e :: es) X.env = (false, eval e X.env) :: starEach es X.env := by rfl) (hpl : (backTo pos (starEach es X.env)).any (·.1) = false := by rfl) :
    PX X (.Call (.Name x p) (e :: es) [] pos) (opE F fs) := by
  refine PE.mono (pe_callTy hc hg hm hv ha hn hdb he hpl) ?_
  rintro σ H Q ⟨W, ρ, φ, r, ρ', s, hf, k⟩
  unfold opE at hf
  obtain ⟨⟨rs, ρ1⟩, e1, hf⟩ := Option.bind_eq_some_iff.mp hf
  obtain ⟨z, e2, hf⟩ := Option.bind_eq_some_iff.mp hf
  cases hf
  refine ⟨W, ρ, φ, rs, ρ1, s, e1, fun vs W1 H1 φ1 l o => ?_⟩
  exact vo W1 H1 σ ρ1 φ1 vs rs l _ Q o.ss o.rx o.dj e2 fun v W2 H2 l2 ev wf rv sub => k v W2 H2 φ1 l2 (o.op s ev wf rv sub)
/-- two operands -/
theorem tX_two {K : PySem.W.Frag} {F : Rho → List Vl → Option Vl} {r : R2} (vo : VOp K (r2L r) F) {σ : L2.St} {H : Hp} {Q : VK} (h : tX K (opE F (consA f (consA g nilA))) σ H Q) : tX K f σ H fun x H1 => tX K g σ H1 fun y H2 => r x y H2 Q := by
  obtain ⟨W, ρ, φ, r, ρ', s, hf, k⟩ := h
  unfold opE consA nilA at hf
  obtain ⟨⟨rs, ρ2⟩, q1, hf⟩ := Option.bind_eq_some_iff.mp hf
  obtain ⟨z, e3, hf⟩ := Option.bind_eq_some_iff.mp hf
  cases hf
  obtain ⟨⟨x, ρ1⟩, e1, hf⟩ := Option.bind_eq_some_iff.mp q1
  obtain ⟨⟨xs, ρ3⟩, q2, hf⟩ := Option.bind_eq_some_iff.mp hf
  cases hf
  obtain ⟨⟨y, ρ4⟩, e2, hf⟩ := Option.bind_eq_some_iff.mp q2
  cases hf
  refine ⟨W, ρ, φ, x, ρ1, s, e1, fun v W1 H1 φ1 l o1 => ?_⟩
  refine ⟨W1, ρ1, φ1, y, _, o1.ss, e2, fun v2 W2 H2 φ2 l2 o2 => ?_⟩
  have o := Out.two s o1 o2
  obtain ⟨x', y', q, q'⟩ := vo W2 H2 σ _ φ2 [v, v2] [x, y] _ _ Q o.ss o.rx o.dj e3 fun v W2 H2 l2 ev wf rv sub => k v W2 H2 _ l2 (o.op s ev wf rv sub)
  cases q
  exact q'
theorem px_op {op : Operator} {r : R2} {F : Rho → List Vl → Option Vl} (ho : OpR X (binaryOp op) r) (vo : VOp X.K (r2L r) F) (ha : PX X a f) (hb : PX X b g) : PX X (.BinOp a op b pos) (opE F (consA f (consA g nilA))) :=
  PE.mono (pe_op ho ha hb) fun _ _ _ h => tX_two vo h
theorem px_cmp {op : CmpOp} {r : R2} {F : Rho → List Vl → Option Vl} (ho : OpR X (compareOp op) r) (vo : VOp X.K (r2L r) F) (ha : PX X a f) (hb : PX X b g) (hm : behindInMarks op b = false := by first | rfl | exact nomark _) : PX X (.Compare a [op] [b] pos) (opE F (consA f (consA g nilA))) :=
  PE.mono (pe_cmpR ho ha hb hm) fun _ _ _ h => tX_two vo h
theorem px_ix {r : R2} {F : Rho → List Vl → Option Vl} (ho : IxR X r) (vo : VOp X.K (r2L r) F) (ha : PX X a f) (hb : PX X b g) (hs : PlainIx b := by intro _ _; rfl) : PX X (.Subscript a b pos) (opE F (consA f (consA g nilA))) :=
  PE.mono (pe_ix ho ha hb hs) fun _ _ _ h => tX_two vo h
theorem px_un {op : UnaryOp} {r : V → Hp → VK → Prop} {F : Rho → List Vl → Option Vl} (ho : UnR X (unaryOp op) r) (vo : VOp X.K (r1L r) F) (ha : PX X a f) : PX X (.UnaryOp op a pos) (opE F (consA f nilA)) := by
  refine PE.mono (pe_un ho ha) ?_
  rintro σ H Q ⟨W, ρ, φ, r, ρ', s, hf, k⟩
  unfold opE consA nilA at hf
  obtain ⟨⟨rs, ρ2⟩, q1, hf⟩ := Option.bind_eq_some_iff.mp hf
  obtain ⟨z, e3, hf⟩ := Option.bind_eq_some_iff.mp hf
  cases hf
  obtain ⟨⟨x, ρ1⟩, e1, hf⟩ := Option.bind_eq_some_iff.mp q1
  cases hf
  refine ⟨W, ρ, φ, x, _, s, e1, fun v W1 H1 φ1 l o1 => ?_⟩
  have o : OutA X.K W H (InF φ) σ _ [x] [v] W1 H1 φ1 l := ⟨o1.ev, o1.ss, .one o1.rx, o1.dj, o1.sub, o1.subl⟩
  obtain ⟨x', q, q'⟩ := vo W1 H1 σ _ φ1 [v] [x] _ _ Q o.ss o.rx o.dj e3 fun v W2 H2 l2 ev wf rv sub => k v W2 H2 _ l2 (o.op s ev wf rv sub)
  cases q
  exact q'
/-! tests -/
theorem RX.bool {K : PySem.W.Frag} {W : Addr → Prop} {H : Hp} {σ : L2.St} {v : V} {b : Bool} {l : List Addr} (h : RX K W H σ v (.fz (.bool b)) l) : v = .bl b := by
  cases h with
  | rv h => cases h with
    | fz h => cases h; rfl
theorem bT_inv {f : DE} {ρ ρ' : Rho} {b : Bool} (h : bT f ρ = some (b, ρ')) : f ρ = some (.fz (.bool b), ρ') := by
  unfold bT at h
  obtain ⟨⟨x, ρ1⟩, e1, h⟩ := Option.bind_eq_some_iff.mp h
  split at h
  · rename_i b' e; cases h; rw [e1]; cases e; rfl
  · cases h
theorem tX_bT {K : PySem.W.Frag} {σ : L2.St} {H : Hp} {Q : Bool → Hp → Prop} (h : tXT K (bT f) σ H Q) : tX K f σ H fun x H1 => ∃ c, x = .bl c ∧ Q c H1 := by
  obtain ⟨W, ρ, φ, r, ρ', s, hf, k⟩ := h
  refine ⟨W, ρ, φ, _, ρ', s, bT_inv hf, fun v W1 H1 φ1 l o => ⟨r, o.rx.bool, k W1 H1 φ1 o.t⟩⟩
theorem pxt_val (h : PX X e f) (he : ∀ whole, isTrue e X.env whole = (do let v ← whole; standAt e.pos; holding [v] (truthy v)) := by intro _; rfl) : PXT X e (bT f) := PT.mono (pt_val h he) fun _ _ _ h => tX_bT h
theorem pxt_cmp {op : CmpOp} {r : R2} {F : Rho → List Vl → Option Vl} (ho : OpR X (compareOp op) r) (vo : VOp X.K (r2L r) F) (ha : PX X a f) (hb : PX X b g) (hm : behindInMarks op b = false := by first | rfl | exact nomark _) : PXT X (.Compare a [op] [b] pos) (bT (opE F (consA f (consA g nilA)))) :=
  PT.mono (pt_cmpR ho ha hb hm) fun _ _ _ h => tX_two vo (tX_bT h)
theorem pxt_not (h : PXT X a c1) : PXT X (.UnaryOp .Not a pos) (notT c1) := by
  refine PT.mono (pt_not h) ?_
  rintro σ H Q ⟨W, ρ, φ, b, ρ', s, hf, k⟩
  unfold notT at hf
  obtain ⟨⟨x, ρ1⟩, e1, hf⟩ := Option.bind_eq_some_iff.mp hf
  cases hf
  exact ⟨W, ρ, φ, x, _, s, e1, fun W1 H1 φ1 o => k W1 H1 φ1 o⟩
theorem pxw_and1 (ha : PXT X a c1) : PXW X (.BoolOp .And [a] pos) c1 := pw_and1 ha
theorem pxw_or1 (ha : PXT X a c1) : PXW X (.BoolOp .Or [a] pos) c1 := pw_or1 ha
theorem pxw_and (ha : PXT X a c1) (hb : PXW X (.BoolOp .And (b :: rest) pos) c2) : PXW X (.BoolOp .And (a :: b :: rest) pos) (andT c1 c2) := by
  refine PW.mono (pw_and ha hb) ?_
  rintro σ H Q ⟨W, ρ, φ, b, ρ', s, hf, k⟩
  unfold andT at hf
  obtain ⟨⟨x, ρ1⟩, e1, hf⟩ := Option.bind_eq_some_iff.mp hf
  refine ⟨W, ρ, φ, x, ρ1, s, e1, fun W1 H1 φ1 o => ?_⟩
  cases x with
  | true =>
    rw [if_pos rfl]
    simp only [if_true] at hf
    exact ⟨W1, ρ1, φ1, b, ρ', o.ss, hf, fun W2 H2 φ2 o2 => k W2 H2 φ2 (o.then s o2)⟩
  | false =>
    rw [if_neg Bool.false_ne_true]
    simp only [Bool.false_eq_true, if_false, Option.some.injEq, Prod.mk.injEq] at hf
    obtain ⟨rfl, rfl⟩ := hf
    exact k W1 H1 φ1 o
theorem pxw_or (ha : PXT X a c1) (hb : PXW X (.BoolOp .Or (b :: rest) pos) c2) : PXW X (.BoolOp .Or (a :: b :: rest) pos) (orT c1 c2) := by
  refine PW.mono (pw_or ha hb) ?_
  rintro σ H Q ⟨W, ρ, φ, b, ρ', s, hf, k⟩
  unfold orT at hf
  obtain ⟨⟨x, ρ1⟩, e1, hf⟩ := Option.bind_eq_some_iff.mp hf
  refine ⟨W, ρ, φ, x, ρ1, s, e1, fun W1 H1 φ1 o => ?_⟩
  cases x with
  | false =>
    rw [if_neg Bool.false_ne_true]
    simp only [Bool.false_eq_true, if_false] at hf
    exact ⟨W1, ρ1, φ1, b, ρ', o.ss, hf, fun W2 H2 φ2 o2 => k W2 H2 φ2 (o.then s o2)⟩
  | true =>
    rw [if_pos rfl]
    simp only [if_true, Option.some.injEq, Prod.mk.injEq] at hf
    obtain ⟨rfl, rfl⟩ := hf
    exact k W1 H1 φ1 o
theorem PXW.t (h : PXW X e c1) : PXT X e c1 := PW.pt h
/-! the same as values -/
theorem tB_inv {f : DT} {ρ ρ' : Rho} {r : Vl} (h : tB f ρ = some (r, ρ')) : ∃ b, f ρ = some (b, ρ') ∧ r = .fz (.bool b) := by
  unfold tB at h
  obtain ⟨⟨x, ρ1⟩, e1, h⟩ := Option.bind_eq_some_iff.mp h
  cases h
  exact ⟨x, e1, rfl⟩
theorem px_one {op} (h : PX X a f) : PX X (.BoolOp op [a] pos) f := pe_one h
theorem px_and (ha : PX X a f) (hb : PX X (.BoolOp .And (b :: rest) pos) (tB c2)) : PX X (.BoolOp .And (a :: b :: rest) pos) (tB (andT (bT f) c2)) := by
  refine PE.mono (pe_and ha hb) ?_
  rintro σ H Q ⟨W, ρ, φ, r, ρ', s, hf, k⟩
  obtain ⟨b, hg, rfl⟩ := tB_inv hf
  unfold andT at hg
  obtain ⟨⟨x, ρ1⟩, e1, hg⟩ := Option.bind_eq_some_iff.mp hg
  refine tX_bT ⟨W, ρ, φ, x, ρ1, s, e1, fun W1 H1 φ1 o => ?_⟩
  cases x with
  | true =>
    rw [if_pos rfl]
    simp only [if_true] at hg
    refine ⟨W1, ρ1, φ1, .fz (.bool b), ρ', o.ss, by unfold tB; rw [hg]; rfl, fun v W2 H2 φ2 l o2 => k v W2 H2 φ2 l (.then s o o2)⟩
  | false =>
    rw [if_neg Bool.false_ne_true]
    simp only [Bool.false_eq_true, if_false, Option.some.injEq, Prod.mk.injEq] at hg
    obtain ⟨rfl, rfl⟩ := hg
    exact k (.bl false) W1 H1 φ1 [] (.then s o (.same o.ss (.rv (.fz (.bl _))) (fun a h => nomatch h) rfl))
theorem px_or (ha : PX X a f) (hb : PX X (.BoolOp .Or (b :: rest) pos) (tB c2)) : PX X (.BoolOp .Or (a :: b :: rest) pos) (tB (orT (bT f) c2)) := by
  refine PE.mono (pe_or ha hb) ?_
  rintro σ H Q ⟨W, ρ, φ, r, ρ', s, hf, k⟩
  obtain ⟨b, hg, rfl⟩ := tB_inv hf
  unfold orT at hg
  obtain ⟨⟨x, ρ1⟩, e1, hg⟩ := Option.bind_eq_some_iff.mp hg
  refine tX_bT ⟨W, ρ, φ, x, ρ1, s, e1, fun W1 H1 φ1 o => ?_⟩
  cases x with
  | false =>
    rw [if_neg Bool.false_ne_true]
    simp only [Bool.false_eq_true, if_false] at hg
    refine ⟨W1, ρ1, φ1, .fz (.bool b), ρ', o.ss, by unfold tB; rw [hg]; rfl, fun v W2 H2 φ2 l o2 => k v W2 H2 φ2 l (.then s o o2)⟩
  | true =>
    rw [if_pos rfl]
    simp only [if_true, Option.some.injEq, Prod.mk.injEq] at hg
    obtain ⟨rfl, rfl⟩ := hg
    exact k (.bl true) W1 H1 φ1 [] (.then s o (.same o.ss (.rv (.fz (.bl _))) (fun a h => nomatch h) rfl))
/-- a value that is True or False, as such -/
theorem px_tB (h : PX X e f) : PX X e (tB (bT f)) := by
  refine PE.mono h ?_
  rintro σ H Q ⟨W, ρ, φ, r, ρ', s, hf, k⟩
  obtain ⟨b, hg, rfl⟩ := tB_inv hf
  exact ⟨W, ρ, φ, _, ρ', s, bT_inv hg, k⟩
theorem px_not (h : PX X a f) : PX X (.UnaryOp .Not a pos) (tB (notT (bT f))) := by
  refine PE.mono (pe_not h) ?_
  rintro σ H Q ⟨W, ρ, φ, r, ρ', s, hf, k⟩
  obtain ⟨b, hg, rfl⟩ := tB_inv hf
  unfold notT at hg
  obtain ⟨⟨x, ρ1⟩, e1, hg⟩ := Option.bind_eq_some_iff.mp hg
  cases hg
  exact tX_bT ⟨W, ρ, φ, x, _, s, e1, fun W1 H1 φ1 o => k (.bl (!x)) W1 H1 φ1 [] (.then s o (.same o.ss (.rv (.fz (.bl _))) (fun a h => nomatch h) rfl))⟩
theorem px_ifExp (hc : PXT X c c1) (ha : PX X a f) (hb : PX X b g) : PX X (.IfExp c a b pos) (ifE c1 f g) := by
  refine PE.mono (pe_ifExp hc ha hb) ?_
  rintro σ H Q ⟨W, ρ, φ, r, ρ', s, hf, k⟩
  unfold ifE at hf
  obtain ⟨⟨x, ρ1⟩, e1, hf⟩ := Option.bind_eq_some_iff.mp hf
  refine ⟨W, ρ, φ, x, ρ1, s, e1, fun W1 H1 φ1 o => ?_⟩
  cases x with
  | true =>
    rw [if_pos rfl]
    simp only [if_true] at hf
    exact ⟨W1, ρ1, φ1, r, ρ', o.ss, hf, fun v W2 H2 φ2 l o2 => k v W2 H2 φ2 l (.then s o o2)⟩
  | false =>
    rw [if_neg Bool.false_ne_true]
    simp only [Bool.false_eq_true, if_false] at hf
    exact ⟨W1, ρ1, φ1, r, ρ', o.ss, hf, fun v W2 H2 φ2 l o2 => k v W2 H2 φ2 l (.then s o o2)⟩
/-! displays -/
def lstE (fs : DA) : DE := fun ρ => (fs ρ).bind fun p => (frzA p.1).bind fun ds => if ds.length ≤ 1000 then some (.ow ds, p.2) else none
def tupE (fs : DA) : DE := fun ρ => (fs ρ).bind fun p => (frzA p.1).bind fun ds => if ds.length ≤ 1000 then some (.fz (.tuple ds), p.2) else none
end
section
variable {K : PySem.W.Frag} {W W1 W2 : Addr → Prop} {H H1 H2 : Hp} {σ : L2.St} {ρ ρ1 ρ2 : Rho} {φ φ1 φ2 : Fp} {vs : List V} {rs : List Vl} {l : List Addr}
/-- the operands are fixed -/
theorem Ev.freeze (rx : RXs K W H σ vs rs l) : Ev (fun a => a ∈ l) W H (Or W l) H := ⟨fun _ h => .inl h, fun _ _ h _ => h, fun a o h n q => q.elim id fun z => absurd z n⟩
theorem wf_freeze (rx : RXs K W H σ vs rs l) (wf : ∀ a, W a → ∃ o, H a = some o) : ∀ a, Or W l a → ∃ o, H a = some o := fun a h => h.elim (wf a) fun h => let ⟨_, o, e, _⟩ := rx.own a h; ⟨o, e⟩
end
section
variable {X : Cx} {es : List Expr} {fs : DA} {pos : Pos}
theorem small_size {n : Nat} (h : n ≤ 1000) : n ≤ sizeLine := Nat.le_trans h (by decide)
theorem px_lst (h : PXA X es fs) : PX X (.List es pos) (lstE fs) := by
  refine PE.mono (pe_lst h) ?_
  rintro σ H Q ⟨W, ρ, φ, r, ρ', s, hf, k⟩
  unfold lstE at hf
  obtain ⟨⟨rs, ρ1⟩, e1, hf⟩ := Option.bind_eq_some_iff.mp hf
  obtain ⟨ds, e2, hf⟩ := Option.bind_eq_some_iff.mp hf
  split at hf
  · rename_i hz
    cases hf
    refine ⟨W, ρ, φ, rs, _, s, e1, fun vs W1 H1 φ1 l o => ?_⟩
    have f : FzA X.K (Or W1 l) H1 vs ds := o.rx.frz (fun _ h => .inl h) (fun b h => .inr h) e2
    refine ⟨small_size (by rw [f.length]; exact hz), new_list (fp := fun a => a ∈ l) f (wf_freeze o.rx o.ss.wf) fun v W' H' l' ev wf rv sub => ?_⟩
    exact k v W' H' φ1 l' (o.op s ((Ev.freeze o.rx).trans (fun x h => .inl h) ev) wf rv sub)
  · cases hf
theorem px_tup {x1} (h : PXA X es fs) : PX X (.Tuple es x1 pos) (tupE fs) := by
  refine PE.mono (pe_tup h) ?_
  rintro σ H Q ⟨W, ρ, φ, r, ρ', s, hf, k⟩
  unfold tupE at hf
  obtain ⟨⟨rs, ρ1⟩, e1, hf⟩ := Option.bind_eq_some_iff.mp hf
  obtain ⟨ds, e2, hf⟩ := Option.bind_eq_some_iff.mp hf
  split at hf
  · rename_i hz
    cases hf
    refine ⟨W, ρ, φ, rs, _, s, e1, fun vs W1 H1 φ1 l o => ?_⟩
    have f : FzA X.K (Or W1 l) H1 vs ds := o.rx.frz (fun _ h => .inl h) (fun b h => .inr h) e2
    refine ⟨small_size (by rw [f.length]; exact hz), new_tuple (fp := fun a => a ∈ l) f (wf_freeze o.rx o.ss.wf) fun v W' H' l' ev wf rv sub => ?_⟩
    exact k v W' H' φ1 l' (o.op s ((Ev.freeze o.rx).trans (fun x h => .inl h) ev) wf rv sub)
  · cases hf
end
end DL

namespace DL
open PySem PySem.Spec PyProof.Rows L2

inductive Fl where
  | nx (ρ : Rho) | rt (r : Vl) (ρ : Rho) | bk (ρ : Rho) | ct (ρ : Rho)
abbrev DS := Rho → Option Fl
structure OutS (K : PySem.W.Frag) (W : Addr → Prop) (H : Hp) (fp : Addr → Prop) (σ : L2.St) (fx : List Nat) (ρ' : Rho) (σ' : L2.St) (W' : Addr → Prop) (H' : Hp) (φ' : Fp) : Prop where
  ev : Ev fp W H W' H'
  ss : SS K W' H' σ' ρ' φ'
  sub : ∀ a, InF φ' a → fp a ∨ H a = none
  fx : ∀ i ∈ fx, σ'[i]? = σ[i]?
structure OutR (K : PySem.W.Frag) (W : Addr → Prop) (H : Hp) (fp : Addr → Prop) (σ : L2.St) (fx : List Nat) (ρ' : Rho) (r : Vl) (v : V) (σ' : L2.St) (W' : Addr → Prop) (H' : Hp) (φ' : Fp) (l : List Addr) : Prop where
  o : OutS K W H fp σ fx ρ' σ' W' H' φ'
  rx : RX K W' H' σ' v r l
  dj : ∀ a ∈ l, ¬ InF φ' a
  subl : ∀ a ∈ l, fp a ∨ H a = none
def Want (K : PySem.W.Frag) (W : Addr → Prop) (H : Hp) (fp : Addr → Prop) (σ : L2.St) (fx : List Nat) (E : Ends) : Fl → Prop
  | .nx ρ' => ∀ σ' W' H' φ', OutS K W H fp σ fx ρ' σ' W' H' φ' → E.nx σ' H'
  | .bk ρ' => ∀ σ' W' H' φ', OutS K W H fp σ fx ρ' σ' W' H' φ' → E.bk σ' H'
  | .ct ρ' => ∀ σ' W' H' φ', OutS K W H fp σ fx ρ' σ' W' H' φ' → E.ct σ' H'
  | .rt r ρ' => ∀ v σ' W' H' φ' l, OutR K W H fp σ fx ρ' r v σ' W' H' φ' l → E.rt v H'
def tXS (K : PySem.W.Frag) (fx : List Nat) (f : DS) : TS := fun E σ H => ∃ W ρ φ fl, SS K W H σ ρ φ ∧ f ρ = some fl ∧ Want K W H (InF φ) σ fx E fl
abbrev PXS (X : Cx) (fx : List Nat) (st : Stmt) (f : DS) : Prop := PS X st (tXS X.K fx f)
abbrev PXSs (X : Cx) (fx : List Nat) (st : List Stmt) (f : DS) : Prop := PSs X st (tXS X.K fx f)
theorem PS.mono {X : Cx} {e : Stmt} {t t' : TS} (h : PS X e t) (m : ∀ E σ H, t' E σ H → t E σ H) : PS X e t' := ⟨fun pins s σ H E I q => h.run pins s σ H E I (m E σ H q)⟩
theorem PSs.mono {X : Cx} {e : List Stmt} {t t' : TS} (h : PSs X e t) (m : ∀ E σ H, t' E σ H → t E σ H) : PSs X e t' := ⟨fun pins s σ H E I q => h.run pins s σ H E I (m E σ H q)⟩
theorem PG.mono {X : Cx} {e : Expr} {t t' : TG} (h : PG X e t) (m : ∀ v σ H Q, t' v σ H Q → t v σ H Q) : PG X e t' := ⟨fun pins s σ H v u Q I r q => h.run pins s σ H v u Q I r (m v σ H Q q)⟩
theorem PI.mono {X : Cx} {tg e : Expr} {t t' : TI} (h : PI X tg e t) (m : ∀ σ H R, t' σ H R → t σ H R) : PI X tg e t' := ⟨fun pins s σ H R I q => h.run pins s σ H R I (m σ H R q)⟩
section
variable {K : PySem.W.Frag} {W W1 W2 : Addr → Prop} {H H1 H2 : Hp} {fp fp1 : Addr → Prop} {σ σ1 σ2 : L2.St} {ρ ρ1 ρ2 : Rho} {φ φ1 φ2 : Fp} {fx : List Nat} {E : Ends} {fl : Fl}
theorem OutS.refl (s : SS K W H σ ρ φ) : OutS K W H (InF φ) σ fx ρ σ W H φ := ⟨Ev.refl .., s, fun _ h => .inl h, fun _ _ => rfl⟩
theorem OutS.trans (hfp : ∀ a, fp a → H a ≠ none) (o1 : OutS K W H fp σ fx ρ1 σ1 W1 H1 φ1) (o2 : OutS K W1 H1 (InF φ1) σ1 fx ρ2 σ2 W2 H2 φ2) : OutS K W H fp σ fx ρ2 σ2 W2 H2 φ2 :=
  ⟨o1.ev.trans o1.sub o2.ev, o2.ss, sub2 o1.ev o1.sub o2.sub hfp, fun i h => (o2.fx i h).trans (o1.fx i h)⟩
theorem OutT.s (o : OutT K W H fp σ ρ1 W1 H1 φ1) : OutS K W H fp σ fx ρ1 σ W1 H1 φ1 := ⟨o.ev, o.ss, o.sub, fun _ _ => rfl⟩
/-- what is wanted at the start, from a later state -/
theorem Want.after (hfp : ∀ a, fp a → H a ≠ none) (o1 : OutS K W H fp σ fx ρ1 σ1 W1 H1 φ1) (h : Want K W H fp σ fx E fl) : Want K W1 H1 (InF φ1) σ1 fx E fl := by
  cases fl with
  | nx ρ' => exact fun σ' W' H' φ' o => h σ' W' H' φ' (o1.trans hfp o)
  | bk ρ' => exact fun σ' W' H' φ' o => h σ' W' H' φ' (o1.trans hfp o)
  | ct ρ' => exact fun σ' W' H' φ' o => h σ' W' H' φ' (o1.trans hfp o)
  | rt r ρ' => exact fun v σ' W' H' φ' l o => h v σ' W' H' φ' l ⟨o1.trans hfp o.o, o.rx, o.dj, sub2 (p := fun a => a ∈ l) o1.ev o1.sub o.subl hfp⟩
theorem Want.imp {E' : Ends} (h : Want K W H fp σ fx E fl) (hn : ∀ σ H, E.nx σ H → E'.nx σ H) (hr : ∀ v H, E.rt v H → E'.rt v H) (hb : ∀ σ H, E.bk σ H → E'.bk σ H) (hc : ∀ σ H, E.ct σ H → E'.ct σ H) : Want K W H fp σ fx E' fl := by
  cases fl with
  | nx ρ' => exact fun σ' W' H' φ' o => hn _ _ (h σ' W' H' φ' o)
  | bk ρ' => exact fun σ' W' H' φ' o => hb _ _ (h σ' W' H' φ' o)
  | ct ρ' => exact fun σ' W' H' φ' o => hc _ _ (h σ' W' H' φ' o)
  | rt r ρ' => exact fun v σ' W' H' φ' l o => hr _ _ (h v σ' W' H' φ' l o)
theorem SS.hfp (s : SS K W H σ ρ φ) : ∀ a, InF φ a → H a ≠ none := fun _ => s.inH

/-! slots stored -/
def setF (φ : Fp) (i : Nat) (l : List Addr) (n : Nat) : Fp := fun j => if j = i ∧ i < n then l else φ j
theorem setF_in {i n l a} (h : InF (setF φ i l n) a) : InF φ a ∨ a ∈ l := by
  obtain ⟨j, h⟩ := h
  unfold setF at h
  split at h
  · exact .inr h
  · exact .inl ⟨j, h⟩
theorem SS.set {i : Nat} {v : V} {vl : Vl} {l : List Addr} (s : SS K W H σ ρ φ) (r : RV K W H v vl l) (dj : ∀ a ∈ l, ¬ InF φ a) : SS K W H (σ.set i (some v)) (ρ.set i (some vl)) (setF φ i l ρ.length) where
  len := by rw [List.length_set, List.length_set, s.len]
  sl := fun j w e => by
    by_cases hi : j = i ∧ i < ρ.length
    · obtain ⟨rfl, hl⟩ := hi
      rw [List.getElem?_set_self hl] at e
      cases e
      have z : setF φ j l ρ.length j = l := if_pos ⟨rfl, hl⟩
      rw [z]
      exact ⟨v, List.getElem?_set_self (by rw [s.len]; exact hl), r⟩
    · have z : setF φ i l ρ.length j = φ j := if_neg hi
      rw [z]
      by_cases hj : j = i
      · subst hj
        have hl : ¬ j < ρ.length := fun q => hi ⟨rfl, q⟩
        have z2 : (ρ.set j (some vl))[j]? = none := List.getElem?_eq_none (by rw [List.length_set]; omega)
        rw [z2] at e; cases e
      · rw [List.getElem?_set_ne (Ne.symm hj)] at e
        obtain ⟨w', h1, h2⟩ := s.sl j w e
        exact ⟨w', by rw [List.getElem?_set_ne (Ne.symm hj)]; exact h1, h2⟩
  em := fun j e => by
    unfold setF
    split
    · rename_i h
      obtain ⟨rfl, hl⟩ := h
      exact absurd (List.getElem?_set_self hl) (e vl)
    · rename_i h
      refine s.em j fun w q => e w ?_
      by_cases hj : j = i
      · subst hj
        have hl : ¬ j < ρ.length := fun q => h ⟨rfl, q⟩
        rw [List.getElem?_eq_none (by omega)] at q; cases q
      · rw [List.getElem?_set_ne (Ne.symm hj)]; exact q
  dj := fun j k a h1 h2 => by
    unfold setF at h1 h2
    split at h1 <;> split at h2
    · rename_i a b; rw [a.1, b.1]
    · exact absurd ⟨k, h2⟩ (dj a h1)
    · exact absurd ⟨j, h1⟩ (dj a h2)
    · exact s.dj j k a h1 h2
  wf := s.wf
/-- a slot emptied -/
def delF (φ : Fp) (i : Nat) : Fp := fun j => if j = i then [] else φ j
theorem delF_in {i a} (h : InF (delF φ i) a) : InF φ a ∧ a ∉ φ i ∨ InF φ a := by
  obtain ⟨j, h⟩ := h
  unfold delF at h
  split at h
  · cases h
  · exact .inr ⟨j, h⟩
theorem delF_sub {i a} (h : InF (delF φ i) a) : InF φ a := (delF_in h).elim And.left id
theorem SS.del (s : SS K W H σ ρ φ) (i : Nat) (o : Option V) : SS K W H (σ.set i o) (ρ.set i none) (delF φ i) where
  len := by rw [List.length_set, List.length_set, s.len]
  sl := fun j w e => by
    by_cases hj : j = i
    · subst hj
      by_cases hl : j < ρ.length
      · rw [List.getElem?_set_self hl] at e; cases e
      · rw [List.getElem?_eq_none (by rw [List.length_set]; omega)] at e; cases e
    · have z : delF φ i j = φ j := if_neg hj
      rw [z]
      rw [List.getElem?_set_ne (Ne.symm hj)] at e
      obtain ⟨w', h1, h2⟩ := s.sl j w e
      exact ⟨w', by rw [List.getElem?_set_ne (Ne.symm hj)]; exact h1, h2⟩
  em := fun j e => by
    unfold delF
    split
    · rfl
    · rename_i hj
      exact s.em j fun w q => e w (by rw [List.getElem?_set_ne (Ne.symm hj)]; exact q)
  dj := fun j k a h1 h2 => by
    unfold delF at h1 h2
    split at h1
    · cases h1
    · split at h2
      · cases h2
      · exact s.dj j k a h1 h2
  wf := s.wf
theorem SS.del' (s : SS K W H σ ρ φ) (i : Nat) : SS K W H σ (ρ.set i none) (delF φ i) where
  len := by rw [List.length_set, s.len]
  sl := fun j w e => by
    by_cases hj : j = i
    · subst hj
      by_cases hl : j < ρ.length
      · rw [List.getElem?_set_self hl] at e; cases e
      · rw [List.getElem?_eq_none (by rw [List.length_set]; omega)] at e; cases e
    · have z : delF φ i j = φ j := if_neg hj
      rw [z]
      rw [List.getElem?_set_ne (Ne.symm hj)] at e
      exact s.sl j w e
  em := fun j e => by
    unfold delF
    split
    · rfl
    · rename_i hj
      exact s.em j fun w q => e w (by rw [List.getElem?_set_ne (Ne.symm hj)]; exact q)
  dj := fun j k a h1 h2 => by
    unfold delF at h1 h2
    split at h1
    · cases h1
    · split at h2
      · cases h2
      · exact s.dj j k a h1 h2
  wf := s.wf
/-- a slot that holds the same object with another content -/
theorem SS.put {i : Nat} {v : V} {vl : Vl} {l : List Addr} (s : SS K W H σ ρ φ) (hv : σ[i]? = some (some v)) (r : RV K W H v vl l) (dj : ∀ a ∈ l, ¬ InF φ a) : SS K W H σ (ρ.set i (some vl)) (setF φ i l ρ.length) := by
  have := s.set (i := i) r dj
  have e : σ.set i (some v) = σ := by
    refine List.ext_getElem? fun j => ?_
    by_cases hj : i = j
    · subst hj
      rw [hv, List.getElem?_set_self (List.getElem?_eq_some_iff.mp hv).1]
    · rw [List.getElem?_set_ne hj]
  rwa [e] at this
end

/-! ### small statements -/
def nxS : DS := fun ρ => some (.nx ρ)
def seqS (f g : DS) : DS := fun ρ => (f ρ).bind fun fl => match fl with
  | .nx ρ' => g ρ'
  | fl => some fl
def dropS (f : DE) : DS := fun ρ => (f ρ).bind fun p => some (.nx p.2)
def retS (f : DE) : DS := fun ρ => (f ρ).bind fun p => some (.rt p.1 p.2)
def ifS (c : DT) (f g : DS) : DS := fun ρ => (c ρ).bind fun p => if p.1 = true then f p.2 else g p.2
def nevS : DS := fun _ => none
section
variable {X : Cx} {fx : List Nat} {st : Stmt} {sts ss1 ss2 : List Stmt} {f g : DS} {e : Expr} {fe : DE} {c : Expr} {fc : DT} {pos : Pos}
theorem pxs_nil : PXSs X fx [] nxS := by
  refine PSs.mono pss_nil ?_
  rintro E σ H ⟨W, ρ, φ, fl, s, hf, k⟩
  cases hf
  exact k σ W H φ (.refl s)
theorem pxs_cons (h1 : PXS X fx st f) (h2 : PXSs X fx sts g) : PXSs X fx (st :: sts) (seqS f g) := by
  refine PSs.mono (pss_cons h1 h2) ?_
  rintro E σ H ⟨W, ρ, φ, fl, s, hf, k⟩
  unfold seqS at hf
  obtain ⟨fl1, e1, hf⟩ := Option.bind_eq_some_iff.mp hf
  refine ⟨W, ρ, φ, fl1, s, e1, ?_⟩
  cases fl1 with
  | nx ρ1 => exact fun σ1 W1 H1 φ1 o => ⟨W1, ρ1, φ1, fl, o.ss, hf, k.after s.hfp o⟩
  | bk ρ1 => cases hf; exact k
  | ct ρ1 => cases hf; exact k
  | rt r ρ1 => cases hf; exact k
theorem pxs_one (h1 : PXS X fx st f) : PXSs X fx [st] f := pss_one h1
theorem px_pass : PXS X fx (.Pass pos) nxS := by
  refine PS.mono ps_pass ?_
  rintro E σ H ⟨W, ρ, φ, fl, s, hf, k⟩
  cases hf
  exact k σ W H φ (.refl s)
theorem px_break : PXS X fx (.Break pos) (fun ρ => some (.bk ρ)) := by
  refine PS.mono ps_break ?_
  rintro E σ H ⟨W, ρ, φ, fl, s, hf, k⟩
  cases hf
  exact k σ W H φ (.refl s)
theorem px_continue : PXS X fx (.Continue pos) (fun ρ => some (.ct ρ)) := by
  refine PS.mono ps_continue ?_
  rintro E σ H ⟨W, ρ, φ, fl, s, hf, k⟩
  cases hf
  exact k σ W H φ (.refl s)
theorem px_never : PXS X fx st nevS := by
  refine PS.mono ps_never ?_
  rintro E σ H ⟨W, ρ, φ, fl, s, hf, k⟩
  cases hf
theorem px_expr (he : PX X e fe) (hs : swapsWith e none pos.line X.env = pure false := by rfl) : PXS X fx (.Expr e pos) (dropS fe) := by
  refine PS.mono (ps_expr he hs) ?_
  rintro E σ H ⟨W, ρ, φ, fl, s, hf, k⟩
  unfold dropS at hf
  obtain ⟨⟨r, ρ1⟩, e1, hf⟩ := Option.bind_eq_some_iff.mp hf
  cases hf
  exact ⟨W, ρ, φ, r, ρ1, s, e1, fun v W1 H1 φ1 l o => k σ W1 H1 φ1 o.t.s⟩
theorem px_ret (he : PX X e fe) : PXS X fx (.Return (some e) pos) (retS fe) := by
  refine PS.mono (ps_ret he) ?_
  rintro E σ H ⟨W, ρ, φ, fl, s, hf, k⟩
  unfold retS at hf
  obtain ⟨⟨r, ρ1⟩, e1, hf⟩ := Option.bind_eq_some_iff.mp hf
  cases hf
  exact ⟨W, ρ, φ, r, ρ1, s, e1, fun v W1 H1 φ1 l o => k v σ W1 H1 φ1 l ⟨o.t.s, o.rx, o.dj, o.subl⟩⟩
theorem px_retN : PXS X fx (.Return none pos) (retS (cE .none)) := by
  refine PS.mono ps_retN ?_
  rintro E σ H ⟨W, ρ, φ, fl, s, hf, k⟩
  cases hf
  exact k .non σ W H φ [] ⟨.refl s, .rv (.fz .non), (fun a h => nomatch h), (fun a h => nomatch h)⟩
theorem px_if (hc : PXT X c fc) (ha : PXSs X fx ss1 f) (hb : PXSs X fx ss2 g) : PXS X fx (.If c ss1 ss2 pos) (ifS fc f g) := by
  refine PS.mono (ps_if hc ha hb) ?_
  rintro E σ H ⟨W, ρ, φ, fl, s, hf, k⟩
  unfold ifS at hf
  obtain ⟨⟨x, ρ1⟩, e1, hf⟩ := Option.bind_eq_some_iff.mp hf
  refine ⟨W, ρ, φ, x, ρ1, s, e1, fun W1 H1 φ1 o => ?_⟩
  cases x with
  | true =>
    rw [if_pos rfl]
    simp only [if_true] at hf
    exact ⟨W1, ρ1, φ1, fl, o.ss, hf, k.after s.hfp o.s⟩
  | false =>
    rw [if_neg Bool.false_ne_true]
    simp only [Bool.false_eq_true, if_false] at hf
    exact ⟨W1, ρ1, φ1, fl, o.ss, hf, k.after s.hfp o.s⟩
/-- slots whose objects nobody changes any more -/
def frzS (i : Nat) (f : DS) : DS := fun ρ => match ρ[i]? with
  | some (some (.fz _)) => f ρ
  | some (some v) => (frz v).bind fun d => f (ρ.set i (some (.fz d)))
  | _ => f ρ
end
section
variable {K : PySem.W.Frag} {W : Addr → Prop} {H : Hp} {σ : L2.St} {ρ : Rho} {φ : Fp} {fx : List Nat}
theorem SS.freeze (s : SS K W H σ ρ φ) {i : Nat} {vl : Vl} {d : D} (e : ρ[i]? = some (some vl)) (h : frz vl = some d) : OutS K W H (InF φ) σ fx (ρ.set i (some (.fz d))) σ (Or W (φ i)) H (delF φ i) := by
  obtain ⟨v, e1, rv⟩ := s.sl i vl e
  have ev : Ev (InF φ) W H (Or W (φ i)) H := ⟨fun _ h => .inl h, fun _ _ h _ => h, fun a o h n q => q.elim id fun z => absurd ⟨i, z⟩ n⟩
  have hl : i < ρ.length := (List.getElem?_eq_some_iff.mp e).1
  refine ⟨ev, ?_, fun a h => .inl (delF_sub h), fun _ _ => rfl⟩
  have s2 := s.del' i
  have evd : Ev (fun a => a ∈ φ i) W H (Or W (φ i)) H := ⟨fun _ h => .inl h, fun _ _ h _ => h, fun a o h n q => q.elim id fun z => absurd z n⟩
  have nin : ∀ a, InF (delF φ i) a → a ∉ φ i := by
    rintro a ⟨j, hj⟩ q
    unfold delF at hj
    split at hj
    · cases hj
    · rename_i n; exact n (s.dj j i a hj q)
  have s3 : SS K (Or W (φ i)) H σ (ρ.set i none) (delF φ i) := s2.ev evd (Wxt.or) nin fun a h => h.elim (s.wf a) fun z => let ⟨_, o, q, _⟩ := s.own ⟨i, z⟩; ⟨o, q⟩
  have s4 := s3.put (i := i) (vl := .fz d) (l := []) e1 (.fz (rv.frz (fun _ h => .inl h) (fun b h => .inr h) h)) (fun a h => nomatch h)
  rw [List.set_set] at s4
  refine ⟨s4.len, fun j w q => ?_, fun j q => ?_, fun j k a h1 h2 => ?_, s4.wf⟩
  · obtain ⟨v', h1, h2⟩ := s4.sl j w q
    refine ⟨v', h1, ?_⟩
    unfold setF at h2
    split at h2
    · rename_i z
      rw [z.1]
      show RV K _ H v' w (delF φ i i)
      unfold delF
      rw [if_pos rfl]
      exact h2
    · exact h2
  · have := s4.em j q
    unfold setF at this
    split at this
    · rename_i z; unfold delF; rw [if_pos z.1]
    · exact this
  · exact s2.dj j k a h1 h2
end
section
variable {X : Cx} {fx : List Nat} {st : Stmt} {sts : List Stmt} {f g : DS}
theorem tXS_frz {K : PySem.W.Frag} {i : Nat} {E : Ends} {σ : L2.St} {H : Hp} (h : tXS K fx (frzS i f) E σ H) : tXS K fx f E σ H := by
  obtain ⟨W, ρ, φ, fl, s, hf, k⟩ := h
  unfold frzS at hf
  split at hf
  · exact ⟨W, ρ, φ, fl, s, hf, k⟩
  · rename_i v _ e
    obtain ⟨d, e1, hf⟩ := Option.bind_eq_some_iff.mp hf
    have o := s.freeze (fx := fx) e e1
    exact ⟨_, _, _, fl, o.ss, hf, k.after s.hfp o⟩
  · exact ⟨W, ρ, φ, fl, s, hf, k⟩
theorem px_frz (i : Nat) (h : PXS X fx st f) : PXS X fx st (frzS i f) := PS.mono h fun _ _ _ => tXS_frz
theorem pxs_frz (i : Nat) (h : PXSs X fx sts f) : PXSs X fx sts (frzS i f) := PSs.mono h fun _ _ _ => tXS_frz
end
end DL

namespace DL
open PySem PySem.Spec PyProof.Rows L2

/-! ### targets -/
abbrev DTg := Vl → Rho → Option Rho
inductive RVs (K : PySem.W.Frag) (W : Addr → Prop) (H : Hp) : List V → List Vl → List Addr → Prop
  | nil : RVs K W H [] [] []
  | cons {v vs r rs l ls} : RV K W H v r l → RVs K W H vs rs ls → (∀ a ∈ l, a ∉ ls) → RVs K W H (v :: vs) (r :: rs) (l ++ ls)
structure OutG (K : PySem.W.Frag) (W : Addr → Prop) (H : Hp) (fp : Addr → Prop) (σ : L2.St) (tv : List Nat) (ρ' : Rho) (σ' : L2.St) (W' : Addr → Prop) (H' : Hp) (φ' : Fp) : Prop where
  ev : Ev fp W H W' H'
  ss : SS K W' H' σ' ρ' φ'
  sub : ∀ a, InF φ' a → fp a ∨ H a = none
  tv : ∀ i, i ∉ tv → σ'[i]? = σ[i]?
  len : σ'.length = σ.length
def fpl (φ : Fp) (l : List Addr) (a : Addr) : Prop := InF φ a ∨ a ∈ l
def tXG (K : PySem.W.Frag) (tv : List Nat) (st : DTg) : TG := fun v σ H Q => ∃ W ρ φ r l ρ', SS K W H σ ρ φ ∧ RV K W H v r l ∧ (∀ a ∈ l, ¬ InF φ a) ∧ st r ρ = some ρ' ∧ ∀ σ' W' H' φ', OutG K W H (fpl φ l) σ tv ρ' σ' W' H' φ' → Q σ' H'
abbrev PXG (X : Cx) (tg : Expr) (tv : List Nat) (st : DTg) : Prop := PG X tg (tXG X.K tv st)
/-- several -/
def stL : List DTg → List Vl → Rho → Option Rho
  | [], [], ρ => some ρ
  | s :: ss, r :: rs, ρ => (s r ρ).bind fun ρ1 => stL ss rs ρ1
  | _, _, _ => none
def tXGs (K : PySem.W.Frag) (tv : List Nat) (sts : List DTg) : TGs := fun vs σ H Q => ∃ W ρ φ rs l ρ', SS K W H σ ρ φ ∧ RVs K W H vs rs l ∧ (∀ a ∈ l, ¬ InF φ a) ∧ stL sts rs ρ = some ρ' ∧ ∀ σ' W' H' φ', OutG K W H (fpl φ l) σ tv ρ' σ' W' H' φ' → Q σ' H'
abbrev PXGs (X : Cx) (ts : List Expr) (tv : List Nat) (sts : List DTg) : Prop := PGs X ts (tXGs X.K tv sts)
def nameT (i : Nat) : DTg := fun r ρ => some (ρ.set i (some r))
def tupT (sts : List DTg) : DTg := fun r ρ => match r with
  | .fz (.tuple ds) => stL sts (ds.map .fz) ρ
  | _ => none
/-- x[g] = the value -/
def subT (xi : Nat) (g : DE) : DTg := fun r ρ => (frz r).bind fun d => (at? ρ xi).bind fun _ => (g ρ).bind fun p => match p.1, p.2[xi]? with
  | .fz (.int i), some (some (.ow ds)) => (ixN ds.length i).bind fun j => some (p.2.set xi (some (.ow (ds.set j d))))
  | _, _ => none
section
variable {K : PySem.W.Frag} {W W1 W2 : Addr → Prop} {H H1 H2 : Hp} {σ σ1 σ2 : L2.St} {ρ ρ1 ρ2 : Rho} {φ φ1 φ2 : Fp} {l ls : List Addr} {vs : List V} {rs : List Vl} {v : V} {r : Vl}
theorem RVs.ev {fp : Addr → Prop} (e : Ev fp W H W1 H1) (x : Wxt W H W1 H1) (h : RVs K W H vs rs l) (n : ∀ b ∈ l, ¬ fp b) : RVs K W1 H1 vs rs l := by
  induction h with
  | nil => exact .nil
  | cons h _ d ih => exact .cons (h.ev e x fun b hb => n b (List.mem_append_left _ hb)) (ih fun b hb => n b (List.mem_append_right _ hb)) d
theorem RVs.own (h : RVs K W H vs rs l) : ∀ b ∈ l, ¬ W b ∧ ∃ o, H b = some o ∧ ¬ Imm o := by
  induction h with
  | nil => exact fun _ z => nomatch z
  | cons h _ _ ih => exact fun b hb => (List.mem_append.mp hb).elim (h.own b) (ih b)
theorem RVs.fz : ∀ {vs : List V} {ds : List D}, FzA K W H vs ds → RVs K W H vs (ds.map .fz) []
  | _, _, .nil => .nil
  | _, _, .cons h r => .cons (l := []) (ls := []) (.fz h) (RVs.fz r) (fun _ z => nomatch z)
theorem RVs.length (h : RVs K W H vs rs l) : vs.length = rs.length := by
  induction h with
  | nil => rfl
  | cons _ _ _ ih => rw [List.length_cons, List.length_cons, ih]
theorem fpl_inH (s : SS K W H σ ρ φ) (o : ∀ b ∈ l, ¬ W b ∧ ∃ o, H b = some o ∧ ¬ Imm o) : ∀ a, fpl φ l a → H a ≠ none := fun a h => h.elim s.inH fun z e => by
  obtain ⟨_, ob, q, _⟩ := o a z
  rw [e] at q; cases q
theorem fpl_notW (s : SS K W H σ ρ φ) (o : ∀ b ∈ l, ¬ W b ∧ ∃ o, H b = some o ∧ ¬ Imm o) : ∀ a, fpl φ l a → ¬ W a := fun a h => h.elim (s.notW a) fun z => (o a z).1
theorem OutG.cons (s : SS K W H σ ρ φ) (hv : RV K W H v r l) (hr : RVs K W H vs rs ls) {tv1 tv2 : List Nat} (dl : ∀ a ∈ l, ¬ InF φ a) (o1 : OutG K W H (fpl φ l) σ tv1 ρ1 σ1 W1 H1 φ1) (d : ∀ a ∈ l, a ∉ ls) (dls : ∀ a ∈ ls, ¬ InF φ a)
    (o2 : OutG K W1 H1 (fpl φ1 ls) σ1 tv2 ρ2 σ2 W2 H2 φ2) : OutG K W H (fpl φ (l ++ ls)) σ (tv1 ++ tv2) ρ2 σ2 W2 H2 φ2 := by
  have up : ∀ a, fpl φ l a → fpl φ (l ++ ls) a := fun a h => h.elim .inl fun z => .inr (List.mem_append_left _ z)
  have s1 : ∀ a, fpl φ1 ls a → fpl φ (l ++ ls) a ∨ H a = none := fun a h => h.elim (fun z => (o1.sub a z).imp (up a) id) fun z => .inl (.inr (List.mem_append_right _ z))
  have ev1 : Ev (fpl φ (l ++ ls)) W H W1 H1 := o1.ev.mono fun a h => .inl (up a h)
  refine ⟨ev1.trans s1 o2.ev, o2.ss, fun a h => ?_, fun i hi => ?_, o2.len.trans o1.len⟩
  · rcases o2.sub a h with z | z
    · exact s1 a z
    · cases e : H a with
      | none => exact .inr rfl
      | some ob =>
        by_cases f : fpl φ (l ++ ls) a
        · exact .inl f
        · rw [ev1.keep a ob e fun z => absurd z f] at z; cases z
  · exact (o2.tv i fun z => hi (List.mem_append_right _ z)).trans (o1.tv i fun z => hi (List.mem_append_left _ z))
end
section
variable {X : Cx} {pos : Pos} {e : Expr} {es : List Expr} {st : DTg} {sts : List DTg} {tv tv2 : List Nat}
theorem pxg_name (i : Nat) {x : Str} (hN : X.N.Nodup) (hi : X.N[i]? = some x := by rfl) (hx : Loc X.env.scope x := by first | exact Or.inl rfl | exact Or.inr rfl) (hf : X.fn x = true ∨ X.env.scope.names.lookup x = some .local := by first | exact .inl rfl | exact .inr rfl | assumption) : PXG X (.Name x pos) [i] (nameT i) := by
  refine PG.mono (pg_name hN hi hx hf) ?_
  rintro v σ H Q ⟨W, ρ, φ, r, l, ρ', s, rv, dj, hst, k⟩
  cases hst
  refine k _ W H _ ⟨Ev.refl .., s.set rv dj, fun a h => .inl ((setF_in h).elim .inl .inr), fun j hj => ?_, by rw [List.length_set]⟩
  rw [List.getElem?_set_ne]
  rintro rfl
  exact hj List.mem_cons_self
theorem pxgs_nil : PXGs X [] [] [] := by
  refine ⟨fun pins s σ H vs us Q I r h => ?_⟩
  obtain ⟨W, ρ, φ, rs, l, ρ', ss, rv, dj, hst, k⟩ := h
  cases rv with
  | nil =>
    cases hst
    exact pgs_nil.run pins s σ H [] us Q I r ⟨rfl, k σ W H φ ⟨Ev.refl .., ss, fun a h => .inl (.inl h), fun _ _ => rfl, rfl⟩⟩
  | cons _ _ _ => cases hst
theorem pxgs_cons (h1 : PXG X e tv st) (h2 : PXGs X es tv2 sts) (hs : (assignEach (e :: es) X.env).map (·.2) = assign e X.env :: (assignEach es X.env).map (·.2) := by rfl) : PXGs X (e :: es) (tv ++ tv2) (st :: sts) := by
  refine ⟨fun pins s σ H vs us Q I r h => ?_⟩
  obtain ⟨W, ρ, φ, rs, l, ρ', ss, rv, dj, hst, k⟩ := h
  refine (pgs_cons h1 h2 hs).run pins s σ H vs us Q I r ?_
  cases rv with
  | nil => cases hst
  | @cons v vs r1 rs l ls hv hr d =>
    unfold stL at hst
    obtain ⟨ρ1, e1, hst⟩ := Option.bind_eq_some_iff.mp hst
    have dl : ∀ a ∈ l, ¬ InF φ a := fun a h => dj a (List.mem_append_left _ h)
    have dls : ∀ a ∈ ls, ¬ InF φ a := fun a h => dj a (List.mem_append_right _ h)
    refine ⟨v, vs, rfl, W, ρ, φ, r1, l, ρ1, ss, hv, dl, e1, fun σ1 W1 H1 φ1 o1 => ?_⟩
    have nls : ∀ b ∈ ls, ¬ fpl φ l b := fun b hb q => q.elim (dls b hb) fun z => d b z hb
    have hr1 : RVs X.K W1 H1 vs rs ls := hr.ev o1.ev (o1.ev.xt (fpl_notW ss hv.own)) nls
    refine ⟨W1, ρ1, φ1, rs, ls, ρ', o1.ss, hr1, fun a h q => ?_, hst, fun σ2 W2 H2 φ2 o2 => k σ2 W2 H2 φ2 (OutG.cons ss hv hr dl o1 d dls o2)⟩
    rcases o1.sub a q with z | z
    · exact nls a h z
    · obtain ⟨_, ob, q2, _⟩ := hr.own a h
      rw [z] at q2; cases q2
theorem pxg_tup {k : Nat} {n : Nat} (hc : X.calm = true) (h : PXGs X es tv sts) (hn : (assignEach es X.env).length = n := by rfl) (hst : (assignEach es X.env).findIdx? (·.1) = none := by rfl) (hlen : sts.length = n := by rfl) : PXG X (.Tuple es k pos) tv (tupT sts) := by
  refine PG.mono (pg_tup hc h hn hst) ?_
  rintro v σ H Q ⟨W, ρ, φ, r, l, ρ', s, rv, dj, hs, k⟩
  unfold tupT at hs
  split at hs
  · rename_i ds
    obtain rfl := rv.nil_of trivial
    cases rv with
    | fz f =>
      cases f with
      | @tup a xs _ h1 h2 =>
        have ll : ∀ (sts : List DTg) (rs : List Vl) (ρ : Rho), stL sts rs ρ = some ρ' → sts.length = rs.length := by
          intro sts
          induction sts with
          | nil => intro rs ρ h; cases rs with
            | nil => rfl
            | cons => cases h
          | cons s ss ih => intro rs ρ h; cases rs with
            | nil => cases h
            | cons r rs =>
              unfold stL at h
              obtain ⟨ρ1, _, h⟩ := Option.bind_eq_some_iff.mp h
              rw [List.length_cons, List.length_cons, ih rs ρ1 h]
        have l1 := ll sts _ ρ hs
        rw [List.length_map] at l1
        refine ⟨a, xs, rfl, h1, by rw [h2.length, ← l1, hlen], W, ρ, φ, ds.map .fz, [], ρ', s, RVs.fz h2, (fun a h => nomatch h), hs, k⟩
  · cases hs
theorem pxg_sub {i : Expr} {g : DE} (xi : Nat) {x : Str} {opos : Pos} (hN : X.N[xi]? = some x := by rfl) (hv : Vis X.env.scope x := by first | exact Or.inl rfl | exact Or.inr (Or.inl rfl) | exact Or.inr (Or.inr rfl)) (hi : PX X i g)
    (hd : (x == ("__debug__" : Str)) = false := by decide) (hcd : (x == ("__classdict__" : Str)) = false := by decide)
    (ha : ∀ v, assign (.Subscript (.Name x opos) i pos) X.env v = (do
      let ov ← holding [v] (eval (.Name x opos) X.env)
      let iv ← holding [v, ov] (eval i X.env)
      standAt pos
      holding [v, ov, iv] (setItem ov iv v)
      release [v, ov, iv] []) := by intro _; rfl) : PXG X (.Subscript (.Name x opos) i pos) [] (subT xi g) := by
  refine PG.mono (pg_sub (pe_var hN hv hd hcd) hi set_list ha) ?_
  rintro v σ H Q ⟨W, ρ, φ, r, l, ρ', s, rv, dj, hs, k⟩
  unfold subT at hs
  obtain ⟨d, e1, hs⟩ := Option.bind_eq_some_iff.mp hs
  obtain ⟨vx, e0, hs⟩ := Option.bind_eq_some_iff.mp hs
  obtain ⟨⟨ri, ρ1⟩, e2, hs⟩ := Option.bind_eq_some_iff.mp hs
  split at hs
  · rename_i i ds e3 e4
    cases e3
    obtain ⟨j, e5, hs⟩ := Option.bind_eq_some_iff.mp hs
    cases hs
    have evf : Ev (fun a => a ∈ l) W H (Or W l) H := ⟨fun _ h => .inl h, fun _ _ h _ => h, fun a o h n q => q.elim id fun z => absurd z n⟩
    have sW : SS X.K (Or W l) H σ ρ φ := s.ev evf Wxt.or (fun a h q => dj a q h) fun a h => h.elim (s.wf a) fun z => let ⟨_, o, q, _⟩ := rv.own a z; ⟨o, q⟩
    have fv : Fz X.K (Or W l) H v d := rv.frz (fun _ h => .inl h) (fun b h => .inr h) e1
    -- the list's slot is there ahead of the index
    show tVar xi σ H _
    obtain ⟨w, hw, _⟩ := s.sl xi vx (at?_some e0)
    · refine ⟨w, hw, Or W l, ρ, φ, .fz (.int i), ρ1, sW, e2, fun iv W1 H1 φ1 l1 o1 => ?_⟩
      obtain ⟨w', q1, q2⟩ := o1.ss.sl xi _ e4
      rw [hw] at q1; cases q1
      generalize hφ : φ1 xi = lx at q2
      cases q2 with
      | @ow a xs _ h1 h2 h3 =>
      have hiv : iv = .int i := by
        cases o1.rx with
        | rv z => cases z with
          | fz z => cases z; rfl
      have fv1 : Fz X.K W1 H1 v d := fv.xt (o1.ev.xt sW.notW)
      have ain : InF φ1 a := ⟨xi, by rw [hφ]; exact List.mem_cons_self⟩
      refine ⟨a, xs, i, j, rfl, hiv, h1, by rw [h3.length]; exact e5, ?_⟩
      -- the list changed
      have up : ∀ b ob, H1 b = some ob → b ≠ a → upd H1 a (.lst (xs.set j v)) b = some ob := fun b ob e n => by rw [upd_ne n]; exact e
      have xt1 : Wxt W1 H1 W1 (upd H1 a (.lst (xs.set j v))) := ⟨fun _ h => h, fun b ob e q => up b ob e fun z => by
        subst z
        rw [h1] at e; cases e
        exact q.elim h2 id⟩
      have ev2 : Ev (fun b => b = a) W1 H1 W1 (upd H1 a (.lst (xs.set j v))) := ⟨fun _ h => h, fun b ob e q => up b ob e fun z => by
        subst z
        rw [h1] at e; cases e
        exact q rfl, fun _ _ _ _ h => h⟩
      have wf2 : ∀ b, W1 b → ∃ ob, upd H1 a (.lst (xs.set j v)) b = some ob := fun b h => by
        obtain ⟨ob, e⟩ := o1.ss.wf b h
        exact ⟨ob, up b ob e fun z => h2 (z ▸ h)⟩
      have hw' : σ[xi]? = some (some (.ref a)) := hw
      have sd := o1.ss.del' xi
      have nin : ∀ b, InF (delF φ1 xi) b → ¬ b = a := by
        rintro b ⟨j', hj⟩ rfl
        unfold delF at hj
        split at hj
        · cases hj
        · rename_i n
          exact n (o1.ss.dj j' xi b hj (by rw [hφ]; exact List.mem_cons_self))
      have sd2 := sd.ev ev2 xt1 nin wf2
      have rv2 : RV X.K W1 (upd H1 a (.lst (xs.set j v))) (.ref a) (.ow (ds.set j d)) [a] := .ow upd_same h2 ((FzA.set fv1 j h3).xt xt1)
      have sf := sd2.put (i := xi) hw' rv2 (fun b hb q => nin b q (List.mem_singleton.mp hb))
      rw [List.set_set] at sf
      have evT : Ev (fpl φ l) W H W1 (upd H1 a (.lst (xs.set j v))) := by
        refine (evf.mono (fp1 := fpl φ l) fun x h => .inl (.inr h)).trans (fp1 := fun x => InF φ x ∨ InF φ1 x) ?_ (Ev.trans (fp := fun x => InF φ x ∨ InF φ1 x) (fp1 := fun b => b = a) (o1.ev.mono fun x h => .inl (.inl h)) (fun x h => .inl (.inr (h ▸ ain))) ev2)
        intro x h
        rcases h with h | h
        · exact .inl (.inl h)
        · exact (o1.sub x h).imp .inl id
      refine k σ _ _ _ ⟨evT, sf, fun b hb => ?_, fun _ _ => rfl, rfl⟩
      rcases setF_in hb with h | h
      · exact (o1.sub b (delF_sub h)).imp .inl id
      · obtain rfl := List.mem_singleton.mp h
        exact (o1.sub b ain).imp .inl id
  · cases hs
end

/-! ### target = value -/
def asgS (f : DE) (st : DTg) : DS := fun ρ => (f ρ).bind fun p => match p.1 with
  | .pk _ => none
  | r => (st r p.2).bind fun ρ' => some (.nx ρ')
def notPk : Vl → Bool
  | .pk _ => false
  | _ => true
/-- a, b = x, y: the values as they are -/
def parS (fs : DA) (sts : List DTg) : DS := fun ρ => (fs ρ).bind fun p => if p.1.all notPk then (stL sts p.1 p.2).bind fun ρ' => some (.nx ρ') else none
section
variable {K : PySem.W.Frag} {W W1 W2 : Addr → Prop} {H H1 H2 : Hp} {σ σ1 σ2 : L2.St} {ρ ρ1 ρ2 : Rho} {φ φ1 φ2 : Fp} {l ls : List Addr} {vs : List V} {rs : List Vl} {v : V} {r : Vl} {fx tv : List Nat}
theorem RX.toRV (h : RX K W H σ v r l) (n : notPk r = true) : RV K W H v r l := by
  cases h with
  | rv h => exact h
  | pk h => cases n
theorem RXs.toRVs (h : RXs K W H σ vs rs l) (n : rs.all notPk = true) : RVs K W H vs rs l := by
  induction h with
  | nil => exact .nil
  | cons h _ d ih =>
    rw [List.all_cons, Bool.and_eq_true] at n
    exact .cons (h.toRV n.1) (ih n.2) d
/-- an expression, then a target -/
theorem OutG.s (s : SS K W H σ ρ φ) (ev : Ev (InF φ) W H W1 H1) (sub : ∀ a, InF φ1 a → InF φ a ∨ H a = none) (subl : ∀ a ∈ l, InF φ a ∨ H a = none) (g : OutG K W1 H1 (fpl φ1 l) σ tv ρ2 σ2 W2 H2 φ2) (hx : ∀ i ∈ fx, i ∉ tv) : OutS K W H (InF φ) σ fx ρ2 σ2 W2 H2 φ2 := by
  have s1 : ∀ a, fpl φ1 l a → InF φ a ∨ H a = none := fun a h => h.elim (sub a) (subl a)
  refine ⟨ev.trans s1 g.ev, g.ss, fun a h => ?_, fun i hi => g.tv i (hx i hi)⟩
  rcases g.sub a h with z | z
  · exact s1 a z
  · cases e : H a with
    | none => exact .inr rfl
    | some ob =>
      by_cases f : InF φ a
      · exact .inl f
      · rw [ev.keep a ob e fun z => absurd z f] at z; cases z
end
section
variable {X : Cx} {pos : Pos} {e tg : Expr} {es ts : List Expr} {st : DTg} {sts : List DTg} {tv fx : List Nat} {f : DE} {fs : DA}
theorem tX_asg {K : PySem.W.Frag} {E : Ends} {σ : L2.St} {H : Hp} (hx : ∀ i ∈ fx, i ∉ tv) (h : tXS K fx (asgS f st) E σ H) : tX K f σ H fun x H1 => tXG K tv st x σ H1 E.nx := by
  obtain ⟨W, ρ, φ, fl, s, hf, k⟩ := h
  unfold asgS at hf
  obtain ⟨⟨r, ρ1⟩, e1, hf⟩ := Option.bind_eq_some_iff.mp hf
  split at hf
  · cases hf
  · rename_i n
    obtain ⟨ρ2, e2, hf⟩ := Option.bind_eq_some_iff.mp hf
    cases hf
    refine ⟨W, ρ, φ, r, ρ1, s, e1, fun v W1 H1 φ1 l o => ?_⟩
    have n' : notPk r = true := by
      cases r <;> first | rfl | exact absurd rfl (n _)
    exact ⟨W1, ρ1, φ1, r, l, ρ2, o.ss, o.rx.toRV n', o.dj, e2, fun σ2 W2 H2 φ2 g => k σ2 W2 H2 φ2 (OutG.s s o.ev o.sub o.subl g hx)⟩
theorem px_asg (he : PX X e f) (hg : PXG X tg tv st) (hx : ∀ i ∈ fx, i ∉ tv := by decide) (hs : swapsWithSole [tg] e pos.line X.env = pure false := by rfl) (hw : swappedStores [tg] e X.env = pure none := by rfl)
    (h1 : (assignEach [tg] X.env).map (·.2) = [assign tg X.env] := by rfl) : PXS X fx (.Assign [tg] e pos) (asgS f st) :=
  PS.mono (ps_asg he hg hs hw h1) fun _ _ _ h => tX_asg hx h
/-- name = value -/
theorem px_set (i : Nat) {x : Str} {pos' : Pos} (hN : X.N.Nodup) (he : PX X e f) (hi : X.N[i]? = some x := by rfl) (hl : Loc X.env.scope x := by first | exact Or.inl rfl | exact Or.inr rfl) (hx : ∀ j ∈ fx, j ∉ [i] := by decide)
    (hs : swapsWith e (some (.Name x pos')) pos.line X.env = pure false := by rfl) (hf : X.fn x = true ∨ X.env.scope.names.lookup x = some .local := by first | exact .inl rfl | exact .inr rfl | assumption) : PXS X fx (.Assign [.Name x pos'] e pos) (asgS f (nameT i)) := by
  refine PS.mono (ps_set hN hi hl he hs hf) ?_
  intro E σ H h
  have := tX_asg (tv := [i]) hx h
  obtain ⟨W, ρ, φ, r, ρ1, s, e1, k⟩ := this
  refine ⟨W, ρ, φ, r, ρ1, s, e1, fun v W1 H1 φ1 l o => ?_⟩
  obtain ⟨W2, ρ2, φ2, r2, l2, ρ3, s2, rv, dj, hst, k2⟩ := k v W1 H1 φ1 l o
  cases hst
  show E.nx (σ.set i (some v)) H1
  refine k2 _ W2 H1 _ ⟨Ev.refl .., s2.set rv dj, fun a h => .inl ((setF_in h).elim .inl .inr), fun j hj => ?_, by rw [List.length_set]⟩
  rw [List.getElem?_set_ne]
  rintro rfl
  exact hj List.mem_cons_self
end
end DL

namespace DL
open PySem PySem.Spec PyProof.Rows L2

section
variable {X : Cx} {pos : Pos} {e tg : Expr} {es ts : List Expr} {st : DTg} {sts : List DTg} {tv fx : List Nat} {f : DE} {fs : DA}
theorem parS_inv {sts : List DTg} {fs : DA} {ρ : Rho} {fl : Fl} (h : parS fs sts ρ = some fl) : ∃ rs ρ1 ρ2, fs ρ = some (rs, ρ1) ∧ rs.all notPk = true ∧ stL sts rs ρ1 = some ρ2 ∧ fl = .nx ρ2 := by
  unfold parS at h
  obtain ⟨⟨rs, ρ1⟩, e1, h⟩ := Option.bind_eq_some_iff.mp h
  split at h
  · rename_i n
    obtain ⟨ρ2, e2, h⟩ := Option.bind_eq_some_iff.mp h
    cases h
    exact ⟨rs, ρ1, ρ2, e1, n, e2, rfl⟩
  · cases h
theorem set_out {K : PySem.W.Frag} {W : Addr → Prop} {H : Hp} {σ : L2.St} {ρ : Rho} {φ : Fp} {v : V} {r : Vl} {l : List Addr} {i : Nat} (s : SS K W H σ ρ φ) (rv : RV K W H v r l) (dj : ∀ a ∈ l, ¬ InF φ a) :
    OutG K W H (fpl φ l) σ [i] (ρ.set i (some r)) (σ.set i (some v)) W H (setF φ i l ρ.length) := by
  refine ⟨Ev.refl .., s.set rv dj, fun a h => .inl ((setF_in h).elim .inl .inr), fun j hj => ?_, by rw [List.length_set]⟩
  rw [List.getElem?_set_ne]
  rintro rfl
  exact hj List.mem_cons_self
/-- stores of names, one after another -/
theorem sets_out {K : PySem.W.Frag} {W : Addr → Prop} {H : Hp} : ∀ (is : List Nat) {σ : L2.St} {ρ ρ' : Rho} {φ : Fp} {vs : List V} {rs : List Vl} {l : List Addr}, SS K W H σ ρ φ → RVs K W H vs rs l → (∀ a ∈ l, ¬ InF φ a) → stL (is.map nameT) rs ρ = some ρ' →
    ∃ φ', OutG K W H (fpl φ l) σ is ρ' ((is.zip vs).foldl (fun σ p => σ.set p.1 (some p.2)) σ) W H φ'
  | [], σ, ρ, ρ', φ, _, _, _, s, .nil, dj, h => by
    cases h
    exact ⟨φ, Ev.refl .., s, fun a h => .inl (.inl h), fun _ _ => rfl, rfl⟩
  | [], _, _, _, _, _, _, _, s, .cons _ _ _, dj, h => by cases h
  | i :: is, _, _, _, _, _, _, _, s, .nil, dj, h => by cases h
  | i :: is, σ, ρ, ρ', φ, _, _, _, s, .cons (v := v) (vs := vs) (r := r) (rs := rs) (l := l) (ls := ls) hv hr d, dj, h => by
    rw [List.map_cons] at h
    unfold stL at h
    obtain ⟨ρ1, e1, h⟩ := Option.bind_eq_some_iff.mp h
    cases e1
    have dl : ∀ a ∈ l, ¬ InF φ a := fun a h => dj a (List.mem_append_left _ h)
    have dls : ∀ a ∈ ls, ¬ InF φ a := fun a h => dj a (List.mem_append_right _ h)
    have o1 := set_out (i := i) s hv dl
    obtain ⟨φ', o2⟩ := sets_out is o1.ss hr (fun a h q => (setF_in q).elim (dls a h) fun z => d a z h) h
    exact ⟨φ', OutG.cons s hv hr dl o1 d dls o2⟩
theorem tXA_par {K : PySem.W.Frag} {E : Ends} {σ : L2.St} {H : Hp} (is : List Nat) (hx : ∀ i ∈ fx, i ∉ is) (h : tXS K fx (parS fs (is.map nameT)) E σ H) :
    tXA K fs σ H fun vs H1 => vs.length = is.length ∧ E.nx ((is.zip vs).foldl (fun σ p => σ.set p.1 (some p.2)) σ) H1 := by
  obtain ⟨W, ρ, φ, fl, s, hf, k⟩ := h
  obtain ⟨rs, ρ1, ρ2, e1, n, e2, rfl⟩ := parS_inv hf
  refine ⟨W, ρ, φ, rs, ρ1, s, e1, fun vs W1 H1 φ1 l o => ?_⟩
  have rv := o.rx.toRVs n
  obtain ⟨φ2, g⟩ := sets_out is o.ss rv o.dj e2
  refine ⟨?_, k _ W1 H1 φ2 (OutG.s s o.ev o.sub o.subl g hx)⟩
  have ll : ∀ (sts : List DTg) (rs : List Vl) (ρ : Rho), stL sts rs ρ = some ρ2 → sts.length = rs.length := by
    intro sts
    induction sts with
    | nil => intro rs ρ h; cases rs with
      | nil => rfl
      | cons => cases h
    | cons s ss ih => intro rs ρ h; cases rs with
      | nil => cases h
      | cons r rs =>
        unfold stL at h
        obtain ⟨ρ1, _, h⟩ := Option.bind_eq_some_iff.mp h
        rw [List.length_cons, List.length_cons, ih rs ρ1 h]
  have := ll _ _ _ e2
  rw [List.length_map] at this
  rw [rv.length, this]
theorem px_par2 (i j : Nat) {x y : Str} {a b : Expr} {px py pt : Pos} {kt k2 pt2} (hc : X.calm = true) (hN : X.N.Nodup) (ha : PXA X [a, b] fs) (hi : X.N[i]? = some x := by rfl) (hj : X.N[j]? = some y := by rfl) (hij : i ≠ j := by decide)
    (hx : X.env.scope.names.lookup x = some .local := by rfl) (hy : X.env.scope.names.lookup y = some .local := by rfl) (hfx : ∀ k ∈ fx, k ∉ [i, j] := by decide)
    (hw : swappedStores [.Tuple [.Name x px, .Name y py] kt pt] (.Tuple [a, b] k2 pt2) X.env = pure (some [x, y]) := by rfl)
    (hs : swapsWithSole [.Tuple [.Name x px, .Name y py] kt pt] (.Tuple [a, b] k2 pt2) pos.line X.env = pure false := by rfl) :
    PXS X fx (.Assign [.Tuple [.Name x px, .Name y py] kt pt] (.Tuple [a, b] k2 pt2) pos) (parS fs [nameT i, nameT j]) := by
  refine PS.mono (ps_par hc hN hi hj hij hx hy ha hw hs) ?_
  intro E σ H h
  obtain ⟨W, ρ, φ, rs, ρ1, s, e1, k⟩ := tXA_par [i, j] hfx h
  refine ⟨W, ρ, φ, rs, ρ1, s, e1, fun vs W1 H1 φ1 l o => ?_⟩
  obtain ⟨hl, q⟩ := k vs W1 H1 φ1 l o
  match vs, hl with
  | [v, w], _ => exact ⟨v, w, rfl, q⟩
/-- the same, any targets, by a tuple that is not kept -/
theorem px_parT {k : Nat} {n : Nat} {x1 pt2 tpos : _} (hc : X.calm = true) (ha : PXA X es fs) (hg : PXGs X ts tv sts) (hn : (assignEach ts X.env).length = n := by rfl) (hst : (assignEach ts X.env).findIdx? (·.1) = none := by rfl) (hlen : sts.length = n := by rfl) (hn2 : n ≤ 1000 := by decide) (hx : ∀ i ∈ fx, i ∉ tv := by decide)
    (hs : swapsWithSole [.Tuple ts k tpos] (.Tuple es x1 pt2) pos.line X.env = pure false := by rfl) (hw : swappedStores [.Tuple ts k tpos] (.Tuple es x1 pt2) X.env = pure none := by rfl)
    (h1 : (assignEach [.Tuple ts k tpos] X.env).map (·.2) = [assign (.Tuple ts k tpos) X.env] := by rfl) : PXS X fx (.Assign [.Tuple ts k tpos] (.Tuple es x1 pt2) pos) (parS fs sts) := by
  refine PS.mono (ps_asg (pe_tup ha) (pg_tup hc hg hn hst) hs hw h1) ?_
  rintro E σ H ⟨W, ρ, φ, fl, s, hf, k⟩
  obtain ⟨rs, ρ1, ρ2, e1, nn, e2, rfl⟩ := parS_inv hf
  refine ⟨W, ρ, φ, rs, ρ1, s, e1, fun vs W1 H1 φ1 l o => ?_⟩
  have rv := o.rx.toRVs nn
  have ll : ∀ (sts : List DTg) (rs : List Vl) (ρ : Rho), stL sts rs ρ = some ρ2 → sts.length = rs.length := by
    intro sts
    induction sts with
    | nil => intro rs ρ h; cases rs with
      | nil => rfl
      | cons => cases h
    | cons s ss ih => intro rs ρ h; cases rs with
      | nil => cases h
      | cons r rs =>
        unfold stL at h
        obtain ⟨ρ1, _, h⟩ := Option.bind_eq_some_iff.mp h
        rw [List.length_cons, List.length_cons, ih rs ρ1 h]
  have l1 := ll _ _ _ e2
  have lv : vs.length = n := by rw [rv.length, ← l1, hlen]
  refine ⟨small_size (by rw [lv]; exact hn2), fun p np => ?_⟩
  have up : ∀ a ob, H1 a = some ob → upd H1 p (.tup vs) a = some ob := fun a ob e => by rw [upd_ne (ne_of_none e np)]; exact e
  have evp : Ev (fun _ => False) W1 H1 W1 (upd H1 p (.tup vs)) := Ev.grow up
  have xtp : Wxt W1 H1 W1 (upd H1 p (.tup vs)) := ⟨fun _ h => h, fun a ob e _ => up a ob e⟩
  have sp := o.ss.ev evp xtp (fun _ _ z => z) fun a h => let ⟨ob, e⟩ := o.ss.wf a h; ⟨ob, up a ob e⟩
  refine ⟨p, vs, rfl, .of upd_same, lv, W1, ρ1, φ1, rs, l, ρ2, sp, rv.ev evp xtp (fun _ _ z => z), o.dj, e2, fun σ2 W2 H2 φ2 g => k σ2 W2 H2 φ2 ?_⟩
  refine OutG.s s (o.ev.trans (fp1 := fun _ => False) (fun _ z => z.elim) evp) o.sub o.subl g hx
end

/-! ### what is walked -/
abbrev DI := Rho → Option (List D × Rho)
/-- from the state W, H on the iterator J yields ds, whatever is done to what is not fixed -/
def Walks (K : PySem.W.Frag) (W : Addr → Prop) (H : Hp) (J : It) (ds : List D) : Prop :=
  ∀ (i : Nat) (W1 : Addr → Prop) (H1 : Hp), Wxt W H W1 H1 → (∀ d, ds[i]? = some d → J.go i H1 ∧ ∀ x H2, J.yld i H1 x H2 → (∀ a o, H1 a = some o → H2 a = some o) ∧ Fz K W1 H2 x d) ∧ (ds.length ≤ i → J.stop i H1)
def tXI (K : PySem.W.Frag) (f : DI) : TI := fun σ H R => ∃ W ρ φ ds ρ', SS K W H σ ρ φ ∧ f ρ = some (ds, ρ') ∧ ∀ J W' H' φ', OutT K W H (InF φ) σ ρ' W' H' φ' → Walks K W' H' J ds → R J H'
abbrev PXI (X : Cx) (tg e : Expr) (f : DI) : Prop := PI X tg e (tXI X.K f)
section
variable {K : PySem.W.Frag} {W W1 W2 : Addr → Prop} {H H1 H2 : Hp} {σ : L2.St} {ρ ρ1 : Rho} {φ φ1 : Fp} {l : List Addr} {v : V} {r : Vl}
/-- the value of an expression made fixed -/
theorem Out.fix (s : SS K W H σ ρ φ) (o : Out K W H (InF φ) σ ρ1 r v W1 H1 φ1 l) {d : D} (e : frz r = some d) : OutT K W H (InF φ) σ ρ1 (Or W1 l) H1 φ1 ∧ Fz K (Or W1 l) H1 v d := by
  have ev : Ev (fun a => a ∈ l) W1 H1 (Or W1 l) H1 := ⟨fun _ h => .inl h, fun _ _ h _ => h, fun a o h n q => q.elim id fun z => absurd z n⟩
  refine ⟨⟨o.ev.trans (fp1 := fun a => a ∈ l) o.subl ev, o.ss.ev ev Wxt.or (fun a h q => o.dj a q h) fun a h => h.elim (o.ss.wf a) fun z => let ⟨_, ob, q, _⟩ := o.rx.own a z; ⟨ob, q⟩, o.sub⟩, o.rx.frz (fun _ h => .inl h) (fun b h => .inr h) e⟩
theorem Wxt.sq {a : Addr} {xs : List V} (x : Wxt W H W1 H1) (w : W a) (h : H a = some (.lst xs)) : SqL K H1 a xs := .of (x.fix _ _ h (.inl w))
theorem walks_list {a : Addr} {xs : List V} {ds : List D} (w : ∀ W1 H1, Wxt W H W1 H1 → SqL K H1 a xs) (f : FzA K W H xs ds) : Walks K W H (Itl K a) ds := by
  intro i W1 H1 x
  refine ⟨fun d e => ?_, fun h => ⟨xs, w W1 H1 x, by rw [f.length]; exact h⟩⟩
  obtain ⟨v, e1, e2⟩ := f.getD e
  refine ⟨⟨xs, v, w W1 H1 x, e1⟩, ?_⟩
  rintro y H2 ⟨rfl, h⟩
  have := h xs (w W1 _ x)
  rw [e1] at this
  cases this
  exact ⟨fun _ _ h => h, e2.xt x⟩
theorem walks_tup {a : Addr} {xs : List V} {ds : List D} (w : SqT K H a xs) (f : FzA K W H xs ds) : Walks K W H (Itt K a) ds := by
  intro i W1 H1 x
  have w1 := SqT.xt x w
  refine ⟨fun d e => ?_, fun h => ⟨xs, w1, by rw [f.length]; exact h⟩⟩
  obtain ⟨v, e1, e2⟩ := f.getD e
  refine ⟨⟨xs, v, w1, e1⟩, ?_⟩
  rintro y H2 ⟨rfl, h⟩
  have := h xs w1
  rw [e1] at this
  cases this
  exact ⟨fun _ _ h => h, e2.xt x⟩
end
/-- the items of a value that is fixed from here on -/
def seqD : D → Option (List D)
  | .list ds => some ds
  | .tuple ds => some ds
  | _ => none
def frzL : Vl → Option D
  | .lk ds => some (.list ds)
  | v => frz v
def seqI (f : DE) : DI := fun ρ => (f ρ).bind fun p => (frzL p.1).bind fun d => (seqD d).bind fun ds => some (ds, p.2)
section
variable {X : Cx} {pos : Pos} {e tg : Expr} {f : DE}
/-- a list or a tuple -/
theorem pi_both {te : TE} (he : PE X e te) : PI X tg e (fun σ H R => te σ H fun x H1 => ∃ a, x = .ref a ∧ (((∃ xs, SqL X.K H1 a xs) ∧ R (Itl X.K a) H1) ∨ ((∃ xs, SqT X.K H1 a xs) ∧ R (Itt X.K a) H1))) := by
  constructor
  intro pins s σ H R I h
  refine thn (he.run pins s σ H _ I h) ?_
  rintro v s1 ⟨x, H1, I1, r1, a, rfl, q⟩
  cases r1
  have new : ∀ b ∈ [s1.heap.objs.size], FpOk X pins H1 b := fun b hb => by
    obtain rfl := List.mem_singleton.mp hb
    exact I1.fpOk (Nat.le_refl _) (I1.hok.fresh (Nat.le_refl _))
  rcases q with ⟨⟨xs, hq⟩, q⟩ | ⟨⟨xs, hq⟩, q⟩
  · obtain ⟨its, rv, p, hz⟩ := I1.list hq
    refine wpAny_pyIter_list p.isList ?_
    exact ⟨_, [_], _, _, H1, rfl, I1.kept (t' := s1.toks) fun b o e => Heap.get?_push_of_some _ e, turn_list a _, ⟨_, Heap.get?_push_size _ rfl, rfl, rfl⟩, new, q⟩
  · obtain ⟨its, rv, p, hz⟩ := I1.tuple hq
    refine wpAny_pyIter_tuple (show s1.heap.IsTuple a its.toArray from p) ?_
    exact ⟨_, [_], _, _, H1, rfl, I1.kept (t' := s1.toks) fun b o e => Heap.get?_push_of_some _ e, turn_tuple a _, ⟨_, Heap.get?_push_size _ rfl, rfl, rfl⟩, new, q⟩
theorem pxi_seq (he : PX X e f) : PXI X tg e (seqI f) := by
  refine PI.mono (pi_both he) ?_
  rintro σ H R ⟨W, ρ, φ, ds, ρ', s, hf, k⟩
  unfold seqI at hf
  obtain ⟨⟨r, ρ1⟩, e1, hf⟩ := Option.bind_eq_some_iff.mp hf
  obtain ⟨d, e2, hf⟩ := Option.bind_eq_some_iff.mp hf
  obtain ⟨ds', e3, hf⟩ := Option.bind_eq_some_iff.mp hf
  cases hf
  refine ⟨W, ρ, φ, r, _, s, e1, fun v W1 H1 φ1 l o => ?_⟩
  by_cases hk : ∃ es, r = .lk es
  · obtain ⟨es, rfl⟩ := hk
    cases e2
    cases e3
    cases o.rx with
    | rv z => cases z with
      | lk a b => exact ⟨_, rfl, .inl ⟨⟨_, a.sq⟩, k _ W1 H1 φ1 o.t (walks_list (fun W2 H2 x => (a.xt x).sq) b)⟩⟩
  · have e2' : frz r = some d := by
      cases r <;> first | exact e2 | exact absurd ⟨_, rfl⟩ hk
    obtain ⟨o2, fz⟩ := o.fix s e2'
    cases fz with
    | lst w h g => cases e3; exact ⟨_, rfl, .inl ⟨⟨_, .of h⟩, k _ _ H1 φ1 o2 (walks_list (fun W2 H2 x => x.sq w h) g)⟩⟩
    | tup h g => cases e3; exact ⟨_, rfl, .inr ⟨⟨_, h⟩, k _ _ H1 φ1 o2 (walks_tup h g)⟩⟩
    | non => cases e3
    | bl => cases e3
    | int => cases e3
    | str => cases e3
    | dct => cases e3
end
end DL

namespace DL
open PySem PySem.Spec PyProof.Rows L2
noncomputable section

/-! ### ranges, pairs -/
def rngD (lo : Int) (n : Nat) : List D := (List.range n).map fun t : Nat => .int (lo + (t : Int))
def rngDn (hi : Int) (n : Nat) : List D := (List.range n).map fun t : Nat => .int (hi - (t : Int))
theorem smallX : ∃ f : Int → Bool, ∀ i, f i = decide (-4611686018427387904 ≤ i ∧ i < 4611686018427387904) := ⟨fun i => decide (-4611686018427387904 ≤ i ∧ i < 4611686018427387904), fun _ => rfl⟩
def smallI : Int → Bool := Classical.choose smallX
theorem smallI_eq (i : Int) : smallI i = decide (-4611686018427387904 ≤ i ∧ i < 4611686018427387904) := Classical.choose_spec smallX i
def rngI1 (fs : DA) : DI := fun ρ => (fs ρ).bind fun p => (curA p.2 p.1).bind fun ds => match ds with
  | [.int j] => if smallI j then some (rngD 0 j.toNat, p.2) else none
  | _ => none
def rngI2 (fs : DA) : DI := fun ρ => (fs ρ).bind fun p => (curA p.2 p.1).bind fun ds => match ds with
  | [.int i, .int j] => if smallI i && smallI j then some (rngD i (j - i).toNat, p.2) else none
  | _ => none
/-- range(i, j, -1) -/
def rngI3 (fs : DA) : DI := fun ρ => (fs ρ).bind fun p => (curA p.2 p.1).bind fun ds => match ds with
  | [.int i, .int j, .int c] => if smallI i && smallI j && decide (c = -1) then some (rngDn i (i - j).toNat, p.2) else none
  | _ => none
def zipD : List D → List D → List D
  | a :: as, b :: bs => .tuple [a, b] :: zipD as bs
  | _, _ => []
def zipI (fs : DA) : DI := fun ρ => (fs ρ).bind fun p => (frzA p.1).bind fun ds => match ds with
  | [.list a, .list b] => some (zipD a b, p.2)
  | [.tuple a, .tuple b] => some (zipD a b, p.2)
  | _ => none
def enumD : Nat → List D → List D
  | _, [] => []
  | n, d :: ds => .tuple [.int (n : Int), d] :: enumD (n + 1) ds
def enumI (fs : DA) : DI := fun ρ => (fs ρ).bind fun p => (frzA p.1).bind fun ds => match ds with
  | [.list a] => some (enumD 0 a, p.2)
  | _ => none
def revI (f : DE) : DI := fun ρ => (f ρ).bind fun p => (frz p.1).bind fun d => (seqD d).bind fun ds => some (ds.reverse, p.2)
section
variable {K : PySem.W.Frag} {W W1 W2 : Addr → Prop} {H H1 H2 : Hp} {σ : L2.St} {ρ ρ1 : Rho} {φ φ1 : Fp} {l : List Addr} {vs : List V} {rs : List Vl}
theorem OutA.fix (o : OutA K W H (InF φ) σ ρ1 rs vs W1 H1 φ1 l) {ds : List D} (e : frzA rs = some ds) : OutT K W H (InF φ) σ ρ1 (Or W1 l) H1 φ1 ∧ FzA K (Or W1 l) H1 vs ds := by
  have ev := Ev.freeze o.rx
  exact ⟨⟨o.ev.trans (fp1 := fun a => a ∈ l) o.subl ev, o.ss.ev ev Wxt.or (fun a h q => o.dj a q h) (wf_freeze o.rx o.ss.wf), o.sub⟩, o.rx.frz (fun _ h => .inl h) (fun b h => .inr h) e⟩
theorem OutA.t (o : OutA K W H (InF φ) σ ρ1 rs vs W1 H1 φ1 l) : OutT K W H (InF φ) σ ρ1 W1 H1 φ1 := ⟨o.ev, o.ss, o.sub⟩
theorem CtR.int_inv {v : V} {i : Int} (h : CtR K H v (.int i)) : v = .int i := by
  cases h with
  | ct h => cases h; rfl
theorem CtRA.int1 {vs : List V} {i : Int} (h : CtRA K H vs [.int i]) : vs = [.int i] := by
  cases h with
  | cons h t => cases t; rw [h.int_inv]
theorem CtRA.int2 {vs : List V} {i j : Int} (h : CtRA K H vs [.int i, .int j]) : vs = [.int i, .int j] := by
  cases h with
  | cons h t => rw [h.int_inv, t.int1]
theorem CtRA.int3 {vs : List V} {i j k : Int} (h : CtRA K H vs [.int i, .int j, .int k]) : vs = [.int i, .int j, .int k] := by
  cases h with
  | cons h t => rw [h.int_inv, t.int2]
theorem rngD_get {lo : Int} {n i : Nat} {d : D} (h : (rngD lo n)[i]? = some d) : i < n ∧ d = .int (lo + i) := by
  unfold rngD at h
  rw [List.getElem?_map] at h
  cases e : (List.range n)[i]? with
  | none => rw [e] at h; cases h
  | some t =>
    rw [e] at h
    have q := List.getElem?_eq_some_iff.mp e
    obtain ⟨q1, q2⟩ := q
    rw [List.getElem_range] at q2
    subst q2
    rw [List.length_range] at q1
    cases h
    exact ⟨q1, rfl⟩
theorem rngDn_get {lo : Int} {n i : Nat} {d : D} (h : (rngDn lo n)[i]? = some d) : i < n ∧ d = .int (lo - i) := by
  unfold rngDn at h
  rw [List.getElem?_map] at h
  cases e : (List.range n)[i]? with
  | none => rw [e] at h; cases h
  | some t =>
    rw [e] at h
    have q := List.getElem?_eq_some_iff.mp e
    obtain ⟨q1, q2⟩ := q
    rw [List.getElem_range] at q2
    subst q2
    rw [List.length_range] at q1
    cases h
    exact ⟨q1, rfl⟩
theorem rngD_length {lo : Int} {n : Nat} : (rngD lo n).length = n := by unfold rngD; rw [List.length_map, List.length_range]
theorem rngDn_length {lo : Int} {n : Nat} : (rngDn lo n).length = n := by unfold rngDn; rw [List.length_map, List.length_range]
theorem walks_rng (lo : Int) (n : Nat) : Walks K W H (Itr lo n) (rngD lo n) := by
  intro i W1 H1 x
  refine ⟨fun d e => ?_, fun h => by rw [rngD_length] at h; exact h⟩
  obtain ⟨h1, rfl⟩ := rngD_get e
  refine ⟨h1, ?_⟩
  rintro y H2 ⟨rfl, rfl⟩
  exact ⟨fun _ _ h => h, .int _⟩
theorem walks_rngDn (lo : Int) (n : Nat) : Walks K W H (Itc lo (-1) n) (rngDn lo n) := by
  intro i W1 H1 x
  refine ⟨fun d e => ?_, fun h => by rw [rngDn_length] at h; exact h⟩
  obtain ⟨h1, rfl⟩ := rngDn_get e
  refine ⟨h1, ?_⟩
  rintro y H2 ⟨rfl, rfl⟩
  refine ⟨fun _ _ h => h, ?_⟩
  have e : lo + (i : Int) * -1 = lo - i := by omega
  rw [e]
  exact .int _
theorem zipD_get : ∀ {as bs : List D} {i : Nat} {d : D}, (zipD as bs)[i]? = some d → ∃ a b, as[i]? = some a ∧ bs[i]? = some b ∧ d = .tuple [a, b]
  | [], _, _, _, h => by simp [zipD] at h
  | _ :: _, [], _, _, h => by simp [zipD] at h
  | a :: as, b :: bs, 0, d, h => by
    simp [zipD] at h
    exact ⟨a, b, rfl, rfl, h.symm⟩
  | a :: as, b :: bs, i + 1, d, h => by
    simp only [zipD, List.getElem?_cons_succ] at h ⊢
    exact zipD_get h
theorem zipD_length : ∀ {as bs : List D}, (zipD as bs).length = min as.length bs.length
  | [], _ => by simp [zipD]
  | _ :: _, [] => by simp [zipD]
  | a :: as, b :: bs => by simp only [zipD, List.length_cons, zipD_length]; omega
theorem pair_fz {H2 : Hp} {T : Addr} {x y : V} {a b : D} (up : ∀ c o, H1 c = some o → H2 c = some o) (hT : H2 T = some (.tup [x, y])) (h1 : Fz K W1 H1 x a) (h2 : Fz K W1 H1 y b) : Fz K W1 H2 (.ref T) (.tuple [a, b]) := by
  have x' : Wxt W1 H1 W1 H2 := ⟨fun _ h => h, fun c o e _ => up c o e⟩
  exact .tup (.of hT) (.cons (h1.xt x') (.cons (h2.xt x') .nil))
theorem upd_up {p : Addr} {o : HO} (np : H p = none) : ∀ a ob, H a = some ob → upd H p o a = some ob := fun a ob e => by rw [upd_ne (ne_of_none e np)]; exact e
theorem walks_zip {a b : Addr} {xs ys : List V} {as bs : List D} (wa : ∀ W1 H1, Wxt W H W1 H1 → SqL K H1 a xs) (wb : ∀ W1 H1, Wxt W H W1 H1 → SqL K H1 b ys) (fa : FzA K W H xs as) (fb : FzA K W H ys bs) : Walks K W H (Itz K a b) (zipD as bs) := by
  intro i W1 H1 x
  refine ⟨fun d e => ?_, fun h => ⟨xs, ys, wa W1 H1 x, wb W1 H1 x, ?_⟩⟩
  · obtain ⟨p, q, e1, e2, rfl⟩ := zipD_get e
    obtain ⟨v, g1, g2⟩ := fa.getD e1
    obtain ⟨u, g3, g4⟩ := fb.getD e2
    refine ⟨⟨xs, ys, v, u, wa W1 H1 x, wb W1 H1 x, g1, g3⟩, ?_⟩
    rintro y H2 ⟨T, x1, x2, rfl, nT, rfl, h1, h2⟩
    have q1 := h1 xs (wa W1 H1 x)
    have q2 := h2 ys (wb W1 H1 x)
    rw [g1] at q1
    rw [g3] at q2
    cases q1
    cases q2
    exact ⟨upd_up nT, pair_fz (upd_up nT) upd_same (g2.xt x) (g4.xt x)⟩
  · rw [zipD_length] at h
    rw [fa.length, fb.length]
    omega
theorem walks_zipT {a b : Addr} {xs ys : List V} {as bs : List D} (wa : SqT K H a xs) (wb : SqT K H b ys) (fa : FzA K W H xs as) (fb : FzA K W H ys bs) : Walks K W H (RZ.ItzT K a b) (zipD as bs) := by
  intro i W1 H1 x
  have wa1 := SqT.xt x wa
  have wb1 := SqT.xt x wb
  refine ⟨fun d e => ?_, fun h => ⟨xs, ys, wa1, wb1, ?_⟩⟩
  · obtain ⟨p, q, e1, e2, rfl⟩ := zipD_get e
    obtain ⟨v, g1, g2⟩ := fa.getD e1
    obtain ⟨u, g3, g4⟩ := fb.getD e2
    refine ⟨⟨xs, ys, v, u, wa1, wb1, g1, g3⟩, ?_⟩
    rintro y H2 ⟨T, x1, x2, rfl, nT, rfl, h1, h2⟩
    have q1 := h1 xs wa1
    have q2 := h2 ys wb1
    rw [g1] at q1
    rw [g3] at q2
    cases q1
    cases q2
    exact ⟨upd_up nT, pair_fz (upd_up nT) upd_same (g2.xt x) (g4.xt x)⟩
  · rw [zipD_length] at h
    rw [fa.length, fb.length]
    omega
theorem enumD_get : ∀ {as : List D} {n i : Nat} {d : D}, (enumD n as)[i]? = some d → ∃ a, as[i]? = some a ∧ d = .tuple [.int ((n + i : Nat) : Int), a]
  | [], _, _, _, h => by simp [enumD] at h
  | a :: as, n, 0, d, h => by
    simp [enumD] at h
    exact ⟨a, rfl, h.symm⟩
  | a :: as, n, i + 1, d, h => by
    simp only [enumD, List.getElem?_cons_succ] at h ⊢
    obtain ⟨b, h1, h2⟩ := enumD_get h
    refine ⟨b, h1, ?_⟩
    rw [h2]
    have : n + 1 + i = n + (i + 1) := by omega
    rw [this]
theorem enumD_length : ∀ {as : List D} {n : Nat}, (enumD n as).length = as.length
  | [], _ => rfl
  | a :: as, n => by simp only [enumD, List.length_cons, enumD_length]
theorem walks_enum {a : Addr} {xs : List V} {as : List D} (wa : ∀ W1 H1, Wxt W H W1 H1 → SqL K H1 a xs) (fa : FzA K W H xs as) : Walks K W H (Ite K a) (enumD 0 as) := by
  intro i W1 H1 x
  refine ⟨fun d e => ?_, fun h => ⟨xs, wa W1 H1 x, by rw [enumD_length] at h; rw [fa.length]; exact h⟩⟩
  obtain ⟨p, e1, rfl⟩ := enumD_get e
  obtain ⟨v, g1, g2⟩ := fa.getD e1
  refine ⟨⟨xs, v, wa W1 H1 x, g1⟩, ?_⟩
  rintro y H2 ⟨T, x1, rfl, nT, rfl, h1⟩
  have q1 := h1 xs (wa W1 H1 x)
  rw [g1] at q1
  cases q1
  refine ⟨upd_up nT, pair_fz (upd_up nT) upd_same ?_ (g2.xt x)⟩
  rw [Nat.zero_add]
  exact .int _
theorem rev_get {α : Type} {xs : List α} {i : Nat} (h : i < xs.length) : xs.reverse[i]? = xs[xs.length - 1 - i]? := List.getElem?_reverse h
theorem walks_rev {a : Addr} {xs : List V} {as : List D} (wa : ∀ W1 H1, Wxt W H W1 H1 → SqL K H1 a xs) (fa : FzA K W H xs as) : Walks K W H (Itv K a xs.length) as.reverse := by
  intro i W1 H1 x
  refine ⟨fun d e => ?_, fun h => by rw [List.length_reverse] at h; show xs.length ≤ i; rw [fa.length]; exact h⟩
  have hi : i < as.length := by
    have := (List.getElem?_eq_some_iff.mp e).1
    rwa [List.length_reverse] at this
  rw [rev_get hi] at e
  obtain ⟨v, g1, g2⟩ := fa.getD e
  rw [← fa.length] at g1
  refine ⟨⟨by rw [fa.length]; exact hi, xs, v, wa W1 H1 x, g1⟩, ?_⟩
  rintro y H2 ⟨rfl, h⟩
  have q := h xs (wa W1 _ x)
  rw [g1] at q
  cases q
  exact ⟨fun _ _ h => h, g2.xt x⟩
theorem walks_revT {a : Addr} {xs : List V} {as : List D} (wa : SqT K H a xs) (fa : FzA K W H xs as) : Walks K W H (RT.ItvT K a xs.length) as.reverse := by
  intro i W1 H1 x
  have wa1 := SqT.xt x wa
  refine ⟨fun d e => ?_, fun h => by rw [List.length_reverse] at h; show xs.length ≤ i; rw [fa.length]; exact h⟩
  have hi : i < as.length := by
    have := (List.getElem?_eq_some_iff.mp e).1
    rwa [List.length_reverse] at this
  rw [rev_get hi] at e
  obtain ⟨v, g1, g2⟩ := fa.getD e
  rw [← fa.length] at g1
  refine ⟨⟨by rw [fa.length]; exact hi, xs, v, wa1, g1⟩, ?_⟩
  rintro y H2 ⟨rfl, h⟩
  have q := h xs wa1
  rw [g1] at q
  cases q
  exact ⟨fun _ _ h => h, g2.xt x⟩
theorem smallI_iff {i : Int} (h : smallI i = true) : -(2 ^ 62) ≤ i ∧ i < 2 ^ 62 := by
  rw [smallI_eq] at h
  have := of_decide_eq_true h
  have e : (2 : Int) ^ 62 = 4611686018427387904 := by decide
  rw [e]
  omega
end
section
variable {X : Cx} {pos p : Pos} {tg a b c e e2 : Expr} {elts : List Expr} {kk : Nat} {tpos : Pos} {f : DE} {fs : DA}
theorem pxi_range1 (hm : X.mg "range" = none) (ha : PXA X [a] fs) (hg : Gl X "range" := by rfl) (hs : starEach [a] X.env = [(false, eval a X.env)] := by rfl) : PXI X tg (.Call (.Name "range" p) [a] [] pos) (rngI1 fs) := by
  refine PI.mono (pi_range1 hg hm ha hs) ?_
  rintro σ H R ⟨W, ρ, φ, ds, ρ', s, hf, k⟩
  unfold rngI1 at hf
  obtain ⟨⟨rs, ρ1⟩, e1, hf⟩ := Option.bind_eq_some_iff.mp hf
  obtain ⟨es, e2, hf⟩ := Option.bind_eq_some_iff.mp hf
  refine ⟨W, ρ, φ, rs, ρ1, s, e1, fun vs W1 H1 φ1 l o => ?_⟩
  have ct := o.rx.ctR o.ss e2
  split at hf
  · rename_i j
    split at hf
    · rename_i hz
      cases hf
      obtain ⟨h1, h2⟩ := smallI_iff hz
      exact ⟨j, ct.int1, h1, h2, k _ W1 H1 φ1 o.t (walks_rng 0 _)⟩
    · cases hf
  · cases hf
theorem pxi_range2 (hm : X.mg "range" = none) (ha : PXA X [a, b] fs) (hg : Gl X "range" := by rfl) (hs : starEach [a, b] X.env = [(false, eval a X.env), (false, eval b X.env)] := by rfl) (hs2 : starEach [b] X.env = [(false, eval b X.env)] := by rfl) : PXI X tg (.Call (.Name "range" p) [a, b] [] pos) (rngI2 fs) := by
  refine PI.mono (pi_range2 hg hm ha hs hs2) ?_
  rintro σ H R ⟨W, ρ, φ, ds, ρ', s, hf, k⟩
  unfold rngI2 at hf
  obtain ⟨⟨rs, ρ1⟩, e1, hf⟩ := Option.bind_eq_some_iff.mp hf
  obtain ⟨es, e2, hf⟩ := Option.bind_eq_some_iff.mp hf
  refine ⟨W, ρ, φ, rs, ρ1, s, e1, fun vs W1 H1 φ1 l o => ?_⟩
  have ct := o.rx.ctR o.ss e2
  split at hf
  · rename_i i j
    split at hf
    · rename_i hz
      cases hf
      obtain ⟨z1, z2⟩ := Bool.and_eq_true_iff.mp hz
      obtain ⟨h1, h2⟩ := smallI_iff z1
      obtain ⟨h3, h4⟩ := smallI_iff z2
      exact ⟨i, j, ct.int2, ⟨h1, h2, h3, h4⟩, k _ W1 H1 φ1 o.t (walks_rng i _)⟩
    · cases hf
  · cases hf
theorem pxi_range3 (hm : X.mg "range" = none) (ha : PXA X [a, b, c] fs) (hg : Gl X "range" := by rfl) (hs : starEach [a, b, c] X.env = (false, eval a X.env) :: starEach [b, c] X.env := by rfl) (hpl : (backTo pos (starEach [b, c] X.env)).any (·.1) = false := by rfl) : PXI X tg (.Call (.Name "range" p) [a, b, c] [] pos) (rngI3 fs) := by
  refine PI.mono (pi_range3 hg hm ha hs hpl) ?_
  rintro σ H R ⟨W, ρ, φ, ds, ρ', s, hf, k⟩
  unfold rngI3 at hf
  obtain ⟨⟨rs, ρ1⟩, e1, hf⟩ := Option.bind_eq_some_iff.mp hf
  obtain ⟨es, e2, hf⟩ := Option.bind_eq_some_iff.mp hf
  refine ⟨W, ρ, φ, rs, ρ1, s, e1, fun vs W1 H1 φ1 l o => ?_⟩
  have ct := o.rx.ctR o.ss e2
  split at hf
  · rename_i i j c
    split at hf
    · rename_i hz
      cases hf
      rw [Bool.and_eq_true, Bool.and_eq_true, decide_eq_true_eq] at hz
      obtain ⟨⟨z1, z2⟩, rfl⟩ := hz
      obtain ⟨h1, h2⟩ := smallI_iff z1
      obtain ⟨h3, h4⟩ := smallI_iff z2
      exact ⟨i, j, -1, _, ct.int3, RgC.neg h1 h2 h3 h4, k _ W1 H1 φ1 o.t (walks_rngDn i _)⟩
    · cases hf
  · cases hf
theorem FzA.two {K : PySem.W.Frag} {W : Addr → Prop} {H : Hp} {vs : List V} {a b : D} (h : FzA K W H vs [a, b]) : ∃ v u, vs = [v, u] ∧ Fz K W H v a ∧ Fz K W H u b := by
  cases h with
  | cons h t => cases t with
    | cons h2 t => cases t; exact ⟨_, _, rfl, h, h2⟩
theorem FzA.one' {K : PySem.W.Frag} {W : Addr → Prop} {H : Hp} {vs : List V} {a : D} (h : FzA K W H vs [a]) : ∃ v, vs = [v] ∧ Fz K W H v a := by
  cases h with
  | cons h t => cases t; exact ⟨_, rfl, h⟩
theorem Fz.list_inv {K : PySem.W.Frag} {W : Addr → Prop} {H : Hp} {v : V} {ds : List D} (h : Fz K W H v (.list ds)) : ∃ a xs, v = .ref a ∧ W a ∧ H a = some (.lst xs) ∧ FzA K W H xs ds := by
  cases h with
  | lst w h r => exact ⟨_, _, rfl, w, h, r⟩
theorem Fz.tup_inv {K : PySem.W.Frag} {W : Addr → Prop} {H : Hp} {v : V} {ds : List D} (h : Fz K W H v (.tuple ds)) : ∃ a xs, v = .ref a ∧ SqT K H a xs ∧ FzA K W H xs ds := by
  cases h with
  | tup h r => exact ⟨_, _, rfl, h, r⟩
theorem pxi_zip (hm : X.mg "zip" = none) (ha : PXA X [e, e2] fs) (hg : Gl X "zip" := by rfl) (hs : starEach [e, e2] X.env = (false, eval e X.env) :: starEach [e2] X.env := by rfl) (hpl : (backTo pos (starEach [e2] X.env)).any (·.1) = false := by rfl) :
    PXI X (.Tuple elts kk tpos) (.Call (.Name "zip" p) [e, e2] [] pos) (zipI fs) := by
  refine PI.mono (RZ.pi_zipA hg hm ha hs hpl) ?_
  rintro σ H R ⟨W, ρ, φ, ds, ρ', s, hf, k⟩
  unfold zipI at hf
  obtain ⟨⟨rs, ρ1⟩, e1, hf⟩ := Option.bind_eq_some_iff.mp hf
  obtain ⟨es, e2, hf⟩ := Option.bind_eq_some_iff.mp hf
  refine ⟨W, ρ, φ, rs, ρ1, s, e1, fun vs W1 H1 φ1 l o => ?_⟩
  obtain ⟨o2, fz⟩ := o.fix e2
  split at hf
  · cases hf
    obtain ⟨v, u, rfl, f1, f2⟩ := fz.two
    obtain ⟨a, xs, rfl, w1, h1, g1⟩ := f1.list_inv
    obtain ⟨b, ys, rfl, w2, h2, g2⟩ := f2.list_inv
    exact ⟨a, b, xs, ys, rfl, .inl ⟨.of h1, .of h2, k _ _ H1 φ1 o2 (walks_zip (fun _ _ x => x.sq w1 h1) (fun _ _ x => x.sq w2 h2) g1 g2)⟩⟩
  · cases hf
    obtain ⟨v, u, rfl, f1, f2⟩ := fz.two
    obtain ⟨a, xs, rfl, h1, g1⟩ := f1.tup_inv
    obtain ⟨b, ys, rfl, h2, g2⟩ := f2.tup_inv
    exact ⟨a, b, xs, ys, rfl, .inr ⟨h1, h2, k _ _ H1 φ1 o2 (walks_zipT h1 h2 g1 g2)⟩⟩
  · cases hf
theorem pxi_enum (hm : X.mg "enumerate" = none) (ha : PXA X [e] fs) (hg : Gl X "enumerate" := by rfl) (hs : starEach [e] X.env = [(false, eval e X.env)] := by rfl) : PXI X (.Tuple elts kk tpos) (.Call (.Name "enumerate" p) [e] [] pos) (enumI fs) := by
  refine PI.mono (pi_enum hg hm ha hs) ?_
  rintro σ H R ⟨W, ρ, φ, ds, ρ', s, hf, k⟩
  unfold enumI at hf
  obtain ⟨⟨rs, ρ1⟩, e1, hf⟩ := Option.bind_eq_some_iff.mp hf
  obtain ⟨es, e2, hf⟩ := Option.bind_eq_some_iff.mp hf
  refine ⟨W, ρ, φ, rs, ρ1, s, e1, fun vs W1 H1 φ1 l o => ?_⟩
  obtain ⟨o2, fz⟩ := o.fix e2
  split at hf
  · cases hf
    obtain ⟨v, rfl, f1⟩ := fz.one'
    obtain ⟨a, xs, rfl, w1, h1, g1⟩ := f1.list_inv
    exact ⟨a, xs, rfl, .of h1, k _ _ H1 φ1 o2 (walks_enum (fun _ _ x => x.sq w1 h1) g1)⟩
  · cases hf
theorem pxi_rev (hm : X.mg "reversed" = none) (he : PX X e f) (hg : Gl X "reversed" := by rfl) (hs : starEach [e] X.env = (false, eval e X.env) :: starEach [] X.env := by rfl) : PXI X tg (.Call (.Name "reversed" p) [e] [] pos) (revI f) := by
  refine PI.mono (RT.pi_revA hg hm he hs) ?_
  rintro σ H R ⟨W, ρ, φ, ds, ρ', s, hf, k⟩
  unfold revI at hf
  obtain ⟨⟨r, ρ1⟩, e1, hf⟩ := Option.bind_eq_some_iff.mp hf
  obtain ⟨d, e2, hf⟩ := Option.bind_eq_some_iff.mp hf
  obtain ⟨es, e3, hf⟩ := Option.bind_eq_some_iff.mp hf
  cases hf
  refine ⟨W, ρ, φ, r, _, s, e1, fun v W1 H1 φ1 l o => ?_⟩
  obtain ⟨o2, fz⟩ := o.fix s e2
  cases d with
  | list ds =>
    cases e3
    obtain ⟨a, xs, rfl, w1, h1, g1⟩ := fz.list_inv
    exact ⟨a, xs, rfl, .inl ⟨.of h1, k _ _ H1 φ1 o2 (walks_rev (fun _ _ x => x.sq w1 h1) g1)⟩⟩
  | tuple ds =>
    cases e3
    obtain ⟨a, xs, rfl, h1, g1⟩ := fz.tup_inv
    exact ⟨a, xs, rfl, .inr ⟨h1, k _ _ H1 φ1 o2 (walks_revT h1 g1)⟩⟩
  | _ => cases e3
end

/-! ### for, while -/
def forL (st : DTg) (body : DS) : List D → DS
  | [], ρ => some (.nx ρ)
  | d :: ds, ρ => (st (.fz d) ρ).bind fun ρ1 => (body ρ1).bind fun fl => match fl with
    | .nx ρ2 => forL st body ds ρ2
    | .ct ρ2 => forL st body ds ρ2
    | .bk ρ2 => some (.nx ρ2)
    | .rt r ρ2 => some (.rt r ρ2)
def forS (it : DI) (st : DTg) (body : DS) : DS := fun ρ => (it ρ).bind fun p => forL st body p.1 p.2
def whileL (c : DT) (body : DS) : Nat → DS
  | 0, _ => none
  | n + 1, ρ => (c ρ).bind fun p => if p.1 = true then (body p.2).bind fun fl => match fl with
    | .nx ρ2 => whileL c body n ρ2
    | .ct ρ2 => whileL c body n ρ2
    | .bk ρ2 => some (.nx ρ2)
    | .rt r ρ2 => some (.rt r ρ2) else some (.nx p.2)
section
variable {K : PySem.W.Frag} {W W1 W2 : Addr → Prop} {H H1 H2 : Hp} {fp : Addr → Prop} {σ σ1 σ2 : L2.St} {ρ ρ1 ρ2 : Rho} {φ φ1 φ2 : Fp} {fx tv : List Nat} {E : Ends} {fl : Fl}
/-- new objects, then a target's store -/
theorem OutG.turn (s : SS K W H σ ρ φ) (up : ∀ a o, H a = some o → H1 a = some o) (g : OutG K W H1 (fpl φ []) σ tv ρ2 σ2 W2 H2 φ2) (hx : ∀ i ∈ fx, i ∉ tv) : OutS K W H (InF φ) σ fx ρ2 σ2 W2 H2 φ2 :=
  OutG.s (l := []) s (Ev.grow up) (fun a h => .inl h) (fun a h => nomatch h) g hx
theorem SS.grow (s : SS K W H σ ρ φ) (up : ∀ a o, H a = some o → H1 a = some o) : SS K W H1 σ ρ φ :=
  s.ev (Ev.grow (fp := fun _ => False) up) ⟨fun _ h => h, fun a o e _ => up a o e⟩ (fun _ _ z => z) fun a h => let ⟨o, e⟩ := s.wf a h; ⟨o, up a o e⟩
theorem OutS.xt (s : SS K W H σ ρ φ) (o : OutS K W H (InF φ) σ fx ρ1 σ1 W1 H1 φ1) : Wxt W H W1 H1 := o.ev.xt s.notW
end
section
variable {X : Cx} {pos : Pos} {tg it c : Expr} {sts : List Stmt} {fx tv : List Nat} {st : DTg} {fi : DI} {fb : DS} {fc : DT}
theorem px_for (hp : PassesOwn (model X.prog X.w) X.A X.env X.xe) (hc : X.calm = true) (hi : PXI X tg it fi) (hg : PXG X tg tv st) (hb : PXSs X fx sts fb) (hx : ∀ i ∈ fx, i ∉ tv := by decide)
    (hs : ∀ x, foldedSetIterable it X.env x = pure x := by intro _; rfl) : PXS X fx (.For tg it sts [] pos) (forS fi st fb) := by
  refine PS.mono (ps_for hp hc hi hg hb hs) ?_
  rintro E σ H ⟨W, ρ, φ, fl, s, hf, k⟩
  unfold forS at hf
  obtain ⟨⟨ds, ρ1⟩, e1, hf⟩ := Option.bind_eq_some_iff.mp hf
  refine ⟨W, ρ, φ, ds, ρ1, s, e1, fun J W1 H1 φ1 o wk => ?_⟩
  refine ⟨fun i m σ' H' => m + i = ds.length ∧ ∃ W' ρ' φ', SS X.K W' H' σ' ρ' φ' ∧ Wxt W1 H1 W' H' ∧ Want X.K W' H' (InF φ') σ' fx E fl ∧ forL st fb (ds.drop i) ρ' = some fl,
    ⟨ds.length, rfl, W1, ρ1, φ1, o.ss, Wxt.refl .., k.after s.hfp o.s, hf⟩, ?_⟩
  rintro i m σ' H' ⟨hm, W', ρ', φ', s', x', k', hf'⟩
  obtain ⟨w1, w2⟩ := wk i W' H' x'
  by_cases hi : i < ds.length
  · have ed : ds[i]? = some ds[i] := List.getElem?_eq_getElem hi
    rw [List.drop_eq_getElem_cons hi] at hf'
    unfold forL at hf'
    obtain ⟨ρ2, q1, hf'⟩ := Option.bind_eq_some_iff.mp hf'
    obtain ⟨flb, q2, hf'⟩ := Option.bind_eq_some_iff.mp hf'
    obtain ⟨g1, g2⟩ := w1 _ ed
    refine .inr ⟨g1, fun σ'' H'' => m - 1 + (i + 1) = ds.length ∧ ∃ W' ρ' φ', SS X.K W' H'' σ'' ρ' φ' ∧ Wxt W1 H1 W' H'' ∧ Want X.K W' H'' (InF φ') σ'' fx E fl ∧ forL st fb (ds.drop (i + 1)) ρ' = some fl, fun σ'' H'' h => ⟨m - 1, by omega, h⟩, fun x H2 hy => ?_⟩
    obtain ⟨up, fx'⟩ := g2 x H2 hy
    refine ⟨W', ρ', φ', .fz ds[i], [], ρ2, s'.grow up, .fz fx', (fun a h => nomatch h), q1, fun σ2 W2 H3 φ2 g => ?_⟩
    have o2 : OutS X.K W' H' (InF φ') σ' fx ρ2 σ2 W2 H3 φ2 := OutG.turn s' up g hx
    refine ⟨W2, ρ2, φ2, flb, o2.ss, q2, ?_⟩
    have again : ∀ {ρ3 σ3 W3 H4 φ3}, OutS X.K W2 H3 (InF φ2) σ2 fx ρ3 σ3 W3 H4 φ3 → forL st fb (ds.drop (i + 1)) ρ3 = some fl → m - 1 + (i + 1) = ds.length ∧ ∃ W' ρ' φ', SS X.K W' H4 σ3 ρ' φ' ∧ Wxt W1 H1 W' H4 ∧ Want X.K W' H4 (InF φ') σ3 fx E fl ∧ forL st fb (ds.drop (i + 1)) ρ' = some fl := by
      intro ρ3 σ3 W3 H4 φ3 o3 h3
      have o23 := o2.trans s'.hfp o3
      exact ⟨by omega, W3, ρ3, φ3, o3.ss, x'.trans (o23.xt s'), k'.after s'.hfp o23, h3⟩
    cases flb with
    | nx ρ3 => exact fun σ3 W3 H4 φ3 o3 => again o3 hf'
    | ct ρ3 => exact fun σ3 W3 H4 φ3 o3 => again o3 hf'
    | bk ρ3 => cases hf'; exact fun σ3 W3 H4 φ3 o3 => k' σ3 W3 H4 φ3 (o2.trans s'.hfp o3)
    | rt r ρ3 => cases hf'; exact k'.after s'.hfp o2
  · have e : ds.drop i = [] := List.drop_eq_nil_of_le (by omega)
    rw [e] at hf'
    cases hf'
    exact .inl ⟨w2 (by omega), k' σ' W' H' φ' (.refl s')⟩
theorem px_while (n : Nat) (hp : PassesOwn (model X.prog X.w) X.A X.env X.xe) (hc : PXT X c fc) (hb : PXSs X fx sts fb) : PXS X fx (.While c sts [] pos) (whileL fc fb n) := by
  refine PS.mono (ps_while hp hc hb) ?_
  rintro E σ H ⟨W, ρ, φ, fl, s, hf, k⟩
  refine ⟨fun m σ' H' => ∃ W' ρ' φ', SS X.K W' H' σ' ρ' φ' ∧ Want X.K W' H' (InF φ') σ' fx E fl ∧ whileL fc fb m ρ' = some fl, ⟨n, W, ρ, φ, s, k, hf⟩, ?_⟩
  rintro m σ' H' ⟨W', ρ', φ', s', k', hf'⟩
  cases m with
  | zero => cases hf'
  | succ m =>
    unfold whileL at hf'
    obtain ⟨⟨b, ρ1⟩, e1, hf'⟩ := Option.bind_eq_some_iff.mp hf'
    refine ⟨W', ρ', φ', b, ρ1, s', e1, fun W1 H1 φ1 o => ?_⟩
    cases b with
    | true =>
      rw [if_pos rfl]
      simp only [if_true] at hf'
      obtain ⟨flb, q2, hf'⟩ := Option.bind_eq_some_iff.mp hf'
      refine ⟨fun σ'' H'' => ∃ W' ρ' φ', SS X.K W' H'' σ'' ρ' φ' ∧ Want X.K W' H'' (InF φ') σ'' fx E fl ∧ whileL fc fb m ρ' = some fl, fun σ'' H'' h => ⟨m, by omega, h⟩, ?_⟩
      refine ⟨W1, ρ1, φ1, flb, o.ss, q2, ?_⟩
      have o1 : OutS X.K W' H' (InF φ') σ' fx ρ1 σ' W1 H1 φ1 := o.s
      cases flb with
      | nx ρ3 => exact fun σ3 W3 H4 φ3 o3 => ⟨W3, ρ3, φ3, o3.ss, k'.after s'.hfp (o1.trans s'.hfp o3), hf'⟩
      | ct ρ3 => exact fun σ3 W3 H4 φ3 o3 => ⟨W3, ρ3, φ3, o3.ss, k'.after s'.hfp (o1.trans s'.hfp o3), hf'⟩
      | bk ρ3 => cases hf'; exact fun σ3 W3 H4 φ3 o3 => k' σ3 W3 H4 φ3 (o1.trans s'.hfp o3)
      | rt r ρ3 => cases hf'; exact k'.after s'.hfp o1
    | false =>
      rw [if_neg Bool.false_ne_true]
      simp only [Bool.false_eq_true, if_false] at hf'
      cases hf'
      exact k' σ' W1 H1 φ1 o.s
end
end
end DL

namespace DL
open PySem PySem.Spec PyProof.Rows L2
noncomputable section

/-! ### list comprehensions -/
def wipeR (ρ : Rho) : List Nat → Rho
  | [] => ρ
  | v :: vs => (wipeR ρ vs).set v none
def wipeF (φ : Fp) : List Nat → Fp
  | [] => φ
  | v :: vs => delF (wipeF φ vs) v
def unwR : List Nat → Rho → Rho → Rho
  | [], _, ρ => ρ
  | v :: vs, ρ0, ρ => (unwR vs ρ0 ρ).set v ((ρ0[v]?).getD none)
def lcL (st : DTg) (cond : DT) (elt : DE) (vs : List Nat) : List D → Rho → Option (List D × Rho)
  | [], ρ => some ([], ρ)
  | d :: ds, ρ => (st (.fz d) ρ).bind fun ρ1 => (cond ρ1).bind fun p => if p.1 = true then (elt p.2).bind fun q => (frz q.1).bind fun z => (lcL st cond elt vs ds (wipeR q.2 vs)).bind fun t => some (z :: t.1, t.2) else lcL st cond elt vs ds (wipeR p.2 vs)
def lcE (fi : DI) (st : DTg) (cond : DT) (elt : DE) (vs : List Nat) : DE := fun ρ => (fi ρ).bind fun p => if p.1.length ≤ 1000000 then (lcL st cond elt vs p.1 (wipeR p.2 vs)).bind fun q => some (.ow q.1, unwR vs p.2 q.2) else none
def yesT : DT := fun ρ => some (true, ρ)
section
variable {K : PySem.W.Frag} {W W1 W2 : Addr → Prop} {H H1 H2 : Hp} {σ σ1 : L2.St} {ρ ρ1 : Rho} {φ φ1 : Fp} {vs : List Nat}
theorem SS.wipe (s : SS K W H σ ρ φ) : ∀ vs : List Nat, SS K W H (L2.wipe σ vs) (wipeR ρ vs) (wipeF φ vs)
  | [] => s
  | v :: vs => (SS.wipe s vs).del v none
theorem wipeF_eq : ∀ (vs : List Nat) (i : Nat), wipeF φ vs i = if i ∈ vs then [] else φ i
  | [], i => by rw [if_neg (by simp)]; rfl
  | v :: vs, i => by
    unfold wipeF delF
    by_cases h : i = v
    · rw [if_pos h, if_pos (by rw [h]; exact List.mem_cons_self)]
    · rw [if_neg h, wipeF_eq vs i]
      by_cases q : i ∈ vs
      · rw [if_pos q, if_pos (List.mem_cons_of_mem _ q)]
      · rw [if_neg q, if_neg (by simp [h, q])]
theorem wipeF_in {a : Addr} (h : InF (wipeF φ vs) a) : ∃ i, i ∉ vs ∧ a ∈ φ i := by
  obtain ⟨i, h⟩ := h
  rw [wipeF_eq] at h
  split at h
  · cases h
  · rename_i n; exact ⟨i, n, h⟩
theorem wipeR_length : ∀ vs : List Nat, (wipeR ρ vs).length = ρ.length
  | [] => rfl
  | v :: vs => by unfold wipeR; rw [List.length_set, wipeR_length vs]
theorem unwR_get : ∀ (vs : List Nat) {ρ0 ρ : Rho} (i : Nat), ρ0.length = ρ.length → (unwR vs ρ0 ρ)[i]? = (if i ∈ vs then ρ0[i]? else ρ[i]?) ∧ (unwR vs ρ0 ρ).length = ρ.length
  | [], ρ0, ρ, i, h => ⟨by rw [if_neg (by simp)]; rfl, rfl⟩
  | v :: vs, ρ0, ρ, i, h => by
    unfold unwR
    refine ⟨?_, by rw [List.length_set]; exact (unwR_get vs i h).2⟩
    have hl := (unwR_get vs (ρ0 := ρ0) (ρ := ρ) i h).2
    by_cases e : v = i
    · subst e
      rw [if_pos List.mem_cons_self]
      by_cases q : v < ρ0.length
      · rw [List.getElem?_set_self (by omega), List.getElem?_eq_getElem q]
        rfl
      · rw [List.getElem?_eq_none (by rw [List.length_set]; omega), List.getElem?_eq_none (by omega)]
    · rw [List.getElem?_set_ne e, (unwR_get vs i h).1]
      by_cases q : i ∈ vs
      · rw [if_pos q, if_pos (List.mem_cons_of_mem _ q)]
      · rw [if_neg q, if_neg (by simp [q, Ne.symm e])]
/-- behind the block: the names of the def as they were -/
theorem SS.unwipe (s : SS K W H σ ρ φ) (e : Ev (InF (wipeF φ vs)) W H W1 H1) (sub : ∀ a, InF φ1 a → InF (wipeF φ vs) a ∨ H a = none) (s1 : SS K W1 H1 (L2.wipe σ vs) ρ1 φ1) :
    SS K W1 H1 σ (unwR vs ρ ρ1) (fun i => if i ∈ vs then φ i else φ1 i) := by
  have hl : ρ.length = ρ1.length := by
    have h1 := s1.len
    rw [L2.wipe_length] at h1
    rw [← s.len, h1]
  have nin : ∀ i, i ∈ vs → ∀ a ∈ φ i, ¬ InF (wipeF φ vs) a := fun i hi a ha q => by
    obtain ⟨j, hj, q⟩ := wipeF_in q
    rw [s.dj i j a ha q] at hi
    exact hj hi
  have xt : Wxt W H W1 H1 := e.xt fun a h => by
    obtain ⟨j, hj, q⟩ := wipeF_in h
    exact s.notW a ⟨j, q⟩
  refine ⟨by rw [(unwR_get vs 0 hl).2, ← hl, s.len], fun i vl q => ?_, fun i q => ?_, fun i j a h1 h2 => ?_, s1.wf⟩
  · rw [(unwR_get vs i hl).1] at q
    by_cases hi : i ∈ vs
    · simp only [if_pos hi] at q ⊢
      obtain ⟨v, h1, h2⟩ := s.sl i vl q
      exact ⟨v, h1, h2.ev e xt (nin i hi)⟩
    · simp only [if_neg hi] at q ⊢
      obtain ⟨v, h1, h2⟩ := s1.sl i vl q
      exact ⟨v, (wipe_some h1).1, h2⟩
  · simp only [(unwR_get vs i hl).1] at q
    by_cases hi : i ∈ vs
    · simp only [if_pos hi] at q ⊢
      exact s.em i q
    · simp only [if_neg hi] at q ⊢
      exact s1.em i q
  · have mix : ∀ i j a, i ∈ vs → j ∉ vs → a ∈ φ i → a ∈ φ1 j → False := fun i j a hi hj h1 h2 => by
      rcases sub a ⟨j, h2⟩ with z | z
      · exact nin i hi a h1 z
      · exact s.inH ⟨i, h1⟩ z
    by_cases hi : i ∈ vs
    · by_cases hj : j ∈ vs
      · simp only [if_pos hi, if_pos hj] at h1 h2; exact s.dj i j a h1 h2
      · simp only [if_pos hi, if_neg hj] at h1 h2; exact (mix i j a hi hj h1 h2).elim
    · by_cases hj : j ∈ vs
      · simp only [if_neg hi, if_pos hj] at h1 h2; exact (mix j i a hj hi h2 h1).elim
      · simp only [if_neg hi, if_neg hj] at h1 h2; exact s1.dj i j a h1 h2
theorem wipe_eq {σ σ2 : L2.St} (hl : σ2.length = σ.length) : ∀ (vs : List Nat), (∀ i, i ∉ vs → σ2[i]? = σ[i]?) → L2.wipe σ2 vs = L2.wipe σ vs := by
  intro vs h
  have g : ∀ (vs : List Nat) (σ : L2.St) (i : Nat), (L2.wipe σ vs)[i]? = if i ∈ vs then (if i < σ.length then some none else none) else σ[i]? := by
    intro vs
    induction vs with
    | nil => intro σ i; rw [if_neg (by simp)]; rfl
    | cons v vs ih =>
      intro σ i
      show ((L2.wipe σ vs).set v none)[i]? = _
      by_cases e : v = i
      · subst e
        rw [if_pos List.mem_cons_self]
        by_cases q : v < σ.length
        · rw [if_pos q, List.getElem?_set_self (by rw [L2.wipe_length]; exact q)]
        · rw [if_neg q, List.getElem?_eq_none (by rw [List.length_set, L2.wipe_length]; omega)]
      · rw [List.getElem?_set_ne e, ih]
        by_cases q : i ∈ vs
        · rw [if_pos q, if_pos (List.mem_cons_of_mem _ q)]
        · rw [if_neg q, if_neg (by simp [q, Ne.symm e])]
  refine List.ext_getElem? fun i => ?_
  rw [g, g, hl]
  by_cases q : i ∈ vs
  · rw [if_pos q, if_pos q]
  · rw [if_neg q, if_neg q, h i q]
theorem wipe_wipe (σ : L2.St) (vs : List Nat) : L2.wipe (L2.wipe σ vs) vs = L2.wipe σ vs := by
  refine wipe_eq (L2.wipe_length _ _) vs fun i hi => ?_
  have g : ∀ (vs : List Nat), i ∉ vs → (L2.wipe σ vs)[i]? = σ[i]? := by
    intro vs
    induction vs with
    | nil => intro _; rfl
    | cons v vs ih =>
      intro h
      show ((L2.wipe σ vs).set v none)[i]? = _
      rw [List.getElem?_set_ne (by rintro rfl; exact h List.mem_cons_self), ih fun z => h (List.mem_cons_of_mem _ z)]
  exact g vs hi
end
structure LcI (K : PySem.W.Frag) (W1 : Addr → Prop) (H1 : Hp) (fp : Addr → Prop) (σw : L2.St) (Dd : Addr) (n : Nat) (total : List D) (ρf : Rho) (g : Rho → Option (List D × Rho)) (H' : Hp) : Prop where
  ex : ∃ W' ρ' φ' acc ads rest, SS K W' H' σw ρ' φ' ∧ H' Dd = some (.lst acc) ∧ ¬ W' Dd ∧ FzA K W' H' acc ads ∧ ¬ InF φ' Dd ∧ Ev fp W1 H1 W' H' ∧ (∀ a, InF φ' a → fp a ∨ H1 a = none) ∧ g ρ' = some (rest, ρf) ∧ total = ads ++ rest ∧ acc.length ≤ n
section
variable {X : Cx} {elt tg it : Expr} {ifs : List Expr} {scope : Scope} {own : List (Str × Nat)} {pos : Pos} {fi : DI} {st : DTg} {fc : DT} {fe : DE} {tv : List Nat}
abbrev PXTs (X : Cx) (ifs : List Expr) (f : DT) : Prop := PTs X ifs (tXT X.K f)
theorem pxts_nil : PXTs X [] yesT := by
  refine ⟨fun pins s σ H Q I h => pts_nil.run pins s σ H Q I ?_⟩
  obtain ⟨W, ρ, φ, b, ρ', ss, hf, k⟩ := h
  cases hf
  exact k W H φ (.refl ss)
theorem pxts_one {c : Expr} {f : DT} (h : PXT X c f) : PXTs X [c] f := pts_one h
/-- the reading of a comprehension -/
theorem tX_lc {K : PySem.W.Frag} (σ : L2.St) (H : Hp) (Q : VK) (vs : List Nat) (hx : ∀ i ∈ tv, i ∈ vs) (h : tX K (lcE fi st fc fe vs) σ H Q) : tLc (tXI K fi) (tXG K tv st) (tXT K fc) (tX K fe) vs σ H Q := by
  obtain ⟨W, ρ, φ, r, ρ', s, hf, k⟩ := h
  unfold lcE at hf
  obtain ⟨⟨ds, ρ1⟩, e1, hf⟩ := Option.bind_eq_some_iff.mp hf
  split at hf
  rotate_left
  · cases hf
  rename_i hz
  obtain ⟨⟨total, ρf⟩, e2, hf⟩ := Option.bind_eq_some_iff.mp hf
  cases hf
  refine ⟨W, ρ, φ, ds, ρ1, s, e1, fun J W1 H1 φ1 o wk => fun Dd hD => ?_⟩
  have up0 := upd_up (o := .lst []) hD
  refine ⟨fun i m H' => m + i = ds.length ∧ LcI K W1 H1 (InF (wipeF φ1 vs)) (L2.wipe σ vs) Dd i total ρf (lcL st fc fe vs (ds.drop i)) H', ⟨ds.length, rfl, ⟨W1, wipeR ρ1 vs, wipeF φ1 vs, [], [], total, (o.ss.wipe vs).grow up0, upd_same, o.ss.new hD, .nil, ?_, Ev.grow up0, fun a h => .inl h, e2, rfl, Nat.le_refl _⟩⟩, ?_⟩
  · rintro ⟨i, h⟩
    rw [wipeF_eq] at h
    split at h
    · cases h
    · exact o.ss.inH ⟨i, h⟩ hD
  rintro i m H' ⟨hm, ⟨W', ρ', φ', acc, ads, rest, s', hDd, nW, fa, nF, ev, sub, hg, ht, hl⟩⟩
  have notW : ∀ a, InF (wipeF φ1 vs) a → ¬ W1 a := fun a h => let ⟨j, _, q⟩ := wipeF_in h; o.ss.notW a ⟨j, q⟩
  have inH1 : ∀ a, InF (wipeF φ1 vs) a → H1 a ≠ none := fun a h => let ⟨j, _, q⟩ := wipeF_in h; o.ss.inH ⟨j, q⟩
  obtain ⟨w1, w2⟩ := wk i W' H' (ev.xt notW)
  by_cases hi : i < ds.length
  · have ed : ds[i]? = some ds[i] := List.getElem?_eq_getElem hi
    rw [List.drop_eq_getElem_cons hi] at hg
    unfold lcL at hg
    obtain ⟨ρ2, q1, hg⟩ := Option.bind_eq_some_iff.mp hg
    obtain ⟨⟨b, ρ3⟩, q2, hg⟩ := Option.bind_eq_some_iff.mp hg
    obtain ⟨g1, g2⟩ := w1 _ ed
    refine .inr ⟨g1, fun H'' => LcI K W1 H1 (InF (wipeF φ1 vs)) (L2.wipe σ vs) Dd (i + 1) total ρf (lcL st fc fe vs (ds.drop (i + 1))) H'', fun H'' h => ⟨m - 1, by omega, ⟨by omega, h⟩⟩, fun x H2 hy => ?_⟩
    obtain ⟨up, fzx⟩ := g2 x H2 hy
    refine ⟨W', ρ', φ', .fz ds[i], [], ρ2, s'.grow up, .fz fzx, (fun a h => nomatch h), q1, fun σ2 W2 H3 φ2 g => ⟨?_, ?_⟩⟩
    · have e3 : L2.wipe σ2 vs = L2.wipe (L2.wipe σ vs) vs := wipe_eq g.len vs fun j hj => g.tv j fun z => hj (hx j z)
      rw [e3, wipe_wipe]
    have e3 : L2.wipe σ2 vs = L2.wipe σ vs := by
      have e3 : L2.wipe σ2 vs = L2.wipe (L2.wipe σ vs) vs := wipe_eq g.len vs fun j hj => g.tv j fun z => hj (hx j z)
      rw [e3, wipe_wipe]
    have evg : Ev (InF φ') W' H' W2 H3 := (Ev.grow (fp := InF φ') up).trans (fp1 := fpl φ' []) (fun x h => h.elim .inl fun z => nomatch z) g.ev
    have subg : ∀ a, InF φ2 a → InF φ' a ∨ H' a = none := fun a h => by
      rcases g.sub a h with (z | z) | z
      · exact .inl z
      · cases z
      · cases e : H' a with
        | none => exact .inr rfl
        | some ob => rw [up a ob e] at z; cases z
    refine ⟨W2, ρ2, φ2, b, ρ3, g.ss, q2, fun W3 H4 φ3 o3 => ?_⟩
    have ev3 : Ev (InF φ') W' H' W3 H4 := evg.trans subg o3.ev
    have sub3 : ∀ a, InF φ3 a → InF φ' a ∨ H' a = none := sub2 evg subg o3.sub fun a => s'.inH
    -- the list stands through a part of the turn
    have stand : ∀ {W4 : Addr → Prop} {H5 : Hp}, Ev (InF φ') W' H' W4 H5 → H5 Dd = some (.lst acc) ∧ ¬ W4 Dd ∧ FzA K W4 H5 acc ads := fun {W4 H5} e => ⟨e.keep Dd _ hDd fun z => absurd z nF, fun z => nW (e.nw Dd _ hDd nF z), fa.xt (e.xt s'.notW)⟩
    have notD : ∀ {p : Addr → Prop}, (∀ a, p a → InF φ' a ∨ H' a = none) → ¬ p Dd := fun {p} h z => (h Dd z).elim nF fun z => by rw [hDd] at z; cases z
    have subT : ∀ {p : Addr → Prop}, (∀ a, p a → InF φ' a ∨ H' a = none) → ∀ a, p a → InF (wipeF φ1 vs) a ∨ H1 a = none := fun {p} h => sub2 ev sub h inH1
    cases b with
    | true =>
      simp only [if_true] at hg ⊢
      obtain ⟨⟨re, ρ4⟩, q3, hg⟩ := Option.bind_eq_some_iff.mp hg
      obtain ⟨z, q4, hg⟩ := Option.bind_eq_some_iff.mp hg
      obtain ⟨⟨rest', ρf'⟩, q5, hg⟩ := Option.bind_eq_some_iff.mp hg
      cases hg
      refine ⟨W3, ρ3, φ3, re, ρ4, o3.ss, q3, fun y W4 H5 φ4 l o4 => ?_⟩
      obtain ⟨o5, fy⟩ := o4.fix o3.ss q4
      have ev5 : Ev (InF φ') W' H' (Or W4 l) H5 := ev3.trans sub3 o5.ev
      have sub5 : ∀ a, InF φ4 a → InF φ' a ∨ H' a = none := sub2 ev3 sub3 o5.sub fun a => s'.inH
      obtain ⟨d1, d2, d3⟩ := stand ev5
      have nD4 : ¬ InF φ4 Dd := notD sub5
      refine ⟨acc, d1, by rw [sizeLine_eq]; have := hl; have : ds.length ≤ 1000000 := hz; omega, ?_⟩
      -- the list is longer by one
      have up5 : ∀ a ob, H5 a = some ob → a ≠ Dd → upd H5 Dd (.lst (acc ++ [y])) a = some ob := fun a ob e n => by rw [upd_ne n]; exact e
      have evD : Ev (fun a => a = Dd) (Or W4 l) H5 (Or W4 l) (upd H5 Dd (.lst (acc ++ [y]))) := ⟨fun _ h => h, fun a ob e q => up5 a ob e fun z => by
        subst z
        rw [d1] at e; cases e
        exact q rfl, fun _ _ _ _ h => h⟩
      have xtD : Wxt (Or W4 l) H5 (Or W4 l) (upd H5 Dd (.lst (acc ++ [y]))) := evD.xt fun a h => by rw [h]; exact d2
      have wfD : ∀ a, Or W4 l a → ∃ ob, upd H5 Dd (.lst (acc ++ [y])) a = some ob := fun a h => let ⟨ob, e⟩ := o5.ss.wf a h; ⟨ob, up5 a ob e fun z => d2 (z ▸ h)⟩
      have s6 := ((o5.ss.ev evD xtD (fun a h z => nD4 (z ▸ h)) wfD).wipe vs)
      rw [e3] at s6
      have evF : Ev (InF (wipeF φ1 vs)) W1 H1 (Or W4 l) (upd H5 Dd (.lst (acc ++ [y]))) := by
        have e5 : Ev (InF (wipeF φ1 vs)) W1 H1 (Or W4 l) H5 := ev.trans sub ev5
        refine e5.trans (fp1 := fun a => a = Dd) ?_ evD
        rintro a rfl
        exact .inr hD
      refine ⟨Or W4 l, wipeR ρ4 vs, wipeF φ4 vs, acc ++ [y], ads ++ [z], rest', s6, upd_same, d2, (d3.xt xtD).append (.one (fy.xt xtD)), ?_, evF, ?_, q5, by rw [ht, List.append_assoc]; rfl, by rw [List.length_append]; have := hl; simp; omega⟩
      · exact fun h => let ⟨j, _, q⟩ := wipeF_in h; nD4 ⟨j, q⟩
      · exact fun a h => let ⟨j, _, q⟩ := wipeF_in h; subT sub5 a ⟨j, q⟩
    | false =>
      simp only [Bool.false_eq_true, if_false] at hg ⊢
      obtain ⟨d1, d2, d3⟩ := stand ev3
      have s6 := o3.ss.wipe vs
      rw [e3] at s6
      refine ⟨W3, wipeR ρ3 vs, wipeF φ3 vs, acc, ads, rest, s6, d1, d2, d3, ?_, ev.trans sub ev3, ?_, hg, ht, Nat.le_succ_of_le hl⟩
      · exact fun h => let ⟨j, _, q⟩ := wipeF_in h; notD sub3 ⟨j, q⟩
      · exact fun a h => let ⟨j, _, q⟩ := wipeF_in h; subT sub3 a ⟨j, q⟩
  · have e : ds.drop i = [] := List.drop_eq_nil_of_le (by omega)
    rw [e] at hg
    cases hg
    rw [List.append_nil] at ht
    subst ht
    refine .inl ⟨w2 (by omega), k (.ref Dd) W' H' (fun i => if i ∈ vs then φ1 i else φ' i) [Dd] ?_⟩
    have su := o.ss.unwipe ev sub s'
    have inF1 : ∀ a, InF (wipeF φ1 vs) a → InF φ1 a := fun a h => let ⟨j, _, q⟩ := wipeF_in h; ⟨j, q⟩
    have evT : Ev (InF φ) W H W' H' := o.ev.trans (fp1 := InF (wipeF φ1 vs)) (fun a h => o.sub a (inF1 a h)) ev
    have dom : ∀ a, H1 a = none → ¬ InF φ a → H a = none := fun a h n => by
      cases q : H a with
      | none => rfl
      | some ob => rw [o.ev.keep a ob q fun z => absurd z n] at h; cases h
    have new : ∀ a, H1 a = none → InF φ a ∨ H a = none := fun a h => by
      by_cases n : InF φ a
      · exact .inl n
      · exact .inr (dom a h n)
    refine ⟨evT, su, .rv (.ow hDd nW fa), ?_, ?_, ?_⟩
    · intro a ha
      obtain rfl := List.mem_singleton.mp ha
      rintro ⟨j, hj⟩
      dsimp only at hj
      split at hj
      · exact o.ss.inH ⟨j, hj⟩ hD
      · exact nF ⟨j, hj⟩
    · rintro a ⟨j, hj⟩
      dsimp only at hj
      split at hj
      · exact o.sub a ⟨j, hj⟩
      · exact (sub a ⟨j, hj⟩).elim (fun z => o.sub a (inF1 a z)) (new a)
    · intro a ha
      obtain rfl := List.mem_singleton.mp ha
      exact new a hD
theorem px_lc (hc : X.calm = true) (hN : X.N.Nodup) (own : List (Str × Nat)) (hi : PXI X tg it fi) (ok : BlkOk X.N X.env.scope scope own)
    (hg : ∀ (s : Shared) (H : Hp) (C : Addr) (cl : List (Str × Addr)) (fp : List Addr), PXG (X.blk s H scope (compEnvC scope cl C X.env) fp) tg tv st) (ht : ∀ (s : Shared) (H : Hp) (C : Addr) (cl : List (Str × Addr)) (fp : List Addr), PXTs (X.blk s H scope (compEnvC scope cl C X.env) fp) ifs fc)
    (he : ∀ (s : Shared) (H : Hp) (C : Addr) (cl : List (Str × Addr)) (fp : List Addr), PX (X.blk s H scope (compEnvC scope cl C X.env) fp) elt fe) (hx : ∀ i ∈ tv, i ∈ own.map (·.2) := by decide) (hs : ∀ x, foldedSetIterable it X.env x = pure x := by intro _; rfl) :
    PX X (.ListComp elt [⟨tg, it, ifs, 0⟩] scope pos) (lcE fi st fc fe (own.map (·.2))) :=
  PE.mono (pe_lc hc hN hi ok hg ht he hs) fun σ H Q h => tX_lc σ H Q _ hx h
/-- y = [..] on one line, y a local -/
theorem px_setLc (i : Nat) {y : Str} {py spos : Pos} {fx : List Nat} (hc : X.calm = true) (hN : X.N.Nodup) (own : List (Str × Nat)) (hi : PXI X tg it fi) (ok : BlkOk X.N X.env.scope scope own)
    (hg : ∀ (s : Shared) (H : Hp) (C : Addr) (cl : List (Str × Addr)) (fp : List Addr), PXG (X.blk s H scope (compEnvC scope cl C X.env) fp) tg tv st) (ht : ∀ (s : Shared) (H : Hp) (C : Addr) (cl : List (Str × Addr)) (fp : List Addr), PXTs (X.blk s H scope (compEnvC scope cl C X.env) fp) ifs fc)
    (he : ∀ (s : Shared) (H : Hp) (C : Addr) (cl : List (Str × Addr)) (fp : List Addr), PX (X.blk s H scope (compEnvC scope cl C X.env) fp) elt fe) (hy : X.N[i]? = some y := by rfl) (hyl : X.env.scope.names.lookup y = some .local := by rfl)
    (hsw : swapsWith (.ListComp elt [⟨tg, it, ifs, 0⟩] scope pos) (some (.Name y py)) spos.line X.env = pure true := by exact sw_true rfl rfl rfl (by decide +kernel)) (hx : ∀ i ∈ tv, i ∈ own.map (·.2) := by decide) (hfx : ∀ j ∈ fx, j ∉ [i] := by decide) (hs : ∀ x, foldedSetIterable it X.env x = pure x := by intro _; rfl) :
    PXS X fx (.Assign [.Name y py] (.ListComp elt [⟨tg, it, ifs, 0⟩] scope pos) spos) (asgS (lcE fi st fc fe (own.map (·.2))) (nameT i)) := by
  refine PS.mono (ps_setLc (wi := tXI X.K fi) (g := tXG X.K tv st) (tt := tXT X.K fc) (te := tX X.K fe) hc hN hy hyl hsw hi ok hg ht he hs) ?_
  intro E σ H h
  refine tX_lc σ H _ _ hx ?_
  obtain ⟨W, ρ, φ, r, ρ1, s, e1, k⟩ := tX_asg (tv := [i]) hfx h
  refine ⟨W, ρ, φ, r, ρ1, s, e1, fun v W1 H1 φ1 l o => ?_⟩
  obtain ⟨W2, ρ2, φ2, r2, l2, ρ3, s2, rv, dj, hst, k2⟩ := k v W1 H1 φ1 l o
  cases hst
  exact k2 _ W2 H1 _ (set_out s2 rv dj)
end
end
end DL

namespace DL
open PySem PySem.Spec PyProof.Rows L2
noncomputable section

/-! ### calls of the text's own defs -/
/-- the arguments as the callee's slots: fixed, but where the callee may change them (io) -/
def bindA : List Bool → List Vl → Rho → Option (Rho × Rho)
  | [], [], ρ => some ([], ρ)
  | b :: io, r :: rs, ρ => match r with
    | .pk i => if b then (at? ρ i).bind fun vl => (bindA io rs (ρ.set i none)).bind fun q => some (some vl :: q.1, q.2) else none
    | .lk ds => (bindA io rs ρ).bind fun q => some (some (.lk ds) :: q.1, q.2)
    | r => if b then (bindA io rs ρ).bind fun q => some (some r :: q.1, q.2) else (frz r).bind fun d => (bindA io rs ρ).bind fun q => some (some (.fz d) :: q.1, q.2)
  | _, _, _ => none
/-- what the callee leaves in them -/
def backA : List Bool → List Vl → Rho → Rho → Rho
  | b :: io, r :: rs, o :: os, ρ => match b, r, o with
    | true, .pk i, some vl => (backA io rs os ρ).set i (some vl)
    | _, _, _ => backA io rs os ρ
  | _, _, _, ρ => ρ
def callE (io : List Bool) (F : DE) (fs : DA) : DE := fun ρ => (fs ρ).bind fun p => (bindA io p.1 p.2).bind fun q => (F q.1).bind fun t => if notPk t.1 then some (t.1, backA io p.1 t.2 q.2) else none
def spF (K : PySem.W.Frag) (n : Nat) (F : DE) : Sp := fun vs H Q _ => vs.length = n ∧ tX K F (vs.map some) H Q
def consF (l : List Addr) (φ : Fp) : Fp
  | 0 => l
  | j + 1 => φ j
theorem consF_in {l : List Addr} {φ : Fp} {a : Addr} (h : InF (consF l φ) a) : a ∈ l ∨ InF φ a := by
  obtain ⟨i, h⟩ := h
  cases i with
  | zero => exact .inl h
  | succ j => exact .inr ⟨j, h⟩
section
variable {K : PySem.W.Frag} {W W1 W2 : Addr → Prop} {H H1 H2 : Hp} {σ σ1 : L2.St} {ρ ρ1 ρ2 : Rho} {φ φ1 φ2 : Fp} {l l2 : List Addr} {v : V} {r : Vl} {vs : List V} {rs : List Vl}
theorem SS.cons {vl : Vl} (s : SS K W H σ ρ φ) (rv : RV K W H v vl l) (dj : ∀ a ∈ l, ¬ InF φ a) : SS K W H (some v :: σ) (some vl :: ρ) (consF l φ) where
  len := by rw [List.length_cons, List.length_cons, s.len]
  sl := fun i w e => by
    cases i with
    | zero => cases e; exact ⟨v, rfl, rv⟩
    | succ j => exact s.sl j w e
  em := fun i e => by
    cases i with
    | zero => exact absurd rfl (e vl)
    | succ j => exact s.em j e
  dj := fun i j a h1 h2 => by
    cases i with
    | zero => cases j with
      | zero => rfl
      | succ j => exact absurd ⟨j, h2⟩ (dj a h1)
    | succ i => cases j with
      | zero => exact absurd ⟨i, h1⟩ (dj a h2)
      | succ j => rw [s.dj i j a h1 h2]
  wf := s.wf
theorem SS.tail {o : Option V} {w : Option Vl} (s : SS K W H (o :: σ) (w :: ρ) φ) : SS K W H σ ρ (fun j => φ (j + 1)) where
  len := by have := s.len; simpa using this
  sl := fun i w e => s.sl (i + 1) w e
  em := fun i e => s.em (i + 1) e
  dj := fun i j a h1 h2 => by have := s.dj (i + 1) (j + 1) a h1 h2; omega
  wf := s.wf
theorem SS.nil {W : Addr → Prop} {H : Hp} (wf : ∀ a, W a → ∃ o, H a = some o) : SS K W H [] [] (fun _ => []) :=
  ⟨rfl, (fun i vl e => by simp at e), (fun _ _ => rfl), (fun _ _ _ h => nomatch h), wf⟩
/-- a world with some of l fixed -/
theorem Ev.mid {W' : Addr → Prop} {l : List Addr} (h1 : ∀ a, W a → W' a) (h2 : ∀ a, W' a → W a ∨ a ∈ l) : Ev (fun a => a ∈ l) W H W' H := ⟨h1, fun _ _ h _ => h, fun a o h n q => (h2 a q).elim id fun z => absurd z n⟩
theorem Wxt.mid {W' : Addr → Prop} (h1 : ∀ a, W a → W' a) : Wxt W H W' H := ⟨h1, fun _ _ h _ => h⟩
theorem bindA_ok : ∀ {io : List Bool} {vs : List V} {rs : List Vl} {l : List Addr} {ρ : Rho} {φ : Fp} {as ρ2 : Rho}, SS K W H σ ρ φ → RXs K W H σ vs rs l → (∀ a ∈ l, ¬ InF φ a) → bindA io rs ρ = some (as, ρ2) →
    ∃ W' φa φ2, (∀ a, W a → W' a) ∧ (∀ a, W' a → W a ∨ a ∈ l) ∧ SS K W' H (vs.map some) as φa ∧ SS K W' H σ ρ2 φ2 ∧ (∀ a, InF φa a → ¬ InF φ2 a) ∧ (∀ a, InF φa a → InF φ a ∨ a ∈ l) ∧ (∀ a, InF φ2 a → InF φ a)
  | [], _, _, _, ρ, φ, as, ρ2, s, .nil, dj, h => by
    cases h
    exact ⟨W, fun _ => [], φ, fun _ h => h, fun _ h => .inl h, SS.nil s.wf, s, (fun a h => let ⟨_, q⟩ := h; nomatch q), (fun a h => let ⟨_, q⟩ := h; nomatch q), fun _ h => h⟩
  | b :: io, _, _, _, _, _, _, _, s, .nil, dj, h => by cases h
  | [], _, _, _, _, _, _, _, s, .cons _ _ _, dj, h => by cases h
  | b :: io, _, _, _, ρ, φ, as, ρ2, s, .cons (v := v) (vs := vs) (r := r) (rs := rs) (l := l1) (ls := ls) hv hr d, dj, h => by
    have dl : ∀ a ∈ l1, ¬ InF φ a := fun a h => dj a (List.mem_append_left _ h)
    have dls : ∀ a ∈ ls, ¬ InF φ a := fun a h => dj a (List.mem_append_right _ h)
    have wf2 : ∀ {W' : Addr → Prop}, (∀ a, W' a → W a ∨ a ∈ l1 ++ ls) → ∀ a, W' a → ∃ o, H a = some o := fun h a z => (h a z).elim (s.wf a) fun q => (List.mem_append.mp q).elim (fun q => let ⟨_, o, e, _⟩ := hv.own a q; ⟨o, e⟩) fun q => let ⟨_, o, e, _⟩ := hr.own a q; ⟨o, e⟩
    -- an argument that keeps its objects
    have keepIt : ∀ {vl : Vl} {l0 : List Addr} {ρ' : Rho} {φ' : Fp} {as' ρ2' : Rho}, SS K W H σ ρ' φ' → RV K W H v vl l0 → (∀ a, InF φ' a → InF φ a) → (∀ a ∈ l0, ¬ InF φ' a) → (∀ a ∈ l0, a ∉ ls) → (∀ a ∈ l0, InF φ a ∨ a ∈ l1) → bindA io rs ρ' = some (as', ρ2') →
        ∃ W' φa φ2, (∀ a, W a → W' a) ∧ (∀ a, W' a → W a ∨ a ∈ l1 ++ ls) ∧ SS K W' H ((v :: vs).map some) (some vl :: as') φa ∧ SS K W' H σ ρ2' φ2 ∧ (∀ a, InF φa a → ¬ InF φ2 a) ∧ (∀ a, InF φa a → InF φ a ∨ a ∈ l1 ++ ls) ∧ (∀ a, InF φ2 a → InF φ a) := by
      intro vl l0 ρ' φ' as' ρ2' s' rv hs n1 n2 n3 hb
      obtain ⟨W', φa, φ2, c1, c2, c3, c4, c5, c6, c7⟩ := bindA_ok s' hr (fun a h q => dls a h (hs a q)) hb
      have ev : Ev (fun a => a ∈ ls) W H W' H := Ev.mid c1 c2
      have rv' : RV K W' H v vl l0 := rv.ev ev (Wxt.mid c1) n2
      have na : ∀ a ∈ l0, ¬ InF φa a := fun a h q => (c6 a q).elim (n1 a h) (n2 a h)
      refine ⟨W', consF l0 φa, φ2, c1, fun a h => (c2 a h).imp id fun q => List.mem_append_right _ q, c3.cons rv' na, c4, fun a h q => ?_, fun a h => ?_, fun a h => hs a (c7 a h)⟩
      · rcases consF_in h with z | z
        · exact n1 a z (c7 a q)
        · exact c5 a z q
      · rcases consF_in h with z | z
        · exact (n3 a z).imp id fun q => List.mem_append_left _ q
        · exact (c6 a z).imp (hs a) fun q => List.mem_append_right _ q
    -- an argument that is fixed from here on
    have fixIt : ∀ {dd : D} {as' ρ2' : Rho}, frz r = some dd → bindA io rs ρ = some (as', ρ2') →
        ∃ W' φa φ2, (∀ a, W a → W' a) ∧ (∀ a, W' a → W a ∨ a ∈ l1 ++ ls) ∧ SS K W' H ((v :: vs).map some) (some (.fz dd) :: as') φa ∧ SS K W' H σ ρ2' φ2 ∧ (∀ a, InF φa a → ¬ InF φ2 a) ∧ (∀ a, InF φa a → InF φ a ∨ a ∈ l1 ++ ls) ∧ (∀ a, InF φ2 a → InF φ a) := by
      intro dd as' ρ2' hd hb
      obtain ⟨W', φa, φ2, c1, c2, c3, c4, c5, c6, c7⟩ := bindA_ok s hr dls hb
      have ev : Ev (fun a => a ∈ l1) W' H (Or W' l1) H := Ev.mid (fun _ h => .inl h) (fun _ h => h)
      have wfo : ∀ a, Or W' l1 a → ∃ o, H a = some o := wf2 fun a h => h.elim (fun z => (c2 a z).imp id fun q => List.mem_append_right _ q) fun z => .inr (List.mem_append_left _ z)
      have c3' := c3.ev ev Wxt.or (fun a h q => (c6 a h).elim (fun z => dl a q z) fun z => d a q z) wfo
      have c4' := c4.ev ev Wxt.or (fun a h q => dl a q (c7 a h)) wfo
      have fz : Fz K (Or W' l1) H v dd := hv.frz (fun a h => .inl (c1 a h)) (fun b h => .inr h) hd
      refine ⟨Or W' l1, consF [] φa, φ2, fun a h => .inl (c1 a h), fun a h => h.elim (fun z => (c2 a z).imp id fun q => List.mem_append_right _ q) fun z => .inr (List.mem_append_left _ z), c3'.cons (.fz fz) (fun a h => nomatch h), c4', fun a h q => ?_, fun a h => ?_, c7⟩
      · rcases consF_in h with z | z
        · cases z
        · exact c5 a z q
      · rcases consF_in h with z | z
        · cases z
        · exact (c6 a z).imp id fun q => List.mem_append_right _ q
    have plain : notPk r = true → (∀ ds, r ≠ .lk ds) → (if b then (bindA io rs ρ).bind fun q => some (some r :: q.1, q.2) else (frz r).bind fun d => (bindA io rs ρ).bind fun q => some (some (.fz d) :: q.1, q.2)) = some (as, ρ2) →
        ∃ W' φa φ2, (∀ a, W a → W' a) ∧ (∀ a, W' a → W a ∨ a ∈ l1 ++ ls) ∧ SS K W' H ((v :: vs).map some) as φa ∧ SS K W' H σ ρ2 φ2 ∧ (∀ a, InF φa a → ¬ InF φ2 a) ∧ (∀ a, InF φa a → InF φ a ∨ a ∈ l1 ++ ls) ∧ (∀ a, InF φ2 a → InF φ a) := by
      intro hp hlk h
      cases b with
      | true =>
        simp only [if_true] at h
        obtain ⟨⟨as', ρ2'⟩, e1, h⟩ := Option.bind_eq_some_iff.mp h
        cases h
        exact keepIt s (hv.toRV hp) (fun _ h => h) dl d (fun a h => .inr h) e1
      | false =>
        simp only [Bool.false_eq_true, if_false] at h
        obtain ⟨dd, e1, h⟩ := Option.bind_eq_some_iff.mp h
        obtain ⟨⟨as', ρ2'⟩, e2, h⟩ := Option.bind_eq_some_iff.mp h
        cases h
        exact fixIt e1 e2
    unfold bindA at h
    cases r with
    | pk i =>
      simp only at h
      split at h
      · obtain ⟨vl, e1, h⟩ := Option.bind_eq_some_iff.mp h
        obtain ⟨⟨as', ρ2'⟩, e2, h⟩ := Option.bind_eq_some_iff.mp h
        cases h
        obtain ⟨l', rv, hl⟩ := hv.nml s (vl := vl) (show nml ρ (.pk i) = some vl from e1)
        obtain ⟨w, q1, q2⟩ := s.sl i vl (at?_some e1)
        have ew : w = v := by
          cases hv with
          | rv z => cases z
          | pk z => rw [z] at q1; cases q1; rfl
        subst ew
        refine keepIt (s.del' i) q2 (fun a h => delF_sub h) ?_ ?_ (fun a h => .inl ⟨i, h⟩) e2
        · rintro a ha ⟨j, hj⟩
          unfold delF at hj
          split at hj
          · cases hj
          · rename_i n; exact n (s.dj j i a hj ha)
        · exact fun a ha q => dls a q ⟨i, ha⟩
      · cases h
    | lk ds =>
      obtain ⟨⟨as', ρ2'⟩, e2, h⟩ := Option.bind_eq_some_iff.mp h
      cases h
      exact keepIt s (hv.toRV rfl) (fun _ h => h) dl d (fun a h => .inr h) e2
    | fz d => exact plain rfl (fun _ e => by cases e) h
    | ow d => exact plain rfl (fun _ e => by cases e) h
    | ow2 d => exact plain rfl (fun _ e => by cases e) h
    | od d e => exact plain rfl (fun _ e => by cases e) h
    | tp d => exact plain rfl (fun _ e => by cases e) h
theorem backA_ok {σ : L2.St} : ∀ {io : List Bool} {vs : List V} {rs : List Vl} {l : List Addr} {os : Rho} {φo : Fp}, RXs K W1 H1 σ vs rs l → SS K W H (vs.map some) os φo → ∀ {ρ : Rho} {φ : Fp}, SS K W H σ ρ φ → (∀ a, InF φo a → ¬ InF φ a) →
    ∃ φ3, SS K W H σ (backA io rs os ρ) φ3 ∧ ∀ a, InF φ3 a → InF φ a ∨ InF φo a
  | [], _, _, _, os, φo, _, so, ρ, φ, s, dj => by
    unfold backA
    exact ⟨φ, s, fun a h => .inl h⟩
  | b :: io, _, _, _, os, φo, .nil, so, ρ, φ, s, dj => by
    unfold backA
    exact ⟨φ, s, fun a h => .inl h⟩
  | b :: io, _, _, _, [], φo, .cons (vs := vs) hv hr d, so, ρ, φ, s, dj => by
    unfold backA
    exact ⟨φ, s, fun a h => .inl h⟩
  | b :: io, _, _, _, o :: os, φo, .cons (v := v) (vs := vs) (r := r) (rs := rs) (l := l1) (ls := ls) hv hr d, so, ρ, φ, s, dj => by
    have so' : SS K W H (some v :: vs.map some) (o :: os) φo := so
    obtain ⟨φ3, s3, h3⟩ := backA_ok (io := io) hr so'.tail s (fun a h => dj a (let ⟨j, q⟩ := h; ⟨j + 1, q⟩))
    have up : ∀ a, InF φ3 a → InF φ a ∨ InF φo a := fun a h => (h3 a h).imp id fun h => let ⟨j, q⟩ := h; ⟨j + 1, q⟩
    unfold backA
    split
    · rename_i i vl
      obtain ⟨w, e1, rv⟩ := so'.sl 0 vl rfl
      cases e1
      have hi : σ[i]? = some (some v) := by
        cases hv with
        | rv z => cases z
        | pk z => exact z
      have n : ∀ a ∈ φo 0, ¬ InF φ3 a := fun a h q => by
        rcases h3 a q with z | ⟨j, z⟩
        · exact dj a ⟨0, h⟩ z
        · have := so'.dj 0 (j + 1) a h z
          cases this
      exact ⟨_, s3.put hi rv n, fun a h => (setF_in h).elim (up a) fun z => .inr ⟨0, z⟩⟩
    · exact ⟨φ3, s3, up⟩
/-- a call's end, from the arguments on -/
theorem tXA_call {F : DE} {fs : DA} {io : List Bool} {n : Nat} {H : Hp} {Q : VK} (hn : io.length = n) (h : tX K (callE io F fs) σ H Q) : tXA K fs σ H fun vs H1 => spF K n F vs H1 Q E0 := by
  obtain ⟨W, ρ, φ, r, ρ', s, hf, k⟩ := h
  unfold callE at hf
  obtain ⟨⟨rs, ρ1⟩, e1, hf⟩ := Option.bind_eq_some_iff.mp hf
  obtain ⟨⟨as, ρ2⟩, e2, hf⟩ := Option.bind_eq_some_iff.mp hf
  obtain ⟨⟨res, os⟩, e3, hf⟩ := Option.bind_eq_some_iff.mp hf
  split at hf
  rotate_left
  · cases hf
  rename_i np
  cases hf
  refine ⟨W, ρ, φ, rs, ρ1, s, e1, fun vs W1 H1 φ1 l o => ?_⟩
  obtain ⟨W', φa, φ2, c1, c2, c3, c4, c5, c6, c7⟩ := bindA_ok o.ss o.rx o.dj e2
  refine ⟨?_, W', as, φa, res, os, c3, e3, fun v W2 H2 φo lr oc => ?_⟩
  · have h1 : ∀ (io : List Bool) (rs : List Vl) (ρ : Rho) (x : Rho × Rho), bindA io rs ρ = some x → io.length = rs.length := by
      intro io
      induction io with
      | nil => intro rs ρ x h; cases rs with
        | nil => rfl
        | cons => cases h
      | cons b io ih =>
        intro rs ρ x h
        cases rs with
        | nil => cases h
        | cons r rs =>
          have go : ∀ ρ y, bindA io rs ρ = some y → (b :: io).length = (r :: rs).length := fun ρ y h => by rw [List.length_cons, List.length_cons, ih rs ρ y h]
          unfold bindA at h
          split at h
          · split at h
            · obtain ⟨_, _, h⟩ := Option.bind_eq_some_iff.mp h
              obtain ⟨y, h, _⟩ := Option.bind_eq_some_iff.mp h
              exact go _ y h
            · cases h
          · obtain ⟨y, h, _⟩ := Option.bind_eq_some_iff.mp h
            exact go _ y h
          · split at h
            · obtain ⟨y, h, _⟩ := Option.bind_eq_some_iff.mp h
              exact go _ y h
            · obtain ⟨_, _, h⟩ := Option.bind_eq_some_iff.mp h
              obtain ⟨y, h, _⟩ := Option.bind_eq_some_iff.mp h
              exact go _ y h
    rw [o.rx.length, ← h1 io rs ρ1 _ e2, hn]
  · have evc : Ev (fun a => InF φa a) W' H1 W2 H2 := oc.ev
    have s2 : SS K W2 H2 σ ρ2 φ2 := c4.ev evc (evc.xt c3.notW) (fun a h q => c5 a q h) oc.ss.wf
    have inH1 : ∀ a, InF φ2 a → H1 a ≠ none := fun a h => c4.inH h
    have dj3 : ∀ a, InF φo a → ¬ InF φ2 a := fun a h q => (oc.sub a h).elim (fun z => c5 a z q) (inH1 a q)
    obtain ⟨φ3, s3, h3⟩ := backA_ok (io := io) o.rx oc.ss s2 dj3
    have rv := oc.rx.toRV np
    have aIn : ∀ a, InF φa a → InF φ1 a ∨ a ∈ l := c6
    have fpOf : ∀ a, (InF φ1 a ∨ a ∈ l) → InF φ a ∨ H a = none := fun a h => h.elim (o.sub a) (o.subl a)
    have ev1 : Ev (InF φ) W H W' H1 := o.ev.trans (fp1 := fun a => a ∈ l) o.subl (Ev.mid c1 c2)
    have evT : Ev (InF φ) W H W2 H2 := ev1.trans (fun a h => fpOf a (aIn a h)) evc
    have new : ∀ a, H1 a = none → InF φ a ∨ H a = none := fun a h => by
      by_cases n : InF φ a
      · exact .inl n
      · refine .inr ?_
        cases q : H a with
        | none => rfl
        | some ob => rw [ev1.keep a ob q fun z => absurd z n] at h; cases h
    refine k v W2 H2 φ3 lr ⟨evT, s3, .rv rv, fun a h q => ?_, fun a h => ?_, fun a h => ?_⟩
    · rcases h3 a q with z | z
      · rcases oc.subl a h with y | y
        · exact c5 a y z
        · exact inH1 a z y
      · exact oc.dj a h z
    · rcases h3 a h with z | z
      · exact o.sub a (c7 a z)
      · exact (oc.sub a z).elim (fun y => fpOf a (aIn a y)) (new a)
    · exact (oc.subl a h).elim (fun y => fpOf a (aIn a y)) (new a)
end
section
variable {X : Cx} {k n : Nat} {f : Addr} {fd : FuncData} {ps : List Str} {x : Str} {p pos : Pos} {e : Expr} {es : List Expr} {F : DE} {fs : DA} {io : List Bool}
theorem px_call (io : List Bool) (G : FnG X.prog X.w X.K X.mg X.base CX0 k f fd ps (spF X.K n F)) (hr : RmG k X.A) (hm : X.mg x = some (.ref f)) (hk : PySem.W.keepIn X.K (.ref f) = true) (hb : Binds X.K fd ps []) (ha : PXA X (e :: es) fs) (hn : io.length = n := by rfl) (hg : Gl X x := by rfl)
    (hdb : (x == ("__debug__" : Str)) = false := by decide) (he : starEach (e :: es) X.env = (false, eval e X.env) :: starEach es X.env := by rfl) (hpl : (backTo pos (starEach es X.env)).any (·.1) = false := by rfl) :
    PX X (.Call (.Name x p) (e :: es) [] pos) (callE io F fs) := by
  refine PE.mono (pe_callG (dvs := []) G hr hg hm hk hb .nil ha hdb he hpl) ?_
  intro σ H Q h
  obtain ⟨W, ρ, φ, rs, ρ1, s, e1, k⟩ := tXA_call hn h
  exact ⟨W, ρ, φ, rs, ρ1, s, e1, fun vs W1 H1 φ1 l o => by show spF X.K n F (vs ++ []) H1 Q E0; rw [List.append_nil]; exact k vs W1 H1 φ1 l o⟩
theorem px_call0 (G : FnG X.prog X.w X.K X.mg X.base CX0 k f fd ps (spF X.K 0 F)) (hr : RmG k X.A) (hm : X.mg x = some (.ref f)) (hk : PySem.W.keepIn X.K (.ref f) = true) (hb : Binds X.K fd ps []) (hg : Gl X x := by rfl)
    (hdb : (x == ("__debug__" : Str)) = false := by decide) : PX X (.Call (.Name x p) [] [] pos) (callE [] F nilA) := by
  refine PE.mono (pe_call0G (dvs := []) G hr hg hm hk hb .nil hdb) ?_
  intro σ H Q h
  obtain ⟨W, ρ, φ, rs, ρ1, s, e1, k⟩ := tXA_call (n := 0) rfl h
  cases e1
  exact k [] W H φ [] ⟨Ev.refl .., s, .nil, (fun a h => nomatch h), fun _ h => .inl h, (fun a h => nomatch h)⟩
end

/-! ### a def's function -/
def maskR (fx : List Nat) (n : Nat) (ρ : Rho) : Rho := (List.range n).map fun i => if fx.contains i then at? ρ i else none
def fnE (n : Nat) (fx : List Nat) (N : Nat) (body : DS) : DE := fun ρ => if ρ.length = n then (body (ρ ++ List.replicate (N - n) none)).bind fun fl => match fl with
  | .nx ρ' => some (.fz .none, maskR fx n ρ')
  | .rt r ρ' => match r with
    | .pk i => if fx.contains i then none else (at? ρ' i).bind fun vl => some (vl, maskR fx n ρ')
    | r => some (r, maskR fx n ρ')
  | _ => none else none
theorem maskR_length (fx : List Nat) (n : Nat) (ρ : Rho) : (maskR fx n ρ).length = n := by unfold maskR; rw [List.length_map, List.length_range]
theorem maskR_get {fx : List Nat} {n : Nat} {ρ : Rho} {i : Nat} {vl : Vl} : (maskR fx n ρ)[i]? = some (some vl) ↔ i ∈ fx ∧ i < n ∧ ρ[i]? = some (some vl) := by
  unfold maskR
  rw [List.getElem?_map]
  by_cases hi : i < n
  · rw [List.getElem?_range hi]
    simp only [Option.map_some, Option.some.injEq]
    by_cases h : i ∈ fx
    · rw [if_pos (by simpa using h)]
      refine ⟨fun e => ⟨h, hi, at?_some e⟩, fun e => ?_⟩
      unfold at?
      rw [e.2.2]
    · rw [if_neg (by simpa using h)]
      exact ⟨(fun e => by cases e), fun e => absurd e.1 h⟩
  · rw [List.getElem?_eq_none (by rw [List.length_range]; omega)]
    exact ⟨(fun e => by cases e), fun e => absurd e.2.1 hi⟩
section
variable {K : PySem.W.Frag} {W W2 : Addr → Prop} {H H2 : Hp} {σ2 : L2.St} {ρ ρ2 : Rho} {φ φ2 : Fp} {vs : List V} {fx : List Nat} {n N : Nat}
theorem SS.args (s : SS K W H (vs.map some) ρ φ) (m : Nat) : SS K W H (vs.map some ++ List.replicate m none) (ρ ++ List.replicate m none) φ where
  len := by rw [List.length_append, List.length_append, List.length_replicate, List.length_replicate, s.len]
  sl := fun i vl e => by
    by_cases hi : i < ρ.length
    · rw [List.getElem?_append_left hi] at e
      obtain ⟨v, h1, h2⟩ := s.sl i vl e
      exact ⟨v, by rw [List.getElem?_append_left (by rw [s.len]; exact hi)]; exact h1, h2⟩
    · rw [List.getElem?_append_right (by omega), List.getElem?_replicate] at e
      split at e <;> cases e
  em := fun i e => by
    by_cases hi : i < ρ.length
    · exact s.em i fun vl q => e vl (by rw [List.getElem?_append_left hi]; exact q)
    · exact s.em i fun vl q => by rw [List.getElem?_eq_none (by omega)] at q; cases q
  dj := s.dj
  wf := s.wf
/-- what a def's end says to its caller -/
theorem OutS.ret (s : SS K W H (vs.map some) ρ φ) (hn : vs.length = n) (o : OutS K W H (InF φ) (vs.map some ++ List.replicate (N - n) none) fx ρ2 σ2 W2 H2 φ2) :
    SS K W2 H2 (vs.map some) (maskR fx n ρ2) (fun i => if i ∈ fx ∧ i < n then φ2 i else []) where
  len := by rw [maskR_length, List.length_map, hn]
  sl := fun i vl e => by
    obtain ⟨h1, hi, h2⟩ := maskR_get.mp e
    obtain ⟨v, q1, q2⟩ := o.ss.sl i vl h2
    rw [o.fx i h1, List.getElem?_append_left (by rw [List.length_map, hn]; exact hi)] at q1
    exact ⟨v, q1, by rw [if_pos ⟨h1, hi⟩]; exact q2⟩
  em := fun i e => by
    split
    · rename_i q
      exact o.ss.em i fun vl z => e vl (maskR_get.mpr ⟨q.1, q.2, z⟩)
    · rfl
  dj := fun i j a h1 h2 => by
    split at h1
    · split at h2
      · exact o.ss.dj i j a h1 h2
      · cases h2
    · cases h1
  wf := o.ss.wf
theorem mask_in {fx : List Nat} {n : Nat} {φ : Fp} {a : Addr} (h : InF (fun i => if i ∈ fx ∧ i < n then φ i else []) a) : ∃ i, i ∈ fx ∧ i < n ∧ a ∈ φ i := by
  obtain ⟨i, h⟩ := h
  dsimp only at h
  split at h
  · rename_i q; exact ⟨i, q.1, q.2, h⟩
  · cases h
end
section
variable {P : Program} {w : World} {K : PySem.W.Frag} {mg : Str → Option Value} {base : Heap} {k : Nat} {f : Addr} {fd : FuncData} {ps N : List Str} {x qual : Str} {st : Stmt} {fx : List Nat} {fb : DS}
/-- a def does what its function says -/
theorem fn_ok (F : Fun K x qual st f fd) (S : FnScope N ps (defScope st)) (hb : ∀ (cdv : Value) (A : Around) (outer : List Env) (s : Shared) (H : Hp) (E : XK), RmG k (A.deeper (envOfC qual (defScope st) s.heap.objs.size f cdv)) →
    PXSs (cxOf CX0 P w K mg base N qual (defScope st) f cdv A outer s H E).nox fx (defBody st) fb) : FnG P w K mg base CX0 (k + 1) f fd ps (spF K ps.length (fnE ps.length fx N.length fb)) := by
  refine FunG.ok F S (fun vs H Q E h => h.1) ?_
  rintro cdv A outer s H vs Q E hr ⟨hl, W, ρ, φ, r, ρ', ss, hf, k⟩
  unfold fnE at hf
  split at hf
  rotate_left
  · cases hf
  obtain ⟨fl, e1, hf⟩ := Option.bind_eq_some_iff.mp hf
  refine ⟨_, hb cdv A outer s H E hr, W, _, φ, fl, ?_, e1, ?_⟩
  · have := ss.args (N.length - ps.length)
    show SS K W H (L2.start N vs) _ φ
    unfold L2.start
    rw [hl]
    exact this
  have st0 : L2.start N vs = vs.map some ++ List.replicate (N.length - ps.length) none := by unfold L2.start; rw [hl]
  cases fl with
  | nx ρ2 =>
    cases hf
    intro σ2 W2 H2 φ2 o
    rw [st0] at o
    refine k .non W2 H2 _ [] ⟨o.ev, OutS.ret ss hl o, .rv (.fz .non), (fun a h => nomatch h), fun a h => ?_, (fun a h => nomatch h)⟩
    obtain ⟨i, _, _, q⟩ := mask_in h
    exact o.sub a ⟨i, q⟩
  | bk ρ2 => cases hf
  | ct ρ2 => cases hf
  | rt r2 ρ2 =>
    intro v σ2 W2 H2 φ2 l o
    have o' := o.o
    rw [st0] at o'
    by_cases hp : ∃ i, r2 = .pk i
    · obtain ⟨i, rfl⟩ := hp
      simp only at hf
      split at hf
      · cases hf
      rename_i hi
      obtain ⟨vl, e2, hf⟩ := Option.bind_eq_some_iff.mp hf
      cases hf
      obtain ⟨w', q1, q2⟩ := o'.ss.sl i _ (at?_some e2)
      have ev : w' = v := by
        cases o.rx with
        | rv z => cases z
        | pk z => rw [z] at q1; cases q1; rfl
      subst ev
      refine k w' W2 H2 _ (φ2 i) ⟨o'.ev, OutS.ret ss hl o', .rv q2, fun a h q => ?_, fun a h => ?_, fun a h => o'.sub a ⟨i, h⟩⟩
      · obtain ⟨j, j1, j2, j3⟩ := mask_in q
        rw [o'.ss.dj i j a h j3] at hi
        exact hi (by simpa using j1)
      · obtain ⟨j, _, _, q⟩ := mask_in h
        exact o'.sub a ⟨j, q⟩
    · have hf' : some (r2, maskR fx ps.length ρ2) = some (r, ρ') := by
        cases r2 <;> first | exact hf | exact absurd ⟨_, rfl⟩ hp
      cases hf'
      have np : notPk r = true := by
        cases r <;> first | rfl | exact absurd ⟨_, rfl⟩ hp
      refine k v W2 H2 _ l ⟨o'.ev, OutS.ret ss hl o', .rv (o.rx.toRV np), fun a h q => ?_, fun a h => ?_, o.subl⟩
      · obtain ⟨j, _, _, q⟩ := mask_in q
        exact o.dj a h ⟨j, q⟩
      · obtain ⟨j, _, _, q⟩ := mask_in h
        exact o'.sub a ⟨j, q⟩
end
end
end DL

namespace DL
open PySem PySem.Spec PyProof.Rows L2
noncomputable section

/-! ### one operation or another -/
def orF (F G : Rho → List Vl → Option Vl) : Rho → List Vl → Option Vl := fun ρ rs => match F ρ rs with
  | some z => some z
  | none => G ρ rs
section
variable {K : PySem.W.Frag}
theorem vop_or {r r' : List V → Hp → VK → Prop} {F G} (h : VOp K r F) (h' : VOp K r' G) : VOp K (fun vs H Q => r vs H Q ∨ r' vs H Q) (orF F G) := by
  intro W H σ ρ φ vs rs l res Q s rx dj e k
  unfold orF at e
  split at e
  · rename_i z q; cases e; exact .inl (h W H σ ρ φ vs rs l _ Q s rx dj q k)
  · exact .inr (h' W H σ ρ φ vs rs l _ Q s rx dj e k)
theorem vop2_or {r r' : R2} {F G} (h : VOp K (r2L r) F) (h' : VOp K (r2L r') G) : VOp K (r2L fun x y H Q => r x y H Q ∨ r' x y H Q) (orF F G) := by
  intro W H σ ρ φ vs rs l res Q s rx dj e k
  rcases vop_or h h' W H σ ρ φ vs rs l res Q s rx dj e k with ⟨x, y, e1, q⟩ | ⟨x, y, e1, q⟩
  · exact ⟨x, y, e1, .inl q⟩
  · exact ⟨x, y, e1, .inr q⟩
theorem CtRA.one {H : Hp} {vs : List V} {d : D} (h : CtRA K H vs [d]) : ∃ v, vs = [v] ∧ CtR K H v d := by
  cases h with
  | cons h t => cases t; exact ⟨_, rfl, h⟩
theorem CtRA.two {H : Hp} {vs : List V} {d e : D} (h : CtRA K H vs [d, e]) : ∃ v u, vs = [v, u] ∧ CtR K H v d ∧ CtR K H u e := by
  cases h with
  | cons h t => cases t with
    | cons h2 t => cases t; exact ⟨_, _, rfl, h, h2⟩
theorem CtR.bool_inv {H : Hp} {v : V} {i : Bool} (h : CtR K H v (.bool i)) : v = .bl i := by
  cases h with
  | ct h => cases h; rfl
theorem CtR.str_inv {H : Hp} {v : V} {i : Str} (h : CtR K H v (.str i)) : v = .str i := by
  cases h with
  | ct h => cases h; rfl
theorem CtR.non_inv {H : Hp} {v : V} (h : CtR K H v .none) : v = .non := by
  cases h with
  | ct h => cases h; rfl
theorem CtR.list_inv {H : Hp} {v : V} {ds : List D} (h : CtR K H v (.list ds)) : ∃ a xs, v = .ref a ∧ SqL K H a xs ∧ CtA K H xs ds := by
  cases h with
  | ct h => cases h with
    | lst h r => exact ⟨_, _, rfl, .of h, r⟩
  | lk h r => exact ⟨_, _, rfl, h, r⟩
theorem CtR.tup_inv {H : Hp} {v : V} {ds : List D} (h : CtR K H v (.tuple ds)) : ∃ a xs, v = .ref a ∧ SqT K H a xs ∧ CtA K H xs ds := by
  cases h with
  | ct h => cases h with
    | tup h r => exact ⟨_, _, rfl, h, r⟩
/-- int operations -/
def i2 (c : Int → Int → Bool) (g : Int → Int → Int) : List D → Option D
  | [.int i, .int j] => if c i j then some (.int (g i j)) else none
  | _ => none
def b2 (g : Int → Int → Bool) : List D → Option D
  | [.int i, .int j] => some (.bool (g i j))
  | _ => none
theorem vop_i2 {c : Int → Int → Bool} {g : Int → Int → Int} {C : Int → Int → Prop} (h : ∀ i j, c i j = true → C i j) : VOp K (r2L (rI C fun i j => .int (g i j))) (ctF (i2 c g)) := vop_ct fun H vs ds z Q ct e k => by
  unfold i2 at e
  split at e
  · split at e
    · rename_i q
      cases e
      obtain rfl := ct.int2
      exact ⟨_, _, rfl, _, _, rfl, rfl, h _ _ q, k _ (.int _)⟩
    · cases e
  · cases e
theorem vop_i20 {g : Int → Int → Int} : VOp K (r2L (rI0 fun i j => .int (g i j))) (ctF (i2 (fun _ _ => true) g)) := vop_ct fun H vs ds z Q ct e k => by
  unfold i2 at e
  split at e
  · simp only [if_true] at e
    cases e
    obtain rfl := ct.int2
    exact ⟨_, _, rfl, _, _, rfl, rfl, k _ (.int _)⟩
  · cases e
theorem vop_b2 {g : Int → Int → Bool} : VOp K (r2L (rI0 fun i j => .bl (g i j))) (ctF (b2 g)) := vop_ct fun H vs ds z Q ct e k => by
  unfold b2 at e
  split at e
  · cases e
    obtain rfl := ct.int2
    exact ⟨_, _, rfl, _, _, rfl, rfl, k _ (.bl _)⟩
  · cases e
theorem mulX : ∃ f : Int → Int → Bool, ∀ i j, f i j = (decide (i.natAbs < 18446744073709551616) || decide (j.natAbs < 18446744073709551616) || decide (i.natAbs.log2 + j.natAbs.log2 < 1000000)) := ⟨fun i j => decide (i.natAbs < 18446744073709551616) || decide (j.natAbs < 18446744073709551616) || decide (i.natAbs.log2 + j.natAbs.log2 < 1000000), fun _ _ => rfl⟩
def mulOk : Int → Int → Bool := Classical.choose mulX
theorem mulOk_eq (i j : Int) : mulOk i j = (decide (i.natAbs < 18446744073709551616) || decide (j.natAbs < 18446744073709551616) || decide (i.natAbs.log2 + j.natAbs.log2 < 1000000)) := Classical.choose_spec mulX i j
theorem divX : ∃ f : Int → Int → Bool, ∀ i j, f i j = (decide (0 < j) && decide (j.natAbs.log2 < 9000)) := ⟨fun _ j => decide (0 < j) && decide (j.natAbs.log2 < 9000), fun _ _ => rfl⟩
def divOk : Int → Int → Bool := Classical.choose divX
theorem divOk_eq (i j : Int) : divOk i j = (decide (0 < j) && decide (j.natAbs.log2 < 9000)) := Classical.choose_spec divX i j
theorem powX : ∃ f : Int → Int → Bool, ∀ i j, f i j = (decide (0 ≤ j) && decide (j ≤ 1000000) && decide (i.natAbs < 18446744073709551616)) := ⟨fun i j => decide (0 ≤ j) && decide (j ≤ 1000000) && decide (i.natAbs < 18446744073709551616), fun _ _ => rfl⟩
def powOk : Int → Int → Bool := Classical.choose powX
theorem powOk_eq (i j : Int) : powOk i j = (decide (0 ≤ j) && decide (j ≤ 1000000) && decide (i.natAbs < 18446744073709551616)) := Classical.choose_spec powX i j
def addI := ctF (i2 (fun _ _ => true) fun i j => i + j)
def subI := ctF (i2 (fun _ _ => true) fun i j => i - j)
def mulI := ctF (i2 mulOk fun i j => i * j)
def divI := ctF (i2 divOk fun i j => i / j)
def modI := ctF (i2 (fun _ j => decide (0 < j)) fun i j => i % j)
def powI := ctF (i2 powOk fun i j => i ^ j.toNat)
theorem op_mulB {X : Cx} : OpR X (binaryOp .Mult) (rI (fun i j => CMul i j ∨ CMulW i j) fun i j => .int (i * j)) := opI fun i j t u s Q E h q => mul_int q (h.elim CMul.ok CMulW.ok)
theorem mulOk_of {i j : Int} (h : mulOk i j = true) : CMul i j ∨ CMulW i j := by
  rw [mulOk_eq] at h
  simp only [Bool.or_eq_true, decide_eq_true_eq] at h
  have e : (2 : Int) ^ 64 = 18446744073709551616 := by decide
  rcases h with (h | h) | h
  · exact .inl (.inl (by rw [e]; omega))
  · exact .inl (.inr (by rw [e]; omega))
  · exact .inr h
theorem vop_add : VOp K (r2L (rI0 fun i j => .int (i + j))) addI := vop_i20
theorem vop_sub : VOp K (r2L (rI0 fun i j => .int (i - j))) subI := vop_i20
theorem vop_mul : VOp K (r2L (rI (fun i j => CMul i j ∨ CMulW i j) fun i j => .int (i * j))) mulI := vop_i2 fun _ _ => mulOk_of
theorem vop_div : VOp K (r2L (rI CDivW fun i j => .int (i / j))) divI := vop_i2 fun i j h => by
  rw [divOk_eq] at h
  simp only [Bool.and_eq_true, decide_eq_true_eq] at h
  exact h
theorem vop_mod : VOp K (r2L (rI (fun _ j => 0 < j) fun i j => .int (i % j))) modI := vop_i2 fun i j h => of_decide_eq_true h
theorem vop_pow : VOp K (r2L (rI CPow fun i j => .int (i ^ j.toNat))) powI := vop_i2 fun i j h => by
  rw [powOk_eq] at h
  simp only [Bool.and_eq_true, decide_eq_true_eq] at h
  have e : (2 : Nat) ^ 64 = 18446744073709551616 := by decide
  exact ⟨h.1.1, h.1.2, by rw [e]; exact h.2⟩
def ltI := ctF (b2 fun i j => decide (i < j))
def leI := ctF (b2 fun i j => decide (i ≤ j))
def gtI := ctF (b2 fun i j => decide (j < i))
def geI := ctF (b2 fun i j => decide (j ≤ i))
theorem vop_lt : VOp K (r2L (rI0 fun i j => .bl (decide (i < j)))) ltI := vop_b2
theorem vop_le : VOp K (r2L (rI0 fun i j => .bl (decide (i ≤ j)))) leI := vop_b2
theorem vop_gt : VOp K (r2L (rI0 fun i j => .bl (decide (j < i)))) gtI := vop_b2
theorem vop_ge : VOp K (r2L (rI0 fun i j => .bl (decide (j ≤ i)))) geI := vop_b2
/-- -a -/
def negI := ctF fun ds => match ds with
  | [.int i] => some (.int (-i))
  | _ => none
theorem vop_neg : VOp K (r1L (rU fun i => .int (-i))) negI := vop_ct fun H vs ds z Q ct e k => by
  (try dsimp only at e)
  split at e
  · cases e
    obtain rfl := ct.int1
    exact ⟨_, rfl, _, rfl, k _ (.int _)⟩
  · cases e
/-! equality -/
def eqD (d e : D) : Option Bool := match d, e with
  | .str x, .str y => some (decide (x = y))
  | .none, e => match e with
    | .none => some true
    | .int _ => some false
    | .bool _ => some false
    | .str _ => some false
    | e => if SeqAt.shaped e then some (PyData.eqv .none e) else none
  | d, .none => match d with
    | .int _ => some false
    | .bool _ => some false
    | .str _ => some false
    | d => if SeqAt.shaped d then some (PyData.eqv d .none) else none
  | d, e => if SeqAt.shaped d && SeqAt.shaped e then some (PyData.eqv d e) else none
def eqF := ctF fun ds => match ds with
  | [d, e] => (eqD d e).bind fun b => some (.bool b)
  | _ => none
def neF := ctF fun ds => match ds with
  | [d, e] => (eqD d e).bind fun b => some (.bool (!b))
  | _ => none
theorem eqD_inv {d e : D} {b : Bool} (h : eqD d e = some b) : (∃ v w, Sc v d ∧ Sc w e ∧ scal v w = true ∧ b = decide (v = w)) ∨ (SeqAt.shaped d = true ∧ SeqAt.shaped e = true ∧ b = PyData.eqv d e) := by
  have two : ∀ {d e : D}, (if SeqAt.shaped d && SeqAt.shaped e then some (PyData.eqv d e) else none) = some b → SeqAt.shaped d = true ∧ SeqAt.shaped e = true ∧ b = PyData.eqv d e := fun {d e} h => by
    split at h
    · rename_i q; cases h; exact ⟨(Bool.and_eq_true_iff.mp q).1, (Bool.and_eq_true_iff.mp q).2, rfl⟩
    · cases h
  unfold eqD at h
  split at h
  · cases h; exact .inl ⟨_, _, .str _, .str _, rfl, by simp only [V.str.injEq]⟩
  · split at h
    · cases h; exact .inl ⟨_, _, .non, .non, rfl, rfl⟩
    · cases h; exact .inl ⟨_, _, .non, .int _, rfl, rfl⟩
    · cases h; exact .inl ⟨_, _, .non, .bl _, rfl, rfl⟩
    · cases h; exact .inl ⟨_, _, .non, .str _, rfl, rfl⟩
    · split at h
      · rename_i q; cases h; exact .inr ⟨rfl, q, rfl⟩
      · cases h
  · split at h
    · cases h; exact .inl ⟨_, _, .int _, .non, rfl, rfl⟩
    · cases h; exact .inl ⟨_, _, .bl _, .non, rfl, rfl⟩
    · cases h; exact .inl ⟨_, _, .str _, .non, rfl, rfl⟩
    · split at h
      · rename_i q; cases h; exact .inr ⟨q, rfl, rfl⟩
      · cases h
  · exact .inr (two h)
theorem CtR.sc {H : Hp} {v w : V} {d : D} (h : CtR K H v d) (s : Sc w d) : v = w := by
  cases s with
  | non => exact h.non_inv
  | bl b => exact h.bool_inv
  | int i => exact h.int_inv
  | str x => exact h.str_inv
theorem vop_eq : VOp K (r2L fun x y H Q => rEq x y H Q ∨ rEqD K x y H Q) eqF := vop_ct fun H vs ds z Q ct e k => by
  (try dsimp only at e)
  split at e
  · obtain ⟨b, e1, e⟩ := Option.bind_eq_some_iff.mp e
    cases e
    obtain ⟨v, u, rfl, c1, c2⟩ := ct.two
    rcases eqD_inv e1 with ⟨v', u', s1, s2, sc, rfl⟩ | ⟨s1, s2, rfl⟩
    · obtain rfl := c1.sc s1
      obtain rfl := c2.sc s2
      exact ⟨_, _, rfl, .inl ⟨sc, k _ (.bl _)⟩⟩
    · exact ⟨_, _, rfl, .inr ⟨_, _, c1.dp s1, c2.dp s2, s1, s2, k _ (.bl _)⟩⟩
  · cases e
theorem vop_ne : VOp K (r2L fun x y H Q => rNe x y H Q ∨ rNeD K x y H Q) neF := vop_ct fun H vs ds z Q ct e k => by
  (try dsimp only at e)
  split at e
  · obtain ⟨b, e1, e⟩ := Option.bind_eq_some_iff.mp e
    cases e
    obtain ⟨v, u, rfl, c1, c2⟩ := ct.two
    rcases eqD_inv e1 with ⟨v', u', s1, s2, sc, rfl⟩ | ⟨s1, s2, rfl⟩
    · obtain rfl := c1.sc s1
      obtain rfl := c2.sc s2
      exact ⟨_, _, rfl, .inl ⟨sc, k _ (.bl _)⟩⟩
    · exact ⟨_, _, rfl, .inr ⟨_, _, c1.dp s1, c2.dp s2, s1, s2, k _ (.bl _)⟩⟩
  · cases e
theorem op_eqB {X : Cx} (hu : X.A.units + 64 < cLine) : OpR X (compareOp .Eq) (fun x y H Q => rEq x y H Q ∨ rEqD X.K x y H Q) := OpR.or op_eq (op_eqD hu)
theorem op_neB {X : Cx} (hu : X.A.units + 64 < cLine) : OpR X (compareOp .NotEq) (fun x y H Q => rNe x y H Q ∨ rNeD X.K x y H Q) := OpR.or op_ne (op_neD hu)
/-! items: x + y of lists, of tuples; x * n; x[i] -/
def itmT (ρ : Rho) (v : Vl) : Option (Bool × List D) := (nml ρ v).bind fun w => match w with
  | .lk _ => none
  | w => itm0 w
theorem RX.itmT {W : Addr → Prop} {H : Hp} {σ : L2.St} {ρ : Rho} {φ : Fp} {v : V} {r : Vl} {l : List Addr} (s : SS K W H σ ρ φ) (h : RX K W H σ v r l) {b : Bool} {ds : List D} (e : DL.itmT ρ r = some (b, ds)) :
    ∃ a xs, v = .ref a ∧ (if b then H a = some (.lst xs) else SqT K H a xs) ∧ FzA K W H xs ds := by
  unfold DL.itmT at e
  obtain ⟨vl, e1, e⟩ := Option.bind_eq_some_iff.mp e
  obtain ⟨l', h', _⟩ := h.nml s e1
  cases h' with
  | fz f =>
    cases f with
    | lst w g r => cases e; exact ⟨_, _, rfl, g, r⟩
    | tup g r => cases e; exact ⟨_, _, rfl, g, r⟩
    | non => cases e
    | bl => cases e
    | int => cases e
    | str => cases e
    | dct => cases e
  | ow g w f => cases e; exact ⟨_, _, rfl, g, f⟩
  | ow2 => cases e
  | lk g f => cases e
  | tp g f => cases e; exact ⟨_, _, rfl, g.sq, f⟩
  | od => cases e
def maxLen : Nat := 1000000
theorem maxLen_le {n : Nat} (h : n ≤ maxLen) : n ≤ sizeLine := by rw [sizeLine_eq]; unfold maxLen at h; omega
theorem maxLen_lt {n : Nat} (h : n ≤ maxLen) : n < sizeLine := by rw [sizeLine_eq]; unfold maxLen at h; omega
theorem RXs.two {W : Addr → Prop} {H : Hp} {σ : L2.St} {vs : List V} {r1 r2 : Vl} {l : List Addr} (h : RXs K W H σ vs [r1, r2] l) : ∃ v u l1 l2, vs = [v, u] ∧ RX K W H σ v r1 l1 ∧ RX K W H σ u r2 l2 := by
  cases h with
  | cons h t _ => cases t with
    | cons h2 t _ => cases t; exact ⟨_, _, _, _, rfl, h, h2⟩
theorem RXs.one' {W : Addr → Prop} {H : Hp} {σ : L2.St} {vs : List V} {r1 : Vl} {l : List Addr} (h : RXs K W H σ vs [r1] l) : ∃ v l1, vs = [v] ∧ RX K W H σ v r1 l1 := by
  cases h with
  | cons h t _ => cases t; exact ⟨_, _, rfl, h⟩
def catF : Rho → List Vl → Option Vl := fun ρ rs => match rs with
  | [x, y] => (itmT ρ x).bind fun p => (itmT ρ y).bind fun q => if (p.2.length + q.2.length ≤ maxLen) then (match p.1, q.1 with
    | true, true => some (.ow (p.2 ++ q.2))
    | false, false => some (.fz (.tuple (p.2 ++ q.2)))
    | _, _ => none) else none
  | _ => none
/-- the heap grows by nothing -/
theorem keepQ {W : Addr → Prop} {H : Hp} {fp : Addr → Prop} {v : V} {r : Vl} {Q : VK} (wf : ∀ a, W a → ∃ o, H a = some o) (rv : RV K W H v r []) (k : ∀ v W' H' l', Ev fp W H W' H' → (∀ a, W' a → ∃ o, H' a = some o) → RV K W' H' v r l' → (∀ a ∈ l', fp a ∨ H a = none) → Q v H') : Q v H :=
  k v W H [] (Ev.refl ..) wf rv (fun a h => nomatch h)
theorem vop_cat : VOp K (r2L fun x y H Q => rCat x y H Q ∨ rCatA K x y H Q) catF := by
  intro W H σ ρ φ vs rs l res Q s rx dj e k
  unfold catF at e
  split at e
  · rename_i r1 r2
    obtain ⟨⟨b1, ds⟩, e1, e⟩ := Option.bind_eq_some_iff.mp e
    obtain ⟨⟨b2, es⟩, e2, e⟩ := Option.bind_eq_some_iff.mp e
    split at e
    · rename_i hz
      obtain ⟨v, u, l1, l2, rfl, h1, h2⟩ := rx.two
      obtain ⟨a, xs, rfl, q1, f1⟩ := h1.itmT s e1
      obtain ⟨b, ys, rfl, q2, f2⟩ := h2.itmT s e2
      have hz' : xs.length + ys.length ≤ sizeLine := by rw [f1.length, f2.length]; exact maxLen_le hz
      cases b1 <;> cases b2
      rotate_left
      · cases e
      · cases e
      · cases e
        exact ⟨_, _, rfl, .inl ⟨a, b, xs, ys, rfl, rfl, q1, q2, hz', new_list (f1.append f2) s.wf k⟩⟩
      · cases e
        refine ⟨_, _, rfl, .inr ⟨a, b, xs, ys, rfl, rfl, q1, q2, hz', fun z => ?_, fun n z => ?_, fun _ _ => new_tuple (f1.append f2) s.wf k⟩⟩
        · subst z
          cases f1
          exact keepQ s.wf (.fz (.tup q2 f2)) k
        · subst z
          cases f2
          exact keepQ s.wf (.fz (.tup q1 (by rw [List.append_nil]; exact f1))) k
    · cases e
  · cases e
def addSF := ctF fun ds => match ds with
  | [.str x, .str y] => if x.length + y.length ≤ maxLen then some (.str (x ++ y)) else none
  | _ => none
theorem vop_addS : VOp K (r2L fun x y H Q => ∃ i j, x = .str i ∧ y = .str j ∧ i.length + j.length ≤ sizeLine ∧ Q (.str (i ++ j)) H) addSF := vop_ct fun H vs ds z Q ct e k => by
  (try dsimp only at e)
  split at e
  · split at e
    · rename_i hz
      cases e
      obtain ⟨v, u, rfl, c1, c2⟩ := ct.two
      exact ⟨_, _, rfl, _, _, c1.str_inv, c2.str_inv, maxLen_le hz, k _ (.str _)⟩
    · cases e
  · cases e
def addF := orF addI (orF catF addSF)
theorem vop_addB : VOp K (r2L fun x y H Q => rI0 (fun i j => .int (i + j)) x y H Q ∨ ((rCat x y H Q ∨ rCatA K x y H Q) ∨ (∃ i j, x = .str i ∧ y = .str j ∧ i.length + j.length ≤ sizeLine ∧ Q (.str (i ++ j)) H))) addF := vop2_or vop_add (vop2_or vop_cat vop_addS)
theorem op_addB {X : Cx} : OpR X (binaryOp .Add) (fun x y H Q => rI0 (fun i j => .int (i + j)) x y H Q ∨ ((rCat x y H Q ∨ rCatA X.K x y H Q) ∨ (∃ i j, x = .str i ∧ y = .str j ∧ i.length + j.length ≤ sizeLine ∧ Q (.str (i ++ j)) H))) := OpR.or op_add (OpR.or (OpR.or op_cat op_catA) op_add_str)
theorem FzA.rep {W : Addr → Prop} {H : Hp} {vs : List V} {ds : List D} (f : FzA K W H vs ds) : ∀ n : Nat, FzA K W H (List.replicate n vs).flatten (List.replicate n ds).flatten
  | 0 => .nil
  | n + 1 => by
    rw [List.replicate_succ, List.replicate_succ, List.flatten_cons, List.flatten_cons]
    exact f.append (FzA.rep f n)
def repF : Rho → List Vl → Option Vl := fun ρ rs => match rs with
  | [x, y] => (itmT ρ x).bind fun p => (curR ρ y).bind fun q => match p.1, q with
    | true, .int k => if p.2.length * k.toNat ≤ maxLen ∧ smallI k = true then some (.ow (List.replicate k.toNat p.2).flatten) else none
    | false, .int k => if p.2.length ≠ 0 ∧ 2 ≤ k ∧ k ≤ 1000 ∧ p.2.length ≤ 1000 then some (.fz (.tuple (List.replicate k.toNat p.2).flatten)) else none
    | _, _ => none
  | _ => none
theorem vop_rep : VOp K (r2L fun x y H Q => rRep x y H Q ∨ rRepT K x y H Q) repF := by
  intro W H σ ρ φ vs rs l res Q s rx dj e k
  unfold repF at e
  split at e
  · rename_i r1 r2
    obtain ⟨⟨b1, ds⟩, e1, e⟩ := Option.bind_eq_some_iff.mp e
    obtain ⟨q, e2, e⟩ := Option.bind_eq_some_iff.mp e
    obtain ⟨v, u, l1, l2, rfl, h1, h2⟩ := rx.two
    obtain ⟨a, xs, rfl, q1, f1⟩ := h1.itmT s e1
    have c2 := h2.ctR s e2
    split at e
    · rename_i k1 b2 _ kk hb
      split at e
      · rename_i hz
        cases e
        obtain ⟨h3, h4⟩ := smallI_iff hz.2
        obtain rfl := c2.int_inv
        cases hb
        exact ⟨_, _, rfl, .inl ⟨a, kk, xs, rfl, rfl, q1, by omega, by omega, by rw [f1.length]; exact maxLen_le hz.1, new_list (f1.rep _) s.wf k⟩⟩
      · cases e
    · rename_i k1 b2 _ kk hb
      split at e
      · rename_i hz
        cases e
        obtain rfl := c2.int_inv
        cases hb
        refine ⟨_, _, rfl, .inr ⟨a, kk, xs, rfl, rfl, q1, ?_, hz.2.1, hz.2.2.1, by rw [f1.length]; exact hz.2.2.2, new_tuple (f1.rep _) s.wf k⟩⟩
        rintro rfl
        exact hz.1 (by show ds.length = 0; rw [← f1.length]; rfl)
      · cases e
    · cases e
  · cases e
def mulF := orF mulI repF
theorem vop_mulB : VOp K (r2L fun x y H Q => rI (fun i j => CMul i j ∨ CMulW i j) (fun i j => .int (i * j)) x y H Q ∨ (rRep x y H Q ∨ rRepT K x y H Q)) mulF := vop2_or vop_mul vop_rep
theorem op_mulA {X : Cx} : OpR X (binaryOp .Mult) (fun x y H Q => rI (fun i j => CMul i j ∨ CMulW i j) (fun i j => .int (i * j)) x y H Q ∨ (rRep x y H Q ∨ rRepT X.K x y H Q)) := OpR.or op_mulB (OpR.or op_rep op_repT)
def ixF : Rho → List Vl → Option Vl := fun ρ rs => match rs with
  | [x, y] => (curR ρ y).bind fun q => match q with
    | .int i => match curR ρ x with
      | some (.str z) => if z.length ≤ maxLen then (atI z.cps.toList i).bind fun c => some (.fz (.str ⟨#[c]⟩)) else none
      | _ => (itm ρ x).bind fun p => (ixN p.2.length i).bind fun j => (p.2[j]?).bind fun d => some (.fz d)
    | _ => none
  | _ => none
theorem vop_ix : VOp K (r2L (rIx K)) ixF := by
  intro W H σ ρ φ vs rs l res Q s rx dj e k
  unfold ixF at e
  split at e
  · rename_i r1 r2
    obtain ⟨q, e2, e⟩ := Option.bind_eq_some_iff.mp e
    obtain ⟨v, u, l1, l2, rfl, h1, h2⟩ := rx.two
    have c2 := h2.ctR s e2
    split at e
    · rename_i i
      obtain rfl := c2.int_inv
      split at e
      · rename_i z ez
        split at e
        · rename_i hz
          obtain ⟨c, e3, e⟩ := Option.bind_eq_some_iff.mp e
          cases e
          obtain rfl := (h1.ctR s ez).str_inv
          exact ⟨_, _, rfl, .inr (.inr ⟨z, i, c, rfl, rfl, maxLen_le hz, e3, keepQ s.wf (.fz (.str _)) k⟩)⟩
        · cases e
      · obtain ⟨⟨b1, ds⟩, e1, e⟩ := Option.bind_eq_some_iff.mp e
        obtain ⟨j, e3, e⟩ := Option.bind_eq_some_iff.mp e
        obtain ⟨d, e4, e⟩ := Option.bind_eq_some_iff.mp e
        cases e
        obtain ⟨a, xs, rfl, q1, f1⟩ := h1.itm s e1
        obtain ⟨v, g1, g2⟩ := f1.getD e4
        have at1 : atI xs i = some v := by
          unfold atI
          rw [f1.length, e3]
          exact g1
        cases b1 with
        | true => exact ⟨_, _, rfl, .inl ⟨a, xs, i, v, rfl, rfl, q1, at1, keepQ s.wf (.fz g2) k⟩⟩
        | false => exact ⟨_, _, rfl, .inr (.inl ⟨a, xs, i, v, rfl, rfl, q1, at1, keepQ s.wf (.fz g2) k⟩)⟩
    · cases e
  · cases e
/-! len, abs, max, min, sum, any, all, int, list, tuple -/
def lenF := ctF fun ds => match ds with
  | [.list xs] => some (.int xs.length)
  | [.tuple xs] => some (.int xs.length)
  | [.str x] => if x.length ≤ maxLen then some (.int x.length) else none
  | _ => none
theorem vop_len : VOp K (fun xs H Q => ∃ x n, xs = [x] ∧ LenV K x H n ∧ Q (.int n) H) lenF := vop_ct fun H vs ds z Q ct e k => by
  (try dsimp only at e)
  split at e
  · cases e
    obtain ⟨v, rfl, c⟩ := ct.one
    obtain ⟨a, xs, rfl, h, r⟩ := c.list_inv
    exact ⟨_, _, rfl, .inl ⟨xs, h, rfl⟩, by rw [r.length]; exact k _ (.int _)⟩
  · cases e
    obtain ⟨v, rfl, c⟩ := ct.one
    obtain ⟨a, xs, rfl, h, r⟩ := c.tup_inv
    exact ⟨_, _, rfl, .inr ⟨xs, h, rfl⟩, by rw [r.length]; exact k _ (.int _)⟩
  · split at e
    · rename_i hz
      cases e
      obtain ⟨v, rfl, c⟩ := ct.one
      obtain rfl := c.str_inv
      exact ⟨_, _, rfl, ⟨maxLen_le hz, rfl⟩, k _ (.int _)⟩
    · cases e
  · cases e
def absF := ctF fun ds => match ds with
  | [.int i] => some (.int (if i < 0 then -i else i))
  | _ => none
theorem vop_abs : VOp K (fun xs H Q => ∃ i, xs = [.int i] ∧ Q (.int (if i < 0 then -i else i)) H) absF := vop_ct fun H vs ds z Q ct e k => by
  (try dsimp only at e)
  split at e
  · cases e
    obtain rfl := ct.int1
    exact ⟨_, rfl, k _ (.int _)⟩
  · cases e
def intF := ctF fun ds => match ds with
  | [.int i] => some (.int i)
  | [.bool b] => some (.int (if b then 1 else 0))
  | _ => none
theorem vop_int : VOp K (fun xs H Q => (∃ i, xs = [.int i] ∧ Q (.int i) H) ∨ ∃ k, xs = [.bl k] ∧ Q (.int (if k then 1 else 0)) H) intF := vop_ct fun H vs ds z Q ct e k => by
  (try dsimp only at e)
  split at e
  · cases e
    obtain rfl := ct.int1
    exact .inl ⟨_, rfl, k _ (.int _)⟩
  · cases e
    obtain ⟨v, rfl, c⟩ := ct.one
    obtain rfl := c.bool_inv
    exact .inr ⟨_, rfl, k _ (.int _)⟩
  · cases e
def intsD : List D → Option (List Int)
  | [] => some []
  | .int i :: r => (intsD r).bind fun ns => some (i :: ns)
  | _ => none
def boolsD : List D → Option (List Bool)
  | [] => some []
  | .bool i :: r => (boolsD r).bind fun ns => some (i :: ns)
  | _ => none
theorem intsD_inv : ∀ {ds : List D} {ns : List Int}, intsD ds = some ns → ds = ns.map .int
  | [], _, h => by cases h; rfl
  | d :: r, ns, h => by
    cases d with
    | int i =>
      unfold intsD at h
      obtain ⟨ms, e, h⟩ := Option.bind_eq_some_iff.mp h
      cases h
      rw [intsD_inv e]
      rfl
    | _ => cases h
theorem boolsD_inv : ∀ {ds : List D} {ns : List Bool}, boolsD ds = some ns → ds = ns.map .bool
  | [], _, h => by cases h; rfl
  | d :: r, ns, h => by
    cases d with
    | bool i =>
      unfold boolsD at h
      obtain ⟨ms, e, h⟩ := Option.bind_eq_some_iff.mp h
      cases h
      rw [boolsD_inv e]
      rfl
    | _ => cases h
theorem intsD_map : ∀ ns : List Int, intsD (ns.map .int) = some ns
  | [] => rfl
  | n :: r => by rw [List.map_cons]; unfold intsD; rw [intsD_map r]; rfl
theorem boolsD_map : ∀ ns : List Bool, boolsD (ns.map .bool) = some ns
  | [] => rfl
  | n :: r => by rw [List.map_cons]; unfold boolsD; rw [boolsD_map r]; rfl
def sumF := ctF fun ds => match ds with
  | [.list xs] => (intsD xs).bind fun ns => some (.int ns.sum)
  | _ => none
theorem vop_sum : VOp K (rSum K) sumF := vop_ct fun H vs ds z Q ct e k => by
  (try dsimp only at e)
  split at e
  · obtain ⟨ns, e1, e⟩ := Option.bind_eq_some_iff.mp e
    cases e
    obtain rfl := intsD_inv e1
    obtain ⟨v, rfl, c⟩ := ct.one
    obtain ⟨a, xs, rfl, h, r⟩ := c.list_inv
    obtain rfl := r.ints
    exact ⟨a, ns, rfl, h, k _ (.int _)⟩
  · cases e
def mxI (a : Int) (ns : List Int) : Int := ns.foldl (fun x y => if x < y then y else x) a
def mnI (a : Int) (ns : List Int) : Int := ns.foldl (fun x y => if y < x then y else x) a
theorem mxI_cons (a b : Int) (r : List Int) : mxI a (b :: r) = mxI (if a < b then b else a) r := rfl
theorem mnI_cons (a b : Int) (r : List Int) : mnI a (b :: r) = mnI (if b < a then b else a) r := rfl
theorem mxI_spec : ∀ (ns : List Int) (a : Int), mxI a ns ∈ a :: ns ∧ ∀ y ∈ a :: ns, y ≤ mxI a ns
  | [], a => ⟨List.mem_cons_self, fun y h => by obtain rfl := List.mem_singleton.mp h; exact Int.le_refl _⟩
  | b :: r, a => by
    obtain ⟨h1, h2⟩ := mxI_spec r (if a < b then b else a)
    rw [mxI_cons]
    refine ⟨?_, fun y h => ?_⟩
    · rcases List.mem_cons.mp h1 with h | h
      · rw [h]; split <;> simp
      · exact List.mem_cons_of_mem _ (List.mem_cons_of_mem _ h)
    · have g := h2 _ List.mem_cons_self
      have g2 : ∀ y ∈ r, _ := fun y h => h2 y (List.mem_cons_of_mem _ h)
      generalize mxI (if a < b then b else a) r = m at g g2 ⊢
      rcases List.mem_cons.mp h with rfl | h
      · split at g <;> omega
      · rcases List.mem_cons.mp h with rfl | h
        · split at g <;> omega
        · exact g2 y h
theorem mnI_spec : ∀ (ns : List Int) (a : Int), mnI a ns ∈ a :: ns ∧ ∀ y ∈ a :: ns, mnI a ns ≤ y
  | [], a => ⟨List.mem_cons_self, fun y h => by obtain rfl := List.mem_singleton.mp h; exact Int.le_refl _⟩
  | b :: r, a => by
    obtain ⟨h1, h2⟩ := mnI_spec r (if b < a then b else a)
    rw [mnI_cons]
    refine ⟨?_, fun y h => ?_⟩
    · rcases List.mem_cons.mp h1 with h | h
      · rw [h]; split <;> simp
      · exact List.mem_cons_of_mem _ (List.mem_cons_of_mem _ h)
    · have g := h2 _ List.mem_cons_self
      have g2 : ∀ y ∈ r, _ := fun y h => h2 y (List.mem_cons_of_mem _ h)
      generalize mnI (if b < a then b else a) r = m at g g2 ⊢
      rcases List.mem_cons.mp h with rfl | h
      · split at g <;> omega
      · rcases List.mem_cons.mp h with rfl | h
        · split at g <;> omega
        · exact g2 y h
def maxF := ctF fun ds => match ds with
  | [.list xs] => (intsD xs).bind fun ns => match ns with
    | a :: r => some (.int (mxI a r))
    | [] => none
  | [.int i, .int j] => some (.int (if j > i then j else i))
  | _ => none
def minF := ctF fun ds => match ds with
  | [.list xs] => (intsD xs).bind fun ns => match ns with
    | a :: r => some (.int (mnI a r))
    | [] => none
  | [.int i, .int j] => some (.int (if j < i then j else i))
  | _ => none
theorem vop_max : VOp K (fun xs H Q => rMax K xs H Q ∨ ∃ i j, xs = [.int i, .int j] ∧ Q (.int (if j > i then j else i)) H) maxF := vop_ct fun H vs ds z Q ct e k => by
  (try dsimp only at e)
  split at e
  · obtain ⟨ns, e1, e2⟩ := Option.bind_eq_some_iff.mp e
    obtain rfl := intsD_inv e1
    obtain ⟨v, rfl, c⟩ := ct.one
    obtain ⟨a, xs, rfl, h, r⟩ := c.list_inv
    obtain rfl := r.ints
    split at e2
    · rename_i b t
      cases e2
      refine .inl ⟨a, b :: t, rfl, h, Nat.succ_pos _, fun m h1 h2 => ?_⟩
      obtain ⟨g1, g2⟩ := mxI_spec t b
      have := h2 _ g1
      have := g2 m h1
      obtain rfl : m = mxI b t := by omega
      exact k _ (.int _)
    · cases e2
  · cases e
    obtain rfl := ct.int2
    exact .inr ⟨_, _, rfl, k _ (.int _)⟩
  · cases e
theorem vop_min : VOp K (fun xs H Q => rMin K xs H Q ∨ ∃ i j, xs = [.int i, .int j] ∧ Q (.int (if j < i then j else i)) H) minF := vop_ct fun H vs ds z Q ct e k => by
  (try dsimp only at e)
  split at e
  · obtain ⟨ns, e1, e2⟩ := Option.bind_eq_some_iff.mp e
    obtain rfl := intsD_inv e1
    obtain ⟨v, rfl, c⟩ := ct.one
    obtain ⟨a, xs, rfl, h, r⟩ := c.list_inv
    obtain rfl := r.ints
    split at e2
    · rename_i b t
      cases e2
      refine .inl ⟨a, b :: t, rfl, h, Nat.succ_pos _, fun m h1 h2 => ?_⟩
      obtain ⟨g1, g2⟩ := mnI_spec t b
      have := h2 _ g1
      have := g2 m h1
      obtain rfl : m = mnI b t := by omega
      exact k _ (.int _)
    · cases e2
  · cases e
    obtain rfl := ct.int2
    exact .inr ⟨_, _, rfl, k _ (.int _)⟩
  · cases e
theorem cr_maxB {X : Cx} (hc : X.calm = true) : CallR X (.builtin "max") (fun xs H Q => rMax X.K xs H Q ∨ ∃ i j, xs = [.int i, .int j] ∧ Q (.int (if j > i then j else i)) H) := CallR.or (cr_max hc) (call_max2 hc)
theorem cr_minB {X : Cx} (hc : X.calm = true) : CallR X (.builtin "min") (fun xs H Q => rMin X.K xs H Q ∨ ∃ i j, xs = [.int i, .int j] ∧ Q (.int (if j < i then j else i)) H) := CallR.or (cr_min hc) (call_min2 hc)
def anyF := ctF fun ds => match ds with
  | [.list xs] => (boolsD xs).bind fun ns => some (.bool (ns.any id))
  | _ => none
def allF := ctF fun ds => match ds with
  | [.list xs] => (boolsD xs).bind fun ns => some (.bool (ns.all id))
  | _ => none
theorem vop_any : VOp K (rAny K) anyF := vop_ct fun H vs ds z Q ct e k => by
  (try dsimp only at e)
  split at e
  · obtain ⟨ns, e1, e⟩ := Option.bind_eq_some_iff.mp e
    cases e
    obtain rfl := boolsD_inv e1
    obtain ⟨v, rfl, c⟩ := ct.one
    obtain ⟨a, xs, rfl, h, r⟩ := c.list_inv
    obtain rfl := r.bools
    exact ⟨a, ns, rfl, h, k _ (.bl _)⟩
  · cases e
theorem vop_all : VOp K (rAll K) allF := vop_ct fun H vs ds z Q ct e k => by
  (try dsimp only at e)
  split at e
  · obtain ⟨ns, e1, e⟩ := Option.bind_eq_some_iff.mp e
    cases e
    obtain rfl := boolsD_inv e1
    obtain ⟨v, rfl, c⟩ := ct.one
    obtain ⟨a, xs, rfl, h, r⟩ := c.list_inv
    obtain rfl := r.bools
    exact ⟨a, ns, rfl, h, k _ (.bl _)⟩
  · cases e
def listF : Rho → List Vl → Option Vl := fun ρ rs => match rs with
  | [x] => (itm ρ x).bind fun p => some (.ow p.2)
  | _ => none
def tupleF : Rho → List Vl → Option Vl := fun ρ rs => match rs with
  | [x] => (itm ρ x).bind fun p => some (.fz (.tuple p.2))
  | _ => none
theorem vop_list : VOp K (fun xs H Q => ∃ p ys, xs = [.ref p] ∧ (SqL K H p ys ∨ SqT K H p ys) ∧ ∀ l, H l = none → Q (.ref l) (upd H l (.lst ys))) listF := by
  intro W H σ ρ φ vs rs l res Q s rx dj e k
  unfold listF at e
  split at e
  · obtain ⟨⟨b1, ds⟩, e1, e⟩ := Option.bind_eq_some_iff.mp e
    cases e
    obtain ⟨v, l1, rfl, h1⟩ := rx.one'
    obtain ⟨a, xs, rfl, q1, f1⟩ := h1.itm s e1
    refine ⟨a, xs, rfl, ?_, new_list f1 s.wf k⟩
    cases b1 with
    | true => exact .inl q1
    | false => exact .inr q1
  · cases e
theorem vop_tuple : VOp K (fun xs H Q => ∃ p ys, xs = [.ref p] ∧ ((SqL K H p ys ∧ ∀ l, H l = none → Q (.ref l) (upd H l (.tup ys))) ∨ (SqT K H p ys ∧ Q (.ref p) H))) tupleF := by
  intro W H σ ρ φ vs rs l res Q s rx dj e k
  unfold tupleF at e
  split at e
  · obtain ⟨⟨b1, ds⟩, e1, e⟩ := Option.bind_eq_some_iff.mp e
    cases e
    obtain ⟨v, l1, rfl, h1⟩ := rx.one'
    obtain ⟨a, xs, rfl, q1, f1⟩ := h1.itm s e1
    refine ⟨a, xs, rfl, ?_⟩
    cases b1 with
    | true => exact .inl ⟨q1, new_tuple f1 s.wf k⟩
    | false => exact .inr ⟨q1, keepQ s.wf (.fz (.tup q1 f1)) k⟩
  · cases e
/-! divmod -/
def divmodF : Rho → List Vl → Option Vl := fun ρ rs => (curA ρ rs).bind fun ds => match ds with
  | [.int i, .int j] => if divOk i j then some (.fz (.tuple [.int (i / j), .int (i % j)])) else none
  | _ => none
end
end
end DL

namespace DL
open PySem PySem.Spec PyProof.Rows L2
noncomputable section

section
variable {K : PySem.W.Frag}
/-! divmod -/
theorem op_divmodW {X : Cx} : CallR X (.builtin "divmod") (fun xs H Q => ∃ i j, xs = [.int i, .int j] ∧ CDivW i j ∧ ∀ p, H p = none → Q (.ref p) (upd H p (.tup [.int (i / j), .int (i % j)]))) := by
  intro pins s σ H xs us Q I r h
  obtain ⟨i, j, rfl, hc, q⟩ := h
  refine call_divmodW pins s σ H _ us Q I r ⟨i, j, rfl, ⟨hc.1, ?_⟩, q⟩
  exact PyProof.noPylong_of_log2 hc.2
theorem vop_divmod : VOp K (fun xs H Q => ∃ i j, xs = [.int i, .int j] ∧ CDivW i j ∧ ∀ p, H p = none → Q (.ref p) (upd H p (.tup [.int (i / j), .int (i % j)]))) divmodF := by
  intro W H σ ρ φ vs rs l res Q s rx dj e k
  unfold divmodF at e
  obtain ⟨ds, e1, e⟩ := Option.bind_eq_some_iff.mp e
  have ct := rx.ctR s e1
  split at e
  · split at e
    · rename_i i j hz
      cases e
      rw [divOk_eq] at hz
      simp only [Bool.and_eq_true, decide_eq_true_eq] at hz
      obtain rfl := ct.int2
      exact ⟨_, _, rfl, hz, new_tuple (.cons (.int _) (.cons (.int _) .nil)) s.wf k⟩
    · cases e
  · cases e
/-! repr -/
mutual
def shB : D → Nat
  | .none => 5
  | .bool _ => 5
  | .int i => if i.natAbs < 1000000000000 then 13 else 1921
  | .str x => (reprText x).length
  | .list xs => shBA xs + 3
  | .tuple xs => shBA xs + 3
  | .dict _ => 100000000
def shBA : List D → Nat
  | [] => 0
  | x :: xs => shB x + 2 + shBA xs
end
theorem shBA_sum : ∀ xs : List D, (∀ x ∈ xs, x.shown.length ≤ shB x) → ((PyData.shownAll xs).map (·.length)).sum + 2 * (PyData.shownAll xs).length ≤ shBA xs
  | [], _ => by simp [PyData.shownAll, shBA]
  | x :: xs, h => by
    have h1 := h x List.mem_cons_self
    have h2 := shBA_sum xs fun y hy => h y (List.mem_cons_of_mem _ hy)
    simp only [PyData.shownAll, List.map_cons, List.sum_cons, List.length_cons, shBA]
    omega
mutual
theorem shown_shB : ∀ d : D, d.showable = true → d.hasDict = false → d.shown.length ≤ shB d
  | .none, _, _ => by decide +kernel
  | .bool b, _, _ => by cases b <;> decide +kernel
  | .int i, h, _ => by
    unfold shB
    split
    · rename_i q; exact PyData.shown_int_le (by have e : (10 : Nat) ^ 12 = 1000000000000 := by decide
                                                rw [e]; exact q)
    · simp only [PyData.showable, decide_eq_true_eq] at h
      rw [PyData.shown_int]
      exact int_text_len_1921 h
  | .str x, _, _ => by rw [PyData.shown_str]; unfold shB; exact Nat.le_refl _
  | .list xs, h, g => by
    simp only [PyData.showable] at h
    simp only [PyData.hasDict] at g
    have := shBA_sum xs (shown_shBA xs h g)
    unfold shB
    simp only [PyData.shown]
    have l := listText_len_le (PyData.shownAll xs)
    omega
  | .tuple xs, h, g => by
    simp only [PyData.showable] at h
    simp only [PyData.hasDict] at g
    have := shBA_sum xs (shown_shBA xs h g)
    unfold shB
    simp only [PyData.shown]
    have l := tupleText_len_le (PyData.shownAll xs)
    omega
  | .dict _, _, g => by simp [PyData.hasDict] at g
theorem shown_shBA : ∀ xs : List D, PyData.showableAll xs = true → PyData.hasDictAll xs = false → ∀ x ∈ xs, x.shown.length ≤ shB x
  | [], _, _, _, h => nomatch h
  | x :: xs, h, g, y, hy => by
    simp only [PyData.showableAll, Bool.and_eq_true] at h
    simp only [PyData.hasDictAll, Bool.or_eq_false_iff] at g
    rcases List.mem_cons.mp hy with e | hy
    · rw [e]; exact shown_shB x h.1 g.1
    · exact shown_shBA xs h.2 g.2 y hy
end
def reprOk (d : D) : Bool := PyData.showable d && !PyData.hasDict d && decide (PyData.depth d ≤ 64) && decide (shB d ≤ 16000000)
theorem reprOk_of {d : D} (h : reprOk d = true) : d.showable = true ∧ d.hasDict = false ∧ d.depth ≤ 64 ∧ d.shown.length ≤ sizeLine := by
  unfold reprOk at h
  simp only [Bool.and_eq_true, Bool.not_eq_true', decide_eq_true_eq] at h
  obtain ⟨⟨⟨h1, h2⟩, h3⟩, h4⟩ := h
  refine ⟨h1, h2, h3, Nat.le_trans (shown_shB d h1 h2) ?_⟩
  rw [sizeLine_eq]; omega
def rReprD (K : PySem.W.Frag) : List V → Hp → VK → Prop := fun vs H Q => ∃ v d, vs = [v] ∧ CtR K H v d ∧ reprOk d = true ∧ Q (.str d.shown) H
mutual
theorem Ct.dpN {H : Hp} : ∀ {v : V} {d : D}, Ct K H v d → d.hasDict = false → Dp K H v d
  | _, _, .non, _ => .non
  | _, _, .bl b, _ => .bl b
  | _, _, .int i, _ => .int i
  | _, _, .str x, _ => .str x
  | _, _, .lst h r, q => .lst (.of h) (CtA.dpN r (by simpa [PyData.hasDict] using q))
  | _, _, .tup h r, q => .tup h (CtA.dpN r (by simpa [PyData.hasDict] using q))
  | _, _, .dct _ _, q => by simp [PyData.hasDict] at q
theorem CtA.dpN {H : Hp} : ∀ {vs : List V} {ds : List D}, CtA K H vs ds → PyData.hasDictAll ds = false → DpAll K H vs ds
  | _, _, .nil, _ => .nil
  | _, _, .cons h r, q => by
    simp only [PyData.hasDictAll, Bool.or_eq_false_iff] at q
    exact .cons (Ct.dpN h q.1) (CtA.dpN r q.2)
end
theorem CtR.dpN {H : Hp} {v : V} {d : D} (h : CtR K H v d) (q : d.hasDict = false) : Dp K H v d := by
  cases h with
  | ct h => exact h.dpN q
  | lk h r => exact .lst h (r.dpN (by simpa [PyData.hasDict] using q))
theorem call_reprD {X : Cx} (hg : X.A.guards = some []) (hu : X.A.units + 70 < cLine) : CallR X (.builtin "repr") (rReprD X.K) := by
  rintro pins s σ H vs us Q I r ⟨v, d, rfl, ct, ok, q⟩
  obtain ⟨h1, h2, h3, h4⟩ := reprOk_of ok
  obtain ⟨u, rfl, rv⟩ := r.one
  obtain ⟨as, rd⟩ := Dp.reads I d v u (ct.dpN h2) rv
  have fin : ∀ (h' : Heap) (u' : Tok) (tk : Nat), (∀ b o, s.heap.get? b = some o → h'.get? b = some o) → EP X pins σ Q (.str d.shown u') { s with heap := h', toks := tk } := fun h' u' tk hk => ⟨.str d.shown, H, I.kept hk, ⟨u', rfl⟩, q⟩
  cases d with
  | none => cases rd; exact PySem.P.repr_of_none (fin s.heap _ _ fun _ _ e => e)
  | bool b =>
    cases rd
    have := fin s.heap s.toks (s.toks + 1) fun _ _ e => e
    exact PySem.P.repr_of_bool (by cases b <;> exact this)
  | int i => cases rd; exact PySem.P.repr_of_int (by simpa [PyData.showable] using h1) (fin s.heap _ _ fun _ _ e => e)
  | str x => cases rd; exact PySem.P.repr_of_str (fin s.heap _ _ fun _ _ e => e) (by rw [PyData.shown_str] at h4; exact h4)
  | list xs =>
    have : ∃ a, u = .ref a := by cases rd; exact ⟨_, rfl⟩
    obtain ⟨a, rfl⟩ := this
    exact PySem.repr_of_reads' rd h1 (PyData.noDict_hsm h2) hg (by omega) (fun _ _ e => e) (fun h' u tk hk => fin h' u tk hk) h4
  | tuple xs =>
    have : ∃ a, u = .ref a := by cases rd; exact ⟨_, rfl⟩
    obtain ⟨a, rfl⟩ := this
    exact PySem.repr_of_reads' rd h1 (PyData.noDict_hsm h2) hg (by omega) (fun _ _ e => e) (fun h' u tk hk => fin h' u tk hk) h4
  | dict _ => simp [PyData.hasDict] at h2
def reprF := ctF fun ds => match ds with
  | [d] => if reprOk d then some (.str d.shown) else none
  | _ => none
theorem vop_repr : VOp K (rReprD K) reprF := vop_ct fun H vs ds z Q ct e k => by
  (try dsimp only at e)
  split at e
  · split at e
    · rename_i hz
      cases e
      obtain ⟨v, rfl, c⟩ := ct.one
      exact ⟨v, _, rfl, c, hz, k _ (.str _)⟩
    · cases e
  · cases e
end
end
end DL

namespace DL
open PySem PySem.Spec PyProof.Rows L2
noncomputable section

/-! ### isinstance with built-in types -/
inductive TyC where
  | int | bool | str | list | tuple | dict | non
def TyC.name : TyC → String
  | .int => "int" | .bool => "bool" | .str => "str" | .list => "list" | .tuple => "tuple" | .dict => "dict" | .non => "NoneType"
def tyC : D → TyC
  | .none => .non | .bool _ => .bool | .int _ => .int | .str _ => .str | .list _ => .list | .tuple _ => .tuple | .dict _ => .dict
def isC : TyC → TyC → Bool
  | .int, .int => true | .bool, .bool => true | .str, .str => true | .list, .list => true | .tuple, .tuple => true | .dict, .dict => true | .non, .non => true
  | .bool, .int => true
  | _, _ => false
theorem kit_C {K : PySem.W.Frag} (a b : TyC) : PySem.W.kitOne K (.type a.name) (.type b.name) = some (isC a b) := kit_ty (by cases a <;> cases b <;> decide +kernel)
theorem kit_any {K : PySem.W.Frag} (a : TyC) : ∀ bs : List TyC, PySem.W.kitAny K (.type a.name) (bs.map fun b => .type b.name) = some (bs.any (isC a))
  | [] => rfl
  | b :: bs => by
    rw [List.map_cons, List.any_cons]
    refine kitAny_cons (kit_C a b) (fun e => ?_) fun e => ?_
    · rw [e, Bool.false_or]; exact kit_any a bs
    · rw [e]; rfl
theorem Ct.ty {K : PySem.W.Frag} {H : Hp} {v : V} {d : D} (h : Ct K H v d) : TyX K H v (.type (tyC d).name) := by
  cases h with
  | non => exact .base .non
  | bl b => exact .base (.bl b)
  | int i => exact .base (.int i)
  | str x => exact .base (.str x)
  | lst h r => exact .base (.lst h)
  | dct h r => exact .base (.dK h)
  | tup h r =>
    rcases h with (h | ⟨o, h⟩) | ⟨o, its, n, h1, h2, _⟩
    · exact .base (.tup h)
    · exact .fTuple h
    · exact .kTuple h1 h2
theorem CtR.ty {K : PySem.W.Frag} {H : Hp} {v : V} {d : D} (h : CtR K H v d) : TyX K H v (.type (tyC d).name) := by
  cases h with
  | ct h => exact h.ty
  | lk h r =>
    rcases h with (h | ⟨o, h⟩) | ⟨o, its, n, h1, h2, _⟩
    · exact .base (.lst h)
    · exact .base (.frz h)
    · exact .kList h1 h2
def isE (Ts : List TyC) (f : DE) : DE := fun ρ => (f ρ).bind fun p => (curR p.2 p.1).bind fun d => some (.fz (.bool (Ts.any (isC (tyC d)))), p.2)
section
variable {X : Cx} {e : Expr} {f : DE} {pos p p2 : Pos} {x y : Str}
theorem isE_inv {Ts : List TyC} {f : DE} {ρ ρ' : Rho} {r : Vl} (h : isE Ts f ρ = some (r, ρ')) : ∃ x d, f ρ = some (x, ρ') ∧ curR ρ' x = some d ∧ r = .fz (.bool (Ts.any (isC (tyC d)))) := by
  unfold isE at h
  obtain ⟨⟨x, ρ1⟩, e1, h⟩ := Option.bind_eq_some_iff.mp h
  obtain ⟨d, e2, h⟩ := Option.bind_eq_some_iff.mp h
  cases h
  exact ⟨x, d, e1, e2, rfl⟩
theorem Out.toBl {K : PySem.W.Frag} {W W1 : Addr → Prop} {H H1 : Hp} {σ : L2.St} {ρ ρ1 : Rho} {φ φ1 : Fp} {r : Vl} {v : V} {l : List Addr} (s : SS K W H σ ρ φ) (o : Out K W H (InF φ) σ ρ1 r v W1 H1 φ1 l) (b : Bool) : Out K W H (InF φ) σ ρ1 (.fz (.bool b)) (.bl b) W1 H1 φ1 [] :=
  ⟨o.ev, o.ss, .rv (.fz (.bl b)), (fun a h => nomatch h), o.sub, (fun a h => nomatch h)⟩
theorem px_is1 (T : TyC) (hm : X.mg x = none) (hm2 : X.mg y = none) (he : PX X e f) (hv : bootBuiltins x = some (.builtin "isinstance")) (hv2 : bootBuiltins y = some (.type T.name)) (hg : Gl X x := by rfl) (hg2 : Gl X y := by rfl)
    (hn : x ≠ "__name__" := by decide) (hdb : (x == ("__debug__" : Str)) = false := by decide) (hn2 : y ≠ "__name__" := by decide) (hdb2 : (y == ("__debug__" : Str)) = false := by decide)
    (hs : starEach [e, .Name y p2] X.env = (false, eval e X.env) :: starEach [.Name y p2] X.env := by rfl) (hs2 : starEach [.Name y p2] X.env = [(false, eval (.Name y p2) X.env)] := by rfl) (hpl : (backTo pos (starEach [.Name y p2] X.env)).any (·.1) = false := by rfl) :
    PX X (.Call (.Name x p) [e, .Name y p2] [] pos) (isE [T] f) := by
  refine PE.mono (pe_callB call_isi hg hm hv (pa_cons he (pa_cons (te := tC (.ty T.name)) (pe_bltn hg2 hm2 hv2 rfl hn2 hdb2) pa_nil hs2) hs) hn hdb hs hpl) ?_
  rintro σ H Q ⟨W, ρ, φ, r, ρ', s, hf, k⟩
  obtain ⟨x, d, e1, e2, rfl⟩ := isE_inv hf
  refine ⟨W, ρ, φ, x, ρ', s, e1, fun v W1 H1 φ1 l o => ?_⟩
  refine ⟨v, .ty T.name, _, _, _, rfl, .ty _, (o.rx.ctR o.ss e2).ty, kit_C _ T, ?_⟩
  rw [show isC (tyC d) T = [T].any (isC (tyC d)) by simp]
  exact k _ W1 H1 φ1 [] (o.toBl s _)
theorem Paired.ty : ∀ Ts : List TyC, Paired ClsV (Ts.map fun T => V.ty T.name) (Ts.map fun T => Value.type T.name)
  | [] => .nil
  | T :: r => .cons (.ty _) (Paired.ty r)
/-- isinstance(e, (T1, T2)) -/
theorem px_is2 (T U : TyC) {y2 : Str} {p3 tpos : Pos} {kk : Nat} (hm : X.mg x = none) (hm2 : X.mg y = none) (hm3 : X.mg y2 = none) (he : PX X e f) (hv : bootBuiltins x = some (.builtin "isinstance")) (hv2 : bootBuiltins y = some (.type T.name)) (hv3 : bootBuiltins y2 = some (.type U.name)) (hg : Gl X x := by rfl) (hg2 : Gl X y := by rfl) (hg3 : Gl X y2 := by rfl)
    (hn : x ≠ "__name__" := by decide) (hdb : (x == ("__debug__" : Str)) = false := by decide) (hn2 : y ≠ "__name__" := by decide) (hdb2 : (y == ("__debug__" : Str)) = false := by decide) (hn3 : y2 ≠ "__name__" := by decide) (hdb3 : (y2 == ("__debug__" : Str)) = false := by decide)
    (hs : starEach [e, .Tuple [.Name y p2, .Name y2 p3] kk tpos] X.env = (false, eval e X.env) :: starEach [.Tuple [.Name y p2, .Name y2 p3] kk tpos] X.env := by rfl)
    (hs2 : starEach [.Tuple [.Name y p2, .Name y2 p3] kk tpos] X.env = [(false, eval (.Tuple [.Name y p2, .Name y2 p3] kk tpos) X.env)] := by rfl)
    (hs3 : starEach [.Name y p2, .Name y2 p3] X.env = (false, eval (.Name y p2) X.env) :: starEach [.Name y2 p3] X.env := by rfl) (hs4 : starEach [.Name y2 p3] X.env = [(false, eval (.Name y2 p3) X.env)] := by rfl)
    (hpl : (backTo pos (starEach [.Tuple [.Name y p2, .Name y2 p3] kk tpos] X.env)).any (·.1) = false := by rfl) :
    PX X (.Call (.Name x p) [e, .Tuple [.Name y p2, .Name y2 p3] kk tpos] [] pos) (isE [T, U] f) := by
  refine PE.mono (pe_callB call_isiT hg hm hv (pa_cons he (pa_cons (pe_tup (pa_cons (te := tC (.ty T.name)) (pe_bltn hg2 hm2 hv2 rfl hn2 hdb2) (pa_cons (te := tC (.ty U.name)) (pe_bltn hg3 hm3 hv3 rfl hn3 hdb3) pa_nil hs4) hs3)) pa_nil hs2) hs) hn hdb hs hpl) ?_
  rintro σ H Q ⟨W, ρ, φ, r, ρ', s, hf, k⟩
  obtain ⟨x, d, e1, e2, rfl⟩ := isE_inv hf
  refine ⟨W, ρ, φ, x, ρ', s, e1, fun v W1 H1 φ1 l o => ?_⟩
  refine ⟨by show 2 ≤ sizeLine; decide, fun q nq => ?_⟩
  have up := upd_up (o := .tup [V.ty T.name, V.ty U.name]) nq
  have s2 := o.ss.grow up
  have c := (o.rx.ev (Ev.grow (fp := fun _ => False) up) ⟨fun _ h => h, fun a o e _ => up a o e⟩ (fun _ _ z => z)).ctR s2 e2
  refine ⟨v, q, _, _, _, _, rfl, upd_same, Paired.ty [T, U], c.ty, kit_any _ [T, U], ?_⟩
  exact k _ W1 _ φ1 [] ⟨o.ev.trans (fp1 := fun _ => False) (fun _ z => z.elim) (Ev.grow up), s2, .rv (.fz (.bl _)), (fun a h => nomatch h), o.sub, (fun a h => nomatch h)⟩
end

/-! ### slices -/
def cutD (xs : List D) (lo hi : Option Int) : List D := (xs.drop (HT.sIx xs.length 0 lo)).take (HT.sIx xs.length xs.length hi - HT.sIx xs.length 0 lo)
theorem FzA.cut {K : PySem.W.Frag} {W : Addr → Prop} {H : Hp} {vs : List V} {ds : List D} (f : FzA K W H vs ds) (lo hi : Option Int) : FzA K W H (cutV vs lo hi) (cutD ds lo hi) := by
  unfold cutV cutD
  rw [f.length]
  exact (f.drop _).take _
abbrev DO := Rho → Option (Option Int × Rho)
def tXO (K : PySem.W.Frag) (f : DO) : TO := fun σ H Q => ∃ W ρ φ b ρ', SS K W H σ ρ φ ∧ f ρ = some (b, ρ') ∧ ∀ W' H' φ', OutT K W H (InF φ) σ ρ' W' H' φ' → Q b H'
abbrev PXO (X : Cx) (e : Option Expr) (f : DO) : Prop := PO X e (tXO X.K f)
def noO : DO := fun ρ => some (none, ρ)
def someO (f : DE) : DO := fun ρ => (f ρ).bind fun p => match p.1 with
  | .fz (.int i) => some (some i, p.2)
  | _ => none
def sliceF (ρ : Rho) (r : Vl) (lo hi : Option Int) : Option Vl := match curR ρ r with
  | some (.str z) => if z.length ≤ maxLen then some (.fz (.str (cutS z lo hi))) else none
  | _ => (itm ρ r).bind fun p => if p.1 then some (.ow (cutD p.2 lo hi)) else some (.fz (.tuple (cutD p.2 lo hi)))
def sliceE (f : DE) (lo hi : DO) : DE := fun ρ => (f ρ).bind fun p => (lo p.2).bind fun q => (hi q.2).bind fun t => (sliceF t.2 p.1 q.1 t.1).bind fun z => some (z, t.2)
section
variable {X : Cx} {e : Expr} {f : DE} {pos p p2 : Pos} {lo hi : Option Expr} {fl fh : DO}
theorem PO.mono {X : Cx} {e : Option Expr} {t t' : TO} (h : PO X e t) (m : ∀ σ H Q, t' σ H Q → t σ H Q) : PO X e t' := ⟨fun pins s σ H Q I q => h.run pins s σ H Q I (m σ H Q q)⟩
theorem pxo_none : PXO X none noO := by
  refine PO.mono po_none ?_
  rintro σ H Q ⟨W, ρ, φ, b, ρ', s, hf, k⟩
  cases hf
  exact k W H φ (.refl s)
theorem pxo_some (h : PX X e f) : PXO X (some e) (someO f) := by
  refine PO.mono (po_some h) ?_
  rintro σ H Q ⟨W, ρ, φ, b, ρ', s, hf, k⟩
  unfold someO at hf
  obtain ⟨⟨r, ρ1⟩, e1, hf⟩ := Option.bind_eq_some_iff.mp hf
  split at hf
  · rename_i i ei
    cases hf
    cases ei
    refine ⟨W, ρ, φ, _, ρ1, s, e1, fun v W1 H1 φ1 l o => ⟨i, ?_, k W1 H1 φ1 o.t⟩⟩
    cases o.rx with
    | rv z => cases z with
      | fz z => cases z; rfl
  · cases hf
theorem px_slice (he : PX X e f) (hl : PXO X lo fl) (hh : PXO X hi fh) : PX X (.Subscript e (.Slice lo hi none p2) pos) (sliceE f fl fh) := by
  refine PE.mono (pe_slice (SlR.or sl_list (SlR.or sl_tupA sl_str)) he hl hh) ?_
  rintro σ H Q ⟨W, ρ, φ, r, ρ', s, hf, k⟩
  unfold sliceE at hf
  obtain ⟨⟨x, ρ1⟩, e1, hf⟩ := Option.bind_eq_some_iff.mp hf
  obtain ⟨⟨lo, ρ2⟩, e2, hf⟩ := Option.bind_eq_some_iff.mp hf
  obtain ⟨⟨hi, ρ3⟩, e3, hf⟩ := Option.bind_eq_some_iff.mp hf
  obtain ⟨z, e4, hf⟩ := Option.bind_eq_some_iff.mp hf
  cases hf
  refine ⟨W, ρ, φ, x, ρ1, s, e1, fun v W1 H1 φ1 l o1 => ?_⟩
  refine ⟨W1, ρ1, φ1, lo, ρ2, o1.ss, e2, fun W2 H2 φ2 o2 => ?_⟩
  refine ⟨W2, ρ2, φ2, hi, _, o2.ss, e3, fun W3 H3 φ3 o3 => ?_⟩
  have o23 := o2.then o1.ss o3
  have rx3 : RX X.K W3 H3 σ v x l := o1.rx.stay o1.ss o1.dj o23.ev
  have ot : OutA X.K W H (InF φ) σ _ [x] [v] W3 H3 φ3 l := ⟨o1.ev.trans o1.sub o23.ev, o3.ss, .one rx3, dj2 o1.rx o1.dj o23.sub, sub2 o1.ev o1.sub o23.sub fun a => s.inH, o1.subl⟩
  have kk : ∀ v' W' H' l', Ev (fun a => a ∈ l) W3 H3 W' H' → (∀ a, W' a → ∃ o, H' a = some o) → RV X.K W' H' v' r l' → (∀ a ∈ l', a ∈ l ∨ H3 a = none) → Q v' H' := fun v' W' H' l' ev wf rv sub => k v' W' H' φ3 l' (ot.op s ev wf rv sub)
  unfold sliceF at e4
  split at e4
  · rename_i z' ez
    split at e4
    · rename_i hz
      cases e4
      obtain rfl := (rx3.ctR o3.ss ez).str_inv
      exact .inr (.inr ⟨z', rfl, maxLen_le hz, keepQ o3.ss.wf (.fz (.str _)) kk⟩)
    · cases e4
  · obtain ⟨⟨b1, ds⟩, e5, e4⟩ := Option.bind_eq_some_iff.mp e4
    obtain ⟨a, xs, rfl, q1, f1⟩ := rx3.itm o3.ss e5
    cases b1 with
    | true =>
      simp only [if_true] at e4
      cases e4
      exact .inl ⟨a, xs, rfl, q1, new_list (f1.cut lo hi) o3.ss.wf kk⟩
    | false =>
      simp only [Bool.false_eq_true, if_false] at e4
      cases e4
      refine .inr (.inl ⟨a, xs, rfl, q1, fun hw => ?_, fun _ => new_tuple (f1.cut lo hi) o3.ss.wf kk⟩)
      have ec : cutD ds lo hi = ds := by
        unfold cutD
        rw [← f1.length, hw.1, hw.2]
        simp only [Nat.sub_zero, List.drop_zero]
        rw [f1.length]
        exact List.take_length
      rw [ec] at kk
      exact keepQ o3.ss.wf (.fz (.tup q1 f1)) kk
end

/-! ### methods of an own list -/
def VMeth (K : PySem.W.Frag) (r : V → List V → Hp → VK → Prop) (G : List D → List D → Option (List D × D)) : Prop :=
  ∀ W H a xs ds vs es ds' res Q, H a = some (.lst xs) → ¬ W a → FzA K W H xs ds → FzA K W H vs es → G ds es = some (ds', res) →
    (∀ xs' v, FzA K W H xs' ds' → Fz K W H v res → Q v (upd H a (.lst xs'))) → r (.ref a) vs H Q
def ownAt (ρ : Rho) (xi : Nat) : Option (List D) := match ρ[xi]? with
  | some (some (.ow ds)) => some ds
  | _ => none
theorem ownAt_some {ρ : Rho} {xi : Nat} {ds : List D} (h : ownAt ρ xi = some ds) : ρ[xi]? = some (some (.ow ds)) := by
  unfold ownAt at h
  split at h
  · rename_i e; cases h; exact e
  · cases h
def methE (xi : Nat) (G : List D → List D → Option (List D × D)) (fs : DA) : DE := fun ρ => (ownAt ρ xi).bind fun _ => (fs ρ).bind fun p => (frzA p.1).bind fun es => (ownAt p.2 xi).bind fun ds => (G ds es).bind fun t => some (.fz t.2, p.2.set xi (some (.ow t.1)))
section
variable {K : PySem.W.Frag} {W : Addr → Prop} {H : Hp} {σ : L2.St} {ρ : Rho} {φ : Fp}
theorem SS.own1 (s : SS K W H σ ρ φ) {xi : Nat} {ds : List D} (e : ρ[xi]? = some (some (.ow ds))) : ∃ a xs, σ[xi]? = some (some (.ref a)) ∧ H a = some (.lst xs) ∧ ¬ W a ∧ FzA K W H xs ds ∧ φ xi = [a] := by
  obtain ⟨v, h1, h2⟩ := s.sl xi _ e
  generalize hφ : φ xi = lx at h2
  cases h2 with
  | @ow a xs _ g1 g2 g3 => exact ⟨a, xs, h1, g1, g2, g3, rfl⟩
/-- an own list gets another content -/
theorem SS.write (s : SS K W H σ ρ φ) {xi : Nat} {a : Addr} {xs xs' : List V} {ds' : List D} (h1 : σ[xi]? = some (some (.ref a))) (h2 : H a = some (.lst xs)) (h3 : ¬ W a) (h4 : φ xi = [a]) (f : FzA K W H xs' ds') :
    OutT K W H (InF φ) σ (ρ.set xi (some (.ow ds'))) W (upd H a (.lst xs')) (setF (delF φ xi) xi [a] (ρ.set xi none).length) ∧ Wxt W H W (upd H a (.lst xs')) := by
  have up : ∀ b ob, H b = some ob → b ≠ a → upd H a (.lst xs') b = some ob := fun b ob e n => by rw [upd_ne n]; exact e
  have ev : Ev (fun b => b = a) W H W (upd H a (.lst xs')) := ⟨fun _ h => h, fun b ob e q => up b ob e fun z => by
    subst z
    rw [h2] at e; cases e
    exact q rfl, fun _ _ _ _ h => h⟩
  have xt : Wxt W H W (upd H a (.lst xs')) := ev.xt fun b h => by rw [h]; exact h3
  have wf2 : ∀ b, W b → ∃ ob, upd H a (.lst xs') b = some ob := fun b h => let ⟨ob, e⟩ := s.wf b h; ⟨ob, up b ob e fun z => h3 (z ▸ h)⟩
  have nin : ∀ b, InF (delF φ xi) b → ¬ b = a := by
    rintro b ⟨j, hj⟩ rfl
    unfold delF at hj
    split at hj
    · cases hj
    · rename_i n
      exact n (s.dj j xi b hj (by rw [h4]; exact List.mem_cons_self))
  have sf := ((s.del' xi).ev ev xt nin wf2).put (i := xi) h1 (.ow upd_same h3 (f.xt xt)) (fun b hb q => nin b q (List.mem_singleton.mp hb))
  rw [List.set_set] at sf
  have ain : InF φ a := ⟨xi, by rw [h4]; exact List.mem_cons_self⟩
  refine ⟨⟨ev.mono fun b h => .inl (h ▸ ain), sf, fun b hb => .inl ?_⟩, xt⟩
  rcases setF_in hb with h | h
  · exact delF_sub h
  · obtain rfl := List.mem_singleton.mp h; exact ain
end
section
variable {X : Cx} {e : Expr} {es : List Expr} {fs : DA} {apos cpos : Pos} {x name : Str} {id : String} {r : V → List V → Hp → VK → Prop} {G : List D → List D → Option (List D × D)}
/-- what a method's reading needs of its receiver's name -/
theorem tX_meth {K : PySem.W.Frag} (xi : Nat) (vm : VMeth K r G) {σ : L2.St} {H : Hp} {Q : VK} (h : tX K (methE xi G fs) σ H Q) : ∃ a, σ[xi]? = some (some (.ref a)) ∧ (∃ xs, H a = some (.lst xs)) ∧ tXA K fs σ H fun vs H1 => r (.ref a) vs H1 Q := by
  obtain ⟨W, ρ, φ, res, ρ', s, hf, k⟩ := h
  unfold methE at hf
  obtain ⟨ds0, e0, hf⟩ := Option.bind_eq_some_iff.mp hf
  obtain ⟨⟨rs, ρ1⟩, e1, hf⟩ := Option.bind_eq_some_iff.mp hf
  obtain ⟨es, e2, hf⟩ := Option.bind_eq_some_iff.mp hf
  obtain ⟨ds, e3, hf⟩ := Option.bind_eq_some_iff.mp hf
  obtain ⟨⟨ds', rd⟩, e4, hf⟩ := Option.bind_eq_some_iff.mp hf
  cases hf
  obtain ⟨a, xs0, g1, g2, _, _, _⟩ := s.own1 (ownAt_some e0)
  refine ⟨a, g1, ⟨xs0, g2⟩, W, ρ, φ, rs, ρ1, s, e1, fun vs W1 H1 φ1 l o => ?_⟩
  obtain ⟨o2, fe⟩ := o.fix e2
  obtain ⟨a', xs, h1, h2, h3, h4, h5⟩ := o2.ss.own1 (ownAt_some e3)
  rw [g1] at h1
  cases h1
  refine vm _ H1 a xs ds vs es ds' rd Q h2 h3 h4 fe e4 fun xs' v f fv => ?_
  obtain ⟨ow, xt⟩ := o2.ss.write g1 h2 h3 h5 f
  have oo := o2.then s ow
  exact k v _ _ _ [] ⟨oo.ev, oo.ss, .rv (.fz (fv.xt xt)), (fun a h => nomatch h), oo.sub, (fun a h => nomatch h)⟩
theorem px_meth (xi : Nat) {xpos : Pos} (slot : Slot "list" name id) (hty : typeOf (.builtin id) = pure (.type "method_descriptor")) (hm : MtR X id r) (vm : VMeth X.K r G) (ha : PXA X (e :: es) fs) (hN : X.N[xi]? = some x := by rfl)
    (hv : Vis X.env.scope x := by first | exact Or.inl rfl | exact Or.inr (Or.inl rfl) | exact Or.inr (Or.inr rfl)) (hd : (x == ("__debug__" : Str)) = false := by decide) (hcd : (x == ("__classdict__" : Str)) = false := by decide)
    (hbase : attributeBase (.Name x xpos) name X.env (eval (.Name x xpos) X.env) = eval (.Name x xpos) X.env := by rfl)
    (hfew : ((backTo cpos (starEach (e :: es) X.env)).all (fun x => !x.1) && (backToKw cpos (keywordEach [] X.env)).all (fun x => x.1.isSome)
      && decide ((e :: es).length + ([] : List Keyword).length + (if ([] : List Keyword).isEmpty then 0 else 1) < 30)) = true := by rfl)
    (hline : (apos.endLine == cpos.line) = true := by rfl) (hs : starEach (e :: es) X.env = (false, eval e X.env) :: starEach es X.env := by rfl) (hplain : (backTo cpos (starEach es X.env)).any (·.1) = false := by rfl) :
    PX X (.Call (.Attribute (.Name x xpos) name apos) (e :: es) [] cpos) (methE xi G fs) := by
  refine PE.mono (pe_bm PySem.F.plainAttrs_list slot hty hm (pe_var hN hv hd hcd) ha hbase hfew hline hs hplain) ?_
  intro σ H Q h
  obtain ⟨a, h1, ⟨xs, h2⟩, h3⟩ := tX_meth xi vm h
  exact ⟨.ref a, h1, .inl ⟨rfl, xs, .of h2⟩, h3⟩
theorem px_meth0 (xi : Nat) {xpos : Pos} (slot : Slot "list" name id) (hty : typeOf (.builtin id) = pure (.type "method_descriptor")) (hm : MtR X id r) (vm : VMeth X.K r G) (hN : X.N[xi]? = some x := by rfl)
    (hv : Vis X.env.scope x := by first | exact Or.inl rfl | exact Or.inr (Or.inl rfl) | exact Or.inr (Or.inr rfl)) (hd : (x == ("__debug__" : Str)) = false := by decide) (hcd : (x == ("__classdict__" : Str)) = false := by decide)
    (hbase : attributeBase (.Name x xpos) name X.env (eval (.Name x xpos) X.env) = eval (.Name x xpos) X.env := by rfl) (hline : (apos.endLine == cpos.line) = true := by rfl) :
    PX X (.Call (.Attribute (.Name x xpos) name apos) [] [] cpos) (methE xi G nilA) := by
  refine PE.mono (pe_bm0 PySem.F.plainAttrs_list slot hty hm (pe_var hN hv hd hcd) hbase hline) ?_
  intro σ H Q h
  obtain ⟨a, h1, ⟨xs, h2⟩, W, ρ, φ, rs, ρ1, s, e1, k⟩ := tX_meth xi vm h
  cases e1
  exact ⟨.ref a, h1, .inl ⟨rfl, xs, .of h2⟩, k [] W H φ [] ⟨Ev.refl .., s, .nil, (fun a h => nomatch h), fun _ h => .inl h, (fun a h => nomatch h)⟩⟩
end
section
variable {K : PySem.W.Frag}
def appG : List D → List D → Option (List D × D) := fun ds es => match es with
  | [d] => if ds.length ≤ maxLen then some (ds ++ [d], .none) else none
  | _ => none
def extG : List D → List D → Option (List D × D) := fun ds es => match es with
  | [.list zs] => if ds.length + zs.length ≤ maxLen then some (ds ++ zs, .none) else none
  | _ => none
def popG : List D → List D → Option (List D × D) := fun ds es => match es with
  | [] => (ds[ds.length - 1]?).bind fun d => some (ds.dropLast, d)
  | _ => none
def popAtG : List D → List D → Option (List D × D) := fun ds es => match es with
  | [.int i] => if smallI i then (seqIndex? i ds.length).bind fun k => (ds[k]?).bind fun d => some (ds.eraseIdx k, d) else none
  | _ => none
def insG : List D → List D → Option (List D × D) := fun ds es => match es with
  | [.int i, d] => if smallI i && decide (0 ≤ i) && decide (ds.length ≤ maxLen) then some (ds.take i.toNat ++ [d] ++ ds.drop i.toNat, .none) else none
  | _ => none
theorem vm_app : VMeth K rAppend appG := by
  intro W H a xs ds vs es ds' res Q ha nW f fe e k
  unfold appG at e
  split at e
  · split at e
    · rename_i hz
      cases e
      obtain ⟨v, rfl, fv⟩ := fe.one'
      exact ⟨a, xs, v, rfl, rfl, ha, by rw [f.length]; exact maxLen_lt hz, k _ _ (f.append (.one fv)) .non⟩
    · cases e
  · cases e
theorem vm_ext : VMeth K rExtend extG := by
  intro W H a xs ds vs es ds' res Q ha nW f fe e k
  unfold extG at e
  split at e
  · split at e
    · rename_i hz
      cases e
      obtain ⟨v, rfl, fv⟩ := fe.one'
      obtain ⟨b, ys, rfl, w, hb, g⟩ := fv.list_inv
      exact ⟨a, b, xs, ys, rfl, rfl, ha, hb, by rw [f.length, g.length]; exact maxLen_le hz, k _ _ (f.append g) .non⟩
    · cases e
  · cases e
theorem FzA.dropLast {W : Addr → Prop} {H : Hp} {vs : List V} {ds : List D} (f : FzA K W H vs ds) : FzA K W H vs.dropLast ds.dropLast := by
  rw [List.dropLast_eq_take, List.dropLast_eq_take, f.length]
  exact f.take _
theorem vm_pop : VMeth K rPop popG := by
  intro W H a xs ds vs es ds' res Q ha nW f fe e k
  unfold popG at e
  split at e
  · obtain ⟨d, e1, e⟩ := Option.bind_eq_some_iff.mp e
    cases e
    cases fe
    obtain ⟨v, g1, g2⟩ := f.getD e1
    rw [← f.length] at g1
    exact ⟨a, xs, v, rfl, rfl, ha, g1, k _ _ f.dropLast g2⟩
  · cases e
theorem FzA.erase {W : Addr → Prop} {H : Hp} : ∀ {vs : List V} {ds : List D} (i : Nat), FzA K W H vs ds → FzA K W H (vs.eraseIdx i) (ds.eraseIdx i)
  | _, _, _, .nil => .nil
  | _, _, 0, .cons _ r => r
  | _, _, i + 1, .cons h r => .cons h (FzA.erase i r)
theorem vm_popAt : VMeth K rPopAt popAtG := by
  intro W H a xs ds vs es ds' res Q ha nW f fe e k
  unfold popAtG at e
  split at e
  · split at e
    · rename_i i hz
      obtain ⟨kk, e1, e⟩ := Option.bind_eq_some_iff.mp e
      obtain ⟨d, e2, e⟩ := Option.bind_eq_some_iff.mp e
      cases e
      obtain ⟨v, rfl, fv⟩ := fe.one'
      obtain ⟨u, g1, g2⟩ := f.getD e2
      obtain ⟨h1, h2⟩ := smallI_iff hz
      cases fv
      exact ⟨a, xs, i, kk, u, rfl, rfl, ha, by omega, by omega, by rw [f.length]; exact e1, g1, k _ _ (f.erase kk) g2⟩
    · cases e
  · cases e
theorem vm_ins : VMeth K (fun x vs H Q => ∃ (l : Addr) (xs : List V) (i : Int) (y : V), x = .ref l ∧ vs = [.int i, y] ∧ H l = some (.lst xs) ∧ xs.length < sizeLine ∧ 0 ≤ i ∧ i < 2 ^ 63 ∧
    Q .non (upd H l (.lst (xs.take i.toNat ++ [y] ++ xs.drop i.toNat)))) insG := by
  intro W H a xs ds vs es ds' res Q ha nW f fe e k
  unfold insG at e
  split at e
  · split at e
    · rename_i i d hz
      cases e
      simp only [Bool.and_eq_true, decide_eq_true_eq] at hz
      obtain ⟨⟨z1, z2⟩, z3⟩ := hz
      obtain ⟨h1, h2⟩ := smallI_iff z1
      obtain ⟨v, u, rfl, fv, fu⟩ := fe.two
      cases fv
      exact ⟨a, xs, i, u, rfl, rfl, ha, by rw [f.length]; exact maxLen_lt z3, z2, by omega, k _ _ (((f.take _).append (.one fu)).append (f.drop _)) .non⟩
    · cases e
  · cases e
end
end
end DL

namespace DL
open PySem PySem.Spec PyProof.Rows L2
noncomputable section

/-! ### a fixed name: a variable whose object nobody changes -/
def nameF (i : Nat) : DTg := fun r ρ => match r with
  | .lk ds => some (ρ.set i (some (.lk ds)))
  | r => (frz r).bind fun d => some (ρ.set i (some (.fz d)))
section
variable {K : PySem.W.Frag} {W W1 : Addr → Prop} {H H1 : Hp} {σ : L2.St} {ρ : Rho} {φ : Fp} {v : V} {r : Vl} {l : List Addr}
theorem setF_out {ρ' : Rho} {i : Nat} (s : SS K W H σ ρ φ) (rv : RV K W H v r l) (dj : ∀ a ∈ l, ¬ InF φ a) (h : nameF i r ρ = some ρ') :
    ∃ W' φ', OutG K W H (fpl φ l) σ [i] ρ' (σ.set i (some v)) W' H φ' := by
  by_cases hk : ∃ es, r = .lk es
  · obtain ⟨es, rfl⟩ := hk
    cases h
    exact ⟨W, _, set_out s rv dj⟩
  · have h' : (frz r).bind (fun d => some (ρ.set i (some (.fz d)))) = some ρ' := by
      cases r <;> first | exact h | exact absurd ⟨_, rfl⟩ hk
    obtain ⟨d, e, h'⟩ := Option.bind_eq_some_iff.mp h'
    cases h'
    have ev : Ev (fun a => a ∈ l) W H (Or W l) H := ⟨fun _ h => .inl h, fun _ _ h _ => h, fun a o h n q => q.elim id fun z => absurd z n⟩
    have sW : SS K (Or W l) H σ ρ φ := s.ev ev Wxt.or (fun a h q => dj a q h) fun a h => h.elim (s.wf a) fun z => let ⟨_, o, q, _⟩ := rv.own a z; ⟨o, q⟩
    have g := set_out (i := i) sW (.fz (rv.frz (fun _ h => .inl h) (fun b h => .inr h) e)) (fun a h => nomatch h)
    exact ⟨Or W l, _, (ev.mono fun x h => .inl (.inr h)), g.ss, fun a h => (g.sub a h).imp (fun z => z.elim .inl fun z => nomatch z) id, g.tv, g.len⟩
end
section
variable {X : Cx} {pos : Pos} {e : Expr} {f : DE} {fx : List Nat}
theorem pxg_fix (i : Nat) {x : Str} (hN : X.N.Nodup) (hi : X.N[i]? = some x := by rfl) (hx : Loc X.env.scope x := by first | exact Or.inl rfl | exact Or.inr rfl) (hf : X.fn x = true ∨ X.env.scope.names.lookup x = some .local := by first | exact .inl rfl | exact .inr rfl | assumption) : PXG X (.Name x pos) [i] (nameF i) := by
  refine PG.mono (pg_name hN hi hx hf) ?_
  rintro v σ H Q ⟨W, ρ, φ, r, l, ρ', s, rv, dj, hst, k⟩
  obtain ⟨W', φ', g⟩ := setF_out s rv dj hst
  exact k _ W' H φ' g
theorem px_fix (i : Nat) {x : Str} {pos' : Pos} (hN : X.N.Nodup) (he : PX X e f) (hi : X.N[i]? = some x := by rfl) (hl : Loc X.env.scope x := by first | exact Or.inl rfl | exact Or.inr rfl) (hx : ∀ j ∈ fx, j ∉ [i] := by decide)
    (hs : swapsWith e (some (.Name x pos')) pos.line X.env = pure false := by rfl) (hf : X.fn x = true ∨ X.env.scope.names.lookup x = some .local := by first | exact .inl rfl | exact .inr rfl | assumption) : PXS X fx (.Assign [.Name x pos'] e pos) (asgS f (nameF i)) := by
  refine PS.mono (ps_set hN hi hl he hs hf) ?_
  intro E σ H h
  obtain ⟨W, ρ, φ, r, ρ1, s, e1, k⟩ := tX_asg (tv := [i]) hx h
  refine ⟨W, ρ, φ, r, ρ1, s, e1, fun v W1 H1 φ1 l o => ?_⟩
  obtain ⟨W2, ρ2, φ2, r2, l2, ρ3, s2, rv, dj, hst, k2⟩ := k v W1 H1 φ1 l o
  obtain ⟨W', φ', g⟩ := setF_out s2 rv dj hst
  exact k2 _ W' H1 φ' g
end
section
variable {X : Cx} {elt tg it : Expr} {ifs : List Expr} {scope : Scope} {own : List (Str × Nat)} {pos : Pos} {fi : DI} {st : DTg} {fc : DT} {fe : DE} {tv : List Nat}
/-- y = [..] on one line, y a local that is fixed -/
theorem px_fixLc (i : Nat) {y : Str} {py spos : Pos} {fx : List Nat} (hc : X.calm = true) (hN : X.N.Nodup) (own : List (Str × Nat)) (hi : PXI X tg it fi) (ok : BlkOk X.N X.env.scope scope own)
    (hg : ∀ (s : Shared) (H : Hp) (C : Addr) (cl : List (Str × Addr)) (fp : List Addr), PXG (X.blk s H scope (compEnvC scope cl C X.env) fp) tg tv st) (ht : ∀ (s : Shared) (H : Hp) (C : Addr) (cl : List (Str × Addr)) (fp : List Addr), PXTs (X.blk s H scope (compEnvC scope cl C X.env) fp) ifs fc)
    (he : ∀ (s : Shared) (H : Hp) (C : Addr) (cl : List (Str × Addr)) (fp : List Addr), PX (X.blk s H scope (compEnvC scope cl C X.env) fp) elt fe) (hy : X.N[i]? = some y := by rfl) (hyl : X.env.scope.names.lookup y = some .local := by rfl)
    (hsw : swapsWith (.ListComp elt [⟨tg, it, ifs, 0⟩] scope pos) (some (.Name y py)) spos.line X.env = pure true := by exact sw_true rfl rfl rfl (by decide +kernel)) (hx : ∀ i ∈ tv, i ∈ own.map (·.2) := by decide) (hfx : ∀ j ∈ fx, j ∉ [i] := by decide) (hs : ∀ x, foldedSetIterable it X.env x = pure x := by intro _; rfl) :
    PXS X fx (.Assign [.Name y py] (.ListComp elt [⟨tg, it, ifs, 0⟩] scope pos) spos) (asgS (lcE fi st fc fe (own.map (·.2))) (nameF i)) := by
  refine PS.mono (ps_setLc (wi := tXI X.K fi) (g := tXG X.K tv st) (tt := tXT X.K fc) (te := tX X.K fe) hc hN hy hyl hsw hi ok hg ht he hs) ?_
  intro E σ H h
  refine tX_lc σ H _ _ hx ?_
  obtain ⟨W, ρ, φ, r, ρ1, s, e1, k⟩ := tX_asg (tv := [i]) hfx h
  refine ⟨W, ρ, φ, r, ρ1, s, e1, fun v W1 H1 φ1 l o => ?_⟩
  obtain ⟨W2, ρ2, φ2, r2, l2, ρ3, s2, rv, dj, hst, k2⟩ := k v W1 H1 φ1 l o
  obtain ⟨W', φ', g⟩ := setF_out s2 rv dj hst
  exact k2 _ W' H1 φ' g
end

/-! ### values that are only looked at: displays within displays -/
inductive VT where
  | lf (r : Vl) | dl (ts : List VT) | dt (ts : List VT)
mutual
def curT (ρ : Rho) : VT → Option D
  | .lf r => cur ρ r
  | .dl ts => (curTs ρ ts).bind fun ds => some (.list ds)
  | .dt ts => (curTs ρ ts).bind fun ds => some (.tuple ds)
def curTs (ρ : Rho) : List VT → Option (List D)
  | [] => some []
  | t :: ts => (curT ρ t).bind fun d => (curTs ρ ts).bind fun ds => some (d :: ds)
end
mutual
inductive RT (K : PySem.W.Frag) (W : Addr → Prop) (H : Hp) (σ : L2.St) : V → VT → List Addr → Prop
  | lf {v r l} : RX K W H σ v r l → RT K W H σ v (.lf r) l
  | dl {p vs ts l} : H p = some (.lst vs) → ¬ W p → RTs K W H σ vs ts l → RT K W H σ (.ref p) (.dl ts) (p :: l)
  | dt {p vs ts l} : H p = some (.tup vs) → RTs K W H σ vs ts l → RT K W H σ (.ref p) (.dt ts) l
inductive RTs (K : PySem.W.Frag) (W : Addr → Prop) (H : Hp) (σ : L2.St) : List V → List VT → List Addr → Prop
  | nil : RTs K W H σ [] [] []
  | cons {v vs t ts l ls} : RT K W H σ v t l → RTs K W H σ vs ts ls → RTs K W H σ (v :: vs) (t :: ts) (l ++ ls)
end
section
variable {K : PySem.W.Frag} {W W1 W2 : Addr → Prop} {H H1 H2 : Hp} {σ : L2.St} {ρ ρ1 ρ2 : Rho} {φ φ1 φ2 : Fp}
mutual
theorem RT.ev {fp : Addr → Prop} (e : Ev fp W H W1 H1) (x : Wxt W H W1 H1) : ∀ {v : V} {t : VT} {l : List Addr}, RT K W H σ v t l → (∀ b ∈ l, ¬ fp b) → RT K W1 H1 σ v t l
  | _, _, _, .lf h, n => .lf (h.ev e x n)
  | _, _, _, .dl h w r, n => .dl (e.keep _ _ h fun q => absurd q (n _ List.mem_cons_self)) (fun q => w (e.nw _ _ h (n _ List.mem_cons_self) q)) (RTs.ev e x r fun b hb => n b (List.mem_cons_of_mem _ hb))
  | _, _, _, .dt h r, n => .dt (x.fix _ _ h (.inr trivial)) (RTs.ev e x r n)
theorem RTs.ev {fp : Addr → Prop} (e : Ev fp W H W1 H1) (x : Wxt W H W1 H1) : ∀ {vs : List V} {ts : List VT} {l : List Addr}, RTs K W H σ vs ts l → (∀ b ∈ l, ¬ fp b) → RTs K W1 H1 σ vs ts l
  | _, _, _, .nil, _ => .nil
  | _, _, _, .cons h r, n => .cons (RT.ev e x h fun b hb => n b (List.mem_append_left _ hb)) (RTs.ev e x r fun b hb => n b (List.mem_append_right _ hb))
end
mutual
theorem RT.own : ∀ {v : V} {t : VT} {l : List Addr}, RT K W H σ v t l → ∀ b ∈ l, ¬ W b ∧ ∃ o, H b = some o ∧ ¬ Imm o
  | _, _, _, .lf h, b, hb => h.own b hb
  | _, _, _, .dl h w r, b, hb => by
    rcases List.mem_cons.mp hb with e | hb
    · rw [e]; exact ⟨w, _, h, fun z => z⟩
    · exact RTs.own r b hb
  | _, _, _, .dt h r, b, hb => RTs.own r b hb
theorem RTs.own : ∀ {vs : List V} {ts : List VT} {l : List Addr}, RTs K W H σ vs ts l → ∀ b ∈ l, ¬ W b ∧ ∃ o, H b = some o ∧ ¬ Imm o
  | _, _, _, .nil, _, hb => nomatch hb
  | _, _, _, .cons h r, b, hb => (List.mem_append.mp hb).elim (RT.own h b) (RTs.own r b)
end
mutual
theorem RT.ct (s : SS K W H σ ρ φ) : ∀ {v : V} {t : VT} {l : List Addr} {d : D}, RT K W H σ v t l → curT ρ t = some d → Ct K H v d
  | _, _, _, _, .lf h, e => h.ct s (by simpa [curT] using e)
  | _, _, _, _, .dl h w r, e => by
    simp only [curT] at e
    obtain ⟨ds, e1, e⟩ := Option.bind_eq_some_iff.mp e
    cases e
    exact .lst h (RTs.ct s r e1)
  | _, _, _, _, .dt h r, e => by
    simp only [curT] at e
    obtain ⟨ds, e1, e⟩ := Option.bind_eq_some_iff.mp e
    cases e
    exact .tup (.of h) (RTs.ct s r e1)
theorem RTs.ct (s : SS K W H σ ρ φ) : ∀ {vs : List V} {ts : List VT} {l : List Addr} {ds : List D}, RTs K W H σ vs ts l → curTs ρ ts = some ds → CtA K H vs ds
  | _, _, _, _, .nil, e => by simp only [curTs] at e; cases e; exact .nil
  | _, _, _, _, .cons h r, e => by
    simp only [curTs] at e
    obtain ⟨d, e1, e⟩ := Option.bind_eq_some_iff.mp e
    obtain ⟨ds, e2, e⟩ := Option.bind_eq_some_iff.mp e
    cases e
    exact .cons (RT.ct s h e1) (RTs.ct s r e2)
end
end
structure OutV (K : PySem.W.Frag) (W : Addr → Prop) (H : Hp) (fp : Addr → Prop) (σ : L2.St) (ρ' : Rho) (t : VT) (v : V) (W' : Addr → Prop) (H' : Hp) (φ' : Fp) (l : List Addr) : Prop where
  o : OutT K W H fp σ ρ' W' H' φ'
  rx : RT K W' H' σ v t l
  dj : ∀ a ∈ l, ¬ InF φ' a
  subl : ∀ a ∈ l, fp a ∨ H a = none
structure OutVs (K : PySem.W.Frag) (W : Addr → Prop) (H : Hp) (fp : Addr → Prop) (σ : L2.St) (ρ' : Rho) (ts : List VT) (vs : List V) (W' : Addr → Prop) (H' : Hp) (φ' : Fp) (l : List Addr) : Prop where
  o : OutT K W H fp σ ρ' W' H' φ'
  rx : RTs K W' H' σ vs ts l
  dj : ∀ a ∈ l, ¬ InF φ' a
  subl : ∀ a ∈ l, fp a ∨ H a = none
abbrev DV := Rho → Option (VT × Rho)
abbrev DVs := Rho → Option (List VT × Rho)
def tXV (K : PySem.W.Frag) (f : DV) : TE := fun σ H Q => ∃ W ρ φ r ρ', SS K W H σ ρ φ ∧ f ρ = some (r, ρ') ∧ ∀ v W' H' φ' l, OutV K W H (InF φ) σ ρ' r v W' H' φ' l → Q v H'
def tXVs (K : PySem.W.Frag) (f : DVs) : TA := fun σ H Q => ∃ W ρ φ rs ρ', SS K W H σ ρ φ ∧ f ρ = some (rs, ρ') ∧ ∀ vs W' H' φ' l, OutVs K W H (InF φ) σ ρ' rs vs W' H' φ' l → Q vs H'
abbrev PXV (X : Cx) (e : Expr) (f : DV) : Prop := PE X e (tXV X.K f)
abbrev PXVs (X : Cx) (es : List Expr) (f : DVs) : Prop := PA X es (tXVs X.K f)
def lfV (f : DE) : DV := fun ρ => (f ρ).bind fun p => some (.lf p.1, p.2)
def dlV (f : DVs) : DV := fun ρ => (f ρ).bind fun p => if p.1.length ≤ 1000 then some (.dl p.1, p.2) else none
def dtV (f : DVs) : DV := fun ρ => (f ρ).bind fun p => if p.1.length ≤ 1000 then some (.dt p.1, p.2) else none
def nilV : DVs := fun ρ => some ([], ρ)
def consV (f : DV) (fs : DVs) : DVs := fun ρ => (f ρ).bind fun p => (fs p.2).bind fun q => some (p.1 :: q.1, q.2)
def reprV (f : DV) : DE := fun ρ => (f ρ).bind fun p => (curT p.2 p.1).bind fun d => if reprOk d then some (.fz (.str d.shown), p.2) else none
def cmpV (F : D → D → Option Bool) (f g : DV) : DE := fun ρ => (f ρ).bind fun p => (g p.2).bind fun q => (curT q.2 p.1).bind fun d => (curT q.2 q.1).bind fun e => (F d e).bind fun b => some (.fz (.bool b), q.2)
def neD (d e : D) : Option Bool := (eqD d e).bind fun b => some (!b)
section
variable {X : Cx} {e a b : Expr} {es : List Expr} {f g : DV} {fe : DE} {fs : DVs} {pos p : Pos} {x : Str}
theorem RTs.length {K : PySem.W.Frag} {W : Addr → Prop} {H : Hp} {σ : L2.St} : ∀ {vs : List V} {ts : List VT} {l : List Addr}, RTs K W H σ vs ts l → vs.length = ts.length
  | _, _, _, .nil => rfl
  | _, _, _, .cons _ r => by rw [List.length_cons, List.length_cons, RTs.length r]
theorem pxv_lf (h : PX X e fe) : PXV X e (lfV fe) := by
  refine PE.mono h ?_
  rintro σ H Q ⟨W, ρ, φ, r, ρ', s, hf, k⟩
  unfold lfV at hf
  obtain ⟨⟨x, ρ1⟩, e1, hf⟩ := Option.bind_eq_some_iff.mp hf
  cases hf
  exact ⟨W, ρ, φ, x, ρ1, s, e1, fun v W1 H1 φ1 l o => k v W1 H1 φ1 l ⟨o.t, .lf o.rx, o.dj, o.subl⟩⟩
theorem pxvs_nil : PXVs X [] nilV := by
  refine PA.mono pa_nil ?_
  rintro σ H Q ⟨W, ρ, φ, r, ρ', s, hf, k⟩
  cases hf
  exact k [] W H φ [] ⟨.refl s, .nil, (fun a h => nomatch h), (fun a h => nomatch h)⟩
theorem pxvs_cons (ha : PXV X e f) (hr : PXVs X es fs) (hs : starEach (e :: es) X.env = (false, eval e X.env) :: starEach es X.env := by rfl) : PXVs X (e :: es) (consV f fs) := by
  refine PA.mono (pa_cons ha hr hs) ?_
  rintro σ H Q ⟨W, ρ, φ, r, ρ', s, hf, k⟩
  unfold consV at hf
  obtain ⟨⟨x, ρ1⟩, e1, hf⟩ := Option.bind_eq_some_iff.mp hf
  obtain ⟨⟨xs, ρ2⟩, e2, hf⟩ := Option.bind_eq_some_iff.mp hf
  cases hf
  refine ⟨W, ρ, φ, x, ρ1, s, e1, fun v W1 H1 φ1 l o1 => ?_⟩
  refine ⟨W1, ρ1, φ1, xs, _, o1.o.ss, e2, fun vs W2 H2 φ2 ls o2 => ?_⟩
  have dj2t : ∀ {p : Addr → Prop}, (∀ a, p a → InF φ1 a ∨ H1 a = none) → ∀ a ∈ l, ¬ p a := fun {p} sub a h q => by
    rcases sub a q with z | z
    · exact o1.dj a h z
    · obtain ⟨_, ob, e, _⟩ := o1.rx.own a h
      rw [z] at e; cases e
  refine k (v :: vs) W2 H2 φ2 (l ++ ls) ⟨o1.o.then s o2.o, .cons (o1.rx.ev o2.o.ev (o2.o.ev.xt o1.o.ss.notW) o1.dj) o2.rx, fun a h => ?_, fun a h => ?_⟩
  · exact (List.mem_append.mp h).elim (dj2t o2.o.sub a) (o2.dj a)
  · exact (List.mem_append.mp h).elim (o1.subl a) (sub2 (p := fun a => a ∈ ls) o1.o.ev o1.o.sub o2.subl (fun a => s.inH) a)
theorem OutVs.lay {K : PySem.W.Frag} {W W1 : Addr → Prop} {H H1 : Hp} {σ : L2.St} {ρ ρ1 : Rho} {φ φ1 : Fp} {ts : List VT} {vs : List V} {l : List Addr} (s : SS K W H σ ρ φ) (o : OutVs K W H (InF φ) σ ρ1 ts vs W1 H1 φ1 l) {q : Addr} (nq : H1 q = none) (ob : HO) :
    OutT K W H (InF φ) σ ρ1 W1 (upd H1 q ob) φ1 ∧ RTs K W1 (upd H1 q ob) σ vs ts l ∧ (InF φ q ∨ H q = none) := by
  have up := upd_up (o := ob) nq
  refine ⟨⟨o.o.ev.trans (fp1 := fun _ => False) (fun _ z => z.elim) (Ev.grow up), o.o.ss.grow up, o.o.sub⟩, o.rx.ev (Ev.grow (fp := fun _ => False) up) ⟨fun _ h => h, fun a o e _ => up a o e⟩ (fun _ _ z => z), ?_⟩
  by_cases n : InF φ q
  · exact .inl n
  · refine .inr ?_
    cases e : H q with
    | none => rfl
    | some ob => rw [o.o.ev.keep q ob e fun z => absurd z n] at nq; cases nq
theorem pxv_dl (h : PXVs X es fs) : PXV X (.List es pos) (dlV fs) := by
  refine PE.mono (pe_lst h) ?_
  rintro σ H Q ⟨W, ρ, φ, r, ρ', s, hf, k⟩
  unfold dlV at hf
  obtain ⟨⟨ts, ρ1⟩, e1, hf⟩ := Option.bind_eq_some_iff.mp hf
  split at hf
  · rename_i hz
    cases hf
    refine ⟨W, ρ, φ, ts, _, s, e1, fun vs W1 H1 φ1 l o => ⟨small_size (by rw [o.rx.length]; exact hz), fun q nq => ?_⟩⟩
    obtain ⟨o1, rx, hq⟩ := o.lay s nq (.lst vs)
    refine k (.ref q) W1 _ φ1 (q :: l) ⟨o1, .dl upd_same (o.o.ss.new nq) rx, fun a h z => ?_, fun a h => ?_⟩
    · rcases List.mem_cons.mp h with rfl | h
      · exact o.o.ss.inH z nq
      · exact o.dj a h z
    · rcases List.mem_cons.mp h with rfl | h
      · exact hq
      · exact o.subl a h
  · cases hf
theorem pxv_dt {x1} (h : PXVs X es fs) : PXV X (.Tuple es x1 pos) (dtV fs) := by
  refine PE.mono (pe_tup h) ?_
  rintro σ H Q ⟨W, ρ, φ, r, ρ', s, hf, k⟩
  unfold dtV at hf
  obtain ⟨⟨ts, ρ1⟩, e1, hf⟩ := Option.bind_eq_some_iff.mp hf
  split at hf
  · rename_i hz
    cases hf
    refine ⟨W, ρ, φ, ts, _, s, e1, fun vs W1 H1 φ1 l o => ⟨small_size (by rw [o.rx.length]; exact hz), fun q nq => ?_⟩⟩
    obtain ⟨o1, rx, hq⟩ := o.lay s nq (.tup vs)
    exact k (.ref q) W1 _ φ1 l ⟨o1, .dt upd_same rx, o.dj, o.subl⟩
  · cases hf
theorem px_reprV (hm : X.mg x = none) (hgd : X.A.guards = some []) (hu : X.A.units + 70 < cLine) (ha : PXV X e f) (hv : bootBuiltins x = some (.builtin "repr")) (hg : Gl X x := by rfl)
    (hn : x ≠ "__name__" := by decide) (hdb : (x == ("__debug__" : Str)) = false := by decide) (he : starEach [e] X.env = (false, eval e X.env) :: starEach [] X.env := by rfl) (hpl : (backTo pos (starEach [] X.env)).any (·.1) = false := by rfl) :
    PX X (.Call (.Name x p) [e] [] pos) (reprV f) := by
  refine PE.mono (pe_callB (call_reprD hgd hu) hg hm hv (pa_cons ha pa_nil he) hn hdb he hpl) ?_
  rintro σ H Q ⟨W, ρ, φ, r, ρ', s, hf, k⟩
  unfold reprV at hf
  obtain ⟨⟨t, ρ1⟩, e1, hf⟩ := Option.bind_eq_some_iff.mp hf
  obtain ⟨d, e2, hf⟩ := Option.bind_eq_some_iff.mp hf
  split at hf
  · rename_i ok
    cases hf
    refine ⟨W, ρ, φ, t, _, s, e1, fun v W1 H1 φ1 l o => ⟨v, d, rfl, .ct (o.rx.ct o.o.ss e2), ok, k _ W1 H1 φ1 [] ⟨o.o.ev, o.o.ss, .rv (.fz (.str _)), (fun a h => nomatch h), o.o.sub, (fun a h => nomatch h)⟩⟩⟩
  · cases hf
theorem tXV_cmp {K : PySem.W.Frag} {F : D → D → Option Bool} {r : R2} (hr : ∀ H x y d e z Q, Ct K H x d → Ct K H y e → F d e = some z → Q (.bl z) H → r x y H Q) {σ : L2.St} {H : Hp} {Q : VK} (h : tX K (cmpV F f g) σ H Q) : tXV K f σ H fun x H1 => tXV K g σ H1 fun y H2 => r x y H2 Q := by
  obtain ⟨W, ρ, φ, r, ρ', s, hf, k⟩ := h
  unfold cmpV at hf
  obtain ⟨⟨t, ρ1⟩, e1, hf⟩ := Option.bind_eq_some_iff.mp hf
  obtain ⟨⟨u, ρ2⟩, e2, hf⟩ := Option.bind_eq_some_iff.mp hf
  obtain ⟨d, e3, hf⟩ := Option.bind_eq_some_iff.mp hf
  obtain ⟨e, e4, hf⟩ := Option.bind_eq_some_iff.mp hf
  obtain ⟨z, e5, hf⟩ := Option.bind_eq_some_iff.mp hf
  cases hf
  refine ⟨W, ρ, φ, t, ρ1, s, e1, fun v W1 H1 φ1 l o1 => ?_⟩
  refine ⟨W1, ρ1, φ1, u, _, o1.o.ss, e2, fun v2 W2 H2 φ2 l2 o2 => ?_⟩
  have rx1 := o1.rx.ev o2.o.ev (o2.o.ev.xt o1.o.ss.notW) o1.dj
  have o12 := o1.o.then s o2.o
  exact hr H2 v v2 d e z Q (rx1.ct o2.o.ss e3) (o2.rx.ct o2.o.ss e4) e5 (k _ W2 H2 φ2 [] ⟨o12.ev, o12.ss, .rv (.fz (.bl _)), (fun a h => nomatch h), o12.sub, (fun a h => nomatch h)⟩)
theorem eqV_ok {K : PySem.W.Frag} : ∀ H x y d e z Q, Ct K H x d → Ct K H y e → eqD d e = some z → Q (.bl z) H → (rEq x y H Q ∨ rEqD K x y H Q) := by
  intro H x y d e z Q c1 c2 e1 q
  rcases eqD_inv e1 with ⟨v', u', s1, s2, sc, rfl⟩ | ⟨s1, s2, rfl⟩
  · obtain rfl := (CtR.ct c1).sc s1
    obtain rfl := (CtR.ct c2).sc s2
    exact .inl ⟨sc, q⟩
  · exact .inr ⟨_, _, c1.dp (.inl s1), c2.dp (.inl s2), s1, s2, q⟩
theorem neV_ok {K : PySem.W.Frag} : ∀ H x y d e z Q, Ct K H x d → Ct K H y e → neD d e = some z → Q (.bl z) H → (rNe x y H Q ∨ rNeD K x y H Q) := by
  intro H x y d e z Q c1 c2 en q
  obtain ⟨b, e1, e2⟩ := Option.bind_eq_some_iff.mp en
  cases e2
  rcases eqD_inv e1 with ⟨v', u', s1, s2, sc, rfl⟩ | ⟨s1, s2, rfl⟩
  · obtain rfl := (CtR.ct c1).sc s1
    obtain rfl := (CtR.ct c2).sc s2
    exact .inl ⟨sc, q⟩
  · exact .inr ⟨_, _, c1.dp (.inl s1), c2.dp (.inl s2), s1, s2, q⟩
theorem px_eqV (hu : X.A.units + 64 < cLine) (ha : PXV X a f) (hb : PXV X b g) : PX X (.Compare a [.Eq] [b] pos) (cmpV eqD f g) := PE.mono (pe_cmpR (op_eqB hu) ha hb (nomark b)) fun _ _ _ h => tXV_cmp eqV_ok h
theorem px_neV (hu : X.A.units + 64 < cLine) (ha : PXV X a f) (hb : PXV X b g) : PX X (.Compare a [.NotEq] [b] pos) (cmpV neD f g) := PE.mono (pe_cmpR (op_neB hu) ha hb (nomark b)) fun _ _ _ h => tXV_cmp neV_ok h
theorem pxt_eqV (hu : X.A.units + 64 < cLine) (ha : PXV X a f) (hb : PXV X b g) : PXT X (.Compare a [.Eq] [b] pos) (bT (cmpV eqD f g)) := PT.mono (pt_cmpR (op_eqB hu) ha hb (nomark b)) fun _ _ _ h => tXV_cmp eqV_ok (tX_bT h)
theorem pxt_neV (hu : X.A.units + 64 < cLine) (ha : PXV X a f) (hb : PXV X b g) : PXT X (.Compare a [.NotEq] [b] pos) (bT (cmpV neD f g)) := PT.mono (pt_cmpR (op_neB hu) ha hb (nomark b)) fun _ _ _ h => tXV_cmp neV_ok (tX_bT h)
end
end
end DL

namespace DL
open PySem PySem.Spec PyProof.Rows L2
noncomputable section

/-! ### calls with keywords -/
/-- the callee's list out of the written arguments: pm says for each parameter which one -/
def pick {α : Type} (pm : List Nat) (l : List α) : List α := pm.filterMap fun i => l[i]?
structure KBd (K : PySem.W.Frag) (fd : FuncData) (ps ks : List Str) (n : Nat) (pm : List Nat) : Prop where
  to : ∀ (s : Shared) (us ws : List Value), K.In s.heap → us.length = n → ws.length = ks.length → BindsTo s fd ⟨us, ks.zip ws⟩ (ps.zip (pick pm (us ++ ws)))
theorem Vals.pick {vs : List V} {us : List Value} (h : Vals vs us) : ∀ pm : List Nat, Vals (DL.pick pm vs) (DL.pick pm us)
  | [] => .nil
  | i :: pm => by
    have ih := Vals.pick h pm
    unfold DL.pick at ih ⊢
    rw [List.filterMap_cons, List.filterMap_cons]
    cases e : vs[i]? with
    | none =>
      rw [h.none_of e]
      exact ih
    | some v =>
      obtain ⟨u, h1, h2⟩ := h.get e
      rw [h1]
      exact .cons h2 ih
/-- the keywords' values as an argument list -/
abbrev PXK (X : Cx) (kws : List Keyword) (f : DA) : Prop := PK X kws (tXA X.K f)
theorem PK.mono {X : Cx} {e : List Keyword} {t t' : TA} (h : PK X e t) (m : ∀ σ H Q, t' σ H Q → t σ H Q) : PK X e t' := ⟨fun pos pins s σ H Q I q => h.run pos pins s σ H Q I (m σ H Q q)⟩
/-- n results -/
def lenA (n : Nat) (f : DA) : DA := fun ρ => (f ρ).bind fun p => if p.1.length = n then some p else none
def appA (f g : DA) : DA := fun ρ => (f ρ).bind fun p => (g p.2).bind fun q => some (p.1 ++ q.1, q.2)
def pickA (pm : List Nat) (f : DA) : DA := fun ρ => (f ρ).bind fun p => some (pick pm p.1, p.2)
section
variable {X : Cx} {e : Expr} {es : List Expr} {f : DE} {fs gs : DA} {kws : List Keyword}
theorem pxk_nil : PXK X [] nilA := by
  refine PK.mono pk_nil ?_
  rintro σ H Q ⟨W, ρ, φ, r, ρ', s, hf, k⟩
  cases hf
  exact k [] W H φ [] ⟨Ev.refl .., s, .nil, (fun a h => nomatch h), fun _ h => .inl h, (fun a h => nomatch h)⟩
theorem tXA_cons {K : PySem.W.Frag} {σ : L2.St} {H : Hp} {Q : List V → Hp → Prop} (h : tXA K (consA f fs) σ H Q) : tCons (tX K f) (tXA K fs) σ H Q := by
  obtain ⟨W, ρ, φ, r, ρ', s, hf, k⟩ := h
  unfold consA at hf
  obtain ⟨⟨x, ρ1⟩, e1, hf⟩ := Option.bind_eq_some_iff.mp hf
  obtain ⟨⟨xs, ρ2⟩, e2, hf⟩ := Option.bind_eq_some_iff.mp hf
  cases hf
  refine ⟨W, ρ, φ, x, ρ1, s, e1, fun v W1 H1 φ1 l o1 => ?_⟩
  refine ⟨W1, ρ1, φ1, xs, _, o1.ss, e2, fun vs W2 H2 φ2 ls o2 => ?_⟩
  refine k (v :: vs) W2 H2 φ2 (l ++ ls) ⟨o1.ev.trans o1.sub o2.ev, o2.ss, .cons (o1.rx.stay o1.ss o1.dj o2.ev) o2.rx (dj2 (p := fun a => a ∈ ls) o1.rx o1.dj o2.subl), fun a h => ?_, sub2 o1.ev o1.sub o2.sub fun a => s.inH, fun a h => ?_⟩
  · exact (List.mem_append.mp h).elim (dj2 o1.rx o1.dj o2.sub a) (o2.dj a)
  · exact (List.mem_append.mp h).elim (o1.subl a) (sub2 (p := fun a => a ∈ ls) o1.ev o1.sub o2.subl (fun a => s.inH) a)
theorem pxk_cons {nm : Option Str} {kpos : Pos} (ha : PX X e f) (hr : PXK X kws fs) : PXK X (⟨nm, e, kpos⟩ :: kws) (consA f fs) := PK.mono (pk_cons ha hr) fun _ _ _ h => tXA_cons h
theorem RXs.append {K : PySem.W.Frag} {W : Addr → Prop} {H : Hp} {σ : L2.St} : ∀ {vs us : List V} {rs ts : List Vl} {l m : List Addr}, RXs K W H σ vs rs l → RXs K W H σ us ts m → (∀ a ∈ l, a ∉ m) → RXs K W H σ (vs ++ us) (rs ++ ts) (l ++ m)
  | _, _, _, _, _, _, .nil, h2, _ => h2
  | _, _, _, _, _, _, .cons h r d, h2, n => by
    rw [List.append_assoc]
    exact .cons h (RXs.append r h2 fun a q => n a (List.mem_append_right _ q)) fun a q z => (List.mem_append.mp z).elim (d a q) (n a (List.mem_append_left _ q))
/-- the i-th of a list of results, with its own objects -/
theorem RXs.at {K : PySem.W.Frag} {W : Addr → Prop} {H : Hp} {σ : L2.St} : ∀ {vs : List V} {rs : List Vl} {l : List Addr}, RXs K W H σ vs rs l → ∃ mm : Nat → List Addr, (∀ i v, vs[i]? = some v → ∃ r, rs[i]? = some r ∧ RX K W H σ v r (mm i)) ∧ (∀ i j a, a ∈ mm i → a ∈ mm j → i = j) ∧ (∀ i a, a ∈ mm i → a ∈ l) ∧ vs.length = rs.length
  | _, _, _, .nil => ⟨fun _ => [], (fun i v h => by simp at h), (fun _ _ _ h => nomatch h), (fun _ _ h => nomatch h), rfl⟩
  | _, _, _, .cons (l := l) h r d => by
    obtain ⟨m, h1, h2, h3, h4⟩ := RXs.at r
    refine ⟨fun i => match i with | 0 => l | j + 1 => m j, fun i v e => ?_, fun i j a q1 q2 => ?_, fun i a q => ?_, by rw [List.length_cons, List.length_cons, h4]⟩
    · cases i with
      | zero => cases e; exact ⟨_, rfl, h⟩
      | succ i => exact h1 i v e
    · cases i with
      | zero => cases j with
        | zero => rfl
        | succ j => exact absurd (h3 j a q2) (d a q1)
      | succ i => cases j with
        | zero => exact absurd (h3 i a q1) (d a q2)
        | succ j => rw [h2 i j a q1 q2]
    · cases i with
      | zero => exact List.mem_append_left _ q
      | succ i => exact List.mem_append_right _ (h3 i a q)
theorem RXs.pick {K : PySem.W.Frag} {W : Addr → Prop} {H : Hp} {σ : L2.St} {vs : List V} {rs : List Vl} {l : List Addr} (h : RXs K W H σ vs rs l) : ∀ pm : List Nat, pm.Nodup → ∃ l', RXs K W H σ (DL.pick pm vs) (DL.pick pm rs) l' ∧ ∀ a ∈ l', a ∈ l := by
  obtain ⟨m, h1, h2, h3, h4⟩ := h.at
  intro pm nd
  have go : ∀ pm : List Nat, pm.Nodup → ∃ l', RXs K W H σ (DL.pick pm vs) (DL.pick pm rs) l' ∧ ∀ a ∈ l', ∃ i ∈ pm, a ∈ m i := by
    intro pm
    induction pm with
    | nil => intro _; exact ⟨[], .nil, (fun a h => nomatch h)⟩
    | cons i pm ih =>
      intro nd
      obtain ⟨n1, n2⟩ := List.nodup_cons.mp nd
      obtain ⟨l', g1, g2⟩ := ih n2
      unfold DL.pick at g1 ⊢
      rw [List.filterMap_cons, List.filterMap_cons]
      cases e : vs[i]? with
      | none =>
        have : rs[i]? = none := by
          have := List.getElem?_eq_none_iff.mp e
          exact List.getElem?_eq_none_iff.mpr (by omega)
        rw [this]
        exact ⟨l', g1, fun a h => let ⟨j, q1, q2⟩ := g2 a h; ⟨j, List.mem_cons_of_mem _ q1, q2⟩⟩
      | some v =>
        obtain ⟨r, e2, rx⟩ := h1 i v e
        rw [e2]
        refine ⟨m i ++ l', .cons rx g1 fun a q z => ?_, fun a q => ?_⟩
        · obtain ⟨j, j1, j2⟩ := g2 a z
          rw [h2 i j a q j2] at n1
          exact n1 j1
        · rcases List.mem_append.mp q with z | z
          · exact ⟨i, List.mem_cons_self, z⟩
          · obtain ⟨j, j1, j2⟩ := g2 a z
            exact ⟨j, List.mem_cons_of_mem _ j1, j2⟩
  obtain ⟨l', g1, g2⟩ := go pm nd
  exact ⟨l', g1, fun a h => let ⟨i, _, q⟩ := g2 a h; h3 i a q⟩
theorem pick_map {α β : Type} (g : α → β) (pm : List Nat) (l : List α) : (DL.pick pm l).map g = DL.pick pm (l.map g) := by
  unfold DL.pick
  induction pm with
  | nil => rfl
  | cons i pm ih =>
    rw [List.filterMap_cons, List.filterMap_cons, List.getElem?_map]
    cases l[i]? with
    | none => exact ih
    | some v => simp only [Option.map_some, List.map_cons, ih]
theorem lenA_inv {n : Nat} {f : DA} {ρ ρ' : Rho} {rs : List Vl} (h : lenA n f ρ = some (rs, ρ')) : f ρ = some (rs, ρ') ∧ rs.length = n := by
  unfold lenA at h
  obtain ⟨⟨r, ρ1⟩, e, h⟩ := Option.bind_eq_some_iff.mp h
  split at h
  · rename_i q; cases h; exact ⟨e, q⟩
  · cases h
/-- keyword calls: written arguments fs, then keywords gs, sorted by pm -/
theorem tXA_callP {K : PySem.W.Frag} {σ : L2.St} {H : Hp} {Q : VK} {F : DE} {io : List Bool} {m n nk : Nat} {pm : List Nat} (hn : io.length = m) (nd : pm.Nodup) (h : tX K (callE io F (pickA pm (appA (lenA n fs) (lenA nk gs)))) σ H Q) :
    tXA K fs σ H fun vs H1 => tXA K gs σ H1 fun zs H2 => (vs.length = n ∧ zs.length = nk) ∧ spF K m F (DL.pick pm (vs ++ zs)) H2 Q E0 := by
  obtain ⟨W, ρ, φ, rs, ρ1, s, e1, k⟩ := tXA_call hn h
  unfold pickA appA at e1
  obtain ⟨⟨r0, ρ0⟩, q1, e2⟩ := Option.bind_eq_some_iff.mp e1
  cases e2
  obtain ⟨⟨r1, ρ2⟩, q3, q2⟩ := Option.bind_eq_some_iff.mp q1
  obtain ⟨⟨r2, ρ3⟩, q4, q5⟩ := Option.bind_eq_some_iff.mp q2
  cases q5
  obtain ⟨qa, la⟩ := lenA_inv q3
  obtain ⟨qb, lb⟩ := lenA_inv q4
  refine ⟨W, ρ, φ, r1, ρ2, s, qa, fun vs W1 H1 φ1 l o1 => ?_⟩
  refine ⟨W1, ρ2, φ1, r2, _, o1.ss, qb, fun zs W2 H2 φ2 l2 o2 => ⟨⟨by rw [o1.rx.length]; exact la, by rw [o2.rx.length]; exact lb⟩, ?_⟩⟩
  have rx := (o1.rx.stay o1.ss o1.dj o2.ev).append o2.rx (dj2s (p := fun a => a ∈ l2) o1.rx o1.dj o2.subl)
  obtain ⟨l', rp, hl⟩ := rx.pick pm nd
  refine k _ W2 H2 φ2 l' ⟨o1.ev.trans o1.sub o2.ev, o2.ss, rp, fun a h => ?_, sub2 o1.ev o1.sub o2.sub fun a => s.inH, fun a h => ?_⟩
  · exact (List.mem_append.mp (hl a h)).elim (dj2s o1.rx o1.dj o2.sub a) (o2.dj a)
  · exact (List.mem_append.mp (hl a h)).elim (o1.subl a) (sub2 (p := fun a => a ∈ l2) o1.ev o1.sub o2.subl (fun a => s.inH) a)
end
section
variable {X : Cx} {k n m : Nat} {f : Addr} {fd : FuncData} {ps ks : List Str} {x : Str} {p pos : Pos} {e : Expr} {es : List Expr} {F : DE} {fs gs : DA} {kws : List Keyword} {pm : List Nat}
theorem px_callP (io : List Bool) (G : FnG X.prog X.w X.K X.mg X.base CX0 k f fd ps (spF X.K m F)) (hr : RmG k X.A) (hm : X.mg x = some (.ref f)) (hk : PySem.W.keepIn X.K (.ref f) = true) (hb : KBd X.K fd ps ks n pm)
    (ha : PXA X (e :: es) fs) (hkw : PXK X kws gs) (hn : io.length = m := by rfl) (nd : pm.Nodup := by decide) (hg : Gl X x := by rfl) (hall : (backToKw pos (keywordEach kws X.env)).all (·.1.isSome) = true := by rfl) (hks : (backToKw pos (keywordEach kws X.env)).filterMap (·.1) = ks := by rfl)
    (hdb : (x == ("__debug__" : Str)) = false := by decide) (he : starEach (e :: es) X.env = (false, eval e X.env) :: starEach es X.env := by rfl)
    (hpl : ((backTo pos (starEach (e :: es) X.env)).any (·.1) || (backToKw pos (keywordEach kws X.env)).any (·.1.isNone)) = false := by rfl) :
    PX X (.Call (.Name x p) (e :: es) kws pos) (callE io F (pickA pm (appA (lenA n fs) (lenA ks.length gs)))) := by
  constructor
  intro pins s σ H Q I h
  refine wpAny_Call_Name_kw (ld_glob I hg hm ?_ hdb)
  refine PySem.W.callWith_KW (h₀ := X.base) I.ok.mod.kin hk hall (thn (ha.run pos pins s σ H _ I (tXA_callP hn nd h)) ?_) hpl he
  rintro us s1 ⟨vs, H1, I1, r, q⟩
  refine thn (hkw.run pos pins s1 σ H1 _ I1 q) ?_
  rintro ws s2 ⟨zs, H2, I2, rz, ⟨lv, lz⟩, q2⟩
  rw [hks]
  exact ⟨I2.kIn, runG (args := ⟨us, ks.zip ws⟩) G hr (hb.to s2 us ws I2.kIn (by rw [← r.length]; exact lv) (by rw [← rz.length]; exact lz)) I2 (Vals.pick (r.append rz) pm) q2 rfl⟩
theorem px_callP0 (io : List Bool) (G : FnG X.prog X.w X.K X.mg X.base CX0 k f fd ps (spF X.K m F)) (hr : RmG k X.A) (hm : X.mg x = some (.ref f)) (hk : PySem.W.keepIn X.K (.ref f) = true) (hb : KBd X.K fd ps ks 0 pm)
    (hkw : PXK X kws gs) (hn : io.length = m := by rfl) (nd : pm.Nodup := by decide) (hg : Gl X x := by rfl) (hall : (backToKw pos (keywordEach kws X.env)).all (·.1.isSome) = true := by rfl) (hks : (backToKw pos (keywordEach kws X.env)).filterMap (·.1) = ks := by rfl)
    (hdb : (x == ("__debug__" : Str)) = false := by decide) (hpl : ((backTo pos (starEach [] X.env)).any (·.1) || (backToKw pos (keywordEach kws X.env)).any (·.1.isNone)) = false := by rfl) :
    PX X (.Call (.Name x p) [] kws pos) (callE io F (pickA pm (appA (lenA 0 nilA) (lenA ks.length gs)))) := by
  constructor
  intro pins s σ H Q I h
  refine wpAny_Call_Name_kw (ld_glob I hg hm ?_ hdb)
  refine PySem.W.callWith_KW0 (h₀ := X.base) I.ok.mod.kin hk hall ?_ hpl
  obtain ⟨W, ρ, φ, rs, ρ1, s', e1, k'⟩ := tXA_callP hn nd h
  cases e1
  have q := k' [] W H φ [] ⟨Ev.refl .., s', .nil, (fun a h => nomatch h), fun _ h => .inl h, (fun a h => nomatch h)⟩
  refine thn (hkw.run pos pins s σ H _ I q) ?_
  rintro ws s2 ⟨zs, H2, I2, rz, ⟨lv, lz⟩, q2⟩
  rw [hks]
  exact ⟨I2.kIn, runG (args := ⟨[], ks.zip ws⟩) G hr (hb.to s2 [] ws I2.kIn rfl (by rw [← rz.length]; exact lz)) I2 (Vals.pick (us := ws) rz pm) q2 rfl⟩
end
end
end DL

namespace DL
open PySem PySem.Spec PyProof.Rows L2
noncomputable section

/-! ### lists of own lists -/
def owsA : List Vl → Option (List (List D))
  | [] => some []
  | .ow ds :: r => (owsA r).bind fun t => some (ds :: t)
  | _ => none
def lst2E (fs : DA) : DE := fun ρ => (fs ρ).bind fun p => (owsA p.1).bind fun dss => if dss.length ≤ 1000 then some (.ow2 dss, p.2) else none
def own2At (ρ : Rho) (xi : Nat) : Option (List (List D)) := match ρ[xi]? with
  | some (some (.ow2 ds)) => some ds
  | _ => none
theorem own2At_some {ρ : Rho} {xi : Nat} {ds : List (List D)} (h : own2At ρ xi = some ds) : ρ[xi]? = some (some (.ow2 ds)) := by
  unfold own2At at h
  split at h
  · rename_i e; cases h; exact e
  · cases h
def meth2E (xi : Nat) (g : DE) (G : List D → List D → Option (List D × D)) (fs : DA) : DE := fun ρ => (own2At ρ xi).bind fun _ => (g ρ).bind fun q => match q.1 with
  | .fz (.int i) => (own2At q.2 xi).bind fun dss => (ixN dss.length i).bind fun j => (dss[j]?).bind fun ds => (fs (q.2.set xi none)).bind fun p => (frzA p.1).bind fun es => (G ds es).bind fun t =>
    match p.2[xi]? with
    | some none => some (.fz t.2, p.2.set xi (some (.ow2 (dss.set j t.1))))
    | _ => none
  | _ => none
section
variable {K : PySem.W.Frag} {W W1 : Addr → Prop} {H H1 : Hp} {σ : L2.St} {ρ : Rho} {φ : Fp}
theorem RXs.ows : ∀ {vs : List V} {rs : List Vl} {l : List Addr} {dss : List (List D)}, RXs K W H σ vs rs l → owsA rs = some dss → ∃ bs, vs = bs.map V.ref ∧ l = bs ∧ OwA K W H bs dss ∧ bs.Nodup
  | _, _, _, _, .nil, e => by cases e; exact ⟨[], rfl, rfl, .nil, List.nodup_nil⟩
  | _, _, _, _, .cons (r := r) (rs := rs) h t d, e => by
    cases r with
    | ow ds =>
      simp only [owsA] at e
      obtain ⟨dss, e1, e⟩ := Option.bind_eq_some_iff.mp e
      cases e
      obtain ⟨bs, rfl, rfl, o, n⟩ := RXs.ows t e1
      cases h with
      | rv h => cases h with
        | ow g1 g2 g3 => exact ⟨_ :: _, rfl, rfl, .cons g1 g2 g3 o, List.nodup_cons.mpr ⟨d _ List.mem_cons_self, n⟩⟩
    | _ => cases e
theorem OwA.at : ∀ {bs : List Addr} {dss : List (List D)} {j : Nat} {ds : List D}, OwA K W H bs dss → dss[j]? = some ds → ∃ b xs, bs[j]? = some b ∧ H b = some (.lst xs) ∧ ¬ W b ∧ FzA K W H xs ds
  | _, _, _, _, .nil, e => by simp at e
  | _, _, 0, _, .cons h w f r, e => by cases e; exact ⟨_, _, rfl, h, w, f⟩
  | _, _, j + 1, _, .cons h w f r, e => OwA.at (j := j) r (by simpa using e)
theorem OwA.length : ∀ {bs : List Addr} {dss : List (List D)}, OwA K W H bs dss → bs.length = dss.length
  | _, _, .nil => rfl
  | _, _, .cons _ _ _ r => by rw [List.length_cons, List.length_cons, OwA.length r]
/-- one of the lists gets another content -/
theorem OwA.write {b : Addr} {xs' : List V} {ds' : List D} (x : Wxt W H W H1) (st : ∀ c o, H c = some o → c ≠ b → H1 c = some o) (hb : H1 b = some (.lst xs')) (nb : ¬ W b) (f : FzA K W H1 xs' ds') :
    ∀ {bs : List Addr} {dss : List (List D)} {j : Nat}, OwA K W H bs dss → bs[j]? = some b → bs.Nodup → OwA K W H1 bs (dss.set j ds')
  | _, _, _, .nil, e, _ => by simp at e
  | _, _, 0, .cons (bs := bs) h w g r, e, n => by
    cases e
    obtain ⟨n1, n2⟩ := List.nodup_cons.mp n
    refine .cons hb nb f ?_
    have go : ∀ {bs dss}, OwA K W H bs dss → b ∉ bs → OwA K W H1 bs dss := by
      intro bs dss o
      induction o with
      | nil => intro _; exact .nil
      | cons h w g r ih => intro q; exact .cons (st _ _ h fun z => q (z ▸ List.mem_cons_self)) w (g.xt x) (ih fun z => q (List.mem_cons_of_mem _ z))
    exact go r n1
  | _, _, j + 1, .cons (b := c) (bs := bs') h w g r, e, n => by
    obtain ⟨n1, n2⟩ := List.nodup_cons.mp n
    have e' : bs'[j]? = some b := by simpa using e
    refine .cons (st _ _ h fun z => n1 (z ▸ List.mem_of_getElem? e')) w (g.xt x) (OwA.write x st hb nb f r e' n2)
theorem SS.own2 (s : SS K W H σ ρ φ) {xi : Nat} {dss : List (List D)} (e : ρ[xi]? = some (some (.ow2 dss))) : ∃ a bs, σ[xi]? = some (some (.ref a)) ∧ H a = some (.lst (bs.map V.ref)) ∧ ¬ W a ∧ OwA K W H bs dss ∧ φ xi = a :: bs ∧ (a :: bs).Nodup := by
  obtain ⟨v, h1, h2⟩ := s.sl xi _ e
  generalize hφ : φ xi = lx at h2
  cases h2 with
  | @ow2 a bs _ g1 g2 g3 g4 => exact ⟨a, bs, h1, g1, g2, g3, rfl, g4⟩
end
section
variable {X : Cx} {e ie : Expr} {es : List Expr} {fs : DA} {g : DE} {pos apos cpos spos : Pos} {x name : Str} {id : String} {r : V → List V → Hp → VK → Prop} {G : List D → List D → Option (List D × D)}
theorem px_lst2 (h : PXA X es fs) : PX X (.List es pos) (lst2E fs) := by
  refine PE.mono (pe_lst h) ?_
  rintro σ H Q ⟨W, ρ, φ, r, ρ', s, hf, k⟩
  unfold lst2E at hf
  obtain ⟨⟨rs, ρ1⟩, e1, hf⟩ := Option.bind_eq_some_iff.mp hf
  obtain ⟨dss, e2, hf⟩ := Option.bind_eq_some_iff.mp hf
  split at hf
  · rename_i hz
    cases hf
    refine ⟨W, ρ, φ, rs, _, s, e1, fun vs W1 H1 φ1 l o => ?_⟩
    obtain ⟨bs, rfl, rfl, ow, nd⟩ := o.rx.ows e2
    refine ⟨small_size (by rw [List.length_map, ow.length]; exact hz), fun p np => ?_⟩
    have up := upd_up (o := .lst (l.map V.ref)) np
    have xt : Wxt W1 H1 W1 (upd H1 p (.lst (l.map V.ref))) := ⟨fun _ h => h, fun a o e _ => up a o e⟩
    have nW : ¬ W1 p := o.ss.new np
    have np' : p ∉ l := fun z => by
      obtain ⟨_, ob, e, _⟩ := o.rx.own p z
      rw [np] at e; cases e
    have ow' := ow.ev (Ev.grow (fp := fun _ => False) up) xt (fun _ _ z => z)
    have hp : InF φ p ∨ H p = none := by
      by_cases n : InF φ p
      · exact .inl n
      · refine .inr ?_
        cases e : H p with
        | none => rfl
        | some ob => rw [o.ev.keep p ob e fun z => absurd z n] at np; cases np
    refine k (.ref p) W1 _ φ1 (p :: l) ⟨o.ev.trans (fp1 := fun _ => False) (fun _ z => z.elim) (Ev.grow up), o.ss.grow up, .rv (.ow2 upd_same nW ow' (List.nodup_cons.mpr ⟨np', nd⟩)), fun a h z => ?_, o.sub, fun a h => ?_⟩
    · rcases List.mem_cons.mp h with rfl | h
      · exact o.ss.inH z np
      · exact o.dj a h z
    · rcases List.mem_cons.mp h with rfl | h
      · exact hp
      · exact o.subl a h
  · cases hf
theorem tX_meth2 {K : PySem.W.Frag} (xi : Nat) (vm : VMeth K r G) {σ : L2.St} {H : Hp} {Q : VK} (h : tX K (meth2E xi g G fs) σ H Q) : tOp (rIxL K) (tVar xi) (tX K g) σ H fun x H1 => tyV K "list" x H1 ∧ tXA K fs σ H1 fun vs H2 => r x vs H2 Q := by
  obtain ⟨W, ρ, φ, res, ρ', s, hf, k⟩ := h
  unfold meth2E at hf
  obtain ⟨ds0, e0, hf⟩ := Option.bind_eq_some_iff.mp hf
  obtain ⟨⟨ri, ρ1⟩, e1, hf⟩ := Option.bind_eq_some_iff.mp hf
  simp only at hf
  split at hf
  rotate_left
  · cases hf
  rename_i i
  obtain ⟨dss, e2, hf⟩ := Option.bind_eq_some_iff.mp hf
  obtain ⟨j, e3, hf⟩ := Option.bind_eq_some_iff.mp hf
  obtain ⟨ds, e4, hf⟩ := Option.bind_eq_some_iff.mp hf
  obtain ⟨⟨rs, ρ2⟩, e5, hf⟩ := Option.bind_eq_some_iff.mp hf
  obtain ⟨es, e6, hf⟩ := Option.bind_eq_some_iff.mp hf
  obtain ⟨⟨ds', rd⟩, e7, hf⟩ := Option.bind_eq_some_iff.mp hf
  simp only at hf
  split at hf
  rotate_left
  · cases hf
  rename_i e8
  cases hf
  obtain ⟨a, bs0, g1, _, _, _, _, _⟩ := s.own2 (own2At_some e0)
  refine ⟨.ref a, g1, W, ρ, φ, .fz (.int i), ρ1, s, e1, fun iv W1 H1 φ1 l1 o1 => ?_⟩
  have hiv : iv = .int i := by
    cases o1.rx with
    | rv z => cases z with
      | fz z => cases z; rfl
  obtain ⟨a', bs, h1, h2, h3, h4, h5, h6⟩ := o1.ss.own2 (own2At_some e2)
  rw [g1] at h1
  cases h1
  obtain ⟨b, xs, b1, b2, b3, b4⟩ := h4.at e4
  have at1 : atI (bs.map V.ref) i = some (.ref b) := by
    unfold atI
    rw [List.length_map, h4.length, e3]
    show (bs.map V.ref)[j]? = some (.ref b)
    rw [List.getElem?_map, b1]
    rfl
  refine ⟨a, bs.map V.ref, i, .ref b, rfl, hiv, .of h2, at1, .inl ⟨rfl, xs, .of b2⟩, ?_⟩
  -- the arguments, without the list
  have sd := o1.ss.del' xi
  refine ⟨W1, _, _, rs, ρ2, sd, e5, fun vs W2 H2 φ2 l o2 => ?_⟩
  obtain ⟨o3, fe⟩ := o2.fix e6
  have ninD : ∀ c ∈ a :: bs, ¬ InF (delF φ1 xi) c := by
    rintro c hc ⟨j', hj⟩
    unfold delF at hj
    split at hj
    · cases hj
    · rename_i n
      exact n (o1.ss.dj j' xi c hj (by rw [h5]; exact hc))
  have rv1 : RV K W1 H1 (.ref a) (.ow2 dss) (a :: bs) := .ow2 h2 h3 h4 h6
  have rv3 := rv1.ev o3.ev (o3.ev.xt sd.notW) ninD
  cases rv3 with
  | ow2 q1 q2 q3 q4 =>
  have eb : ∃ xs3, H2 b = some (.lst xs3) ∧ ¬ Or W2 l b ∧ FzA K (Or W2 l) H2 xs3 ds := by
    obtain ⟨b', xs3, c1, c2, c3, c4⟩ := q3.at e4
    rw [b1] at c1
    cases c1
    exact ⟨xs3, c2, c3, c4⟩
  obtain ⟨xs3, c2, c3, c4⟩ := eb
  refine vm _ H2 b xs3 ds vs es ds' rd Q c2 c3 c4 fe e7 fun xs' v f fv => ?_
  have up : ∀ c ob, H2 c = some ob → c ≠ b → upd H2 b (.lst xs') c = some ob := fun c ob e n => by rw [upd_ne n]; exact e
  have evb : Ev (fun c => c = b) (Or W2 l) H2 (Or W2 l) (upd H2 b (.lst xs')) := ⟨fun _ h => h, fun c ob e q => up c ob e fun z => by
    subst z
    rw [c2] at e; cases e
    exact q rfl, fun _ _ _ _ h => h⟩
  have xtb : Wxt (Or W2 l) H2 (Or W2 l) (upd H2 b (.lst xs')) := evb.xt fun c h => by rw [h]; exact c3
  have nd := List.nodup_cons.mp h6
  have bin : b ∈ bs := List.mem_of_getElem? b1
  have nab : a ≠ b := fun z => nd.1 (z ▸ bin)
  have wfb : ∀ c, Or W2 l c → ∃ ob, upd H2 b (.lst xs') c = some ob := fun c h => let ⟨ob, e⟩ := o3.ss.wf c h; ⟨ob, up c ob e fun z => c3 (z ▸ h)⟩
  have nin3 : ∀ c ∈ a :: bs, ¬ InF φ2 c := fun c hc q => by
    rcases o3.sub c q with z | z
    · exact ninD c hc z
    · rcases List.mem_cons.mp hc with rfl | hc'
      · rw [h2] at z; cases z
      · obtain ⟨_, ob, e, _⟩ := h4.own c hc'
        rw [z] at e; cases e
  have sb : SS K (Or W2 l) (upd H2 b (.lst xs')) σ ρ2 φ2 := o3.ss.ev evb xtb (fun c h z => nin3 b (List.mem_cons_of_mem _ bin) (z ▸ h)) wfb
  have rvn : RV K (Or W2 l) (upd H2 b (.lst xs')) (.ref a) (.ow2 (dss.set j ds')) (a :: bs) := .ow2 (up a _ q1 nab) q2 (OwA.write xtb up upd_same c3 (f.xt xtb) q3 b1 nd.2) h6
  have sf := sb.put (i := xi) g1 rvn nin3
  have ain : ∀ c ∈ a :: bs, InF φ1 c := fun c hc => ⟨xi, by rw [h5]; exact hc⟩
  have ev13 : Ev (InF φ1) W1 H1 (Or W2 l) (upd H2 b (.lst xs')) := by
    refine (o3.ev.mono (fp1 := InF φ1) fun c h => .inl (delF_sub h)).trans (fp1 := fun c => c = b) ?_ evb
    rintro c rfl
    exact .inl (ain c (List.mem_cons_of_mem _ bin))
  refine k v _ _ _ [] ⟨o1.ev.trans o1.sub ev13, sf, .rv (.fz (fv.xt xtb)), (fun a h => nomatch h), fun c h => ?_, (fun a h => nomatch h)⟩
  have toφ1 : InF φ1 c ∨ H1 c = none := by
    rcases setF_in h with z | z
    · exact (o3.sub c z).imp delF_sub id
    · exact .inl (ain c z)
  exact sub2 (p := fun c => InF φ1 c ∨ H1 c = none) o1.ev o1.sub (fun _ h => h) (fun a => s.inH) c toφ1
theorem px_meth2 (xi : Nat) {xpos : Pos} (slot : Slot "list" name id) (hty : typeOf (.builtin id) = pure (.type "method_descriptor")) (hm : MtR X id r) (vm : VMeth X.K r G) (hi : PX X ie g) (ha : PXA X (e :: es) fs) (hN : X.N[xi]? = some x := by rfl)
    (hv : Vis X.env.scope x := by first | exact Or.inl rfl | exact Or.inr (Or.inl rfl) | exact Or.inr (Or.inr rfl)) (hd : (x == ("__debug__" : Str)) = false := by decide) (hcd : (x == ("__classdict__" : Str)) = false := by decide) (hix : PlainIx ie := by intro _ _; rfl)
    (hbase : attributeBase (.Subscript (.Name x xpos) ie spos) name X.env (eval (.Subscript (.Name x xpos) ie spos) X.env) = eval (.Subscript (.Name x xpos) ie spos) X.env := by rfl)
    (hfew : ((backTo cpos (starEach (e :: es) X.env)).all (fun x => !x.1) && (backToKw cpos (keywordEach [] X.env)).all (fun x => x.1.isSome)
      && decide ((e :: es).length + ([] : List Keyword).length + (if ([] : List Keyword).isEmpty then 0 else 1) < 30)) = true := by rfl)
    (hline : (apos.endLine == cpos.line) = true := by rfl) (hs : starEach (e :: es) X.env = (false, eval e X.env) :: starEach es X.env := by rfl) (hplain : (backTo cpos (starEach es X.env)).any (·.1) = false := by rfl) :
    PX X (.Call (.Attribute (.Subscript (.Name x xpos) ie spos) name apos) (e :: es) [] cpos) (meth2E xi g G fs) :=
  PE.mono (pe_bm PySem.F.plainAttrs_list slot hty hm (pe_ix ix_list (pe_var hN hv hd hcd) hi hix) ha hbase hfew hline hs hplain) fun _ _ _ h => tX_meth2 xi vm h
theorem px_meth20 (xi : Nat) {xpos : Pos} (slot : Slot "list" name id) (hty : typeOf (.builtin id) = pure (.type "method_descriptor")) (hm : MtR X id r) (vm : VMeth X.K r G) (hi : PX X ie g) (hN : X.N[xi]? = some x := by rfl)
    (hv : Vis X.env.scope x := by first | exact Or.inl rfl | exact Or.inr (Or.inl rfl) | exact Or.inr (Or.inr rfl)) (hd : (x == ("__debug__" : Str)) = false := by decide) (hcd : (x == ("__classdict__" : Str)) = false := by decide) (hix : PlainIx ie := by intro _ _; rfl)
    (hbase : attributeBase (.Subscript (.Name x xpos) ie spos) name X.env (eval (.Subscript (.Name x xpos) ie spos) X.env) = eval (.Subscript (.Name x xpos) ie spos) X.env := by rfl)
    (hline : (apos.endLine == cpos.line) = true := by rfl) :
    PX X (.Call (.Attribute (.Subscript (.Name x xpos) ie spos) name apos) [] [] cpos) (meth2E xi g G nilA) := by
  refine PE.mono (pe_bm0 PySem.F.plainAttrs_list slot hty hm (pe_ix ix_list (pe_var hN hv hd hcd) hi hix) hbase hline) ?_
  intro σ H Q h
  have h := tX_meth2 xi vm h
  obtain ⟨v, h1, W, ρ, φ, ri, ρ1, s, e1, k⟩ := h
  refine ⟨v, h1, W, ρ, φ, ri, ρ1, s, e1, fun iv W1 H1 φ1 l1 o1 => ?_⟩
  obtain ⟨p, xs, i, u, q1, q2, q3, q4, q5, W2, ρ2, φ2, rs, ρ3, s2, e2, k2⟩ := k iv W1 H1 φ1 l1 o1
  cases e2
  exact ⟨p, xs, i, u, q1, q2, q3, q4, q5, k2 [] W2 H1 φ2 [] ⟨Ev.refl .., s2, .nil, (fun a h => nomatch h), fun _ h => .inl h, (fun a h => nomatch h)⟩⟩
end

/-! ### chains, in, is, sorted -/
def CtOp (K : PySem.W.Frag) (r : List V → Hp → VK → Prop) (F : List D → Option D) : Prop := ∀ H vs ds z Q, CtRA K H vs ds → F ds = some z → (∀ v, Sc v z → Q v H) → r vs H Q
def chainE (F F' : List D → Option D) (f g h : DE) : DE := fun ρ => (f ρ).bind fun p => (g p.2).bind fun q => (curA q.2 [p.1, q.1]).bind fun ds => (F ds).bind fun z => match z with
  | .bool b => if b = true then (h q.2).bind fun t => (curA t.2 [q.1, t.1]).bind fun es => (F' es).bind fun y => some (.fz y, t.2) else some (.fz (.bool false), q.2)
  | _ => none
def ltD := b2 fun i j => decide (i < j)
def leD := b2 fun i j => decide (i ≤ j)
def gtD := b2 fun i j => decide (j < i)
def geD := b2 fun i j => decide (j ≤ i)
def eqDD : List D → Option D := fun ds => match ds with
  | [d, e] => (eqD d e).bind fun b => some (.bool b)
  | _ => none
section
variable {K : PySem.W.Frag}
theorem ct_b2 {g : Int → Int → Bool} : CtOp K (r2L (rI0 fun i j => .bl (g i j))) (b2 g) := fun H vs ds z Q ct e k => by
  unfold b2 at e
  split at e
  · cases e
    obtain rfl := ct.int2
    exact ⟨_, _, rfl, _, _, rfl, rfl, k _ (.bl _)⟩
  · cases e
theorem ct_eq : CtOp K (r2L fun x y H Q => rEq x y H Q ∨ rEqD K x y H Q) eqDD := fun H vs ds z Q ct e k => by
  unfold eqDD at e
  split at e
  · obtain ⟨b, e1, e⟩ := Option.bind_eq_some_iff.mp e
    cases e
    obtain ⟨v, u, rfl, c1, c2⟩ := ct.two
    rcases eqD_inv e1 with ⟨v', u', s1, s2, sc, rfl⟩ | ⟨s1, s2, rfl⟩
    · obtain rfl := c1.sc s1
      obtain rfl := c2.sc s2
      exact ⟨_, _, rfl, .inl ⟨sc, k _ (.bl _)⟩⟩
    · exact ⟨_, _, rfl, .inr ⟨_, _, c1.dp s1, c2.dp s2, s1, s2, k _ (.bl _)⟩⟩
  · cases e
end
section
variable {X : Cx} {a b c : Expr} {f g h : DE} {pos : Pos}
theorem tX_chain {K : PySem.W.Frag} {F F' : List D → Option D} {r r' : R2} (vo : CtOp K (r2L r) F) (vo' : CtOp K (r2L r') F') {σ : L2.St} {H : Hp} {Q : VK} (hh : tX K (chainE F F' f g h) σ H Q) : tChain r r' (tX K f) (tX K g) (tX K h) σ H Q := by
  obtain ⟨W, ρ, φ, res, ρ', s, hf, k⟩ := hh
  unfold chainE at hf
  obtain ⟨⟨x, ρ1⟩, e1, hf⟩ := Option.bind_eq_some_iff.mp hf
  obtain ⟨⟨y, ρ2⟩, e2, hf⟩ := Option.bind_eq_some_iff.mp hf
  obtain ⟨ds, e3, hf⟩ := Option.bind_eq_some_iff.mp hf
  obtain ⟨z, e4, hf⟩ := Option.bind_eq_some_iff.mp hf
  refine ⟨W, ρ, φ, x, ρ1, s, e1, fun v W1 H1 φ1 l o1 => ?_⟩
  refine ⟨W1, ρ1, φ1, y, ρ2, o1.ss, e2, fun v2 W2 H2 φ2 l2 o2 => ?_⟩
  have o := Out.two s o1 o2
  have ct := o.rx.ctR o.ss e3
  simp only at hf
  split at hf
  rotate_left
  · cases hf
  rename_i bb
  obtain ⟨x', y', q, q'⟩ := vo H2 _ ds _ (fun z H3 => ∃ k, z = .bl k ∧ (if k = true then tX K h σ H3 fun w' H4 => r' v2 w' H4 Q else Q (.bl false) H3)) ct e4 (fun w hw => by
    cases hw
    refine ⟨bb, rfl, ?_⟩
    cases bb with
    | true =>
      simp only [if_true] at hf ⊢
      obtain ⟨⟨t, ρ3⟩, e5, hf⟩ := Option.bind_eq_some_iff.mp hf
      obtain ⟨es, e6, hf⟩ := Option.bind_eq_some_iff.mp hf
      obtain ⟨y3, e7, hf⟩ := Option.bind_eq_some_iff.mp hf
      cases hf
      have s12 : OutT K W H (InF φ) σ ρ2 W2 H2 φ2 := o1.t.then s o2.t
      refine ⟨W2, ρ2, φ2, t, _, o2.ss, e5, fun v3 W3 H3 φ3 l3 o3 => ?_⟩
      have oo := Out.two o1.ss o2 o3
      obtain ⟨x'', y'', p, p'⟩ := vo' H3 _ es _ Q (oo.rx.ctR oo.ss e6) e7 fun w hw => k w W3 H3 φ3 [] ⟨s12.ev.trans s12.sub o3.ev, o3.ss, .rv (.fz hw.fz), (fun a h => nomatch h), (s12.then s o3.t).sub, (fun a h => nomatch h)⟩
      cases p
      exact p'
    | false =>
      simp only [Bool.false_eq_true, if_false] at hf ⊢
      have s12 : OutT K W H (InF φ) σ ρ2 W2 H2 φ2 := o1.t.then s o2.t
      cases hf
      exact k _ W2 H2 φ2 [] ⟨s12.ev, s12.ss, .rv (.fz (.bl _)), (fun a h => nomatch h), s12.sub, (fun a h => nomatch h)⟩)
  cases q
  exact q'
theorem px_chain {op op' : CmpOp} {r r' : R2} {F F' : List D → Option D} (ho : OpR X (compareOp op) r) (ho' : OpR X (compareOp op') r') (vo : CtOp X.K (r2L r) F) (vo' : CtOp X.K (r2L r') F') (ha : PX X a f) (hb : PX X b g) (hc : PX X c h)
    (hm : lastMarks [op, op'] [b, c] = false := by with_unfolding_all rfl) : PX X (.Compare a [op, op'] [b, c] pos) (chainE F F' f g h) := PE.mono (pe_chain ho ho' ha hb hc hm) fun _ _ _ q => tX_chain vo vo' q
theorem pxt_chain {op op' : CmpOp} {r r' : R2} {F F' : List D → Option D} (ho : OpR X (compareOp op) r) (ho' : OpR X (compareOp op') r') (vo : CtOp X.K (r2L r) F) (vo' : CtOp X.K (r2L r') F') (ha : PX X a f) (hb : PX X b g) (hc : PX X c h)
    (hm : lastMarks [op, op'] [b, c] = false := by with_unfolding_all rfl) : PXT X (.Compare a [op, op'] [b, c] pos) (bT (chainE F F' f g h)) := PT.mono (pt_chain ho ho' ha hb hc hm) fun _ _ _ q => tX_chain vo vo' (tX_bT q)
end
section
variable {K : PySem.W.Frag}
/-! is, is not -/
def noneD : D → Bool
  | .none => true
  | _ => false
def isD : List D → Option Bool
  | [d, .none] => some (noneD d)
  | [.bool a, .bool b] => some (decide (a = b))
  | _ => none
def isF := ctF fun ds => (isD ds).bind fun b => some (.bool b)
def isNF := ctF fun ds => (isD ds).bind fun b => some (.bool (!b))
def rIsAny : R2 := fun x y H Q => (y = .non ∧ Q (.bl (decide (x = .non))) H) ∨ (∃ a b : Bool, x = .bl a ∧ y = .bl b ∧ Q (.bl (decide (a = b))) H)
def rNotAny : R2 := fun x y H Q => (y = .non ∧ Q (.bl (!decide (x = .non))) H) ∨ (∃ a b : Bool, x = .bl a ∧ y = .bl b ∧ Q (.bl (!decide (a = b))) H)
theorem op_isB {X : Cx} : OpR X (compareOp .Is) rIsAny := OpR.or op_isN op_isBl
theorem op_notB {X : Cx} : OpR X (compareOp .IsNot) rNotAny := OpR.or op_notN op_notBl
theorem CtR.non_iff {H : Hp} {v : V} {d : D} (h : CtR K H v d) : decide (v = V.non) = noneD d := by
  cases h with
  | ct h => cases h <;> first | rfl | simp
  | lk h r => simp [noneD]
theorem isD_inv {H : Hp} {vs : List V} {ds : List D} {b : Bool} (ct : CtRA K H vs ds) (h : isD ds = some b) : (∃ x, vs = [x, .non] ∧ b = decide (x = .non)) ∨ ∃ a c : Bool, vs = [.bl a, .bl c] ∧ b = decide (a = c) := by
  unfold isD at h
  split at h
  · cases h
    obtain ⟨v, u, rfl, c1, c2⟩ := ct.two
    obtain rfl := c2.non_inv
    exact .inl ⟨v, rfl, c1.non_iff.symm⟩
  · cases h
    obtain ⟨v, u, rfl, c1, c2⟩ := ct.two
    obtain rfl := c1.bool_inv
    obtain rfl := c2.bool_inv
    exact .inr ⟨_, _, rfl, rfl⟩
  · cases h
theorem vop_is : VOp K (r2L rIsAny) isF := vop_ct fun H vs ds z Q ct e k => by
  obtain ⟨b, e1, e⟩ := Option.bind_eq_some_iff.mp e
  cases e
  rcases isD_inv ct e1 with ⟨x, rfl, rfl⟩ | ⟨a, c, rfl, rfl⟩
  · exact ⟨_, _, rfl, .inl ⟨rfl, k _ (.bl _)⟩⟩
  · exact ⟨_, _, rfl, .inr ⟨_, _, rfl, rfl, k _ (.bl _)⟩⟩
theorem vop_isN : VOp K (r2L rNotAny) isNF := vop_ct fun H vs ds z Q ct e k => by
  obtain ⟨b, e1, e⟩ := Option.bind_eq_some_iff.mp e
  cases e
  rcases isD_inv ct e1 with ⟨x, rfl, rfl⟩ | ⟨a, c, rfl, rfl⟩
  · exact ⟨_, _, rfl, .inl ⟨rfl, k _ (.bl _)⟩⟩
  · exact ⟨_, _, rfl, .inr ⟨_, _, rfl, rfl, k _ (.bl _)⟩⟩
/-! in, not in -/
def flatD : D → Bool
  | .none => true | .bool _ => true | .int _ => true | .str _ => true
  | _ => false
def inD : List D → Option Bool
  | [d, .list ds] => if SeqAt.shaped d && SeqAt.shaped (.list ds) then some (ds.any fun z => PyData.eqv z d) else none
  | [d, .tuple ds] => if flatD d && ds.all flatD then some (ds.any fun z => PyData.eqv z d) else none
  | _ => none
def inF := ctF fun ds => (inD ds).bind fun b => some (.bool b)
def notInF := ctF fun ds => (inD ds).bind fun b => some (.bool (!b))
def rInAny (K : PySem.W.Frag) : R2 := fun x y H Q => rInD K x y H Q ∨ rIn K false x y H Q
def rNotInAny (K : PySem.W.Frag) : R2 := fun x y H Q => rNotInD K x y H Q ∨ rIn K true x y H Q
theorem op_inB {X : Cx} (hu : X.A.units + 65 < cLine) : OpR X (compareOp .In) (rInAny X.K) := OpR.or (op_inD hu) op_in_seq
theorem op_notInB {X : Cx} (hu : X.A.units + 65 < cLine) : OpR X (compareOp .NotIn) (rNotInAny X.K) := OpR.or (op_notInD hu) op_notIn_seq
theorem Ct.flat {H : Hp} {v w : V} {d e : D} (h : Ct K H v d) (h2 : Ct K H w e) (f : flatD d = true) (f2 : flatD e = true) : flatV v = true ∧ eqV v w = PyData.eqv d e := by
  cases h <;> first | exact Bool.noConfusion (show false = true from f) | (cases h2 <;> first | exact Bool.noConfusion (show false = true from f2) | exact ⟨rfl, rfl⟩)
theorem CtA.flat {H : Hp} {x : V} {d : D} (h : Ct K H x d) (f : flatD d = true) : ∀ {vs : List V} {ds : List D}, CtA K H vs ds → ds.all flatD = true → vs.all flatV = true ∧ inV x vs = ds.any fun z => PyData.eqv z d
  | _, _, .nil, _ => ⟨rfl, rfl⟩
  | _, _, .cons h2 r, g => by
    rw [List.all_cons, Bool.and_eq_true] at g
    obtain ⟨g1, g2⟩ := CtA.flat h f r g.2
    obtain ⟨q1, q2⟩ := Ct.flat h2 h g.1 f
    refine ⟨by rw [List.all_cons, q1, g1]; rfl, ?_⟩
    unfold inV at g2 ⊢
    rw [List.any_cons, List.any_cons, q2, g2]
theorem inD_inv {H : Hp} {vs : List V} {ds : List D} {b : Bool} (ct : CtRA K H vs ds) (h : inD ds = some b) : ∃ x y, vs = [x, y] ∧ ((∃ d es, Dp K H x d ∧ Dp K H y (.list es) ∧ SeqAt.shaped d = true ∧ SeqAt.shaped (.list es) = true ∧ b = es.any fun z => PyData.eqv z d) ∨
    ∃ p xs, y = .ref p ∧ SqT K H p xs ∧ flatV x = true ∧ xs.all flatV = true ∧ b = inV x xs) := by
  unfold inD at h
  split at h
  · split at h
    · rename_i q
      cases h
      obtain ⟨q1, q2⟩ := Bool.and_eq_true_iff.mp q
      obtain ⟨v, u, rfl, c1, c2⟩ := ct.two
      exact ⟨_, _, rfl, .inl ⟨_, _, c1.dp q1, c2.dp q2, q1, q2, rfl⟩⟩
    · cases h
  · split at h
    · rename_i q
      cases h
      obtain ⟨q1, q2⟩ := Bool.and_eq_true_iff.mp q
      obtain ⟨v, u, rfl, c1, c2⟩ := ct.two
      obtain ⟨p, xs, rfl, h1, h2⟩ := c2.tup_inv
      cases c1 with
      | lk _ _ => cases q1
      | ct c1 =>
        obtain ⟨g1, g2⟩ := CtA.flat c1 q1 h2 q2
        exact ⟨_, _, rfl, .inr ⟨p, xs, rfl, h1, (Ct.flat c1 c1 q1 q1).1, g1, g2.symm⟩⟩
    · cases h
  · cases h
theorem vop_in : VOp K (r2L (rInAny K)) inF := vop_ct fun H vs ds z Q ct e k => by
  obtain ⟨b, e1, e⟩ := Option.bind_eq_some_iff.mp e
  cases e
  obtain ⟨x, y, rfl, h⟩ := inD_inv ct e1
  refine ⟨x, y, rfl, ?_⟩
  rcases h with ⟨d, es, h1, h2, h3, h4, rfl⟩ | ⟨p, xs, h1, h2, h3, h4, rfl⟩
  · exact .inl ⟨d, es, h1, h2, h3, h4, k _ (.bl _)⟩
  · exact .inr ⟨p, xs, h1, .inr h2, h3, h4, k _ (.bl _)⟩
theorem vop_notIn : VOp K (r2L (rNotInAny K)) notInF := vop_ct fun H vs ds z Q ct e k => by
  obtain ⟨b, e1, e⟩ := Option.bind_eq_some_iff.mp e
  cases e
  obtain ⟨x, y, rfl, h⟩ := inD_inv ct e1
  refine ⟨x, y, rfl, ?_⟩
  rcases h with ⟨d, es, h1, h2, h3, h4, rfl⟩ | ⟨p, xs, h1, h2, h3, h4, rfl⟩
  · exact .inl ⟨d, es, h1, h2, h3, h4, k _ (.bl _)⟩
  · exact .inr ⟨p, xs, h1, .inr h2, h3, h4, k _ (.bl _)⟩
/-! sorted, of ints -/
def insI (a : Int) : List Int → List Int
  | [] => [a]
  | b :: r => if a ≤ b then a :: b :: r else b :: insI a r
def sortI : List Int → List Int
  | [] => []
  | a :: r => insI a (sortI r)
theorem insI_perm (a : Int) : ∀ l : List Int, (insI a l).Perm (a :: l)
  | [] => .refl _
  | b :: r => by
    unfold insI
    split
    · exact .refl _
    · exact ((insI_perm a r).cons b).trans (.swap a b r)
theorem insI_sorted (a : Int) : ∀ l : List Int, l.Pairwise (· ≤ ·) → (insI a l).Pairwise (· ≤ ·)
  | [], _ => by unfold insI; exact List.pairwise_singleton _ _
  | b :: r, h => by
    unfold insI
    obtain ⟨h1, h2⟩ := List.pairwise_cons.mp h
    split
    · rename_i q
      exact List.pairwise_cons.mpr ⟨fun c hc => (List.mem_cons.mp hc).elim (fun e => e ▸ q) fun z => Int.le_trans q (h1 c z), h⟩
    · rename_i q
      refine List.pairwise_cons.mpr ⟨fun c hc => ?_, insI_sorted a r h2⟩
      rcases List.mem_cons.mp ((insI_perm a r).mem_iff.mp hc) with e | z
      · rw [e]; omega
      · exact h1 c z
theorem sortI_perm : ∀ l : List Int, (sortI l).Perm l
  | [] => .refl _
  | a :: r => (insI_perm a _).trans ((sortI_perm r).cons a)
theorem sortI_sorted : ∀ l : List Int, (sortI l).Pairwise (· ≤ ·)
  | [] => .nil
  | a :: r => insI_sorted a _ (sortI_sorted r)
def sortF : Rho → List Vl → Option Vl := fun ρ rs => (curA ρ rs).bind fun ds => match ds with
  | [.list xs] => (intsD xs).bind fun ns => some (.ow ((sortI ns).map .int))
  | _ => none
theorem vop_sorted : VOp K (rSortedI K) sortF := by
  intro W H σ ρ φ vs rs l res Q s rx dj e k
  unfold sortF at e
  obtain ⟨ds, e1, e⟩ := Option.bind_eq_some_iff.mp e
  have ct := rx.ctR s e1
  split at e
  · obtain ⟨ns, e2, e3⟩ := Option.bind_eq_some_iff.mp e
    cases e3
    obtain rfl := intsD_inv e2
    obtain ⟨v, rfl, c⟩ := ct.one
    obtain ⟨a, xs, rfl, h, r⟩ := c.list_inv
    obtain rfl := r.ints
    refine ⟨a, ns, rfl, h, fun ns' p hp hs np => ?_⟩
    obtain rfl : ns' = sortI ns := PySem.W.ksm_same (hp.trans (sortI_perm ns).symm) hs (sortI_sorted ns)
    exact new_list (FzA.ints _) s.wf k p np
  · cases e
end
end
end DL

namespace DL
open PySem PySem.Spec PyProof.Rows L2
noncomputable section

theorem RmG.hu {k : Nat} {A : Around} (h : RmG k A) : A.units + 70 < cLine := by have := h.room.un; omega
theorem RmG.hu64 {k : Nat} {A : Around} (h : RmG k A) : A.units + 64 < cLine := by have := h.room.un; omega
theorem RmG.hu65 {k : Nat} {A : Around} (h : RmG k A) : A.units + 65 < cLine := by have := h.room.un; omega
theorem Fun.kbd {K : PySem.W.Frag} {x qual : Str} {st : Stmt} {f : Addr} {fd : FuncData} {ps ks : List Str} {n : Nat} {pm : List Nat} (F : Fun K x qual st f fd)
    (h : ∀ (kV doc pp : Value) (an : Option Addr) (cdv ct : Value) (us ws : List Value), us.length = n → ws.length = ks.length → bindArgs (PySem.W.fnOf x qual (defArgs st) (defBody st) (defScope st) .none kV doc pp an cdv ct) ⟨us, ks.zip ws⟩ = pure (ps.zip (pick pm (us ++ ws)))) : KBd K fd ps ks n pm := by
  obtain ⟨oc, od, kV, doc, pp, an, cdv, ct, osl, rfl, lk, hcd⟩ := F.ex
  exact ⟨fun s us ws _ h1 h2 => .of_eq (h kV doc pp an cdv ct us ws h1 h2)⟩
/-- a block's names, tested -/
def blkB (N : List Str) (sc scope : Scope) (own : List (Str × Nat)) : Bool :=
  decide (scope.kind = .function) && (scope.names.all fun y => decide (scope.names.lookup y.1 = some y.2)) && (own.all fun p => decide (N[p.2]? = some p.1)) &&
  (scope.names.all fun y => if y.2 = .free then decide (sc.names.lookup y.1 = some .cell) || decide (sc.names.lookup y.1 = some .free) else true) &&
  (scope.names.all fun y => if y.2 = .local ∨ y.2 = .cell then (own.map (·.1)).contains y.1 || !(N.contains y.1) else true)
theorem blk_ok {N : List Str} {sc scope : Scope} {own : List (Str × Nat)} (h : blkB N sc scope own = true) : BlkOk N sc scope own := by
  unfold blkB at h
  simp only [Bool.and_eq_true, decide_eq_true_eq, List.all_eq_true] at h
  obtain ⟨⟨⟨⟨h1, h2⟩, h3⟩, h4⟩, h5⟩ := h
  refine ⟨h1, h2, h3, fun y hy e => ?_, fun y hy e => ?_⟩
  · have := h4 y hy
    rw [if_pos e, Bool.or_eq_true, decide_eq_true_eq, decide_eq_true_eq] at this
    exact this
  · have := h5 y hy
    rw [if_pos e, Bool.or_eq_true] at this
    rcases this with q | q
    · exact .inl (by simpa using q)
    · exact .inr (by simpa using q)
/-- how often a while-loop may go -/
theorem fuelX : ∃ n : Nat, 10 ^ 40 ≤ n := ⟨10 ^ 40, Nat.le_refl _⟩
def fuel : Nat := Classical.choose fuelX
theorem fuel_ge {n : Nat} (h : n ≤ 10 ^ 40) : n ≤ fuel := Nat.le_trans h (Classical.choose_spec fuelX)
end
end DL

namespace DL
open PySem PySem.Spec PyProof.Rows L2
noncomputable section

/-! ### the end: a law's function says true of the script -/
theorem law_end {K : PySem.W.Frag} {H : Hp} {a : Addr} {ns : List Int} {F : DE} (h : SqL K H a (ns.map V.int)) (e : ∃ ρ', F [some (.lk (ns.map .int))] = some (.fz (.bool true), ρ')) : spF K 1 F [.ref a] H (fun v _ => v = .bl true) E0 := by
  obtain ⟨ρ', e⟩ := e
  refine ⟨rfl, fun b => b = a ∧ ∃ o, H a = some o, [some (.lk (ns.map .int))], fun _ => [], .fz (.bool true), ρ', ?_, e, fun v W' H' φ' l o => ?_⟩
  · refine ⟨rfl, fun i vl q => ?_, fun _ _ => rfl, (fun _ _ _ z => nomatch z), fun b hb => ?_⟩
    · match i, q with
      | 0, q =>
        cases q
        refine ⟨_, rfl, .lk (xs := ns.map V.int) ?_ (FzA.ints _)⟩
        rcases h with (h | h) | h
        · exact .inl ⟨⟨rfl, _, h⟩, h⟩
        · exact .inr (.inl h)
        · exact .inr (.inr h)
      | i + 1, q => simp at q
    · obtain ⟨rfl, q⟩ := hb
      exact q
  · cases o.rx with
    | rv z => cases z with
      | fz z => cases z; rfl

/-! ### dens at work -/
section
variable {f g h : DE} {fs gs : DA} {F : Rho → List Vl → Option Vl} {ρ ρ1 ρ2 : Rho} {c c1 : DT} {s t : DS} {r : Vl} {i j n : Nat} {st : DTg} {sts : List DTg} {d e : D} {fi : DI} {lo hi : DO}
@[simp] theorem ap_cE : cE d ρ = some (.fz d, ρ) := rfl
@[simp] theorem ap_nilA : nilA ρ = some ([], ρ) := rfl
@[simp] theorem ap_consA : consA f fs ρ = (f ρ).bind fun p => (fs p.2).bind fun q => some (p.1 :: q.1, q.2) := rfl
@[simp] theorem ap_opE : opE F fs ρ = (fs ρ).bind fun p => (F p.2 p.1).bind fun z => some (z, p.2) := rfl
@[simp] theorem ap_lstE : lstE fs ρ = (fs ρ).bind fun p => (frzA p.1).bind fun ds => if ds.length ≤ 1000 then some (.ow ds, p.2) else none := rfl
@[simp] theorem ap_tupE : tupE fs ρ = (fs ρ).bind fun p => (frzA p.1).bind fun ds => if ds.length ≤ 1000 then some (.fz (.tuple ds), p.2) else none := rfl
@[simp] theorem ap_lst2E : lst2E fs ρ = (fs ρ).bind fun p => (owsA p.1).bind fun dss => if dss.length ≤ 1000 then some (.ow2 dss, p.2) else none := rfl
@[simp] theorem ap_tB : tB c ρ = (c ρ).bind fun p => some (.fz (.bool p.1), p.2) := rfl
@[simp] theorem ap_andT : andT c c1 ρ = (c ρ).bind fun p => if p.1 = true then c1 p.2 else some (false, p.2) := rfl
@[simp] theorem ap_orT : orT c c1 ρ = (c ρ).bind fun p => if p.1 = true then some (true, p.2) else c1 p.2 := rfl
@[simp] theorem ap_notT : notT c ρ = (c ρ).bind fun p => some (!p.1, p.2) := rfl
@[simp] theorem ap_ifE : ifE c f g ρ = (c ρ).bind fun p => if p.1 = true then f p.2 else g p.2 := rfl
@[simp] theorem ap_yesT : yesT ρ = some (true, ρ) := rfl
@[simp] theorem ap_nxS : nxS ρ = some (.nx ρ) := rfl
@[simp] theorem ap_dropS : dropS f ρ = (f ρ).bind fun p => some (.nx p.2) := rfl
@[simp] theorem ap_retS : retS f ρ = (f ρ).bind fun p => some (.rt p.1 p.2) := rfl
@[simp] theorem ap_ifS : ifS c s t ρ = (c ρ).bind fun p => if p.1 = true then s p.2 else t p.2 := rfl
@[simp] theorem ap_nevS : nevS ρ = none := rfl
@[simp] theorem ap_lenA : lenA n fs ρ = (fs ρ).bind fun p => if p.1.length = n then some p else none := rfl
@[simp] theorem ap_appA : appA fs gs ρ = (fs ρ).bind fun p => (gs p.2).bind fun q => some (p.1 ++ q.1, q.2) := rfl
@[simp] theorem ap_pickA {pm : List Nat} : pickA pm fs ρ = (fs ρ).bind fun p => some (pick pm p.1, p.2) := rfl
@[simp] theorem ap_isE {Ts : List TyC} : isE Ts f ρ = (f ρ).bind fun p => (curR p.2 p.1).bind fun d => some (.fz (.bool (Ts.any (isC (tyC d)))), p.2) := rfl
@[simp] theorem ap_noO : noO ρ = some (none, ρ) := rfl
@[simp] theorem ap_sliceE : sliceE f lo hi ρ = (f ρ).bind fun p => (lo p.2).bind fun q => (hi q.2).bind fun t => (sliceF t.2 p.1 q.1 t.1).bind fun z => some (z, t.2) := rfl
@[simp] theorem ap_methE {G : List D → List D → Option (List D × D)} : methE i G fs ρ = (ownAt ρ i).bind fun _ => (fs ρ).bind fun p => (frzA p.1).bind fun es => (ownAt p.2 i).bind fun ds => (G ds es).bind fun t => some (.fz t.2, p.2.set i (some (.ow t.1))) := rfl
@[simp] theorem ap_nameT : nameT i r ρ = some (ρ.set i (some r)) := rfl
@[simp] theorem ap_nameF_fz : nameF i (.fz d) ρ = some (ρ.set i (some (.fz d))) := rfl
@[simp] theorem ap_nameF_ow {ds : List D} : nameF i (.ow ds) ρ = some (ρ.set i (some (.fz (.list ds)))) := rfl
@[simp] theorem ap_nameF_ow2 {ds : List (List D)} : nameF i (.ow2 ds) ρ = some (ρ.set i (some (.fz (.list (ds.map .list))))) := rfl
@[simp] theorem ap_nameF_lk {ds : List D} : nameF i (.lk ds) ρ = some (ρ.set i (some (.lk ds))) := rfl
@[simp] theorem ap_tupT {ds : List D} : tupT sts (.fz (.tuple ds)) ρ = stL sts (ds.map .fz) ρ := rfl
@[simp] theorem ap_stL_nil : stL [] [] ρ = some ρ := rfl
@[simp] theorem ap_stL_cons {rs : List Vl} : stL (st :: sts) (r :: rs) ρ = (st r ρ).bind fun ρ1 => stL sts rs ρ1 := rfl
/-! what stands behind a step -/
def nmK (i : Nat) (ρ : Rho) : Option (Option Vl) → Option (Vl × Rho)
  | some (some (.fz d)) => some (.fz d, ρ)
  | some (some (.lk d)) => some (.lk d, ρ)
  | some (some (.tp d)) => some (.tp d, ρ)
  | some (some _) => some (.pk i, ρ)
  | _ => none
@[simp] theorem ap_nmE : nmE i ρ = nmK i ρ ρ[i]? := rfl
@[simp] theorem nmK_fz : nmK i ρ (some (some (.fz d))) = some (.fz d, ρ) := rfl
@[simp] theorem nmK_tp {ds : List D} : nmK i ρ (some (some (.tp ds))) = some (.tp ds, ρ) := rfl
@[simp] theorem nmK_lk {ds : List D} : nmK i ρ (some (some (.lk ds))) = some (.lk ds, ρ) := rfl
@[simp] theorem nmK_ow {ds : List D} : nmK i ρ (some (some (.ow ds))) = some (.pk i, ρ) := rfl
@[simp] theorem nmK_ow2 {ds : List (List D)} : nmK i ρ (some (some (.ow2 ds))) = some (.pk i, ρ) := rfl
def seqK (t : DS) : Fl → Option Fl
  | .nx ρ => t ρ
  | fl => some fl
@[simp] theorem ap_seqS : seqS s t ρ = (s ρ).bind (seqK t) := rfl
@[simp] theorem seqK_nx : seqK t (.nx ρ) = t ρ := rfl
@[simp] theorem seqK_rt : seqK t (.rt r ρ) = some (.rt r ρ) := rfl
@[simp] theorem seqK_bk : seqK t (.bk ρ) = some (.bk ρ) := rfl
@[simp] theorem seqK_ct : seqK t (.ct ρ) = some (.ct ρ) := rfl
def bK : Vl × Rho → Option (Bool × Rho) := fun p => match p.1 with
  | .fz (.bool b) => some (b, p.2)
  | _ => none
@[simp] theorem ap_bT : bT f ρ = (f ρ).bind bK := rfl
@[simp] theorem bK_b {b : Bool} : bK (.fz (.bool b), ρ) = some (b, ρ) := rfl
def asgK (st : DTg) : Vl × Rho → Option Fl := fun p => match p.1 with
  | .pk _ => none
  | r => (st r p.2).bind fun ρ' => some (.nx ρ')
@[simp] theorem ap_asgS : asgS f st ρ = (f ρ).bind (asgK st) := rfl
@[simp] theorem asgK_fz : asgK st (.fz d, ρ) = (st (.fz d) ρ).bind fun ρ' => some (.nx ρ') := rfl
@[simp] theorem asgK_ow {ds : List D} : asgK st (.ow ds, ρ) = (st (.ow ds) ρ).bind fun ρ' => some (.nx ρ') := rfl
@[simp] theorem asgK_ow2 {ds : List (List D)} : asgK st (.ow2 ds, ρ) = (st (.ow2 ds) ρ).bind fun ρ' => some (.nx ρ') := rfl
@[simp] theorem asgK_lk {ds : List D} : asgK st (.lk ds, ρ) = (st (.lk ds) ρ).bind fun ρ' => some (.nx ρ') := rfl
@[simp] theorem ap_parS : parS fs sts ρ = (fs ρ).bind fun p => if p.1.all notPk = true then (stL sts p.1 p.2).bind fun ρ' => some (.nx ρ') else none := rfl
@[simp] theorem notPk_fz : notPk (.fz d) = true := rfl
@[simp] theorem notPk_ow {ds : List D} : notPk (.ow ds) = true := rfl
@[simp] theorem notPk_ow2 {ds : List (List D)} : notPk (.ow2 ds) = true := rfl
@[simp] theorem notPk_lk {ds : List D} : notPk (.lk ds) = true := rfl
@[simp] theorem notPk_pk : notPk (.pk i) = false := rfl
def someK : Vl × Rho → Option (Option Int × Rho) := fun p => match p.1 with
  | .fz (.int i) => some (some i, p.2)
  | _ => none
@[simp] theorem ap_someO : someO f ρ = (f ρ).bind someK := rfl
@[simp] theorem someK_i {a : Int} : someK (.fz (.int a), ρ) = some (some a, ρ) := rfl
def frzK (i : Nat) (s : DS) (ρ : Rho) : Option (Option Vl) → Option Fl
  | some (some (.fz _)) => s ρ
  | some (some v) => (frz v).bind fun d => s (ρ.set i (some (.fz d)))
  | _ => s ρ
@[simp] theorem ap_frzS : frzS i s ρ = frzK i s ρ ρ[i]? := rfl
@[simp] theorem frzK_fz : frzK i s ρ (some (some (.fz d))) = s ρ := rfl
@[simp] theorem frzK_ow {ds : List D} : frzK i s ρ (some (some (.ow ds))) = s (ρ.set i (some (.fz (.list ds)))) := rfl
@[simp] theorem frzK_ow2 {ds : List (List D)} : frzK i s ρ (some (some (.ow2 ds))) = s (ρ.set i (some (.fz (.list (ds.map .list))))) := rfl
@[simp] theorem frzK_no : frzK i s ρ (some none) = s ρ := rfl
/-! what a value is -/
@[simp] theorem frz_fz : frz (.fz d) = some d := rfl
@[simp] theorem frz_ow {ds : List D} : frz (.ow ds) = some (.list ds) := rfl
@[simp] theorem frz_ow2 {ds : List (List D)} : frz (.ow2 ds) = some (.list (ds.map .list)) := rfl
@[simp] theorem frzA_nil : frzA [] = some [] := rfl
@[simp] theorem frzA_cons {rs : List Vl} : frzA (r :: rs) = (frz r).bind fun d => (frzA rs).bind fun ds => some (d :: ds) := by
  show (match frz r, frzA rs with
    | some d, some ds => some (d :: ds)
    | _, _ => none) = _
  cases frz r <;> cases frzA rs <;> rfl
@[simp] theorem owsA_nil : owsA [] = some [] := rfl
@[simp] theorem owsA_cons {ds : List D} {rs : List Vl} : owsA (.ow ds :: rs) = (owsA rs).bind fun t => some (ds :: t) := rfl
def pkK : Option (Option Vl) → Option D
  | some (some v) => curR0 v
  | _ => none
@[simp] theorem curR_fz : curR ρ (.fz d) = some d := rfl
@[simp] theorem curR_ow {ds : List D} : curR ρ (.ow ds) = some (.list ds) := rfl
@[simp] theorem curR_lk {ds : List D} : curR ρ (.lk ds) = some (.list ds) := rfl
@[simp] theorem curR_ow2 {ds : List (List D)} : curR ρ (.ow2 ds) = some (.list (ds.map .list)) := rfl
@[simp] theorem curR_pk : curR ρ (.pk i) = pkK ρ[i]? := by
  show ((at? ρ i).bind curR0) = _
  unfold at?
  cases ρ[i]? with
  | none => rfl
  | some v => cases v <;> rfl
@[simp] theorem pkK_fz : pkK (some (some (.fz d))) = some d := rfl
@[simp] theorem pkK_ow {ds : List D} : pkK (some (some (.ow ds))) = some (.list ds) := rfl
@[simp] theorem pkK_lk {ds : List D} : pkK (some (some (.lk ds))) = some (.list ds) := rfl
@[simp] theorem pkK_ow2 {ds : List (List D)} : pkK (some (some (.ow2 ds))) = some (.list (ds.map .list)) := rfl
@[simp] theorem cur_fz : cur ρ (.fz d) = some d := rfl
@[simp] theorem cur_ow {ds : List D} : cur ρ (.ow ds) = some (.list ds) := rfl
@[simp] theorem cur_ow2 {ds : List (List D)} : cur ρ (.ow2 ds) = some (.list (ds.map .list)) := rfl
def pkC : Option (Option Vl) → Option D
  | some (some v) => cur0 v
  | _ => none
@[simp] theorem cur_pk : cur ρ (.pk i) = pkC ρ[i]? := by
  show ((at? ρ i).bind cur0) = _
  unfold at?
  cases ρ[i]? with
  | none => rfl
  | some v => cases v <;> rfl
@[simp] theorem pkC_fz : pkC (some (some (.fz d))) = some d := rfl
@[simp] theorem pkC_ow {ds : List D} : pkC (some (some (.ow ds))) = some (.list ds) := rfl
@[simp] theorem pkC_ow2 {ds : List (List D)} : pkC (some (some (.ow2 ds))) = some (.list (ds.map .list)) := rfl
@[simp] theorem curA_nil : curA ρ [] = some [] := rfl
@[simp] theorem curA_cons {rs : List Vl} : curA ρ (r :: rs) = (curR ρ r).bind fun d => (curA ρ rs).bind fun ds => some (d :: ds) := rfl
def itK : Option (Option Vl) → Option (Bool × List D)
  | some (some v) => itm0 v
  | _ => none
@[simp] theorem itm_l {ds : List D} : itm ρ (.fz (.list ds)) = some (true, ds) := rfl
@[simp] theorem itm_t {ds : List D} : itm ρ (.fz (.tuple ds)) = some (false, ds) := rfl
@[simp] theorem itm_ow {ds : List D} : itm ρ (.ow ds) = some (true, ds) := rfl
@[simp] theorem itm_lk {ds : List D} : itm ρ (.lk ds) = some (true, ds) := rfl
@[simp] theorem itm_pk : itm ρ (.pk i) = itK ρ[i]? := by
  show ((at? ρ i).bind itm0) = _
  unfold at?
  cases ρ[i]? with
  | none => rfl
  | some v => cases v <;> rfl
@[simp] theorem itK_ow {ds : List D} : itK (some (some (.ow ds))) = some (true, ds) := rfl
@[simp] theorem itK_l {ds : List D} : itK (some (some (.fz (.list ds)))) = some (true, ds) := rfl
@[simp] theorem itK_t {ds : List D} : itK (some (some (.fz (.tuple ds)))) = some (false, ds) := rfl
def itTK : Option (Option Vl) → Option (Bool × List D)
  | some (some (.lk _)) => none
  | some (some v) => itm0 v
  | _ => none
@[simp] theorem itmT_l {ds : List D} : itmT ρ (.fz (.list ds)) = some (true, ds) := rfl
@[simp] theorem itmT_t {ds : List D} : itmT ρ (.fz (.tuple ds)) = some (false, ds) := rfl
@[simp] theorem itmT_ow {ds : List D} : itmT ρ (.ow ds) = some (true, ds) := rfl
@[simp] theorem itmT_pk : itmT ρ (.pk i) = itTK ρ[i]? := by
  unfold itmT
  show ((at? ρ i).bind _) = _
  unfold at?
  cases ρ[i]? with
  | none => rfl
  | some v => cases v with
    | none => rfl
    | some v => cases v <;> rfl
@[simp] theorem itTK_ow {ds : List D} : itTK (some (some (.ow ds))) = some (true, ds) := rfl
@[simp] theorem itTK_l {ds : List D} : itTK (some (some (.fz (.list ds)))) = some (true, ds) := rfl
@[simp] theorem itTK_t {ds : List D} : itTK (some (some (.fz (.tuple ds)))) = some (false, ds) := rfl
def ownK : Option (Option Vl) → Option (List D)
  | some (some (.ow ds)) => some ds
  | _ => none
@[simp] theorem ap_ownAt : ownAt ρ i = ownK ρ[i]? := rfl
@[simp] theorem ownK_ow {ds : List D} : ownK (some (some (.ow ds))) = some ds := rfl
@[simp] theorem at?_ap {v : Vl} (h : ρ[i]? = some (some v)) : at? ρ i = some v := by unfold at?; rw [h]
end
/-! the operations of ints -/
section
variable {ρ : Rho} {a b : Int}
@[simp] theorem addF_i : addF ρ [.fz (.int a), .fz (.int b)] = some (.fz (.int (a + b))) := rfl
@[simp] theorem subI_i : subI ρ [.fz (.int a), .fz (.int b)] = some (.fz (.int (a - b))) := rfl
@[simp] theorem mulF_i : mulF ρ [.fz (.int a), .fz (.int b)] = if mulOk a b = true then some (.fz (.int (a * b))) else none := by
  unfold mulF orF mulI ctF
  simp only [curA_cons, curA_nil, curR_fz, Option.bind_some, i2]
  cases mulOk a b <;> rfl
@[simp] theorem divI_i : divI ρ [.fz (.int a), .fz (.int b)] = if divOk a b = true then some (.fz (.int (a / b))) else none := by
  unfold divI ctF
  simp only [curA_cons, curA_nil, curR_fz, Option.bind_some, i2]
  cases divOk a b <;> rfl
@[simp] theorem modI_i : modI ρ [.fz (.int a), .fz (.int b)] = if 0 < b then some (.fz (.int (a % b))) else none := by
  unfold modI ctF
  simp only [curA_cons, curA_nil, curR_fz, Option.bind_some, i2]
  by_cases h : 0 < b
  · rw [if_pos h, if_pos (decide_eq_true h)]; rfl
  · rw [if_neg h, if_neg (by simpa using h)]; rfl
@[simp] theorem powI_i : powI ρ [.fz (.int a), .fz (.int b)] = if powOk a b = true then some (.fz (.int (a ^ b.toNat))) else none := by
  unfold powI ctF
  simp only [curA_cons, curA_nil, curR_fz, Option.bind_some, i2]
  cases powOk a b <;> rfl
@[simp] theorem negI_i : negI ρ [.fz (.int a)] = some (.fz (.int (-a))) := rfl
@[simp] theorem ltI_i : ltI ρ [.fz (.int a), .fz (.int b)] = some (.fz (.bool (decide (a < b)))) := rfl
@[simp] theorem leI_i : leI ρ [.fz (.int a), .fz (.int b)] = some (.fz (.bool (decide (a ≤ b)))) := rfl
@[simp] theorem gtI_i : gtI ρ [.fz (.int a), .fz (.int b)] = some (.fz (.bool (decide (b < a)))) := rfl
@[simp] theorem geI_i : geI ρ [.fz (.int a), .fz (.int b)] = some (.fz (.bool (decide (b ≤ a)))) := rfl
@[simp] theorem absF_i : absF ρ [.fz (.int a)] = some (.fz (.int (if a < 0 then -a else a))) := rfl
@[simp] theorem intF_i : intF ρ [.fz (.int a)] = some (.fz (.int a)) := rfl
@[simp] theorem intF_b {b : Bool} : intF ρ [.fz (.bool b)] = some (.fz (.int (if b then 1 else 0))) := rfl
@[simp] theorem maxF_i : maxF ρ [.fz (.int a), .fz (.int b)] = some (.fz (.int (if b > a then b else a))) := rfl
@[simp] theorem minF_i : minF ρ [.fz (.int a), .fz (.int b)] = some (.fz (.int (if b < a then b else a))) := rfl
@[simp] theorem divmodF_i : divmodF ρ [.fz (.int a), .fz (.int b)] = if divOk a b = true then some (.fz (.tuple [.int (a / b), .int (a % b)])) else none := rfl
@[simp] theorem eqF_i : eqF ρ [.fz (.int a), .fz (.int b)] = some (.fz (.bool (decide (a = b)))) := by
  unfold eqF ctF
  simp only [curA_cons, curA_nil, curR_fz, Option.bind_some, eqD]
  rfl
@[simp] theorem neF_i : neF ρ [.fz (.int a), .fz (.int b)] = some (.fz (.bool (!decide (a = b)))) := by
  unfold neF ctF
  simp only [curA_cons, curA_nil, curR_fz, Option.bind_some, eqD]
  rfl
end
end
end DL

namespace DL
open PySem PySem.Spec PyProof.Rows L2
noncomputable section

def nmG (i : Nat) : Option (Option Vl) → Vl
  | some (some (.pk _)) => .pk i
  | some (some v) => v
  | _ => .pk i
section
variable {ρ : Rho} {i j n : Nat} {d e : D} {ds es : List D} {r x y : Vl} {a b : Int}
@[simp] theorem nmG_fz : nmG i (some (some (.fz d))) = .fz d := rfl
@[simp] theorem nmG_ow : nmG i (some (some (.ow ds))) = .ow ds := rfl
@[simp] theorem nmG_ow2 {ds : List (List D)} : nmG i (some (some (.ow2 ds))) = .ow2 ds := rfl
@[simp] theorem nmG_lk : nmG i (some (some (.lk ds))) = .lk ds := rfl
theorem nml_nmG : nml ρ (nmG i ρ[i]?) = nml ρ (.pk i) ∨ (nml ρ (nmG i ρ[i]?) = nml ρ (.pk i)) := by
  refine .inl ?_
  show _ = at? ρ i
  unfold at?
  cases h : ρ[i]? with
  | none => show nml ρ (.pk i) = _; show at? ρ i = _; unfold at?; rw [h]
  | some v => cases v with
    | none => show at? ρ i = _; unfold at?; rw [h]
    | some v => cases v <;> first | rfl | (show at? ρ i = _; unfold at?; rw [h])
theorem nml_g : nml ρ (nmG i ρ[i]?) = nml ρ (.pk i) := nml_nmG.elim id id
theorem curR_g : curR ρ (nmG i ρ[i]?) = curR ρ (.pk i) := by unfold curR; rw [nml_g]
theorem itm_g : itm ρ (nmG i ρ[i]?) = itm ρ (.pk i) := by unfold itm; rw [nml_g]
theorem itmT_g : itmT ρ (nmG i ρ[i]?) = itmT ρ (.pk i) := by unfold itmT; rw [nml_g]
theorem ctF_g1 {F : List D → Option D} {rs : List Vl} : ctF F ρ (.pk i :: rs) = ctF F ρ (nmG i ρ[i]? :: rs) := by
  unfold ctF; rw [curA_cons, curA_cons, curR_g]
theorem ctF_g2 {F : List D → Option D} : ctF F ρ [x, .pk i] = ctF F ρ [x, nmG i ρ[i]?] := by
  unfold ctF; rw [curA_cons, curA_cons, curA_cons, curA_cons, curR_g]
@[simp] theorem lenF_g : lenF ρ [.pk i] = lenF ρ [nmG i ρ[i]?] := ctF_g1
@[simp] theorem sumF_g : sumF ρ [.pk i] = sumF ρ [nmG i ρ[i]?] := ctF_g1
@[simp] theorem maxF_g : maxF ρ [.pk i] = maxF ρ [nmG i ρ[i]?] := ctF_g1
@[simp] theorem minF_g : minF ρ [.pk i] = minF ρ [nmG i ρ[i]?] := ctF_g1
@[simp] theorem anyF_g : anyF ρ [.pk i] = anyF ρ [nmG i ρ[i]?] := ctF_g1
@[simp] theorem allF_g : allF ρ [.pk i] = allF ρ [nmG i ρ[i]?] := ctF_g1
@[simp] theorem sortF_g : sortF ρ [.pk i] = sortF ρ [nmG i ρ[i]?] := by unfold sortF; rw [curA_cons, curA_cons, curR_g]
@[simp] theorem listF_g : listF ρ [.pk i] = listF ρ [nmG i ρ[i]?] := by unfold listF; dsimp only; rw [itm_g]
@[simp] theorem tupleF_g : tupleF ρ [.pk i] = tupleF ρ [nmG i ρ[i]?] := by unfold tupleF; dsimp only; rw [itm_g]
@[simp] theorem eqF_g1 : eqF ρ [.pk i, y] = eqF ρ [nmG i ρ[i]?, y] := ctF_g1
@[simp] theorem eqF_g2 : eqF ρ [x, .pk i] = eqF ρ [x, nmG i ρ[i]?] := ctF_g2
@[simp] theorem neF_g1 : neF ρ [.pk i, y] = neF ρ [nmG i ρ[i]?, y] := ctF_g1
@[simp] theorem neF_g2 : neF ρ [x, .pk i] = neF ρ [x, nmG i ρ[i]?] := ctF_g2
@[simp] theorem inF_g2 : inF ρ [x, .pk i] = inF ρ [x, nmG i ρ[i]?] := ctF_g2
@[simp] theorem notInF_g2 : notInF ρ [x, .pk i] = notInF ρ [x, nmG i ρ[i]?] := ctF_g2
@[simp] theorem ixF_g : ixF ρ [.pk i, y] = ixF ρ [nmG i ρ[i]?, y] := by unfold ixF; dsimp only; rw [itm_g, curR_g]
@[simp] theorem sliceF_g {lo hi : Option Int} : sliceF ρ (.pk i) lo hi = sliceF ρ (nmG i ρ[i]?) lo hi := by unfold sliceF; rw [itm_g, curR_g]
@[simp] theorem addF_g1 : addF ρ [.pk i, y] = addF ρ [nmG i ρ[i]?, y] := by
  unfold addF orF addI addSF catF
  rw [ctF_g1, ctF_g1]
  simp only [itmT_g]
@[simp] theorem addF_g2 : addF ρ [x, .pk i] = addF ρ [x, nmG i ρ[i]?] := by
  unfold addF orF addI addSF catF
  rw [ctF_g2, ctF_g2]
  simp only [itmT_g]
@[simp] theorem mulF_g1 : mulF ρ [.pk i, y] = mulF ρ [nmG i ρ[i]?, y] := by
  unfold mulF orF mulI repF
  rw [ctF_g1]
  simp only [itmT_g]
/-! items -/
def ixL (ds : List D) (i : Int) : Option Vl := (ixN ds.length i).bind fun j => (ds[j]?).bind fun d => some (.fz d)
@[simp] theorem ixF_l : ixF ρ [.fz (.list ds), .fz (.int a)] = ixL ds a := rfl
@[simp] theorem ixF_t : ixF ρ [.fz (.tuple ds), .fz (.int a)] = ixL ds a := rfl
@[simp] theorem ixF_ow : ixF ρ [.ow ds, .fz (.int a)] = ixL ds a := rfl
@[simp] theorem ixF_lk : ixF ρ [.lk ds, .fz (.int a)] = ixL ds a := rfl
theorem ixL_nat {k : Nat} (h : ds[k]? = some d) : ixL ds (k : Int) = some (.fz d) := by
  have hk : k < ds.length := by
    by_cases q : k < ds.length
    · exact q
    · rw [List.getElem?_eq_none (by omega)] at h; cases h
  unfold ixL ixN
  rw [if_pos (Int.natCast_nonneg k), if_pos (by omega)]
  simp [h]
theorem ixL_at {a : Int} (h0 : 0 ≤ a) (h : ds[a.toNat]? = some d) : ixL ds a = some (.fz d) := by
  have := ixL_nat h
  rwa [Int.toNat_of_nonneg h0] at this
theorem ixL_last (h : ds.getLast? = some d) : ixL ds (-1) = some (.fz d) := by
  have hp : 0 < ds.length := by
    cases ds with
    | nil => cases h
    | cons => exact Nat.succ_pos _
  unfold ixL ixN
  rw [if_neg (by omega), if_pos (by omega)]
  have e : ((-1 : Int) + (ds.length : Int)).toNat = ds.length - 1 := by omega
  rw [Option.bind_some, e, ← List.getLast?_eq_getElem?, h]
  rfl
@[simp] theorem ixL_0 : ixL (d :: ds) 0 = some (.fz d) := ixL_nat (k := 0) rfl
@[simp] theorem ixL_1 {d2 : D} : ixL (d :: d2 :: ds) 1 = some (.fz d2) := ixL_nat (k := 1) rfl
@[simp] theorem ixL_2 {d2 d3 : D} : ixL (d :: d2 :: d3 :: ds) 2 = some (.fz d3) := ixL_nat (k := 2) rfl
/-! one operand -/
@[simp] theorem lenF_l : lenF ρ [.fz (.list ds)] = some (.fz (.int ds.length)) := rfl
@[simp] theorem lenF_t : lenF ρ [.fz (.tuple ds)] = some (.fz (.int ds.length)) := rfl
@[simp] theorem lenF_ow : lenF ρ [.ow ds] = some (.fz (.int ds.length)) := rfl
@[simp] theorem lenF_ow2 {ds : List (List D)} : lenF ρ [.ow2 ds] = some (.fz (.int ds.length)) := by
  show some (Vl.fz (.int ((ds.map PyData.list).length : Int))) = _
  rw [List.length_map]
@[simp] theorem lenF_lk : lenF ρ [.lk ds] = some (.fz (.int ds.length)) := rfl
def sumD (ds : List D) : Option Vl := (intsD ds).bind fun ns => some (.fz (.int ns.sum))
@[simp] theorem sumF_l : sumF ρ [.fz (.list ds)] = sumD ds := by unfold sumF ctF sumD; simp only [curA_cons, curA_nil, curR_fz, Option.bind_some]; cases intsD ds <;> rfl
@[simp] theorem sumF_ow : sumF ρ [.ow ds] = sumD ds := by unfold sumF ctF sumD; simp only [curA_cons, curA_nil, curR_ow, Option.bind_some]; cases intsD ds <;> rfl
@[simp] theorem sumF_lk : sumF ρ [.lk ds] = sumD ds := by unfold sumF ctF sumD; simp only [curA_cons, curA_nil, curR_lk, Option.bind_some]; cases intsD ds <;> rfl
@[simp] theorem sumD_map {ns : List Int} : sumD (ns.map .int) = some (.fz (.int ns.sum)) := by unfold sumD; rw [intsD_map]; rfl
@[simp] theorem sumD_take {ns : List Int} {k : Nat} : sumD ((ns.map PyData.int).take k) = some (.fz (.int (ns.take k).sum)) := by rw [← List.map_take, sumD_map]
@[simp] theorem sumD_drop {ns : List Int} {k : Nat} : sumD ((ns.map PyData.int).drop k) = some (.fz (.int (ns.drop k).sum)) := by rw [← List.map_drop, sumD_map]
@[simp] theorem sumD_nil : sumD [] = some (.fz (.int 0)) := rfl
def allD (ds : List D) : Option Vl := (boolsD ds).bind fun ns => some (.fz (.bool (ns.all id)))
def anyD (ds : List D) : Option Vl := (boolsD ds).bind fun ns => some (.fz (.bool (ns.any id)))
@[simp] theorem allF_l : allF ρ [.fz (.list ds)] = allD ds := by unfold allF ctF allD; simp only [curA_cons, curA_nil, curR_fz, Option.bind_some]; cases boolsD ds <;> rfl
@[simp] theorem allF_ow : allF ρ [.ow ds] = allD ds := by unfold allF ctF allD; simp only [curA_cons, curA_nil, curR_ow, Option.bind_some]; cases boolsD ds <;> rfl
@[simp] theorem anyF_l : anyF ρ [.fz (.list ds)] = anyD ds := by unfold anyF ctF anyD; simp only [curA_cons, curA_nil, curR_fz, Option.bind_some]; cases boolsD ds <;> rfl
@[simp] theorem anyF_ow : anyF ρ [.ow ds] = anyD ds := by unfold anyF ctF anyD; simp only [curA_cons, curA_nil, curR_ow, Option.bind_some]; cases boolsD ds <;> rfl
@[simp] theorem allD_map {ns : List Bool} : allD (ns.map .bool) = some (.fz (.bool (ns.all id))) := by unfold allD; rw [boolsD_map]; rfl
@[simp] theorem anyD_map {ns : List Bool} : anyD (ns.map .bool) = some (.fz (.bool (ns.any id))) := by unfold anyD; rw [boolsD_map]; rfl
@[simp] theorem listF_l : listF ρ [.fz (.list ds)] = some (.ow ds) := rfl
@[simp] theorem listF_t : listF ρ [.fz (.tuple ds)] = some (.ow ds) := rfl
@[simp] theorem listF_ow : listF ρ [.ow ds] = some (.ow ds) := rfl
@[simp] theorem listF_lk : listF ρ [.lk ds] = some (.ow ds) := rfl
@[simp] theorem tupleF_l : tupleF ρ [.fz (.list ds)] = some (.fz (.tuple ds)) := rfl
@[simp] theorem tupleF_t : tupleF ρ [.fz (.tuple ds)] = some (.fz (.tuple ds)) := rfl
@[simp] theorem tupleF_ow : tupleF ρ [.ow ds] = some (.fz (.tuple ds)) := rfl
@[simp] theorem tupleF_lk : tupleF ρ [.lk ds] = some (.fz (.tuple ds)) := rfl
@[simp] theorem sortF_l {ns : List Int} : sortF ρ [.fz (.list (ns.map .int))] = some (.ow ((sortI ns).map .int)) := by unfold sortF; simp [intsD_map]
@[simp] theorem sortF_ow {ns : List Int} : sortF ρ [.ow (ns.map .int)] = some (.ow ((sortI ns).map .int)) := by unfold sortF; simp [intsD_map]
/-! lists together -/
def catL (ds es : List D) : Option Vl := if ds.length + es.length ≤ maxLen then some (.ow (ds ++ es)) else none
def catT (ds es : List D) : Option Vl := if ds.length + es.length ≤ maxLen then some (.fz (.tuple (ds ++ es))) else none
theorem addF_cat {p q : List D} (hx : itmT ρ x = some (true, p)) (hy : itmT ρ y = some (true, q)) (h : addI ρ [x, y] = none) (h2 : addSF ρ [x, y] = none) : addF ρ [x, y] = catL p q := by
  unfold addF orF
  rw [h]
  dsimp only
  rw [h2]
  have e : catF ρ [x, y] = catL p q := by
    unfold catF catL
    dsimp only
    rw [hx, hy, Option.bind_some, Option.bind_some]
  rw [e]
  cases catL p q <;> rfl
theorem addF_catT {p q : List D} (hx : itmT ρ x = some (false, p)) (hy : itmT ρ y = some (false, q)) (h : addI ρ [x, y] = none) (h2 : addSF ρ [x, y] = none) : addF ρ [x, y] = catT p q := by
  unfold addF orF
  rw [h]
  dsimp only
  rw [h2]
  have e : catF ρ [x, y] = catT p q := by
    unfold catF catT
    dsimp only
    rw [hx, hy, Option.bind_some, Option.bind_some]
  rw [e]
  cases catT p q <;> rfl
@[simp] theorem addF_ll : addF ρ [.fz (.list ds), .fz (.list es)] = catL ds es := addF_cat rfl rfl rfl rfl
@[simp] theorem addF_lo : addF ρ [.fz (.list ds), .ow es] = catL ds es := addF_cat rfl rfl rfl rfl
@[simp] theorem addF_ol : addF ρ [.ow ds, .fz (.list es)] = catL ds es := addF_cat rfl rfl rfl rfl
@[simp] theorem addF_oo : addF ρ [.ow ds, .ow es] = catL ds es := addF_cat rfl rfl rfl rfl
@[simp] theorem addF_tt : addF ρ [.fz (.tuple ds), .fz (.tuple es)] = catT ds es := addF_catT rfl rfl rfl rfl
theorem catL_ok (h : ds.length + es.length ≤ 1000000) : catL ds es = some (.ow (ds ++ es)) := if_pos h
theorem catT_ok (h : ds.length + es.length ≤ 1000000) : catT ds es = some (.fz (.tuple (ds ++ es))) := if_pos h
def repL (ds : List D) (k : Int) : Option Vl := if ds.length * k.toNat ≤ maxLen ∧ smallI k = true then some (.ow (List.replicate k.toNat ds).flatten) else none
def repT (ds : List D) (k : Int) : Option Vl := if ds.length ≠ 0 ∧ 2 ≤ k ∧ k ≤ 1000 ∧ ds.length ≤ 1000 then some (.fz (.tuple (List.replicate k.toNat ds).flatten)) else none
@[simp] theorem mulF_l : mulF ρ [.fz (.list ds), .fz (.int a)] = repL ds a := rfl
@[simp] theorem mulF_ow : mulF ρ [.ow ds, .fz (.int a)] = repL ds a := rfl
@[simp] theorem mulF_t : mulF ρ [.fz (.tuple ds), .fz (.int a)] = repT ds a := rfl
theorem repL1 {k : Int} (h0 : k ≤ 1000000) (h1 : -1000000 ≤ k) : repL [d] k = some (.ow (List.replicate k.toNat d)) := by
  unfold repL
  rw [if_pos]
  · congr 2
    generalize k.toNat = n
    induction n with
    | zero => rfl
    | succ n ih => rw [List.replicate_succ, List.flatten_cons, ih]; rfl
  · refine ⟨?_, ?_⟩
    · show 1 * k.toNat ≤ 1000000
      omega
    · rw [smallI_eq]; exact decide_eq_true (by omega)
@[simp] theorem sliceF_l {lo hi : Option Int} : sliceF ρ (.fz (.list ds)) lo hi = some (.ow (cutD ds lo hi)) := rfl
@[simp] theorem sliceF_ow {lo hi : Option Int} : sliceF ρ (.ow ds) lo hi = some (.ow (cutD ds lo hi)) := rfl
@[simp] theorem sliceF_lk {lo hi : Option Int} : sliceF ρ (.lk ds) lo hi = some (.ow (cutD ds lo hi)) := rfl
@[simp] theorem sliceF_t {lo hi : Option Int} : sliceF ρ (.fz (.tuple ds)) lo hi = some (.fz (.tuple (cutD ds lo hi))) := rfl
theorem cutD_head (k : Nat) : cutD ds none (some (k : Int)) = ds.take k := by
  unfold cutD
  rw [HT.sIx_none, show HT.sIx ds.length ds.length (some (k : Int)) = min k ds.length from HT.sIx_nat _ _ k]
  show (ds.drop 0).take (min k ds.length - 0) = _
  rw [List.drop_zero, Nat.sub_zero, ← List.take_eq_take_min]
theorem cutD_tail (k : Nat) : cutD ds (some (k : Int)) none = ds.drop k := by
  unfold cutD
  rw [HT.sIx_none, show HT.sIx ds.length 0 (some (k : Int)) = min k ds.length from HT.sIx_nat _ _ k]
  by_cases h : k ≤ ds.length
  · rw [Nat.min_eq_left h]
    exact List.take_of_length_le (by rw [List.length_drop]; exact Nat.le_refl _)
  · rw [Nat.min_eq_right (by omega), Nat.sub_self, List.take_zero, List.drop_eq_nil_of_le (by omega)]
theorem cutD_both (k m : Nat) : cutD ds (some (k : Int)) (some (m : Int)) = (ds.take m).drop k := by
  unfold cutD
  rw [show HT.sIx ds.length 0 (some (k : Int)) = min k ds.length from HT.sIx_nat _ _ k, show HT.sIx ds.length ds.length (some (m : Int)) = min m ds.length from HT.sIx_nat _ _ m]
  rw [List.drop_take]
  by_cases h : k ≤ ds.length
  · rw [Nat.min_eq_left h]
    by_cases h2 : m ≤ ds.length
    · rw [Nat.min_eq_left h2]
    · rw [Nat.min_eq_right (by omega), List.take_of_length_le (by rw [List.length_drop]; exact Nat.le_refl _), List.take_of_length_le (by rw [List.length_drop]; omega)]
  · rw [Nat.min_eq_right (by omega : ds.length ≤ k), List.drop_eq_nil_of_le (by omega), List.drop_eq_nil_of_le (by omega), List.take_nil, List.take_nil]
/-! equal -/
theorem eqF_ap : eqF ρ [x, y] = (curR ρ x).bind fun d => (curR ρ y).bind fun e => (eqD d e).bind fun b => some (.fz (.bool b)) := by
  unfold eqF ctF
  simp only [curA_cons, curA_nil]
  cases curR ρ x with
  | none => rfl
  | some d => cases curR ρ y with
    | none => rfl
    | some e => simp only [Option.bind_some]; cases eqD d e <;> rfl
theorem neF_ap : neF ρ [x, y] = (curR ρ x).bind fun d => (curR ρ y).bind fun e => (eqD d e).bind fun b => some (.fz (.bool (!b))) := by
  unfold neF ctF
  simp only [curA_cons, curA_nil]
  cases curR ρ x with
  | none => rfl
  | some d => cases curR ρ y with
    | none => rfl
    | some e => simp only [Option.bind_some]; cases eqD d e <;> rfl
end
end
end DL

namespace DL
open PySem PySem.Spec PyProof.Rows L2
noncomputable section

def atK : Option (Option Vl) → Option Vl
  | some (some v) => some v
  | _ => none
section
variable {ρ ρ1 ρ2 os : Rho} {i j n N : Nat} {d e : D} {ds es : List D} {r x y : Vl} {a b : Int} {io : List Bool} {rs : List Vl} {F : DE} {fs : DA} {f g : DE} {s : DS} {fx : List Nat} {st : DTg} {fi : DI} {vl : Vl}
theorem at?_ap' : at? ρ i = atK ρ[i]? := by unfold at?; cases ρ[i]? with
  | none => rfl
  | some v => cases v <;> rfl
@[simp] theorem atK_some {v : Vl} : atK (some (some v)) = some v := rfl
@[simp] theorem atK_no : atK (some none) = none := rfl
@[simp] theorem ap_callE : callE io F fs ρ = (fs ρ).bind fun p => (bindA io p.1 p.2).bind fun q => (F q.1).bind fun t => if notPk t.1 = true then some (t.1, backA io p.1 t.2 q.2) else none := rfl
@[simp] theorem bindA_nil : bindA [] [] ρ = some ([], ρ) := rfl
@[simp] theorem bindA_pk : bindA (true :: io) (.pk i :: rs) ρ = (atK ρ[i]?).bind fun vl => (bindA io rs (ρ.set i none)).bind fun q => some (some vl :: q.1, q.2) := by rw [← at?_ap']; rfl
@[simp] theorem bindA_fz {b : Bool} : bindA (b :: io) (.fz d :: rs) ρ = (bindA io rs ρ).bind fun q => some (some (.fz d) :: q.1, q.2) := by cases b <;> rfl
@[simp] theorem bindA_lk {b : Bool} : bindA (b :: io) (.lk ds :: rs) ρ = (bindA io rs ρ).bind fun q => some (some (.lk ds) :: q.1, q.2) := rfl
@[simp] theorem bindA_owT : bindA (true :: io) (.ow ds :: rs) ρ = (bindA io rs ρ).bind fun q => some (some (.ow ds) :: q.1, q.2) := rfl
@[simp] theorem bindA_owF : bindA (false :: io) (.ow ds :: rs) ρ = (bindA io rs ρ).bind fun q => some (some (.fz (.list ds)) :: q.1, q.2) := rfl
@[simp] theorem bindA_ow2T {ds : List (List D)} : bindA (true :: io) (.ow2 ds :: rs) ρ = (bindA io rs ρ).bind fun q => some (some (.ow2 ds) :: q.1, q.2) := rfl
@[simp] theorem bindA_ow2F {ds : List (List D)} : bindA (false :: io) (.ow2 ds :: rs) ρ = (bindA io rs ρ).bind fun q => some (some (.fz (.list (ds.map .list))) :: q.1, q.2) := rfl
@[simp] theorem backA_nil : backA [] rs os ρ = ρ := rfl
@[simp] theorem backA_nil2 : backA io [] os ρ = ρ := by cases io <;> rfl
@[simp] theorem backA_pk : backA (true :: io) (.pk i :: rs) (some vl :: os) ρ = (backA io rs os ρ).set i (some vl) := rfl
@[simp] theorem backA_F {o : Option Vl} : backA (false :: io) (r :: rs) (o :: os) ρ = backA io rs os ρ := rfl
@[simp] theorem backA_fz {b : Bool} {o : Option Vl} : backA (b :: io) (.fz d :: rs) (o :: os) ρ = backA io rs os ρ := by cases b <;> rfl
@[simp] theorem backA_ow {b : Bool} {o : Option Vl} : backA (b :: io) (.ow ds :: rs) (o :: os) ρ = backA io rs os ρ := by cases b <;> rfl
@[simp] theorem backA_lk {b : Bool} {o : Option Vl} : backA (b :: io) (.lk ds :: rs) (o :: os) ρ = backA io rs os ρ := by cases b <;> rfl
def subJ (xi : Nat) (d : D) (i : Int) (ρ : Rho) : Option (Option Vl) → Option Rho
  | some (some (.ow ds)) => (ixN ds.length i).bind fun j => some (ρ.set xi (some (.ow (ds.set j d))))
  | _ => none
def subK (xi : Nat) (d : D) : Vl × Rho → Option Rho := fun p => match p.1 with
  | .fz (.int i) => subJ xi d i p.2 p.2[xi]?
  | _ => none
@[simp] theorem ap_subT : subT i g r ρ = (frz r).bind fun d => (atK ρ[i]?).bind fun _ => (g ρ).bind (subK i d) := by
  unfold subT
  rw [at?_ap']
  congr 1
  funext d
  congr 1
  funext _
  congr 1
  funext p
  obtain ⟨v, q⟩ := p
  unfold subK subJ
  cases v with
  | fz e =>
    cases e <;> try rfl
    dsimp only
    cases q[i]? with
    | none => rfl
    | some w => cases w with
      | none => rfl
      | some w => cases w <;> rfl
  | _ => rfl
@[simp] theorem subK_i : subK i d (.fz (.int a), ρ) = subJ i d a ρ ρ[i]? := rfl
@[simp] theorem subJ_ow : subJ i d a ρ (some (some (.ow ds))) = (ixN ds.length a).bind fun j => some (ρ.set i (some (.ow (ds.set j d)))) := rfl
theorem ixN_nat {k : Nat} (h : k < n) : ixN n (k : Int) = some k := by unfold ixN; rw [if_pos (Int.natCast_nonneg k), if_pos (by omega)]; rfl
theorem ixN_at (h0 : 0 ≤ a) (h : a < n) : ixN n a = some a.toNat := by unfold ixN; rw [if_pos h0, if_pos h]
@[simp] theorem ixN_00 : ixN (n + 1) 0 = some 0 := ixN_nat (k := 0) (Nat.succ_pos n)
@[simp] theorem ixN_01 : ixN (n + 1 + 1) 1 = some 1 := ixN_nat (k := 1) (by omega)
/-! a def's body -/
def fnK (fx : List Nat) (n : Nat) : Fl → Option (Vl × Rho)
  | .nx ρ' => some (.fz .none, maskR fx n ρ')
  | .rt (.pk i) ρ' => if fx.contains i then none else (atK ρ'[i]?).bind fun vl => some (vl, maskR fx n ρ')
  | .rt r ρ' => some (r, maskR fx n ρ')
  | _ => none
@[simp] theorem ap_fnE : fnE n fx N s ρ = if ρ.length = n then (s (ρ ++ List.replicate (N - n) none)).bind (fnK fx n) else none := by
  unfold fnE
  split
  · congr 1
    funext fl
    cases fl with
    | rt r ρ' => cases r <;> first | rfl | (unfold fnK; simp only [at?_ap'])
    | _ => rfl
  · rfl
@[simp] theorem fnK_nx : fnK fx n (.nx ρ) = some (.fz .none, maskR fx n ρ) := rfl
@[simp] theorem fnK_fz : fnK fx n (.rt (.fz d) ρ) = some (.fz d, maskR fx n ρ) := rfl
@[simp] theorem fnK_ow : fnK fx n (.rt (.ow ds) ρ) = some (.ow ds, maskR fx n ρ) := rfl
@[simp] theorem fnK_ow2 {ds : List (List D)} : fnK fx n (.rt (.ow2 ds) ρ) = some (.ow2 ds, maskR fx n ρ) := rfl
@[simp] theorem fnK_pk : fnK fx n (.rt (.pk i) ρ) = if fx.contains i = true then none else (atK ρ[i]?).bind fun vl => some (vl, maskR fx n ρ) := rfl
@[simp] theorem maskR_0 : maskR fx 0 ρ = [] := rfl
theorem maskR_1 : maskR fx 1 ρ = [if fx.contains 0 = true then atK ρ[0]? else none] := by unfold maskR; simp only [at?_ap']; rfl
theorem maskR_2 : maskR fx 2 ρ = [if fx.contains 0 = true then atK ρ[0]? else none, if fx.contains 1 = true then atK ρ[1]? else none] := by unfold maskR; simp only [at?_ap']; rfl
theorem maskR_3 : maskR fx 3 ρ = [if fx.contains 0 = true then atK ρ[0]? else none, if fx.contains 1 = true then atK ρ[1]? else none, if fx.contains 2 = true then atK ρ[2]? else none] := by unfold maskR; simp only [at?_ap']; rfl
theorem maskR_4 : maskR fx 4 ρ = [if fx.contains 0 = true then atK ρ[0]? else none, if fx.contains 1 = true then atK ρ[1]? else none, if fx.contains 2 = true then atK ρ[2]? else none, if fx.contains 3 = true then atK ρ[3]? else none] := by unfold maskR; simp only [at?_ap']; rfl
/-! views -/
@[simp] theorem ap_lfV : lfV f ρ = (f ρ).bind fun p => some (.lf p.1, p.2) := rfl
@[simp] theorem ap_nilV : nilV ρ = some ([], ρ) := rfl
@[simp] theorem ap_consV {f : DV} {fs : DVs} : consV f fs ρ = (f ρ).bind fun p => (fs p.2).bind fun q => some (p.1 :: q.1, q.2) := rfl
@[simp] theorem ap_dlV {f : DVs} : dlV f ρ = (f ρ).bind fun p => if p.1.length ≤ 1000 then some (.dl p.1, p.2) else none := rfl
@[simp] theorem ap_dtV {f : DVs} : dtV f ρ = (f ρ).bind fun p => if p.1.length ≤ 1000 then some (.dt p.1, p.2) else none := rfl
@[simp] theorem ap_reprV {f : DV} : reprV f ρ = (f ρ).bind fun p => (curT p.2 p.1).bind fun d => if reprOk d = true then some (.fz (.str d.shown), p.2) else none := rfl
@[simp] theorem ap_cmpV {G : D → D → Option Bool} {f g : DV} : cmpV G f g ρ = (f ρ).bind fun p => (g p.2).bind fun q => (curT q.2 p.1).bind fun d => (curT q.2 q.1).bind fun e => (G d e).bind fun b => some (.fz (.bool b), q.2) := rfl
@[simp] theorem curT_lf : curT ρ (.lf r) = cur ρ r := by unfold curT; rfl
@[simp] theorem curT_dl {ts : List VT} : curT ρ (.dl ts) = (curTs ρ ts).bind fun ds => some (.list ds) := by rw [curT]
@[simp] theorem curT_dt {ts : List VT} : curT ρ (.dt ts) = (curTs ρ ts).bind fun ds => some (.tuple ds) := by rw [curT]
@[simp] theorem curTs_nil : curTs ρ [] = some [] := by rw [curTs]
@[simp] theorem curTs_cons {t : VT} {ts : List VT} : curTs ρ (t :: ts) = (curT ρ t).bind fun d => (curTs ρ ts).bind fun ds => some (d :: ds) := by rw [curTs]
/-! iterables -/
def rngK1 : List D × Rho → Option (List D × Rho) := fun p => match p.1 with
  | [.int j] => if smallI j then some (rngD 0 j.toNat, p.2) else none
  | _ => none
@[simp] theorem ap_rngI1 : rngI1 fs ρ = (fs ρ).bind fun p => (curA p.2 p.1).bind fun ds => rngK1 (ds, p.2) := rfl
@[simp] theorem rngK1_i : rngK1 ([.int a], ρ) = if smallI a = true then some (rngD 0 a.toNat, ρ) else none := rfl
def rngK2 : List D × Rho → Option (List D × Rho) := fun p => match p.1 with
  | [.int i, .int j] => if smallI i && smallI j then some (rngD i (j - i).toNat, p.2) else none
  | _ => none
@[simp] theorem ap_rngI2 : rngI2 fs ρ = (fs ρ).bind fun p => (curA p.2 p.1).bind fun ds => rngK2 (ds, p.2) := rfl
@[simp] theorem rngK2_i : rngK2 ([.int a, .int b], ρ) = if (smallI a && smallI b) = true then some (rngD a (b - a).toNat, ρ) else none := rfl
def rngK3 : List D × Rho → Option (List D × Rho) := fun p => match p.1 with
  | [.int i, .int j, .int c] => if smallI i && smallI j && decide (c = -1) then some (rngDn i (i - j).toNat, p.2) else none
  | _ => none
@[simp] theorem ap_rngI3 : rngI3 fs ρ = (fs ρ).bind fun p => (curA p.2 p.1).bind fun ds => rngK3 (ds, p.2) := rfl
@[simp] theorem rngK3_i : rngK3 ([.int a, .int b, .int (-1)], ρ) = if (smallI a && smallI b) = true then some (rngDn a (a - b).toNat, ρ) else none := by
  show (if (smallI a && smallI b && decide ((-1 : Int) = -1)) = true then _ else _) = _
  rw [decide_eq_true rfl, Bool.and_true]
theorem smallI_of (h : -4611686018427387904 ≤ a) (h2 : a < 4611686018427387904) : smallI a = true := by rw [smallI_eq]; exact decide_eq_true ⟨h, h2⟩
def seqIK : Vl × Rho → Option (List D × Rho) := fun p => (frzL p.1).bind fun d => (seqD d).bind fun ds => some (ds, p.2)
@[simp] theorem ap_seqI : seqI f ρ = (f ρ).bind seqIK := rfl
@[simp] theorem seqIK_l : seqIK (.fz (.list ds), ρ) = some (ds, ρ) := rfl
@[simp] theorem seqIK_t : seqIK (.fz (.tuple ds), ρ) = some (ds, ρ) := rfl
@[simp] theorem seqIK_ow : seqIK (.ow ds, ρ) = some (ds, ρ) := rfl
@[simp] theorem seqIK_lk : seqIK (.lk ds, ρ) = some (ds, ρ) := rfl
def revIK : Vl × Rho → Option (List D × Rho) := fun p => (frz p.1).bind fun d => (seqD d).bind fun ds => some (ds.reverse, p.2)
@[simp] theorem ap_revI : revI f ρ = (f ρ).bind revIK := rfl
@[simp] theorem revIK_l : revIK (.fz (.list ds), ρ) = some (ds.reverse, ρ) := rfl
@[simp] theorem revIK_t : revIK (.fz (.tuple ds), ρ) = some (ds.reverse, ρ) := rfl
@[simp] theorem revIK_ow : revIK (.ow ds, ρ) = some (ds.reverse, ρ) := rfl
def zipK : List D × Rho → Option (List D × Rho) := fun p => match p.1 with
  | [.list a, .list b] => some (zipD a b, p.2)
  | [.tuple a, .tuple b] => some (zipD a b, p.2)
  | _ => none
@[simp] theorem ap_zipI : zipI fs ρ = (fs ρ).bind fun p => (frzA p.1).bind fun ds => zipK (ds, p.2) := rfl
@[simp] theorem zipK_l : zipK ([.list ds, .list es], ρ) = some (zipD ds es, ρ) := rfl
@[simp] theorem zipK_t : zipK ([.tuple ds, .tuple es], ρ) = some (zipD ds es, ρ) := rfl
def enumK : List D × Rho → Option (List D × Rho) := fun p => match p.1 with
  | [.list a] => some (enumD 0 a, p.2)
  | _ => none
@[simp] theorem ap_enumI : enumI fs ρ = (fs ρ).bind fun p => (frzA p.1).bind fun ds => enumK (ds, p.2) := rfl
@[simp] theorem enumK_l : enumK ([.list ds], ρ) = some (enumD 0 ds, ρ) := rfl
/-! loops -/
theorem ap_forS : forS fi st s ρ = (fi ρ).bind fun p => forL st s p.1 p.2 := rfl
theorem forL_nil : forL st s [] ρ = some (.nx ρ) := rfl
theorem forL_nx {ds : List D} (h : (st (.fz d) ρ).bind s = some (.nx ρ1)) : forL st s (d :: ds) ρ = forL st s ds ρ1 := by
  obtain ⟨ρ0, e1, e2⟩ := Option.bind_eq_some_iff.mp h
  rw [forL, e1, Option.bind_some, e2]
  rfl
theorem forL_ct {ds : List D} (h : (st (.fz d) ρ).bind s = some (.ct ρ1)) : forL st s (d :: ds) ρ = forL st s ds ρ1 := by
  obtain ⟨ρ0, e1, e2⟩ := Option.bind_eq_some_iff.mp h
  rw [forL, e1, Option.bind_some, e2]
  rfl
theorem forL_bk {ds : List D} (h : (st (.fz d) ρ).bind s = some (.bk ρ1)) : forL st s (d :: ds) ρ = some (.nx ρ1) := by
  obtain ⟨ρ0, e1, e2⟩ := Option.bind_eq_some_iff.mp h
  rw [forL, e1, Option.bind_some, e2]
  rfl
theorem forL_rt {ds : List D} (h : (st (.fz d) ρ).bind s = some (.rt r ρ1)) : forL st s (d :: ds) ρ = some (.rt r ρ1) := by
  obtain ⟨ρ0, e1, e2⟩ := Option.bind_eq_some_iff.mp h
  rw [forL, e1, Option.bind_some, e2]
  rfl
theorem forS_of {t : Option Fl} {ds : List D} (hi : fi ρ = some (ds, ρ1)) (h : forL st s ds ρ1 = t) : forS fi st s ρ = t := by rw [ap_forS, hi]; exact h
/-- by a word over the turns -/
theorem forL_inv {P : Nat → Rho → Prop} : ∀ (ds : List D) (k : Nat) (ρ : Rho), P k ρ → (∀ j d ρ, ds[j]? = some d → P (k + j) ρ → ∃ ρ1, ((st (.fz d) ρ).bind s = some (.nx ρ1) ∨ (st (.fz d) ρ).bind s = some (.ct ρ1)) ∧ P (k + j + 1) ρ1) → ∃ ρ1, forL st s ds ρ = some (.nx ρ1) ∧ P (k + ds.length) ρ1
  | [], k, ρ, h, _ => ⟨ρ, rfl, h⟩
  | d :: ds, k, ρ, h, go => by
    obtain ⟨ρ1, e, p⟩ := go 0 d ρ rfl h
    obtain ⟨ρ2, e2, p2⟩ := forL_inv ds (k + 1) ρ1 (by simpa using p) fun j d' ρ' hj hp => by
      have := go (j + 1) d' ρ' (by simpa using hj) (by rw [show k + (j + 1) = k + 1 + j by omega]; exact hp)
      rwa [show k + (j + 1) + 1 = k + 1 + j + 1 by omega] at this
    refine ⟨ρ2, ?_, by rw [List.length_cons, show k + (ds.length + 1) = k + 1 + ds.length by omega]; exact p2⟩
    rcases e with e | e
    · rw [forL_nx e]; exact e2
    · rw [forL_ct e]; exact e2
end
/-! comprehensions -/
section
variable {st : DTg} {c : DT} {f : DE} {vs : List Nat} {ρ : Rho} {fi : DI}
theorem ap_lcE : lcE fi st c f vs ρ = (fi ρ).bind fun p => if p.1.length ≤ 1000000 then (lcL st c f vs p.1 (wipeR p.2 vs)).bind fun q => some (.ow q.1, unwR vs p.2 q.2) else none := rfl
/-- an element after the other: the state goes along, P i acc ρ -/
theorem lcL_inv {P : List D → Nat → Rho → Prop} : ∀ (ds : List D) (k : Nat) (acc : List D) (ρ : Rho), P acc k ρ → (∀ j d acc ρ, ds[j]? = some d → P acc (k + j) ρ → ∃ ρ1 b ρ2, st (.fz d) ρ = some ρ1 ∧ c ρ1 = some (b, ρ2) ∧
      if b = true then ∃ r z ρ3, f ρ2 = some (r, ρ3) ∧ frz r = some z ∧ P (acc ++ [z]) (k + j + 1) (wipeR ρ3 vs) else P acc (k + j + 1) (wipeR ρ2 vs)) →
    ∃ out ρ1, lcL st c f vs ds ρ = some (out, ρ1) ∧ P (acc ++ out) (k + ds.length) ρ1
  | [], k, acc, ρ, h, _ => ⟨[], ρ, rfl, by rw [List.append_nil]; exact h⟩
  | d :: ds, k, acc, ρ, h, go => by
    obtain ⟨ρ1, b, ρ2, e1, e2, e3⟩ := go 0 d acc ρ rfl h
    have go' : ∀ j d' acc ρ, ds[j]? = some d' → P acc (k + 1 + j) ρ → ∃ ρ1 b ρ2, st (.fz d') ρ = some ρ1 ∧ c ρ1 = some (b, ρ2) ∧ if b = true then ∃ r z ρ3, f ρ2 = some (r, ρ3) ∧ frz r = some z ∧ P (acc ++ [z]) (k + 1 + j + 1) (wipeR ρ3 vs) else P acc (k + 1 + j + 1) (wipeR ρ2 vs) := fun j d' acc ρ' hj hp => by
      have := go (j + 1) d' acc ρ' (by simpa using hj) (by rw [show k + (j + 1) = k + 1 + j by omega]; exact hp)
      rwa [show k + (j + 1) + 1 = k + 1 + j + 1 by omega] at this
    rw [lcL, e1, Option.bind_some, e2, Option.bind_some]
    dsimp only
    cases b with
    | true =>
      rw [if_pos rfl] at e3 ⊢
      obtain ⟨r, z, ρ3, q1, q2, q3⟩ := e3
      obtain ⟨out, ρ4, o1, o2⟩ := lcL_inv ds (k + 1) (acc ++ [z]) (wipeR ρ3 vs) (by simpa using q3) go'
      refine ⟨z :: out, ρ4, ?_, ?_⟩
      · rw [q1, Option.bind_some]; dsimp only; rw [q2, Option.bind_some, o1]; rfl
      · rw [List.length_cons, show k + (ds.length + 1) = k + 1 + ds.length by omega, show acc ++ z :: out = acc ++ [z] ++ out by simp]
        exact o2
    | false =>
      rw [if_neg (by decide)] at e3 ⊢
      obtain ⟨out, ρ4, o1, o2⟩ := lcL_inv ds (k + 1) acc (wipeR ρ2 vs) (by simpa using e3) go'
      refine ⟨out, ρ4, o1, ?_⟩
      rw [List.length_cons, show k + (ds.length + 1) = k + 1 + ds.length by omega]
      exact o2
/-- without a condition, without a trace: a map -/
theorem lcL_map (h : D → D) : ∀ (ds : List D) (ρ : Rho), (∀ d ∈ ds, ∃ ρ1 ρ2 r ρ3, st (.fz d) ρ = some ρ1 ∧ c ρ1 = some (true, ρ2) ∧ f ρ2 = some (r, ρ3) ∧ frz r = some (h d) ∧ wipeR ρ3 vs = ρ) → lcL st c f vs ds ρ = some (ds.map h, ρ)
  | [], ρ, _ => rfl
  | d :: ds, ρ, go => by
    obtain ⟨ρ1, ρ2, r, ρ3, e1, e2, e3, e4, e5⟩ := go d List.mem_cons_self
    rw [lcL, e1, Option.bind_some, e2, Option.bind_some]
    dsimp only
    rw [if_pos rfl, e3, Option.bind_some]
    dsimp only
    rw [e4, Option.bind_some, e5, lcL_map h ds ρ fun d' hd => go d' (List.mem_cons_of_mem _ hd)]
    rfl
/-- with a condition -/
theorem lcL_fil (t : D → Bool) (h : D → D) : ∀ (ds : List D) (ρ : Rho), (∀ d ∈ ds, ∃ ρ1 ρ2, st (.fz d) ρ = some ρ1 ∧ c ρ1 = some (t d, ρ2) ∧ (t d = false → wipeR ρ2 vs = ρ) ∧ (t d = true → ∃ r ρ3, f ρ2 = some (r, ρ3) ∧ frz r = some (h d) ∧ wipeR ρ3 vs = ρ)) → lcL st c f vs ds ρ = some ((ds.filter t).map h, ρ)
  | [], ρ, _ => rfl
  | d :: ds, ρ, go => by
    obtain ⟨ρ1, ρ2, e1, e2, e3, e4⟩ := go d List.mem_cons_self
    have ih := lcL_fil t h ds ρ fun d' hd => go d' (List.mem_cons_of_mem _ hd)
    rw [lcL, e1, Option.bind_some, e2, Option.bind_some]
    dsimp only
    cases q : t d with
    | true =>
      obtain ⟨r, ρ3, q1, q2, q3⟩ := e4 q
      rw [if_pos rfl, q1, Option.bind_some]
      dsimp only
      rw [q2, Option.bind_some, q3, ih, List.filter_cons_of_pos q]
      rfl
    | false =>
      rw [if_neg (by decide), e3 q, ih, List.filter_cons_of_neg (by rw [q]; decide)]
theorem lcE_of {ds out : List D} {ρ1 ρ2 : Rho} (hi : fi ρ = some (ds, ρ1)) (hl : ds.length ≤ 1000000) (h : lcL st c f vs ds (wipeR ρ1 vs) = some (out, ρ2)) : lcE fi st c f vs ρ = some (.ow out, unwR vs ρ1 ρ2) := by
  rw [ap_lcE, hi, Option.bind_some]
  dsimp only
  rw [if_pos hl, h]
  rfl
/-- a map, the names' slots as they were -/
theorem lcE_map (g : D → D) {ds : List D} {ρ1 : Rho} (hi : fi ρ = some (ds, ρ1)) (hl : ds.length ≤ 1000000) (go : ∀ d ∈ ds, ∃ ρa ρb r ρc, st (.fz d) (wipeR ρ1 vs) = some ρa ∧ c ρa = some (true, ρb) ∧ f ρb = some (r, ρc) ∧ frz r = some (g d) ∧ wipeR ρc vs = wipeR ρ1 vs) : lcE fi st c f vs ρ = some (.ow (ds.map g), unwR vs ρ1 (wipeR ρ1 vs)) :=
  lcE_of hi hl (lcL_map g ds _ go)
theorem lcE_fil (t : D → Bool) (g : D → D) {ds : List D} {ρ1 : Rho} (hi : fi ρ = some (ds, ρ1)) (hl : ds.length ≤ 1000000) (go : ∀ d ∈ ds, ∃ ρa ρb, st (.fz d) (wipeR ρ1 vs) = some ρa ∧ c ρa = some (t d, ρb) ∧ (t d = false → wipeR ρb vs = wipeR ρ1 vs) ∧ (t d = true → ∃ r ρc, f ρb = some (r, ρc) ∧ frz r = some (g d) ∧ wipeR ρc vs = wipeR ρ1 vs)) :
    lcE fi st c f vs ρ = some (.ow ((ds.filter t).map g), unwR vs ρ1 (wipeR ρ1 vs)) :=
  lcE_of hi hl (lcL_fil t g ds _ go)
end
@[simp] theorem wipeR_nil {ρ : Rho} : wipeR ρ [] = ρ := rfl
@[simp] theorem wipeR_cons {ρ : Rho} {v : Nat} {vs : List Nat} : wipeR ρ (v :: vs) = (wipeR ρ vs).set v none := rfl
@[simp] theorem unwR_nil {ρ ρ0 : Rho} : unwR [] ρ0 ρ = ρ := rfl
@[simp] theorem unwR_cons {ρ ρ0 : Rho} {v : Nat} {vs : List Nat} : unwR (v :: vs) ρ0 ρ = (unwR vs ρ0 ρ).set v ((ρ0[v]?).getD none) := rfl
theorem rngD_iget {lo : Int} {n j : Nat} {d : D} (h : (rngD lo n)[j]? = some d) : j < n ∧ d = .int (lo + (j : Int)) := by
  unfold rngD at h
  rw [List.getElem?_map] at h
  by_cases q : j < n
  · rw [List.getElem?_range q] at h
    exact ⟨q, (Option.some.inj h).symm⟩
  · rw [List.getElem?_eq_none (by rw [List.length_range]; omega)] at h
    cases h
theorem rngD_mem {lo : Int} {n : Nat} {d : D} (h : d ∈ rngD lo n) : ∃ j : Nat, j < n ∧ d = .int (lo + (j : Int)) := by
  obtain ⟨j, hj⟩ := List.getElem?_of_mem h
  exact ⟨j, rngD_iget hj⟩
@[simp] theorem rngD_len {lo : Int} {n : Nat} : (rngD lo n).length = n := by unfold rngD; rw [List.length_map, List.length_range]
theorem rngDn_iget {lo : Int} {n j : Nat} {d : D} (h : (rngDn lo n)[j]? = some d) : j < n ∧ d = .int (lo - (j : Int)) := by
  unfold rngDn at h
  rw [List.getElem?_map] at h
  by_cases q : j < n
  · rw [List.getElem?_range q] at h
    exact ⟨q, (Option.some.inj h).symm⟩
  · rw [List.getElem?_eq_none (by rw [List.length_range]; omega)] at h
    cases h
theorem rngDn_mem {lo : Int} {n : Nat} {d : D} (h : d ∈ rngDn lo n) : ∃ j : Nat, j < n ∧ d = .int (lo - (j : Int)) := by
  obtain ⟨j, hj⟩ := List.getElem?_of_mem h
  exact ⟨j, rngDn_iget hj⟩
@[simp] theorem rngDn_len {lo : Int} {n : Nat} : (rngDn lo n).length = n := by unfold rngDn; rw [List.length_map, List.length_range]
end
end DL

namespace DL
open PySem PySem.Spec PyProof.Rows L2 HT
noncomputable section

/-! ### x[::-1] -/
section
variable {prog : Program} {w : World} {A : Around} {E : Value → Shared → Prop} {s : Shared}
theorem adjust_rev (n : Nat) : Builtin.Slice.sliceAdjust none none (-1) (n : Int) = ((n : Int) - 1, -1) := by
  unfold Builtin.Slice.sliceAdjust
  have h1 : ((-1 : Int) < 0) := by omega
  simp only [h1, if_true]
theorem places_rev (n : Nat) : Builtin.Slice.slicePlaces ((n : Int) - 1) (-1) (-1) = n := by
  unfold Builtin.Slice.slicePlaces
  have h1 : ¬ ((-1 : Int) > 0) := by omega
  simp only [h1, if_false]
  split
  · rename_i h; simp at h ⊢
  · rename_i h; simp at h ⊢; omega
theorem sliceApplied_rev {sl : Addr} {vs : Value} {n : Nat} {Q : Int × Int × Nat → Shared → Prop} (hs : s.heap.IsSliceOf sl .none .none vs) (pk : IsPart vs (some (-1))) (h : Q ((n : Int) - 1, -1, n) s) :
    wpAny (model prog w) A (Builtin.Slice.sliceApplied (.ref sl) (pure (n : Int))) Q E s := by
  obtain ⟨os, hos, hcs, hds⟩ := id hs
  unfold Builtin.Slice.sliceApplied Builtin.Slice.sliceFields
  refine wpAny_bind (wpAny_bind (wpAny_field hos hds (x := .none) rfl (wpAny_bind (wpAny_field hos hds (x := .none) rfl (wpAny_bind (wpAny_field hos hds (x := vs) rfl (wpAny_pure ?_)))))))
  refine wpAny_bind (slicePart_ pk ?_)
  show wpAny _ _ (if ((-1 : Int) == 0) = true then _ else _) _ _ s
  rw [if_neg (by decide)]
  refine wpAny_bind (slicePart_none (wpAny_bind (slicePart_none (wpAny_bind (wpAny_pure ?_)))))
  show wpAny _ _ (match Builtin.Slice.sliceAdjust none none (-1) (n : Int) with | (lo, hi) => pure (lo, (-1 : Int), Builtin.Slice.slicePlaces lo hi (-1))) _ _ s
  rw [adjust_rev n]
  show wpAny _ _ (pure ((n : Int) - 1, (-1 : Int), Builtin.Slice.slicePlaces ((n : Int) - 1) (-1) (-1))) _ _ s
  rw [places_rev]
  exact wpAny_pure h
theorem fm_congr {α β : Type} {f g : α → Option β} : ∀ l : List α, (∀ x ∈ l, f x = g x) → l.filterMap f = l.filterMap g
  | [], _ => rfl
  | a :: r, h => by
    rw [List.filterMap_cons, List.filterMap_cons, h a List.mem_cons_self, fm_congr r fun x hx => h x (List.mem_cons_of_mem _ hx)]
theorem pick_rev (xs : Array Value) : ((List.range xs.size).filterMap fun (m : Nat) => xs[(((xs.size : Int) - 1) + (m : Int) * (-1)).toNat]?).toArray = xs.toList.reverse.toArray := by
  have e : (List.range xs.size).filterMap (fun (m : Nat) => xs[(((xs.size : Int) - 1) + (m : Int) * (-1)).toNat]?) = ((List.range xs.size).map fun k => xs.size - 1 - k).filterMap fun m => xs[m]? := by
    rw [List.filterMap_map]
    refine fm_congr _ fun m hm => ?_
    have hm := List.mem_range.mp hm
    rw [show (((xs.size : Int) - 1) + (m : Int) * (-1)).toNat = xs.size - 1 - m by omega]
    rfl
  rw [e, PySem.W.krv_range, List.filterMap_reverse]
  congr 2
  have := PySem.W.krv_all xs
  exact this
theorem getItem_tuple_rev {t sl : Addr} {items : Array Value} {vs : Value} {Q : Value → Shared → Prop} (ht : IsTup s.heap t items) (hs : s.heap.IsSliceOf sl .none .none vs) (pk : IsPart vs (some (-1)))
    (h : Q (.ref s.heap.objs.size) { s with heap := s.heap.push { cls := .type "tuple", data := .seq items.toList.reverse.toArray } }) (hsz : items.size ≤ sizeLine) : wpAny (model prog w) A (getItem (.ref t) (.ref sl)) Q E s := by
  have htake : sizeOk (.seq items.toList.reverse.toArray) := by
    show items.toList.reverse.toArray.size ≤ sizeLine
    rw [List.size_toArray, List.length_reverse, Array.length_toList]
    exact hsz
  obtain ⟨os, hos, hcs, hds⟩ := id hs
  have hTs : s.TypeIs (.ref sl) "slice" := ⟨os, hos, hcs⟩
  unfold getItem
  try with_reducible refine wpAny_holding ?_
  first | refine wpAny_bind (wpAny_pure ?_) | skip
  refine wpAny_bind (wpAny_sequenceKey ht.typeIs (by decide) ?_)
  refine wpAny_bind (wpAny_callSpecial?_slot (name := Str.ofString "__getitem__") ht.typeIs PyProof.Rows.slot_tuple_getitem
    (wpAny_call_entry PyProof.Rows.slot_tuple_getitem ht.typeIs entry_tuple_getitem ?_ (args_tuple_getitem _ _)))
  show wpAny _ _ (Builtin.Tuple.tupleItemsOf (.ref t) >>= _) _ _ s
  refine wpAny_bind (tupleItemsOf_ ht ?_)
  refine wpAny_bind (wpAny_typeOf hTs ?_)
  rw [if_pos (by decide)]
  refine wpAny_bind (sliceApplied_rev hs pk ?_)
  have hno : ¬ ((((items.size : Int) - 1) == 0 && (-1 : Int) == 1 && items.size == items.size) = true) := by
    intro q
    rw [Bool.and_eq_true, Bool.and_eq_true] at q
    exact absurd q.1.2 (by decide)
  show wpAny _ _ (if (((items.size : Int) - 1) == 0 && (-1 : Int) == 1 && items.size == items.size) = true then _ else _) _ _ s
  rw [if_neg hno, pick_rev]
  first
    | exact wpAny_bind (m := Builtin.Tuple.tupleExact _) (wpAny_newObj_type (wpAny_pure ⟨_, rfl, wpAny_pure h⟩) htake)
    | exact wpAny_bind (m := Builtin.Tuple.tupleExact _) (wpAny_newObj_type (wpAny_bind (wpAny_pure (wpAny_pure ⟨_, rfl, wpAny_pure h⟩))) htake)
    | exact wpAny_bind (wpAny_bind (m := Builtin.Tuple.tupleExact _) (wpAny_newObj_type (wpAny_pure (wpAny_pure ⟨_, rfl, wpAny_pure h⟩)) htake))
    | exact wpAny_bind (wpAny_bind (m := Builtin.Tuple.tupleExact _) (wpAny_newObj_type (wpAny_pure ⟨_, rfl, wpAny_pure h⟩) htake))
end
section
variable {X : Cx}
def rRev (K : PySem.W.Frag) : V → Hp → VK → Prop := fun x H Q => ∃ a xs, x = .ref a ∧ ((SqL K H a xs ∧ ∀ p, H p = none → Q (.ref p) (upd H p (.lst xs.reverse))) ∨ (SqT K H a xs ∧ ∀ p, H p = none → Q (.ref p) (upd H p (.tup xs.reverse))))
theorem pe_rev {e : Expr} {te : TE} {k : Nat} {p1 p2 p3 pos : Pos} (he : PE X e te) : PE X (.Subscript e (.Slice none none (some (.UnaryOp .USub (.Constant (.int 1) k p1) p2)) p3) pos) (tUn (rRev X.K) te) := by
  refine ⟨fun pins s σ H Q I h => ?_⟩
  refine Subscript_ (thn (he.run pins s σ H _ I h) fun v s1 ⟨x, H1, I1, r1, q1⟩ => ?_)
  obtain ⟨a, xs, ex, hq⟩ := q1
  subst ex
  cases r1
  have hst : PO X (some (.UnaryOp .USub (.Constant (.int 1) k p1) p2)) (tPart (tUn (rU fun i => .int (-i)) (tC (.int 1)))) := po_some (pe_un un_neg pe_int)
  refine wpAny_Slice (thn (po_none.run pins s1 σ H1 (fun o H2 => o = none ∧ H2 = H1) I1 ⟨rfl, rfl⟩) fun vl s2 ⟨l, H2, I2, pl, el, e2⟩ => ?_)
  subst el e2
  refine thn (po_none.run pins s2 σ H2 (fun o H3 => o = none ∧ H3 = H2) I2 ⟨rfl, rfl⟩) fun vu s3 ⟨u, H3, I3, pu, eu, e3⟩ => ?_
  subst eu e3
  refine thn (hst.run pins s3 σ H3 (fun o H4 => o = some (-1) ∧ H4 = H3) I3 ⟨1, rfl, -1, rfl, rfl, rfl⟩) fun vs s4 ⟨o, H4, I4, ps, eo, e4⟩ => ?_
  subst eo e4
  have I5 : Inv X pins σ H4 { s4 with heap := s4.heap.push { cls := .type "slice", data := .fields #[vl, vu, vs] } } := I4.kept (t' := s4.toks) fun b ob q => Heap.get?_push_of_some _ q
  cases pl
  cases pu
  rcases hq with ⟨hx, q⟩ | ⟨hx, q⟩
  · obtain ⟨its, r, ht, hz⟩ := I5.list hx
    have hlen := r.length
    show wpAny (model X.prog X.w) X.A (subscriptTail e (.Slice none none (some (.UnaryOp .USub (.Constant (.int 1) k p1) p2)) p3) (.ref a) (.ref s4.heap.objs.size)) (EP X pins σ Q) X.xe _
    refine tail_any (ops := [.ref a, .ref s4.heap.objs.size]) ht.isList.typeIs (PySem.slot_list_getitem.lookup) ?_ (by with_unfolding_all rfl)
    refine wpAny_getItem_list_slice ht.isList (Heap.IsSliceOf.new _ .none .none vs) .none .none ps (by decide) ?_ (by rw [List.size_toArray]; omega)
    rw [PySem.W.krv_pick]
    refine ⟨.ref _, _, I5.laid (t' := s4.toks) (o := .lst xs.reverse) (fun b ob q => Heap.get?_push_of_some _ q) (Nat.le_refl _) ?_, rfl, q _ (I5.hok.fresh (Nat.le_refl _))⟩
    exact ⟨by rw [List.length_reverse]; exact hz, _, 0, r.reverse, Heap.get?_push_size _ rfl⟩
  · obtain ⟨its, r, ht, hz⟩ := I5.tuple hx
    have hlen := r.length
    show wpAny (model X.prog X.w) X.A (subscriptTail e (.Slice none none (some (.UnaryOp .USub (.Constant (.int 1) k p1) p2)) p3) (.ref a) (.ref s4.heap.objs.size)) (EP X pins σ Q) X.xe _
    refine tail_any (ops := [.ref a, .ref s4.heap.objs.size]) ht.typeIs PyProof.Rows.slot_tuple_getitem.lookup ?_ (by with_unfolding_all rfl)
    refine getItem_tuple_rev ht (Heap.IsSliceOf.new _ .none .none vs) ps ?_ (by rw [List.size_toArray]; omega)
    refine ⟨.ref _, _, I5.laid (t' := s4.toks) (o := .tup xs.reverse) (fun b ob q => Heap.get?_push_of_some _ q) (Nat.le_refl _) ?_, rfl, q _ (I5.hok.fresh (Nat.le_refl _))⟩
    exact ⟨by rw [List.length_reverse]; exact hz, _, r.reverse, IsTup.new _ _⟩
end
end
end DL

namespace DL
open PySem PySem.Spec PyProof.Rows L2
noncomputable section

def revF : Rho → List Vl → Option Vl := fun ρ rs => match rs with
  | [x] => (itm ρ x).bind fun p => if p.1 = true then some (.ow p.2.reverse) else some (.fz (.tuple p.2.reverse))
  | _ => none
theorem FzA.rev {K : PySem.W.Frag} {W : Addr → Prop} {H : Hp} {vs : List V} {ds : List D} (f : FzA K W H vs ds) : FzA K W H vs.reverse ds.reverse := f.reverse
theorem vop_rev {K : PySem.W.Frag} : VOp K (r1L (rRev K)) revF := by
  intro W H σ ρ φ vs rs l res Q s rx dj e k
  unfold revF at e
  split at e
  · rename_i x
    obtain ⟨⟨b, ds⟩, e1, e⟩ := Option.bind_eq_some_iff.mp e
    cases rx with
    | cons h t d =>
      cases t
      obtain ⟨a, xs, rfl, q1, f1⟩ := h.itm s e1
      cases b with
      | true =>
        simp only [if_true] at e q1
        cases e
        exact ⟨_, rfl, a, xs, rfl, .inl ⟨q1, new_list f1.reverse s.wf k⟩⟩
      | false =>
        simp only [Bool.false_eq_true, if_false] at e q1
        cases e
        exact ⟨_, rfl, a, xs, rfl, .inr ⟨q1, new_tuple f1.reverse s.wf k⟩⟩
  · cases e
section
variable {X : Cx} {e a b : Expr} {f g : DE} {pos p p1 p2 p3 : Pos} {k : Nat}
theorem px_rev (ha : PX X e f) : PX X (.Subscript e (.Slice none none (some (.UnaryOp .USub (.Constant (.int 1) k p1) p2)) p3) pos) (opE revF (consA f nilA)) := by
  refine PE.mono (pe_rev ha) ?_
  rintro σ H Q ⟨W, ρ, φ, r, ρ', s, hf, k⟩
  unfold opE consA nilA at hf
  obtain ⟨⟨rs, ρ2⟩, q1, hf⟩ := Option.bind_eq_some_iff.mp hf
  obtain ⟨z, e3, hf⟩ := Option.bind_eq_some_iff.mp hf
  cases hf
  obtain ⟨⟨x, ρ1⟩, e1, hf⟩ := Option.bind_eq_some_iff.mp q1
  cases hf
  refine ⟨W, ρ, φ, x, _, s, e1, fun v W1 H1 φ1 l o1 => ?_⟩
  have o : OutA X.K W H (InF φ) σ _ [x] [v] W1 H1 φ1 l := ⟨o1.ev, o1.ss, .one o1.rx, o1.dj, o1.sub, o1.subl⟩
  obtain ⟨x', q, q'⟩ := vop_rev W1 H1 σ _ φ1 [v] [x] _ _ Q o.ss o.rx o.dj e3 fun v W2 H2 l2 ev wf rv sub => k v W2 H2 _ l2 (o.op s ev wf rv sub)
  cases q
  exact q'
end
/-! ### list(range(..)), tuple(range(..)) -/
abbrev DR := Rho → Option ((Int × Int) × Rho)
def tXR (K : PySem.W.Frag) (f : DR) : L2.St → Hp → (Int → Int → Hp → Prop) → Prop := fun σ H Q => ∃ W ρ φ a b ρ', SS K W H σ ρ φ ∧ f ρ = some ((a, b), ρ') ∧ ∀ W' H' φ', OutT K W H (InF φ) σ ρ' W' H' φ' → Q a b H'
abbrev PXR (X : Cx) (e : Expr) (f : DR) : Prop := PRg X e (tXR X.K f)
theorem PRg.mono {X : Cx} {e : Expr} {t t' : L2.St → Hp → (Int → Int → Hp → Prop) → Prop} (h : PRg X e t) (m : ∀ σ H Q, t' σ H Q → t σ H Q) : PRg X e t' := fun pins s σ H Q I q => h pins s σ H Q I (m σ H Q q)
def rg1K : Vl × Rho → Option ((Int × Int) × Rho) := fun p => match p.1 with
  | .fz (.int n) => some ((0, n), p.2)
  | _ => none
def rg1E (f : DE) : DR := fun ρ => (f ρ).bind rg1K
def rg2K : Vl → Vl × Rho → Option ((Int × Int) × Rho) := fun x p => match x, p.1 with
  | .fz (.int m), .fz (.int n) => some ((m, n), p.2)
  | _, _ => none
def rg2E (f g : DE) : DR := fun ρ => (f ρ).bind fun p => (g p.2).bind (rg2K p.1)
theorem rgX : ∃ f : Int → Int → Bool, ∀ a b, f a b = decide (-4611686018427387904 ≤ a ∧ a < 4611686018427387904 ∧ -4611686018427387904 ≤ b ∧ b < 4611686018427387904 ∧ b - a ≤ 16777216) := ⟨fun a b => decide (-4611686018427387904 ≤ a ∧ a < 4611686018427387904 ∧ -4611686018427387904 ≤ b ∧ b < 4611686018427387904 ∧ b - a ≤ 16777216), fun _ _ => rfl⟩
def rgOk : Int → Int → Bool := Classical.choose rgX
theorem rgOk_eq (a b : Int) : rgOk a b = decide (-4611686018427387904 ≤ a ∧ a < 4611686018427387904 ∧ -4611686018427387904 ≤ b ∧ b < 4611686018427387904 ∧ b - a ≤ 16777216) := Classical.choose_spec rgX a b
theorem rgOk_of {a b : Int} (h : rgOk a b = true) : RgOk a b := by
  rw [rgOk_eq] at h
  have h := of_decide_eq_true h
  have e1 : (2 : Int) ^ 62 = 4611686018427387904 := by decide
  have e2 : (2 : Nat) ^ 24 = 16777216 := by decide
  refine ⟨?_, ?_, ?_, ?_, ?_⟩
  · rw [e1]; omega
  · rw [e1]; omega
  · rw [e1]; omega
  · rw [e1]; omega
  · rw [e2]; omega
theorem rgOk_small {a b : Int} (h : -1000000 ≤ a) (h2 : a ≤ 1000000) (h3 : -1000000 ≤ b) (h4 : b ≤ 1000000) : rgOk a b = true := by
  rw [rgOk_eq]
  exact decide_eq_true (by omega)
def lstRgE (f : DR) : DE := fun ρ => (f ρ).bind fun p => if rgOk p.1.1 p.1.2 = true then some (.ow (rngD p.1.1 (p.1.2 - p.1.1).toNat), p.2) else none
def tupRgE (f : DR) : DE := fun ρ => (f ρ).bind fun p => if rgOk p.1.1 p.1.2 = true then some (.fz (.tuple (rngD p.1.1 (p.1.2 - p.1.1).toNat)), p.2) else none
theorem fza_rg {K : PySem.W.Frag} {W : Addr → Prop} {H : Hp} (a b : Int) : FzA K W H (rgV a b) (rngD a (b - a).toNat) := by
  have := FzA.ints (K := K) (W := W) (H := H) ((List.range (b - a).toNat).map fun i => a + (i : Nat))
  unfold rgV rngD
  rw [List.map_map, List.map_map] at this
  exact this
section
variable {X : Cx} {e a b : Expr} {f g : DE} {fr : DR} {pos p : Pos}
theorem pxr_1 (hm : X.mg "range" = none) (ha : PX X a f) (hg : Gl X "range" := by rfl) (na : starEach [a] X.env = (false, eval a X.env) :: starEach [] X.env := by rfl) : PXR X (.Call (.Name "range" p) [a] [] pos) (rg1E f) := by
  refine PRg.mono (prg_1 hg hm ha na) ?_
  rintro σ H Q ⟨W, ρ, φ, i, j, ρ', s, hf, k⟩
  unfold rg1E at hf
  obtain ⟨⟨x, ρ1⟩, e1, hf⟩ := Option.bind_eq_some_iff.mp hf
  unfold rg1K at hf
  dsimp only at hf
  split at hf
  · cases hf
    refine ⟨W, ρ, φ, _, _, s, e1, fun v W1 H1 φ1 l o => ?_⟩
    cases o.rx with
    | rv z => cases z with
      | fz z => cases z; exact ⟨_, rfl, k W1 H1 φ1 o.t⟩
  · cases hf
theorem pxr_2 (hm : X.mg "range" = none) (ha : PX X a f) (hb : PX X b g) (hg : Gl X "range" := by rfl) (na : starEach [a, b] X.env = (false, eval a X.env) :: starEach [b] X.env := by rfl)
    (nb : starEach [b] X.env = (false, eval b X.env) :: starEach [] X.env := by rfl) (hp : (backTo pos (starEach [b] X.env)).any (·.1) = false := by rfl) : PXR X (.Call (.Name "range" p) [a, b] [] pos) (rg2E f g) := by
  refine PRg.mono (prg_2 hg hm ha hb na nb hp) ?_
  rintro σ H Q ⟨W, ρ, φ, i, j, ρ', s, hf, k⟩
  unfold rg2E at hf
  obtain ⟨⟨x, ρ1⟩, e1, hf⟩ := Option.bind_eq_some_iff.mp hf
  obtain ⟨⟨y, ρ2⟩, e2, hf⟩ := Option.bind_eq_some_iff.mp hf
  unfold rg2K at hf
  dsimp only at hf
  split at hf
  · cases hf
    refine ⟨W, ρ, φ, _, ρ1, s, e1, fun v W1 H1 φ1 l o => ?_⟩
    refine ⟨W1, ρ1, φ1, _, _, o.ss, e2, fun v2 W2 H2 φ2 l2 o2 => ?_⟩
    have hk := k W2 H2 φ2 (o.t.then s o2.t)
    cases o.rx with
    | rv z => cases z with
      | fz z =>
        cases z
        cases o2.rx with
        | rv z => cases z with
          | fz z => cases z; exact ⟨_, _, rfl, rfl, hk⟩
  · cases hf
theorem px_listRg (hc : X.calm = true) (hm : X.mg "list" = none) (he : PXR X e fr) (hg : Gl X "list" := by rfl) (na : starEach [e] X.env = (false, eval e X.env) :: starEach [] X.env := by rfl) : PX X (.Call (.Name "list" p) [e] [] pos) (lstRgE fr) := by
  refine PE.mono (pe_listRg hc hg hm he na) ?_
  rintro σ H Q ⟨W, ρ, φ, r, ρ', s, hf, k⟩
  unfold lstRgE at hf
  obtain ⟨⟨⟨i, j⟩, ρ1⟩, e1, hf⟩ := Option.bind_eq_some_iff.mp hf
  split at hf
  · rename_i hz
    cases hf
    refine ⟨W, ρ, φ, i, j, _, s, e1, fun W1 H1 φ1 o => ⟨rgOk_of hz, ?_⟩⟩
    have ot : OutA X.K W H (InF φ) σ _ [] [] W1 H1 φ1 [] := ⟨o.ev, o.ss, .nil, (fun a h => nomatch h), o.sub, (fun a h => nomatch h)⟩
    exact new_list (fp := fun a => a ∈ ([] : List Addr)) (fza_rg i j) o.ss.wf fun v W2 H2 l2 ev wf rv sub => k v W2 H2 φ1 l2 (ot.op s ev wf rv sub)
  · cases hf
theorem px_tupRg (hc : X.calm = true) (hm : X.mg "tuple" = none) (he : PXR X e fr) (hg : Gl X "tuple" := by rfl) (na : starEach [e] X.env = (false, eval e X.env) :: starEach [] X.env := by rfl) : PX X (.Call (.Name "tuple" p) [e] [] pos) (tupRgE fr) := by
  refine PE.mono (pe_tupRg hc hg hm he na) ?_
  rintro σ H Q ⟨W, ρ, φ, r, ρ', s, hf, k⟩
  unfold tupRgE at hf
  obtain ⟨⟨⟨i, j⟩, ρ1⟩, e1, hf⟩ := Option.bind_eq_some_iff.mp hf
  split at hf
  · rename_i hz
    cases hf
    refine ⟨W, ρ, φ, i, j, _, s, e1, fun W1 H1 φ1 o => ⟨rgOk_of hz, ?_⟩⟩
    have ot : OutA X.K W H (InF φ) σ _ [] [] W1 H1 φ1 [] := ⟨o.ev, o.ss, .nil, (fun a h => nomatch h), o.sub, (fun a h => nomatch h)⟩
    exact new_tuple (fp := fun a => a ∈ ([] : List Addr)) (fza_rg i j) o.ss.wf fun v W2 H2 l2 ev wf rv sub => k v W2 H2 φ1 l2 (ot.op s ev wf rv sub)
  · cases hf
end
/-! evaluation -/
section
variable {ρ : Rho} {ds : List D} {f g : DE} {fr : DR} {a b : Int} {i : Nat}
@[simp] theorem revF_g : revF ρ [.pk i] = revF ρ [nmG i ρ[i]?] := by unfold revF; dsimp only; rw [itm_g]
@[simp] theorem revF_l : revF ρ [.fz (.list ds)] = some (.ow ds.reverse) := rfl
@[simp] theorem revF_t : revF ρ [.fz (.tuple ds)] = some (.fz (.tuple ds.reverse)) := rfl
@[simp] theorem revF_ow : revF ρ [.ow ds] = some (.ow ds.reverse) := rfl
@[simp] theorem revF_lk : revF ρ [.lk ds] = some (.ow ds.reverse) := rfl
@[simp] theorem ap_rg1E : rg1E f ρ = (f ρ).bind rg1K := rfl
@[simp] theorem rg1K_i : rg1K (.fz (.int a), ρ) = some ((0, a), ρ) := rfl
@[simp] theorem ap_rg2E : rg2E f g ρ = (f ρ).bind fun p => (g p.2).bind (rg2K p.1) := rfl
@[simp] theorem rg2K_i : rg2K (.fz (.int a)) (.fz (.int b), ρ) = some ((a, b), ρ) := rfl
@[simp] theorem ap_lstRgE : lstRgE fr ρ = (fr ρ).bind fun p => if rgOk p.1.1 p.1.2 = true then some (.ow (rngD p.1.1 (p.1.2 - p.1.1).toNat), p.2) else none := rfl
@[simp] theorem ap_tupRgE : tupRgE fr ρ = (fr ρ).bind fun p => if rgOk p.1.1 p.1.2 = true then some (.fz (.tuple (rngD p.1.1 (p.1.2 - p.1.1).toNat)), p.2) else none := rfl
end
end
end DL

namespace DL
open PySem PySem.Spec PyProof.Rows L2
noncomputable section

/-! ### l.count(x), t.count(x), l.index(x), t.index(x) -/
def rCntD (K : PySem.W.Frag) (b : Bool) : V → List V → Hp → VK → Prop := fun x xs H Q => ∃ (a : Addr) (y : V) (d : D) (ds : List D), x = .ref a ∧ xs = [y] ∧ Dp K H (.ref a) (if b = true then .list ds else .tuple ds) ∧ Dp K H y d ∧
  SeqAt.shaped (.list ds) = true ∧ SeqAt.shaped d = true ∧ Q (.int (ds.countP fun z => PyData.eqv z d : Nat)) H
def rIdxD (K : PySem.W.Frag) (b : Bool) : V → List V → Hp → VK → Prop := fun x xs H Q => ∃ (a : Addr) (y : V) (d : D) (ds : List D) (j : Nat), x = .ref a ∧ xs = [y] ∧ Dp K H (.ref a) (if b = true then .list ds else .tuple ds) ∧ Dp K H y d ∧
  SeqAt.shaped (.list ds) = true ∧ SeqAt.shaped d = true ∧ SeqAt.dataPlace ds d = some j ∧ Q (.int (j : Nat)) H
section
variable {X : Cx}
theorem lay_list {ds : List D} (h : SeqAt.shaped (.list ds) = true) : PyData.canLayAll0 ds = true := SeqAt.canLay_of_shaped h
theorem plain_of {d : D} (h : PyData.canLay0 d = true) : d.plain = true := PyData.plain_of_canLay0 d h
theorem plainA_of {ds : List D} (h : PyData.canLayAll0 ds = true) : PyData.plainAll ds = true := by
  have := PyData.plain_of_canLay0 (.list ds) (by rw [PyData.canLay0]; exact h)
  rwa [PyData.plain] at this
theorem mt_cntL (hu : X.A.units + 65 < cLine) : MtR X "list.count" (rCntD X.K true) := by
  intro pins s σ H x xs v us Q I rx rxs h
  obtain ⟨a, y, d, ds, rfl, rfl, hl, hy, sl, sd, q⟩ := h
  cases rx
  obtain ⟨u, rfl, ru⟩ := rxs.one
  obtain ⟨bs, r1⟩ := Dp.reads I d y u hy ru
  rw [if_pos rfl] at hl
  cases hl with
  | lst hs ha =>
    obtain ⟨its, rv, pl, hz⟩ := I.list hs
    obtain ⟨as, h4⟩ := Dp.readsAll I ds _ its ha rv
    exact SeqAt.count_list_data (vs := its.toArray) pl.isList (show ReadsAll s.heap its.toArray.toList ds as from h4) r1 (plainA_of (lay_list sl)) (plain_of (SeqAt.canLay_of_shaped sd)) (room_in_shaped sd hu) ⟨.int _, H, I.tok _, ⟨_, rfl⟩, q⟩
theorem mt_cntT (hu : X.A.units + 65 < cLine) : MtR X "tuple.count" (rCntD X.K false) := by
  intro pins s σ H x xs v us Q I rx rxs h
  obtain ⟨a, y, d, ds, rfl, rfl, hl, hy, sl, sd, q⟩ := h
  cases rx
  obtain ⟨u, rfl, ru⟩ := rxs.one
  obtain ⟨bs, r1⟩ := Dp.reads I d y u hy ru
  rw [if_neg (by decide)] at hl
  cases hl with
  | tup hs ha =>
    obtain ⟨its, rv, pl, hz⟩ := I.tuple hs
    obtain ⟨as, h4⟩ := Dp.readsAll I ds _ its ha rv
    exact SeqAt.count_tuple_data (vs := its.toArray) pl (show ReadsAll s.heap its.toArray.toList ds as from h4) r1 (plainA_of (lay_list sl)) (plain_of (SeqAt.canLay_of_shaped sd)) (room_in_shaped sd hu) ⟨.int _, H, I.tok _, ⟨_, rfl⟩, q⟩
theorem mt_idxL (hu : X.A.units + 65 < cLine) : MtR X "list.index" (rIdxD X.K true) := by
  intro pins s σ H x xs v us Q I rx rxs h
  obtain ⟨a, y, d, ds, j, rfl, rfl, hl, hy, sl, sd, hp, q⟩ := h
  rw [if_pos rfl] at hl
  obtain ⟨h1, h2, h3⟩ := List.findIdx?_eq_some_iff_getElem.mp hp
  refine mt_indexD hu pins s σ H (.ref a) [y] v us Q I rx rxs ⟨a, y, d, ds, j, ds[j], rfl, rfl, hl, hy, sl, sd, List.getElem?_eq_getElem h1, h2, fun m z hm hz => ?_, q⟩
  have hml : m < ds.length := by omega
  rw [List.getElem?_eq_getElem hml] at hz
  cases hz
  have := h3 m hm
  simpa using this
theorem mt_idxT (hu : X.A.units + 65 < cLine) : MtR X "tuple.index" (rIdxD X.K false) := by
  intro pins s σ H x xs v us Q I rx rxs h
  obtain ⟨a, y, d, ds, j, rfl, rfl, hl, hy, sl, sd, hp, q⟩ := h
  cases rx
  obtain ⟨u, rfl, ru⟩ := rxs.one
  obtain ⟨bs, r1⟩ := Dp.reads I d y u hy ru
  rw [if_neg (by decide)] at hl
  cases hl with
  | tup hs ha =>
    obtain ⟨its, rv, ⟨⟨cls, dd, data, sls⟩, ho, hc, n, hd⟩, hz⟩ := I.tuple hs
    simp only at hc hd
    subst hc hd
    obtain ⟨as, h4⟩ := Dp.readsAll I ds _ its ha rv
    have rs : ReadsAll s.heap its.toArray.toList ds as := h4
    have hxs := plainA_of (lay_list sl)
    obtain ⟨hj, hit, hno⟩ := SeqAt.hit_at rs hxs hp
    have ei := SeqAt.items_plain (A := X.A) rs r1 hxs (plain_of (SeqAt.canLay_of_shaped sd)) (room_in_shaped sd hu)
    let ef : Nat → Bool := fun m => if hm : m < its.toArray.size then PyData.eqv (SeqAt.readOf s.heap its.toArray[m]) d else false
    have ee : ∀ m (hm : m < its.toArray.size), ef m = PyData.eqv (SeqAt.readOf s.heap its.toArray[m]) d := fun m hm => dif_pos hm
    refine call_meets PySem.F.slot_tuple_index ⟨_, ho, rfl⟩ PySem.F.entry_tuple_index (PySem.F.args_tuple_index_2 _ _)
      (SeqAt.tuple_index2_found a its.toArray n dd sls u ef j hj (Nat.zero_le _) hj (by rw [ee j hj]; exact hit) (fun m hm _ hmj => by rw [ee m hm]; exact hno m hm hmj)) ⟨ho, fun m hm => ?_, ?_⟩
    · rw [ee m hm]
      exact ei _ (Array.getElem_mem hm)
    · exact ⟨.int (j : Nat), H, I.tok _, ⟨_, rfl⟩, q⟩
end
def listD? : D → Bool
  | .list _ => true
  | _ => false
/-- o.m(a), o a list, by data alone -/
def dmE (G : List D → D → Option D) (f g : DE) : DE := fun ρ => (f ρ).bind fun p => (curR p.2 p.1).bind fun c => if listD? c = true then (g p.2).bind fun q => (curA q.2 [p.1, q.1]).bind fun ds => match ds with
  | [.list xs, d] => if SeqAt.shaped (.list xs) && SeqAt.shaped d then (G xs d).bind fun z => some (.fz z, q.2) else none
  | _ => none else none
def cntG : List D → D → Option D := fun xs d => some (.int (xs.countP fun z => PyData.eqv z d : Nat))
def idxG : List D → D → Option D := fun xs d => (SeqAt.dataPlace xs d).bind fun j => some (.int (j : Nat))
section
variable {X : Cx} {o e : Expr} {f g : DE} {name : Str} {apos cpos : Pos} {id : String}
/-- what such a method is -/
def DMeth (K : PySem.W.Frag) (r : V → List V → Hp → VK → Prop) (G : List D → D → Option D) : Prop := ∀ (H : Hp) (x y : V) (xs : List D) (d z : D) (Q : VK), CtR K H x (.list xs) → CtR K H y d → SeqAt.shaped (.list xs) = true → SeqAt.shaped d = true → G xs d = some z → (∀ v, Sc v z → Q v H) → r x [y] H Q
theorem dm_cnt {K : PySem.W.Frag} : DMeth K (rCntD K true) cntG := fun H x y xs d z Q hx hy s1 s2 e k => by
  cases e
  have h := hx.dp s1
  obtain ⟨a, ys, rfl, _, _⟩ := hx.list_inv
  exact ⟨a, y, d, xs, rfl, rfl, by rw [if_pos rfl]; exact h, hy.dp s2, s1, s2, k _ (.int _)⟩
theorem dm_idx {K : PySem.W.Frag} : DMeth K (rIdxD K true) idxG := fun H x y xs d z Q hx hy s1 s2 e k => by
  obtain ⟨j, e1, e⟩ := Option.bind_eq_some_iff.mp e
  cases e
  have h := hx.dp s1
  obtain ⟨a, ys, rfl, _, _⟩ := hx.list_inv
  exact ⟨a, y, d, xs, j, rfl, rfl, by rw [if_pos rfl]; exact h, hy.dp s2, s1, s2, e1, k _ (.int _)⟩
theorem px_dm {r : V → List V → Hp → VK → Prop} {G : List D → D → Option D} (slot : Slot "list" name id) (hty : typeOf (.builtin id) = pure (.type "method_descriptor")) (hm : MtR X id r) (dm : DMeth X.K r G) (ho : PX X o f) (ha : PX X e g)
    (hbase : attributeBase o name X.env (eval o X.env) = eval o X.env := by rfl)
    (hfew : ((backTo cpos (starEach [e] X.env)).all (fun x => !x.1) && (backToKw cpos (keywordEach [] X.env)).all (fun x => x.1.isSome)
      && decide ([e].length + ([] : List Keyword).length + (if ([] : List Keyword).isEmpty then 0 else 1) < 30)) = true := by rfl)
    (hline : (apos.endLine == cpos.line) = true := by rfl) (hs : starEach [e] X.env = (false, eval e X.env) :: starEach [] X.env := by rfl) (hplain : (backTo cpos (starEach [] X.env)).any (·.1) = false := by rfl) :
    PX X (.Call (.Attribute o name apos) [e] [] cpos) (dmE G f g) := by
  refine PE.mono (pe_bm PySem.F.plainAttrs_list slot hty hm ho (pa_cons ha pa_nil hs) hbase hfew hline hs hplain) ?_
  rintro σ H Q ⟨W, ρ, φ, res, ρ', s, hf, k⟩
  unfold dmE at hf
  obtain ⟨⟨x, ρ1⟩, e1, hf⟩ := Option.bind_eq_some_iff.mp hf
  obtain ⟨c, e2, hf⟩ := Option.bind_eq_some_iff.mp hf
  split at hf
  rotate_left
  · cases hf
  rename_i hc
  obtain ⟨⟨y, ρ2⟩, e3, hf⟩ := Option.bind_eq_some_iff.mp hf
  obtain ⟨ds, e4, hf⟩ := Option.bind_eq_some_iff.mp hf
  refine ⟨W, ρ, φ, x, ρ1, s, e1, fun v W1 H1 φ1 l1 o1 => ?_⟩
  refine ⟨?_, W1, ρ1, φ1, y, ρ2, o1.ss, e3, fun v2 W2 H2 φ2 l2 o2 => ?_⟩
  · have ct1 := o1.rx.ctR o1.ss e2
    cases c with
    | list xs =>
      obtain ⟨a, ys, rfl, h, _⟩ := ct1.list_inv
      exact .inl ⟨rfl, ys, h⟩
    | _ => cases hc
  have o := Out.two s o1 o2
  have ct := o.rx.ctR o.ss e4
  simp only at hf
  split at hf
  · split at hf
    · rename_i hq
      obtain ⟨z, e5, hf⟩ := Option.bind_eq_some_iff.mp hf
      cases hf
      obtain ⟨h1, h2⟩ := Bool.and_eq_true_iff.mp hq
      obtain ⟨v', u', ev, c1, c2⟩ := ct.two
      cases ev
      exact dm H2 v v2 _ _ z Q c1 c2 h1 h2 e5 fun w hw => k w W2 H2 φ2 [] ⟨o.ev, o.ss, .rv (.fz hw.fz), (fun a h => nomatch h), o.sub, (fun a h => nomatch h)⟩
    · cases hf
  · cases hf
end
/-! evaluation -/
section
variable {ρ : Rho} {f g : DE} {G : List D → D → Option D} {xs : List D} {d : D}
def dmK (G : List D → D → Option D) : List D × Rho → Option (Vl × Rho) := fun p => match p.1 with
  | [.list xs, d] => if SeqAt.shaped (.list xs) && SeqAt.shaped d then (G xs d).bind fun z => some (.fz z, p.2) else none
  | _ => none
@[simp] theorem ap_dmE : dmE G f g ρ = (f ρ).bind fun p => (curR p.2 p.1).bind fun c => if listD? c = true then (g p.2).bind fun q => (curA q.2 [p.1, q.1]).bind fun ds => dmK G (ds, q.2) else none := rfl
@[simp] theorem listD_l : listD? (.list xs) = true := rfl
@[simp] theorem dmK_l : dmK G ([.list xs, d], ρ) = if (SeqAt.shaped (.list xs) && SeqAt.shaped d) = true then (G xs d).bind fun z => some (.fz z, ρ) else none := rfl
end
end
end DL

namespace DL
open PySem PySem.Spec PyProof.Rows L2
open AutoSeq1 (wpAny_loadPart')
noncomputable section

/-! ### enumerate(t), t a tuple -/
theorem meets_enumT (l : Addr) (items : Array Value) (n : Nat) (dct : Option Addr) (sl : Array (Option Value)) :
    Meets (Builtin.«enumerate.__new__» ⟨[.type "enumerate", .ref l], []⟩) (fun _ R s => s.heap.get? l = some { cls := .type "tuple", dict := dct, data := .seq items n, slots := sl } ∧
      R (.ok (.ret (.ref (s.heap.push { cls := .type "tuple_iterator", data := .fields #[.ref l, .int 0 0] }).objs.size)))
        { s with heap := (s.heap.push { cls := .type "tuple_iterator", data := .fields #[.ref l, .int 0 0] }).push { cls := .type "enumerate", data := .fields #[.none, .bool false, .ref s.heap.objs.size, rawInt 0, .none, .none] } }) :=
  .of_wp fun prog w A R s h => by
    obtain ⟨hp, g, d, tk, os⟩ := s; obtain ⟨hl, h⟩ := h
    have hsub := sub_enumerate
    have hL : Heap.IsTuple (Shared.heap ⟨hp, g, d, tk, os⟩) l items := ⟨_, hl, rfl, n, rfl⟩
    wp_walk using wpAny_loadPart' hl
    refine wpAny_stack_any fun st => wpAny_pure ?_
    split
    · rename_i c _ _ _ _ _
      cases (c == Value.type "enumerate")
      · wp_walk using wpAny_loadPart' hl, wpAny_pyIter_tuple hL
        exact ⟨_, rfl, h⟩
      · wp_walk using wpAny_loadPart' hl, wpAny_pyIter_tuple hL
        exact ⟨_, rfl, h⟩
    · wp_walk using wpAny_loadPart' hl, wpAny_pyIter_tuple hL
      exact ⟨_, rfl, h⟩
theorem call_enumT {prog : Program} {w : World} {A : Around} {E : Value → Shared → Prop} {s : Shared} {l : Addr} {items : Array Value} {Q : Value → Shared → Prop} (hL : s.heap.IsTuple l items)
    (h : ∀ h', IsEnum h' (s.heap.objs.size + 1) s.heap.objs.size 0 .none → h'.IsTupleIter s.heap.objs.size l 0 → h'.objs.size = s.heap.objs.size + 2 →
      (∀ b o, s.heap.get? b = some o → h'.get? b = some o) → Q (.ref (s.heap.objs.size + 1)) { s with heap := h' }) :
    wpAny (model prog w) A (call (.type "enumerate") [.ref l]) Q E s := by
  obtain ⟨⟨c, dct, dt, sl⟩, hl, hc, n, hd⟩ := hL
  replace hc : c = .type "tuple" := hc
  replace hd : dt = .seq items n := hd
  subst hc hd
  refine callType_new F.called_enumerate (by decide) (F.typeCall_enumerate_1 _) (F.newCall_enumerate_1 _) (fun obj => F.args_object_init_2 obj _) F.entry_enumerate_new
    (meets_enumT l items n dct sl) ⟨hl, ?_⟩
  have hz : (s.heap.push { cls := .type "tuple_iterator", data := .fields #[.ref l, .int 0 0] }).objs.size = s.heap.objs.size + 1 := Heap.size_push ..
  show _ ∧ _
  rw [hz]
  have he : IsEnum ((s.heap.push { cls := .type "tuple_iterator", data := .fields #[.ref l, .int 0 0] }).push
      { cls := .type "enumerate", data := .fields #[.none, .bool false, .ref s.heap.objs.size, rawInt 0, .none, .none] }) (s.heap.objs.size + 1) s.heap.objs.size 0 .none := by
    have := Heap.get?_push_size (s.heap.push { cls := .type "tuple_iterator", data := .fields #[.ref l, .int 0 0] })
      (o := { cls := .type "enumerate", data := .fields #[.none, .bool false, .ref s.heap.objs.size, rawInt 0, .none, .none] }) rfl
    rw [hz] at this; exact this
  refine ⟨⟨_, he, rfl⟩, h _ he ⟨_, Heap.get?_push_of_some _ (Heap.get?_push_size _ rfl), rfl, rfl⟩ (by rw [Heap.size_push, hz]) fun b o x => Heap.get?_push_of_some _ (Heap.get?_push_of_some _ x)⟩
/-- the tuple at a, each item in a new pair -/
def IteT (K : PySem.W.Frag) (a : Addr) : It :=
  ⟨fun i H => ∃ (xs : List V) (x : V), SqT K H a xs ∧ xs[i]? = some x, fun i H v H' => ∃ T x, v = .ref T ∧ H T = none ∧ H' = upd H T (.tup [.int (i : Nat), x]) ∧ ∀ xs, SqT K H a xs → xs[i]? = some x, fun i H => ∃ xs : List V, SqT K H a xs ∧ xs.length ≤ i⟩
theorem turn_enumT {P : Program} {w : World} {K : PySem.W.Frag} {elts : List Expr} {kk : Nat} {tpos : Pos} (a e it : Addr) :
    Turn P w K (.Tuple elts kk tpos) (IteT K a) [e, it] e (fun i h => (∃ old, IsEnum h e it ((i : Nat) : Int) old) ∧ h.IsTupleIter it a i ∧ e ≠ it) where
  mem := by simp
  obj := fun i h st b hb => by
    obtain ⟨⟨old, he⟩, ⟨o, ho, hc, hd⟩, _⟩ := st
    have e' : b = e ∨ b = it := by simpa using hb
    rcases e' with z | z
    · rw [z]; exact ⟨_, he, fun v q => nomatch q⟩
    · rw [z]; exact ⟨o, ho, fun v q => by rw [hd] at q; cases q⟩
  keep := fun i h h' st k => let ⟨⟨old, he⟩, hi, hne⟩ := st; ⟨⟨old, k e (by simp) _ he⟩, hi.at fun o q => k it (by simp) o q, hne⟩
  item := by
    intro X hP hw hK hc i pins s σ H E I hf st hg
    subst hP hw hK
    obtain ⟨⟨old, he⟩, hit, hne⟩ := st
    obtain ⟨xs, x, hq, hx⟩ := hg
    obtain ⟨its, rv, p, hz⟩ := I.tuple hq
    obtain ⟨u, hu, ru⟩ := rv.get hx
    have pt : s.heap.IsTuple a its.toArray := p
    have hel : e < s.heap.objs.size := Heap.lt_size he
    have hil : it < s.heap.objs.size := by obtain ⟨_, q, _⟩ := hit; exact Heap.lt_size q
    have hat : a ≠ it := by
      obtain ⟨o, ho, hoc, _⟩ := hit
      obtain ⟨o2, ho2, hoc2, _⟩ := id pt
      intro z
      subst z
      rw [ho] at ho2
      cases ho2
      rw [hoc] at hoc2
      exact absurd hoc2 (by decide)
    have hae : a ≠ e := by
      obtain ⟨o2, ho2, hoc2, _⟩ := id pt
      intro z
      subst z
      have he' := id he
      unfold IsEnum at he'
      rw [he'] at ho2
      cases ho2
      have hoc3 : Value.type "enumerate" = Value.type "tuple" := hoc2
      exact absurd hoc3 (by decide)
    have hil2 : i < its.toArray.size := by
      have := (List.getElem?_eq_some_iff.mp hu).1
      simpa using this
    refine wpAny_pyNext_enum_itemD (Draws.tuple (A := X.A.in1) (I.ok.hd hc) it a hat its.toArray) he ⟨hit, pt⟩ hil2 hne (by simp [hne, Ne.symm hae]) fun y h' tk hy ho hst hT hsz hk => ?_
    have hy' : y = u := by
      have hy : its.toArray[i]? = some y := hy
      rw [List.getElem?_toArray, hu] at hy
      exact (Option.some.inj hy).symm
    subst hy'
    refine ⟨_, rfl, wpAny_letOwnedTupleGo_enum (s := { s with heap := h', toks := tk + 1 }) ho fun h'' he' sb => ?_⟩
    have hT2 : h''.get? s.heap.objs.size = some { cls := .type "tuple", data := .seq #[.int i tk, y] } := (sb.2 _ (Nat.ne_of_gt hel)).trans hT
    have new : ObjOk X.prog X.w (upd H s.heap.objs.size (.tup [.int (i : Nat), x])) h'' s.heap.objs.size (.tup [.int (i : Nat), x]) :=
      ⟨by show 2 ≤ sizeLine; decide, [.int i tk, y], .cons ⟨_, rfl⟩ (.cons ru .nil), ⟨_, hT2, rfl, _, rfl⟩⟩
    have I1 : Inv X pins σ (upd H s.heap.objs.size (.tup [.int (i : Nat), x])) { s with heap := h'', toks := tk + 1 } :=
      I.turnedNew (ch := [e, it]) (fun b ob hb q => (sb.2 b (fun z => hb (by simp [z]))).trans (hk b ob (fun z => hb (by simp [z])) (fun z => hb (by simp [z])) q)) hf (Nat.le_refl _) new
    refine ⟨.ref s.heap.objs.size, _, I1, rfl, ⟨_, x, rfl, I.hok.fresh (Nat.le_refl _), rfl, fun ys hy => by rw [I.tuple_inj hy hq]; exact hx⟩, ⟨⟨y, ?_⟩, hst.1.at fun o q => (sb.2 it (Ne.symm hne)).trans q, hne⟩, fun b hb => ?_⟩
    · have e1 : ((i + 1 : Nat) : Int) = (i : Int) + 1 := by omega
      rw [e1]; exact he'
    · have hb' : b < s.heap.objs.size := by
        have e' : b = e ∨ b = it := by simpa using hb
        rcases e' with z | z
        · rw [z]; exact hel
        · rw [z]; exact hil
      rw [upd_ne (Nat.ne_of_lt hb')]
      exact (hf b hb).1
  done := by
    intro X hP hw hK hc i pins s σ H E I hf st hg
    subst hP hw hK
    obtain ⟨⟨old, he⟩, hit, hne⟩ := st
    obtain ⟨xs, hq, hx⟩ := hg
    obtain ⟨its, rv, p, hz⟩ := I.tuple hq
    obtain ⟨f0, f1, f2, f3, f4, f5⟩ := hf it (by simp)
    have hl := rv.length
    have pt : s.heap.IsTuple a its.toArray := p
    have hat : a ≠ it := by
      obtain ⟨o, ho, hoc, _⟩ := hit
      obtain ⟨o2, ho2, hoc2, _⟩ := id pt
      intro z
      subst z
      rw [ho] at ho2
      cases ho2
      rw [hoc] at hoc2
      exact absurd hoc2 (by decide)
    have hT : s.TypeIs (.ref e) "enumerate" := ⟨_, he, rfl⟩
    unfold pyNext
    refine wpAny_bind (wpAny_attempt (wpAny_callSpecial?_slot (name := Str.ofString "__next__") hT F.slot_enumerate_next
      (wpAny_call_entry F.slot_enumerate_next hT F.entry_enumerate_next ?_ (F.args_enumerate_next_1 _))))
    show wpAny _ _ (field (.ref e) 2 >>= _) _ _ _
    refine wpAny_bind (wpAny_field he rfl (x := .ref it) rfl ?_)
    refine wpAny_bind (wpAny_nextOf_tuple_end (I.ok.hd hc) hit pt (by simp; omega) fun h' x he' hx' => ?_)
    obtain ⟨o, ho, hc'⟩ := hx'
    refine wpAny_bind (wpAny_isInstance (T := "StopIteration") (b := true) ⟨o, ho, hc'⟩ isSubtype_stop ?_)
    exact wpAny_pure ⟨rfl, I.turned (t' := s.toks) (fun b o hb q => he' b o hb q) f0 f1 f3 f4 f5⟩
  self := fun A i s Q E st h => let ⟨⟨_, he⟩, _⟩ := st; wpAny_pyIter_enum he h
def iEnu (K : PySem.W.Frag) (ta : TA) : TI := fun σ H R => ta σ H fun vs H1 => ∃ a xs, vs = [.ref a] ∧ ((SqL K H1 a xs ∧ R (Ite K a) H1) ∨ (SqT K H1 a xs ∧ R (IteT K a) H1))
theorem pi_enu {X : Cx} {e : Expr} {ta : TA} {p pos tpos : Pos} {elts : List Expr} {kk : Nat} (hg : Gl X "enumerate") (hm : X.mg "enumerate" = none) (ha : PA X [e] ta) (hs : starEach [e] X.env = [(false, eval e X.env)] := by rfl) :
    PI X (.Tuple elts kk tpos) (.Call (.Name "enumerate" p) [e] [] pos) (iEnu X.K ta) := by
  refine ⟨fun pins s σ H R I h => ?_⟩
  refine Call_ (ld_blt I hg hm boot_enumerate (PyProof.Rows.callWith_type1 (thn (ha.run pos pins s σ H _ I h) fun us s1 ⟨vs, H1, I1, r1, q1⟩ => ?_) hs rfl))
  obtain ⟨a, xs, ex, hq⟩ := q1
  subst ex
  cases r1 with
  | cons r rr =>
    cases rr
    cases r
    have fp : ∀ b ∈ [s1.heap.objs.size + 1, s1.heap.objs.size], FpOk X pins H1 b := fun b hb => by
      have e' : b = s1.heap.objs.size + 1 ∨ b = s1.heap.objs.size := by simpa using hb
      have hle : s1.heap.objs.size ≤ b := by
        rcases e' with z | z
        · rw [z]; exact Nat.le_add_right _ _
        · rw [z]; exact Nat.le_refl _
      exact I1.fpOk hle (I1.hok.fresh hle)
    rcases hq with ⟨hq, q⟩ | ⟨hq, q⟩
    · obtain ⟨its, rv, p', hz⟩ := I1.list hq
      refine call_enumerate_list p'.isList fun h' he hit hsz hk => wpAny_pyIter_enum he ?_
      have I2 : Inv X pins σ H1 { s1 with heap := h' } := I1.kept (t' := s1.toks) hk
      exact ⟨s1.heap.objs.size + 1, [s1.heap.objs.size + 1, s1.heap.objs.size], _, _, H1, rfl, I2, turn_enum a (s1.heap.objs.size + 1) s1.heap.objs.size, ⟨⟨.none, he⟩, hit, Nat.succ_ne_self _⟩, fp, q⟩
    · obtain ⟨its, rv, p', hz⟩ := I1.tuple hq
      refine call_enumT (show s1.heap.IsTuple a its.toArray from p') fun h' he hit hsz hk => wpAny_pyIter_enum he ?_
      have I2 : Inv X pins σ H1 { s1 with heap := h' } := I1.kept (t' := s1.toks) hk
      exact ⟨s1.heap.objs.size + 1, [s1.heap.objs.size + 1, s1.heap.objs.size], _, _, H1, rfl, I2, turn_enumT a (s1.heap.objs.size + 1) s1.heap.objs.size, ⟨⟨.none, he⟩, hit, Nat.succ_ne_self _⟩, fp, q⟩
section
variable {K : PySem.W.Frag} {W : Addr → Prop} {H : Hp}
theorem walks_enumT {a : Addr} {xs : List V} {as : List D} (wa : SqT K H a xs) (fa : FzA K W H xs as) : Walks K W H (IteT K a) (enumD 0 as) := by
  intro i W1 H1 x
  have wa1 := SqT.xt x wa
  refine ⟨fun d e => ?_, fun h => ⟨xs, wa1, by rw [enumD_length] at h; rw [fa.length]; exact h⟩⟩
  obtain ⟨p, e1, rfl⟩ := enumD_get e
  obtain ⟨v, g1, g2⟩ := fa.getD e1
  refine ⟨⟨xs, v, wa1, g1⟩, ?_⟩
  rintro y H2 ⟨T, x1, rfl, nT, rfl, h1⟩
  have q1 := h1 xs wa1
  rw [g1] at q1
  cases q1
  refine ⟨upd_up nT, pair_fz (upd_up nT) upd_same ?_ (g2.xt x)⟩
  rw [Nat.zero_add]
  exact .int _
end
/-- enumerate(x), x a list or a tuple -/
def enuI (fs : DA) : DI := fun ρ => (fs ρ).bind fun p => (frzA p.1).bind fun ds => match ds with
  | [.list a] => some (enumD 0 a, p.2)
  | [.tuple a] => some (enumD 0 a, p.2)
  | _ => none
section
variable {X : Cx} {pos p : Pos} {e : Expr} {elts : List Expr} {kk : Nat} {tpos : Pos} {fs : DA}
theorem pxi_enu (hm : X.mg "enumerate" = none) (ha : PXA X [e] fs) (hg : Gl X "enumerate" := by rfl) (hs : starEach [e] X.env = [(false, eval e X.env)] := by rfl) : PXI X (.Tuple elts kk tpos) (.Call (.Name "enumerate" p) [e] [] pos) (enuI fs) := by
  refine PI.mono (pi_enu hg hm ha hs) ?_
  rintro σ H R ⟨W, ρ, φ, ds, ρ', s, hf, k⟩
  unfold enuI at hf
  obtain ⟨⟨rs, ρ1⟩, e1, hf⟩ := Option.bind_eq_some_iff.mp hf
  obtain ⟨es, e2, hf⟩ := Option.bind_eq_some_iff.mp hf
  refine ⟨W, ρ, φ, rs, ρ1, s, e1, fun vs W1 H1 φ1 l o => ?_⟩
  obtain ⟨o2, fz⟩ := o.fix e2
  split at hf
  · cases hf
    obtain ⟨v, rfl, f1⟩ := fz.one'
    obtain ⟨a, xs, rfl, w1, h1, g1⟩ := f1.list_inv
    exact ⟨a, xs, rfl, .inl ⟨.of h1, k _ _ H1 φ1 o2 (walks_enum (fun _ _ x => x.sq w1 h1) g1)⟩⟩
  · cases hf
    obtain ⟨v, rfl, f1⟩ := fz.one'
    obtain ⟨a, xs, rfl, h1, g1⟩ := f1.tup_inv
    exact ⟨a, xs, rfl, .inr ⟨h1, k _ _ H1 φ1 o2 (walks_enumT h1 g1)⟩⟩
  · cases hf
end
/-! evaluation -/
def enuK : List D × Rho → Option (List D × Rho) := fun p => match p.1 with
  | [.list a] => some (enumD 0 a, p.2)
  | [.tuple a] => some (enumD 0 a, p.2)
  | _ => none
section
variable {ρ : Rho} {fs : DA} {ds : List D}
@[simp] theorem ap_enuI : enuI fs ρ = (fs ρ).bind fun p => (frzA p.1).bind fun ds => enuK (ds, p.2) := rfl
@[simp] theorem enuK_l : enuK ([.list ds], ρ) = some (enumD 0 ds, ρ) := rfl
@[simp] theorem enuK_t : enuK ([.tuple ds], ρ) = some (enumD 0 ds, ρ) := rfl
end
end
end DL

namespace DL
open PySem PySem.Spec PyProof.Rows L2
noncomputable section

/-! ### for x in (l1, l2, ..): .., the own lists l1, l2, .. changed under the name x -/
section
variable {K : PySem.W.Frag} {W W' : Addr → Prop} {H H' : Hp} {σ : L2.St} {ρ : Rho} {φ : Fp} {i j : Nat} {vl : Vl}
def mvF (φ : Fp) (i j : Nat) : Fp := fun k => if k = j then φ i else if k = i then [] else φ k
theorem mvF_in {a : Addr} (h : InF (mvF φ i j) a) : InF φ a := by
  obtain ⟨k, h⟩ := h
  unfold mvF at h
  split at h
  · exact ⟨_, h⟩
  · split at h
    · cases h
    · exact ⟨_, h⟩
theorem mvF_idx {a : Addr} {k : Nat} (h : a ∈ mvF φ i j k) : (k = j ∧ a ∈ φ i) ∨ (k ≠ j ∧ k ≠ i ∧ a ∈ φ k) := by
  unfold mvF at h
  split at h
  · rename_i q; exact .inl ⟨q, h⟩
  · rename_i q
    split at h
    · cases h
    · rename_i q2; exact .inr ⟨q, q2, h⟩
/-- the same object under another name -/
theorem SS.move (s : SS K W H σ ρ φ) (hi : ρ[i]? = some (some vl)) (e : σ[j]? = σ[i]?) (hj : j < ρ.length) (ij : i ≠ j) : SS K W H σ ((ρ.set i none).set j (some vl)) (mvF φ i j) where
  len := by rw [List.length_set, List.length_set, s.len]
  sl := fun k w q => by
    by_cases kj : k = j
    · subst kj
      rw [List.getElem?_set_self (by rw [List.length_set]; exact hj)] at q
      cases q
      obtain ⟨v, h1, h2⟩ := s.sl i vl hi
      refine ⟨v, e.trans h1, ?_⟩
      unfold mvF
      rw [if_pos rfl]
      exact h2
    · rw [List.getElem?_set_ne (Ne.symm kj)] at q
      by_cases ki : k = i
      · subst ki
        have hl : k < ρ.length := (List.getElem?_eq_some_iff.mp hi).1
        rw [List.getElem?_set_self hl] at q
        cases q
      · rw [List.getElem?_set_ne (Ne.symm ki)] at q
        obtain ⟨v, h1, h2⟩ := s.sl k w q
        refine ⟨v, h1, ?_⟩
        unfold mvF
        rw [if_neg kj, if_neg ki]
        exact h2
  em := fun k q => by
    unfold mvF
    by_cases kj : k = j
    · subst kj
      exact absurd (List.getElem?_set_self (by rw [List.length_set]; exact hj)) (q vl)
    · rw [if_neg kj]
      by_cases ki : k = i
      · rw [if_pos ki]
      · rw [if_neg ki]
        refine s.em k fun w z => q w ?_
        rw [List.getElem?_set_ne (Ne.symm kj), List.getElem?_set_ne (Ne.symm ki)]
        exact z
  dj := fun a b x ha hb => by
    rcases mvF_idx ha with ⟨a1, a2⟩ | ⟨a1, a2, a3⟩ <;> rcases mvF_idx hb with ⟨b1, b2⟩ | ⟨b1, b2, b3⟩
    · rw [a1, b1]
    · exact absurd (s.dj _ _ x a2 b3).symm b2
    · exact absurd (s.dj _ _ x a3 b2) a2
    · exact s.dj _ _ x a3 b3
  wf := s.wf
/-- a name bound to what is told nowhere -/
theorem SS.forget (s : SS K W H σ ρ φ) (y : Option V) : SS K W H (σ.set j y) (ρ.set j none) (fun k => if k = j then [] else φ k) where
  len := by rw [List.length_set, List.length_set, s.len]
  sl := fun k w q => by
    by_cases kj : k = j
    · subst kj
      by_cases hl : k < ρ.length
      · rw [List.getElem?_set_self hl] at q
        cases q
      · rw [List.getElem?_eq_none (by rw [List.length_set]; omega)] at q
        cases q
    · rw [List.getElem?_set_ne (Ne.symm kj)] at q
      obtain ⟨v, h1, h2⟩ := s.sl k w q
      refine ⟨v, ?_, ?_⟩
      · rw [List.getElem?_set_ne (Ne.symm kj)]; exact h1
      · rw [if_neg kj]; exact h2
  em := fun k q => by
    by_cases kj : k = j
    · show (if k = j then [] else φ k) = []
      rw [if_pos kj]
    · show (if k = j then [] else φ k) = []
      rw [if_neg kj]
      refine s.em k fun w z => q w ?_
      rw [List.getElem?_set_ne (Ne.symm kj)]
      exact z
  dj := fun a b x ha hb => by
    have f : ∀ k, x ∈ (if k = j then ([] : List Addr) else φ k) → x ∈ φ k := fun k h => by
      split at h
      · cases h
      · exact h
    exact s.dj a b x (f a ha) (f b hb)
  wf := s.wf
theorem forget_in {a : Addr} (h : InF (fun k => if k = j then [] else φ k) a) : InF φ a := by
  obtain ⟨k, h⟩ := h
  refine ⟨k, ?_⟩
  dsimp only at h
  split at h
  · cases h
  · exact h
end
def pks : List Vl → Option (List Nat)
  | [] => some []
  | .pk i :: r => (pks r).bind fun is => some (i :: is)
  | _ :: _ => none
def stepA (v i : Nat) (t : DS) : Fl → Option Fl
  | .nx ρ2 => (at? ρ2 v).bind fun vl2 => if i < ρ2.length then t ((ρ2.set v none).set i (some vl2)) else none
  | _ => none
def goA (v : Nat) (fx : List Nat) (fb : DS) : List Nat → DS
  | [], ρ => some (.nx ρ)
  | i :: is, ρ => if i ≠ v ∧ v < ρ.length ∧ fx.contains i = true then (at? ρ i).bind fun vl => (fb ((ρ.set i none).set v (some vl))).bind (stepA v i (goA v fx fb is)) else none
def forA (v : Nat) (fx : List Nat) (fs : DA) (fb : DS) : DS := fun ρ => (fs ρ).bind fun p => (pks p.1).bind fun is => if p.1.length ≤ 1000 ∧ (is.all fun i => fx.contains i) = true then goA v fx fb is p.2 else none
section
variable {K : PySem.W.Frag} {W : Addr → Prop} {H : Hp} {σ : L2.St}
theorem pks_get : ∀ {vs : List V} {rs : List Vl} {l : List Addr} {is : List Nat}, RXs K W H σ vs rs l → pks rs = some is → vs.length = is.length ∧ ∀ (k i : Nat), is[k]? = some i → ∃ x, vs[k]? = some x ∧ σ[i]? = some (some x)
  | _, _, _, _, .nil, e => by cases e; exact ⟨rfl, fun k i q => by simp at q⟩
  | _, _, _, _, .cons (r := r) h t d, e => by
    cases r with
    | pk i0 =>
      unfold pks at e
      obtain ⟨is, e1, e2⟩ := Option.bind_eq_some_iff.mp e
      cases e2
      obtain ⟨h1, h2⟩ := pks_get t e1
      refine ⟨by rw [List.length_cons, List.length_cons, h1], fun k i q => ?_⟩
      cases k with
      | zero =>
        rw [List.getElem?_cons_zero] at q
        cases q
        cases h with
        | rv h => cases h
        | pk h => exact ⟨_, rfl, h⟩
      | succ k =>
        rw [List.getElem?_cons_succ] at q
        exact h2 k i q
    | _ => cases e
end
section
variable {X : Cx} {pos p tpos : Pos} {es : List Expr} {x : Str} {fs : DA} {sts : List Stmt} {fb : DS} {fx fx' : List Nat} {x1 : Bool}
theorem px_forA (v : Nat) {x1} (hp : PassesOwn (model X.prog X.w) X.A X.env X.xe) (hc : X.calm = true) (hN : X.N.Nodup) (ha : PXA X es fs) (hb : PXSs X fx' sts fb) (hi : X.N[v]? = some x := by rfl)
    (hx : Loc X.env.scope x := by first | exact Or.inl rfl | exact Or.inr rfl) (hf : X.fn x = true ∨ X.env.scope.names.lookup x = some .local := by first | exact .inl rfl | exact .inr rfl | assumption)
    (hfx : ∀ i ∈ fx, i ∈ fx' ∧ i ≠ v := by decide) (hv : v ∈ fx' := by decide) (hs : ∀ x, foldedSetIterable (.Tuple es x1 tpos) X.env x = pure x := by intro _; rfl) : PXS X fx (.For (.Name x p) (.Tuple es x1 tpos) sts [] pos) (forA v fx' fs fb) := by
  refine PS.mono (ps_for hp hc (pi_tup (pe_tup ha)) (pg_name hN hi hx hf) hb hs) ?_
  rintro E σ H ⟨W, ρ, φ, fl, s, hfn, k⟩
  unfold forA at hfn
  obtain ⟨⟨rs, ρ1⟩, e1, hfn⟩ := Option.bind_eq_some_iff.mp hfn
  obtain ⟨is, e2, hfn⟩ := Option.bind_eq_some_iff.mp hfn
  split at hfn
  rotate_left
  · cases hfn
  rename_i hz
  obtain ⟨hz, hall⟩ := hz
  refine ⟨W, ρ, φ, rs, ρ1, s, e1, fun vs W1 H1 φ1 l o => ?_⟩
  obtain ⟨hlen, g⟩ := pks_get o.rx e2
  refine ⟨small_size (by rw [o.rx.length]; exact hz), fun q np => ⟨q, rfl, ⟨vs, .of upd_same⟩, ?_⟩⟩
  have up : ∀ a ob, H1 a = some ob → upd H1 q (.tup vs) a = some ob := fun a ob e => by rw [upd_ne (ne_of_none e np)]; exact e
  have s1 : SS X.K W1 (upd H1 q (.tup vs)) σ ρ1 φ1 := SS.grow o.ss up
  have o1 : OutS X.K W H (InF φ) σ fx ρ1 σ W1 (upd H1 q (.tup vs)) φ1 := ⟨o.ev.trans o.sub (Ev.grow (fp := InF φ1) up), s1, o.sub, fun _ _ => rfl⟩
  refine ⟨fun i m σ' H' => m + i = is.length ∧ ∃ W' ρ' φ', SS X.K W' H' σ' ρ' φ' ∧ Wxt W1 (upd H1 q (.tup vs)) W' H' ∧ (∀ j ∈ is, j ≠ v → σ'[j]? = σ[j]?) ∧ Want X.K W' H' (InF φ') σ' fx E fl ∧ goA v fx' fb (is.drop i) ρ' = some fl,
    ⟨is.length, rfl, W1, ρ1, φ1, s1, Wxt.refl .., fun _ _ _ => rfl, k.after s.hfp o1, hfn⟩, ?_⟩
  rintro i m σ' H' ⟨hm, W', ρ', φ', s', x', hσ, k', hf'⟩
  have sq : SqT X.K H' q vs := SqT.xt x' (.of upd_same)
  by_cases hil : i < is.length
  · rw [List.drop_eq_getElem_cons hil] at hf'
    have gi := g i is[i] (List.getElem?_eq_getElem hil)
    have hmem : is[i] ∈ is := List.getElem_mem hil
    generalize is[i] = ii at hf' gi hmem
    obtain ⟨y0, gy, gσ⟩ := gi
    unfold goA at hf'
    split at hf'
    rotate_left
    · cases hf'
    rename_i hg
    obtain ⟨hiv, hvl, hct⟩ := hg
    obtain ⟨vl, e3, hf'⟩ := Option.bind_eq_some_iff.mp hf'
    obtain ⟨flb, e4, hf'⟩ := Option.bind_eq_some_iff.mp hf'
    cases flb with
    | nx ρ2 =>
      unfold stepA at hf'
      obtain ⟨vl2, e5, hf'⟩ := Option.bind_eq_some_iff.mp hf'
      split at hf'
      rotate_left
      · cases hf'
      rename_i hil2
      have a3 := at?_some e3
      have a5 := at?_some e5
      refine .inr ⟨⟨vs, y0, sq, gy⟩, fun σ'' H'' => m - 1 + (i + 1) = is.length ∧ ∃ W' ρ' φ', SS X.K W' H'' σ'' ρ' φ' ∧ Wxt W1 (upd H1 q (.tup vs)) W' H'' ∧ (∀ j ∈ is, j ≠ v → σ''[j]? = σ[j]?) ∧ Want X.K W' H'' (InF φ') σ'' fx E fl ∧ goA v fx' fb (is.drop (i + 1)) ρ' = some fl, fun σ'' H'' h => ⟨m - 1, by omega, h⟩, fun y H2 hy => ?_⟩
      obtain ⟨rfl, hy⟩ := hy
      have ey := hy vs sq
      rw [gy] at ey
      cases ey
      have hσi : σ'[ii]? = some (some y0) := (hσ ii hmem hiv).trans gσ
      have hvσ : v < σ'.length := by rw [s'.len]; exact hvl
      -- the name stands for the list
      have sA := s'.forget (j := v) (some y0)
      have hA : (ρ'.set v none)[ii]? = some (some vl) := by rw [List.getElem?_set_ne (Ne.symm hiv)]; exact a3
      have sB := sA.move (i := ii) (j := v) hA (by rw [List.getElem?_set_self hvσ, List.getElem?_set_ne (Ne.symm hiv), hσi]) (by rw [List.length_set]; exact hvl) hiv
      have eB : ((ρ'.set v none).set ii none).set v (some vl) = (ρ'.set ii none).set v (some vl) := by
        rw [List.set_comm none none (Ne.symm hiv), List.set_set]
      rw [eB] at sB
      have inB : ∀ a, InF (mvF (fun k => if k = v then [] else φ' k) ii v) a → InF φ' a := fun a h => forget_in (mvF_in h)
      refine ⟨W', _, _, .nx ρ2, sB, e4, fun σ3 W3 H4 φ3 o3 => ?_⟩
      have c1 : σ3[v]? = some (some y0) := (o3.fx v hv).trans (List.getElem?_set_self hvσ)
      have c2 : σ3[ii]? = some (some y0) := by
        rw [o3.fx ii (by simpa using hct), List.getElem?_set_ne (Ne.symm hiv)]
        exact hσi
      have sC := o3.ss.move (i := v) (j := ii) a5 (c2.trans c1.symm) hil2 (Ne.symm hiv)
      have o4 : OutS X.K W' H2 (InF φ') σ' fx ((ρ2.set v none).set ii (some vl2)) σ3 W3 H4 (mvF φ3 v ii) :=
        ⟨o3.ev.mono fun a h => .inl (inB a h), sC, fun a h => (o3.sub a (mvF_in h)).imp (inB a) id, fun j hj => by
          obtain ⟨j1, j2⟩ := hfx j hj
          rw [o3.fx j j1, List.getElem?_set_ne (Ne.symm j2)]⟩
      refine ⟨by omega, W3, _, _, sC, x'.trans (o4.ev.xt s'.notW), fun j hj hjv => ?_, k'.after s'.hfp o4, hf'⟩
      by_cases jj : j = ii
      · rw [jj, c2, gσ]
      · have jf : j ∈ fx' := by simpa using List.all_eq_true.mp hall j hj
        rw [o3.fx j jf, List.getElem?_set_ne (Ne.symm hjv)]
        exact hσ j hj hjv
    | _ => cases hf'
  · have e : is.drop i = [] := List.drop_eq_nil_of_le (by omega)
    rw [e] at hf'
    cases hf'
    exact .inl ⟨⟨vs, sq, by omega⟩, k' σ' W' H' φ' (.refl s')⟩
/-- a, b, c = .. -/
theorem px_par3 (i j l : Nat) {y z : Str} {a b c : Expr} {px py pz pt pos : Pos} {kt k2 pt2} (hc : X.calm = true) (hN : X.N.Nodup) (ha : PXA X [a, b, c] fs) (hi : X.N[i]? = some x := by rfl) (hj : X.N[j]? = some y := by rfl) (hl : X.N[l]? = some z := by rfl)
    (hij : i ≠ j := by decide) (hil : i ≠ l := by decide) (hjl : j ≠ l := by decide)
    (hx : X.env.scope.names.lookup x = some .local := by rfl) (hy : X.env.scope.names.lookup y = some .local := by rfl) (hz : X.env.scope.names.lookup z = some .local := by rfl) (hfx : ∀ k ∈ fx, k ∉ [i, j, l] := by decide)
    (hw : swappedStores [.Tuple [.Name x px, .Name y py, .Name z pz] kt pt] (.Tuple [a, b, c] k2 pt2) X.env = pure (some [x, y, z]) := by rfl)
    (hs : swapsWithSole [.Tuple [.Name x px, .Name y py, .Name z pz] kt pt] (.Tuple [a, b, c] k2 pt2) pos.line X.env = pure false := by rfl) :
    PXS X fx (.Assign [.Tuple [.Name x px, .Name y py, .Name z pz] kt pt] (.Tuple [a, b, c] k2 pt2) pos) (parS fs [nameT i, nameT j, nameT l]) := by
  refine PS.mono (ps_par3 hc hN hi hj hl hij hil hjl hx hy hz ha hw hs) ?_
  intro E σ H h
  obtain ⟨W, ρ, φ, rs, ρ1, s, e1, k⟩ := tXA_par [i, j, l] hfx h
  refine ⟨W, ρ, φ, rs, ρ1, s, e1, fun vs W1 H1 φ1 lf o => ?_⟩
  obtain ⟨hl, q⟩ := k vs W1 H1 φ1 lf o
  match vs, hl with
  | [v, w, u], _ => exact ⟨v, w, u, rfl, q⟩
end
/-! evaluation -/
section
variable {v i : Nat} {fx is : List Nat} {fs : DA} {fb : DS} {ρ : Rho} {rs : List Vl}
@[simp] theorem pks_nil : pks [] = some [] := rfl
@[simp] theorem pks_cons : pks (.pk i :: rs) = (pks rs).bind fun is => some (i :: is) := rfl
@[simp] theorem goA_nil : goA v fx fb [] ρ = some (.nx ρ) := rfl
@[simp] theorem goA_cons : goA v fx fb (i :: is) ρ = if i ≠ v ∧ v < ρ.length ∧ fx.contains i = true then (atK ρ[i]?).bind fun vl => (fb ((ρ.set i none).set v (some vl))).bind (stepA v i (goA v fx fb is)) else none := by rw [goA, at?_ap']
@[simp] theorem stepA_nx {ρ2 : Rho} {t : DS} : stepA v i t (.nx ρ2) = (atK ρ2[v]?).bind fun vl2 => if i < ρ2.length then t ((ρ2.set v none).set i (some vl2)) else none := by rw [stepA, at?_ap']
@[simp] theorem ap_forA : forA v fx fs fb ρ = (fs ρ).bind fun p => (pks p.1).bind fun is => if p.1.length ≤ 1000 ∧ (is.all fun i => fx.contains i) = true then goA v fx fb is p.2 else none := rfl
end
end
end DL

namespace DL
open PySem PySem.Spec PyProof.Rows L2
noncomputable section
/-! ### x = y, the own list under the new name -/
def mvS (j i : Nat) : DS := fun ρ => if i ≠ j ∧ i < ρ.length then (at? ρ j).bind fun vl => some (.nx ((ρ.set j none).set i (some vl))) else none
section
variable {X : Cx} {pos p : Pos} {x y : Str} {fx : List Nat}
theorem px_mv (j i : Nat) {pos' : Pos} (hN : X.N.Nodup) (hj : X.N[j]? = some y := by rfl) (hv : Vis X.env.scope y := by first | exact Or.inl rfl | exact Or.inr (Or.inl rfl) | exact Or.inr (Or.inr rfl)) (hd : (y == ("__debug__" : Str)) = false := by decide)
    (hcd : (y == ("__classdict__" : Str)) = false := by decide) (hi : X.N[i]? = some x := by rfl) (hl : Loc X.env.scope x := by first | exact Or.inl rfl | exact Or.inr rfl) (hx : ∀ k ∈ fx, k ≠ i := by decide)
    (hs : swapsWith (.Name y p) (some (.Name x pos')) pos.line X.env = pure false := by rfl) (hf : X.fn x = true ∨ X.env.scope.names.lookup x = some .local := by first | exact .inl rfl | exact .inr rfl | assumption) : PXS X fx (.Assign [.Name x pos'] (.Name y p) pos) (mvS j i) := by
  refine PS.mono (ps_set hN hi hl (pe_var hj hv hd hcd) hs hf) ?_
  rintro E σ H ⟨W, ρ, φ, fl, s, hfn, k⟩
  unfold mvS at hfn
  split at hfn
  rotate_left
  · cases hfn
  rename_i hz
  obtain ⟨ij, il⟩ := hz
  obtain ⟨vl, e1, hfn⟩ := Option.bind_eq_some_iff.mp hfn
  cases hfn
  have a1 := at?_some e1
  obtain ⟨v, e2, _⟩ := s.sl j vl a1
  refine ⟨v, e2, ?_⟩
  have iσ : i < σ.length := by rw [s.len]; exact il
  have sA := s.forget (j := i) (some v)
  have hA : (ρ.set i none)[j]? = some (some vl) := by rw [List.getElem?_set_ne ij]; exact a1
  have sB := sA.move (i := j) (j := i) hA (by rw [List.getElem?_set_self iσ, List.getElem?_set_ne ij, e2]) (by rw [List.length_set]; exact il) (Ne.symm ij)
  have eB : ((ρ.set i none).set j none).set i (some vl) = (ρ.set j none).set i (some vl) := by
    rw [List.set_comm none none ij, List.set_set]
  rw [eB] at sB
  refine k _ W H _ ⟨Ev.refl .., sB, fun a h => .inl (forget_in (mvF_in h)), fun q hq => ?_⟩
  rw [List.getElem?_set_ne (Ne.symm (hx q hq))]
end
section
variable {i j : Nat} {ρ : Rho}
@[simp] theorem ap_mvS : mvS j i ρ = if i ≠ j ∧ i < ρ.length then (atK ρ[j]?).bind fun vl => some (.nx ((ρ.set j none).set i (some vl))) else none := by unfold mvS; rw [at?_ap']
end
end
end DL

namespace DL
open PySem PySem.Spec PyProof.Rows L2
noncomputable section
/-! tuples that tuple(list) made: known to have no names of their own, so their methods can be called -/
def rTupX (K : PySem.W.Frag) : List V → Hp → VK → Prop := fun vs H Q => ∃ p ys, vs = [.ref p] ∧ SqL K H p ys ∧ ∀ l (o : Obj), H l = none → o.cls = .type "tuple" → o.dict = none → Q (.ref l) (upd H l (.frz o (.tup ys)))
theorem call_tupleX {X : Cx} : CallR X (.type "tuple") (rTupX X.K) := by
  intro pins s σ H vs us Q inv r h
  obtain ⟨p, ys, rfl, sq, q⟩ := h
  obtain ⟨u, rfl, ru⟩ := vals1 r
  cases ru
  obtain ⟨ws, vw, pw, zw⟩ := inv.list sq
  have hw := vw.length
  refine call_tuple_list pw.isList (fun g kg => ?_) (by simp only [List.size_toArray]; omega)
  have inv1 : Inv X pins σ H { s with heap := g } := inv.kept (t' := s.toks) kg
  have nw : g.get? g.objs.size = none := Heap.get?_none_of_le (Nat.le_refl _)
  refine ⟨.ref g.objs.size, upd H g.objs.size (.frz { cls := .type "tuple", data := .seq ws.toArray } (.tup ys)), inv1.laid (t' := s.toks) (o := .frz { cls := .type "tuple", data := .seq ws.toArray } (.tup ys)) (fun b ob e => Heap.get?_push_of_some _ e) (Nat.le_refl _) ⟨Heap.get?_push_size _ rfl, zw, ws, vw, IsTup.new _ _⟩, rfl, q _ _ (inv1.hok.fresh (Nat.le_refl _)) rfl rfl⟩
theorem new_tp {K W H} {Q : VK} {xs ds} {fp : Addr → Prop} (f : FzA K W H xs ds) (wf : ∀ a, W a → ∃ o, H a = some o) (k : ∀ v W' H' l', Ev fp W H W' H' → (∀ a, W' a → ∃ o, H' a = some o) → RV K W' H' v (.tp ds) l' → (∀ a ∈ l', fp a ∨ H a = none) → Q v H') :
    ∀ p (o : Obj), H p = none → o.cls = .type "tuple" → o.dict = none → Q (.ref p) (upd H p (.frz o (.tup xs))) := fun p o np hc hd => by
  have up : ∀ a ob, H a = some ob → upd H p (.frz o (.tup xs)) a = some ob := fun a ob e => by rw [upd_ne (ne_of_none e np)]; exact e
  refine k (.ref p) W _ [] (Ev.grow up) (fun a w => ?_) (.tp ⟨o, upd_same, hc, hd⟩ (f.xt ⟨fun _ h => h, fun a ob e _ => up a ob e⟩)) fun a h => nomatch h
  obtain ⟨ob, e⟩ := wf a w
  exact ⟨ob, up a ob e⟩
def tupleX : Rho → List Vl → Option Vl := fun ρ rs => match rs with
  | [r] => (itm ρ r).bind fun p => if p.1 = true then some (.tp p.2) else none
  | _ => none
theorem vop_tupleX {K : PySem.W.Frag} : VOp K (rTupX K) tupleX := by
  intro W H σ ρ φ vs rs l res Q s rx dj e k
  unfold tupleX at e
  split at e
  · rename_i r
    obtain ⟨⟨b, ds⟩, e1, e⟩ := Option.bind_eq_some_iff.mp e
    split at e
    · rename_i hb
      cases e
      cases hb
      obtain ⟨v, l1, rfl, h1⟩ := rx.one'
      obtain ⟨a, xs, rfl, q1, f1⟩ := h1.itm s e1
      exact ⟨a, xs, rfl, q1, new_tp f1 s.wf k⟩
    · cases e
  · cases e
def tBMT (r : V → List V → Hp → VK → Prop) (to : TE) (t : TA) : TE := fun σ H Q => to σ H fun x H1 => (∃ a xs, x = .ref a ∧ Ktp H1 a xs) ∧ t σ H1 fun ys H2 => r x ys H2 Q
section
variable {X : Cx} {o e : Expr} {es : List Expr} {to : TE} {t : TA} {name : Str} {apos cpos : Pos} {id : String} {r : V → List V → Hp → VK → Prop} {f g : DE}
theorem pe_bmT (slot : Slot "tuple" name id) (hty : typeOf (.builtin id) = pure (.type "method_descriptor")) (hm : MtR X id r) (ho : PE X o to) (ha : PA X [e] t)
    (hbase : attributeBase o name X.env (eval o X.env) = eval o X.env)
    (hfew : ((backTo cpos (starEach [e] X.env)).all (fun x => !x.1) && (backToKw cpos (keywordEach [] X.env)).all (fun x => x.1.isSome)
      && decide ([e].length + ([] : List Keyword).length + (if ([] : List Keyword).isEmpty then 0 else 1) < 30)) = true)
    (hline : (apos.endLine == cpos.line) = true) (hs : starEach [e] X.env = (false, eval e X.env) :: starEach [] X.env) (hplain : (backTo cpos (starEach [] X.env)).any (·.1) = false) :
    PE X (.Call (.Attribute o name apos) [e] [] cpos) (tBMT r to t) := by
  constructor
  intro pins s σ H Q inv h
  refine wpAny_Call_method_late hbase hfew hline rfl (thn (ho.run pins s σ H _ inv h) ?_)
  rintro v s1 ⟨x, H1, inv1, r1, ⟨a, xs, rfl, ob, hk, hc, hd⟩, q1⟩
  cases r1
  have hg : s1.heap.get? a = some ob := (show ObjOk X.prog X.w H1 s1.heap a (.frz ob (.tup xs)) from inv1.hok a _ hk).1
  refine ⟨"tuple", id, PySem.F.plainAttrs_tuple, slot, hty, ⟨ob, hg, hc⟩, fun b eb => ?_, ?_⟩
  · cases eb
    exact ⟨ob, hg, hd⟩
  · have hA := ha.run cpos pins s1 σ H1 _ inv1 q1
    rw [hs] at hA ⊢
    refine Calls.callWith_builtin ?_ (Calls.evalArgs_plain ?_)
    · show (false || (backTo cpos (starEach [] X.env)).any (·.1)) = false
      rw [hplain]
      rfl
    · refine thn hA ?_
      rintro us s2 ⟨ys, H2, inv2, r2, q2⟩
      exact hm pins s2 σ H2 (.ref a) ys (.ref a) us Q inv2 (show L2.RelV (.ref a) (.ref a) from rfl) r2 q2
def dmT (G : List D → D → Option D) (f g : DE) : DE := fun ρ => (f ρ).bind fun p => match p.1 with
  | .tp xs => (g p.2).bind fun q => (curR q.2 q.1).bind fun d => if (SeqAt.shaped (.tuple xs) && SeqAt.shaped d) = true then (G xs d).bind fun z => some (.fz z, q.2) else none
  | _ => none
theorem dm_cntT {K : PySem.W.Frag} {H : Hp} {x y : V} {xs : List D} {d z : D} {Q : VK} (hx : Ct K H x (.tuple xs)) (hy : CtR K H y d) (s1 : SeqAt.shaped (.tuple xs) = true) (s2 : SeqAt.shaped d = true) (e : cntG xs d = some z) (k : ∀ v, Sc v z → Q v H) : rCntD K false x [y] H Q := by
  cases e
  have h := hx.dp (.inl s1)
  cases hx with
  | tup h1 h2 => exact ⟨_, y, d, xs, rfl, rfl, by rw [if_neg (by decide)]; exact h, hy.dp s2, s1, s2, k _ (.int _)⟩
theorem px_dmT (hu : X.A.units + 65 < cLine) (ho : PX X o f) (ha : PX X e g)
    (hbase : attributeBase o "count" X.env (eval o X.env) = eval o X.env := by rfl)
    (hfew : ((backTo cpos (starEach [e] X.env)).all (fun x => !x.1) && (backToKw cpos (keywordEach [] X.env)).all (fun x => x.1.isSome)
      && decide ([e].length + ([] : List Keyword).length + (if ([] : List Keyword).isEmpty then 0 else 1) < 30)) = true := by rfl)
    (hline : (apos.endLine == cpos.line) = true := by rfl) (hs : starEach [e] X.env = (false, eval e X.env) :: starEach [] X.env := by rfl) (hplain : (backTo cpos (starEach [] X.env)).any (·.1) = false := by rfl) :
    PX X (.Call (.Attribute o "count" apos) [e] [] cpos) (dmT cntG f g) := by
  refine PE.mono (pe_bmT PySem.F.slot_tuple_count PySem.F.type_tuple_count (mt_cntT hu) ho (pa_cons ha pa_nil hs) hbase hfew hline hs hplain) ?_
  rintro σ H Q ⟨W, ρ, φ, res, ρ', s, hf, k⟩
  unfold dmT at hf
  obtain ⟨⟨x, ρ1⟩, e1, hf⟩ := Option.bind_eq_some_iff.mp hf
  cases x with
  | tp xs =>
    simp only at hf
    obtain ⟨⟨y, ρ2⟩, e3, hf⟩ := Option.bind_eq_some_iff.mp hf
    obtain ⟨d, e4, hf⟩ := Option.bind_eq_some_iff.mp hf
    split at hf
    · rename_i hq
      obtain ⟨z, e5, hf⟩ := Option.bind_eq_some_iff.mp hf
      cases hf
      obtain ⟨h1, h2⟩ := Bool.and_eq_true_iff.mp hq
      refine ⟨W, ρ, φ, _, ρ1, s, e1, fun v W1 H1 φ1 l1 o1 => ?_⟩
      refine ⟨?_, W1, ρ1, φ1, y, ρ2, o1.ss, e3, fun v2 W2 H2 φ2 l2 o2 => ?_⟩
      · cases o1.rx with
        | rv hr => cases hr with
          | tp a b => exact ⟨_, _, rfl, a⟩
      have o := Out.two s o1 o2
      obtain ⟨v', u', la, lb, ev, c1, c2⟩ := o.rx.two
      cases ev
      have hx : Ct X.K H2 v (.tuple xs) := by
        cases c1 with
        | rv hr => exact RV.ct hr rfl
      exact dm_cntT hx (c2.ctR o.ss e4) h1 h2 e5 fun w hw => k w W2 H2 φ2 [] ⟨o.ev, o.ss, .rv (.fz hw.fz), (fun a h => nomatch h), o.sub, (fun a h => nomatch h)⟩
    · cases hf
  | _ => cases hf
end
/-! evaluation -/
section
variable {ρ : Rho} {f g : DE} {G : List D → D → Option D} {xs ds : List D} {d : D} {i : Nat}
@[simp] theorem tupleX_ow : tupleX ρ [.ow ds] = some (.tp ds) := rfl
@[simp] theorem tupleX_l : tupleX ρ [.fz (.list ds)] = some (.tp ds) := rfl
def dmTK (G : List D → D → Option D) (g : DE) : Vl × Rho → Option (Vl × Rho) := fun p => match p.1 with
  | .tp xs => (g p.2).bind fun q => (curR q.2 q.1).bind fun d => if (SeqAt.shaped (.tuple xs) && SeqAt.shaped d) = true then (G xs d).bind fun z => some (.fz z, q.2) else none
  | _ => none
@[simp] theorem ap_dmT : dmT G f g ρ = (f ρ).bind (dmTK G g) := rfl
@[simp] theorem dmTK_tp : dmTK G g (.tp xs, ρ) = (g ρ).bind fun q => (curR q.2 q.1).bind fun d => if (SeqAt.shaped (.tuple xs) && SeqAt.shaped d) = true then (G xs d).bind fun z => some (.fz z, q.2) else none := rfl
@[simp] theorem fnK_tp {fx : List Nat} {n : Nat} : fnK fx n (.rt (.tp ds) ρ) = some (.tp ds, maskR fx n ρ) := rfl
@[simp] theorem curR_tp : curR ρ (.tp ds) = some (.tuple ds) := rfl
@[simp] theorem notPk_tp : notPk (.tp ds) = true := rfl
@[simp] theorem bindA_tpT {io : List Bool} {rs : List Vl} : bindA (true :: io) (.tp ds :: rs) ρ = (bindA io rs ρ).bind fun q => some (some (.tp ds) :: q.1, q.2) := rfl
@[simp] theorem bindA_tpF {io : List Bool} {rs : List Vl} : bindA (false :: io) (.tp ds :: rs) ρ = (bindA io rs ρ).bind fun q => some (some (.fz (.tuple ds)) :: q.1, q.2) := rfl
@[simp] theorem backA_tp {b : Bool} {io : List Bool} {o : Option Vl} {rs : List Vl} {os : Rho} : backA (b :: io) (.tp ds :: rs) (o :: os) ρ = backA io rs os ρ := by cases b <;> rfl
end
end
end DL

namespace DL
open PySem PySem.Spec PyProof.Rows L2
noncomputable section
/-! the sum of a tuple of ints -/
theorem sum_tupG {prog : Program} {w : World} {A : Around} {E : Value → Shared → Prop} {s : Shared} {a : Addr} {ps : Array (Int × Tok)} {Q : Value → Shared → Prop} (hh : A.handled = none) (ht : s.heap.IsTuple a (intItems ps))
    (h : ∀ g tk u, (∀ b o, s.heap.get? b = some o → g.get? b = some o) → Q (.int (preSum (numAt ps) ps.size) u) { s with heap := g, toks := tk }) :
    wpAny (model prog w) A (call (.builtin "sum") [.ref a]) Q E s := by
  have lt : a < s.heap.objs.size := by obtain ⟨_, e, _⟩ := ht; exact Heap.lt_size e
  have sz : ∀ o : Obj, (s.heap.push o).objs.size = s.heap.objs.size + 1 := fun o => Heap.size_push ..
  refine call_sum_walkG (wpAny_pyIter_tuple ht ?_)
  refine ⟨_, [_, a], [_], _, _, _, numAt ps, rfl, Walks.tuple (A := A.in1) hh _ a (Nat.ne_of_lt lt) (intItems ps), ⟨⟨_, Heap.get?_push_size _ rfl, rfl, rfl⟩, ht.push _⟩, fun c hc => ?_, (fun _ _ => intItems_at), fun g tk u hk => ?_⟩
  · show c < (s.heap.push _).objs.size
    rw [sz]
    rcases List.mem_cons.mp hc with rfl | hc
    · exact Nat.lt_succ_self _
    · rcases List.mem_cons.mp hc with rfl | hc
      · exact Nat.lt_succ_of_lt lt
      · cases hc
  · have old : ∀ c o, s.heap.get? c = some o → g.get? c = some o := fun c o e => by
      refine hk c o (fun hm => ?_) (Heap.get?_push_of_some _ e)
      rcases List.mem_cons.mp hm with e1 | hm
      · have := Heap.lt_size e
        rw [e1] at this
        exact Nat.lt_irrefl _ this
      · cases hm
    have := h g tk u old
    simpa [intItems] using this
def rSumT (K : PySem.W.Frag) : List V → Hp → VK → Prop := fun vs H Q => ∃ (a : Addr) (ns : List Int), vs = [V.ref a] ∧ SqT K H a (ns.map V.int) ∧ Q (.int ns.sum) H
theorem cr_sumT {X : Cx} (hc : X.calm = true) : CallR X (.builtin "sum") (rSumT X.K) := by
  intro pins s σ H vs us Q inv r h
  obtain ⟨a, ns, rfl, hs, q⟩ := h
  obtain ⟨ws, vw, pw, zw⟩ := inv.tuple hs
  rw [Vals.ref1 r]
  have hi := vw.ints
  obtain ⟨ps, e⟩ := hi.allInts.items
  have hn : numsOf (intItems ps).toList = ns := by rw [← e]; exact hi.numsOf
  rw [nums_intItems] at hn
  have pt : s.heap.IsTuple a (intItems ps) := by
    rw [← e]
    exact pw
  refine sum_tupG (inv.ok.hd hc) pt fun g tk u hk => ?_
  have e2 : preSum (numAt ps) ps.size = ns.sum := by rw [preSum_eq, List.take_of_length_le (by simp), hn]
  rw [e2]
  exact ⟨.int _, H, inv.kept hk, ⟨_, rfl⟩, q⟩
def sumU := ctF fun ds => match ds with
  | [.tuple xs] => (intsD xs).bind fun ns => some (.int ns.sum)
  | _ => none
theorem vop_sumU {K : PySem.W.Frag} : VOp K (rSumT K) sumU := vop_ct fun H vs ds z Q ct e k => by
  (try dsimp only at e)
  split at e
  · obtain ⟨ns, e1, e⟩ := Option.bind_eq_some_iff.mp e
    cases e
    obtain rfl := intsD_inv e1
    obtain ⟨v, rfl, c⟩ := ct.one
    cases c with
    | ct c => cases c with
      | tup h r =>
        obtain rfl := r.ints
        exact ⟨_, ns, rfl, h, k _ (.int _)⟩
  · cases e
@[simp] theorem sumU_tp {ρ : Rho} {ds : List D} : sumU ρ [.tp ds] = sumD ds := by
  unfold sumU ctF sumD
  simp only [curA_cons, curA_nil, curR_tp, Option.bind_some]
  cases intsD ds <;> rfl
end
end DL

namespace DL
open PySem PySem.Spec PyProof.Rows L2
noncomputable section
/-! sorted, of lists of ints -/
def roI (xs : List Int) : D := .list (xs.map .int)
def insR (a : List Int) : List (List Int) → List (List Int)
  | [] => [a]
  | b :: r => if a ≤ b then a :: b :: r else b :: insR a r
def sortR : List (List Int) → List (List Int)
  | [] => []
  | a :: r => insR a (sortR r)
theorem insR_perm (a : List Int) : ∀ l : List (List Int), (insR a l).Perm (a :: l)
  | [] => .refl _
  | b :: r => by
    rw [insR]
    split
    · exact .refl _
    · exact ((insR_perm a r).cons b).trans (.swap a b r)
theorem leR_total (a b : List Int) : a ≤ b ∨ b ≤ a := List.le_total a b
theorem leR_trans {a b c : List Int} (h : a ≤ b) (h2 : b ≤ c) : a ≤ c := List.le_trans h h2
theorem leR_anti {a b : List Int} (h : a ≤ b) (h2 : b ≤ a) : a = b := List.le_antisymm h h2
theorem insR_sorted (a : List Int) : ∀ l : List (List Int), l.Pairwise (· ≤ ·) → (insR a l).Pairwise (· ≤ ·)
  | [], _ => by rw [insR]; exact List.pairwise_singleton _ _
  | b :: r, h => by
    rw [insR]
    obtain ⟨h1, h2⟩ := List.pairwise_cons.mp h
    split
    · rename_i q
      exact List.pairwise_cons.mpr ⟨fun c hc => (List.mem_cons.mp hc).elim (fun e => e ▸ q) fun z => leR_trans q (h1 c z), h⟩
    · rename_i q
      refine List.pairwise_cons.mpr ⟨fun c hc => ?_, insR_sorted a r h2⟩
      rcases List.mem_cons.mp ((insR_perm a r).mem_iff.mp hc) with e | z
      · rw [e]; exact (leR_total a b).resolve_left q
      · exact h1 c z
theorem sortR_perm : ∀ l : List (List Int), (sortR l).Perm l
  | [] => .refl _
  | a :: r => (insR_perm a _).trans ((sortR_perm r).cons a)
theorem sortR_sorted : ∀ l : List (List Int), (sortR l).Pairwise (· ≤ ·)
  | [] => .nil
  | a :: r => insR_sorted a _ (sortR_sorted r)
theorem sortR_unique : ∀ {k l : List (List Int)}, k.Perm l → k.Pairwise (· ≤ ·) → l.Pairwise (· ≤ ·) → k = l
  | [], l, p, _, _ => by rw [List.nil_perm.mp p]
  | a :: k, [], p, _, _ => by have := p.length_eq; cases this
  | a :: k, b :: l, p, h1, h2 => by
    obtain ⟨q1, r1⟩ := List.pairwise_cons.mp h1
    obtain ⟨q2, r2⟩ := List.pairwise_cons.mp h2
    have ab : a ≤ b := by
      rcases List.mem_cons.mp (p.mem_iff.mpr List.mem_cons_self) with e | z
      · exact e ▸ List.le_refl b
      · exact q1 b z
    have ba : b ≤ a := by
      rcases List.mem_cons.mp (p.mem_iff.mp List.mem_cons_self) with e | z
      · exact e ▸ List.le_refl a
      · exact q2 a z
    obtain rfl := leR_anti ab ba
    rw [sortR_unique (List.Perm.cons_inv p) r1 r2]
def lePR (p q : List Int × V) : Bool := decide (p.1 ≤ q.1)
theorem msort_fst (l : List (List Int × V)) : (l.mergeSort lePR).map (·.1) = sortR (l.map (·.1)) := by
  refine sortR_unique (((List.mergeSort_perm l lePR).map _).trans (sortR_perm _).symm) ?_ (sortR_sorted _)
  rw [List.pairwise_map]
  have h := List.pairwise_mergeSort (le := lePR) (fun a b c h1 h2 => decide_eq_true (leR_trans (of_decide_eq_true h1) (of_decide_eq_true h2))) (fun a b => by
    rcases leR_total a.1 b.1 with q | q
    · rw [show lePR a b = true from decide_eq_true q]; rfl
    · rw [show lePR b a = true from decide_eq_true q, Bool.or_true]) l
  exact h.imp fun q => of_decide_eq_true q
theorem zip_fst : ∀ {L : List (List Int)} {xs : List V}, L.length = xs.length → (L.zip xs).map (·.1) = L
  | [], [], _ => rfl
  | a :: L, x :: xs, h => by rw [List.zip_cons_cons, List.map_cons, zip_fst (by simpa using h)]
def rSortedR (K : PySem.W.Frag) : List V → Hp → VK → Prop := fun vs H Q => ∃ (a : Addr) (xs : List V) (L : List (List Int)), vs = [.ref a] ∧ SqL K H a xs ∧ L.length = xs.length ∧ DpAll K H xs (L.map roI) ∧ ∀ p, H p = none → Q (.ref p) (upd H p (.lst (((L.zip xs).mergeSort lePR).map (·.2))))
theorem each_zip : ∀ {L : List (List Int)} {xs : List V} {ws : List Value}, L.length = xs.length → Vals xs ws → PySem.W.EachIs (fun v (b : List Int × V) => RelV b.2 v) ws (L.zip xs)
  | [], [], _, _, .nil => .nil
  | a :: L, x :: xs, _, h, .cons r t => .cons r (each_zip (by simpa using h) t)
theorem vals_each : ∀ {bs : List (List Int × V)} {ws : List Value}, PySem.W.EachIs (fun v (b : List Int × V) => RelV b.2 v) ws bs → Vals (bs.map (·.2)) ws
  | _, _, .nil => .nil
  | _, _, .cons r t => .cons r (vals_each t)
theorem roI_depth (xs : List Int) : PyData.depth (roI xs) = 1 := by
  unfold roI
  rw [PyData.depth, PySem.W.depth_ints]
theorem cr_sortedR {X : Cx} (hu : X.A.units + 65 < cLine) : CallR X (.builtin "sorted") (rSortedR X.K) := by
  intro pins s σ H vs us Q inv r h
  obtain ⟨a, xs, L, rfl, hs, hl, dp, q⟩ := h
  rw [Vals.ref1 r]
  obtain ⟨ws, vw, pw, zw⟩ := inv.list hs
  obtain ⟨as, rd⟩ := Dp.readsAll inv _ xs ws dp vw
  have em : (L.zip xs).map (fun b => roI b.1) = L.map roI := by
    rw [← zip_fst hl, List.map_map, zip_fst hl]
    rfl
  rw [← em] at rd
  have lz : (L.zip xs).length = xs.length := by rw [List.length_zip, hl, Nat.min_self]
  refine PySem.W.sorted_data (enc := fun b : List Int × V => roI b.1) (R := fun v b => RelV b.2 v) pw.isList (each_zip hl vw) (PySem.W.readsAll_each _ rd) (PySem.W.AllAlike.of fun b c => ?_) (PySem.W.Sortable.others fun b => ⟨(fun e => nomatch e), fun _ e => nomatch e⟩) (by rw [lz]; exact zw) (fun b _ => by rw [roI_depth]; omega) fun out lo eo => ?_
  · show PySem.W.alike (.list _) (.list _) = true
    simp only [PySem.W.alike]
    exact PySem.W.alike_ints _ _
  · have el : PySem.W.dataLe false (fun b : List Int × V => roI b.1) = lePR := PySem.W.dataLe_rows (fun b : List Int × V => b.1)
    rw [el] at eo
    obtain ⟨ep, he⟩ := PyProof.Rows.sortedAll_at s.heap ws out.toArray
    have hz : (((L.zip xs).mergeSort lePR).map (·.2)).length ≤ sizeLine := by
      rw [List.length_map, List.length_mergeSort, lz]
      exact zw
    exact ⟨.ref _, _, inv.laid (t' := s.toks) (o := .lst (((L.zip xs).mergeSort lePR).map (·.2))) (fun _ _ => PyProof.Rows.sortedAll_old) (Nat.le_succ _) ⟨hz, out, ep, vals_each eo, he⟩, rfl, q _ (inv.hok.fresh (Nat.le_succ _))⟩
def rowsD : List D → Option (List (List Int))
  | [] => some []
  | .list xs :: r => (intsD xs).bind fun ns => (rowsD r).bind fun L => some (ns :: L)
  | _ => none
theorem rowsD_inv : ∀ {ds : List D} {L : List (List Int)}, rowsD ds = some L → ds = L.map roI
  | [], _, h => by cases h; rfl
  | .list xs :: r, _, h => by
    unfold rowsD at h
    obtain ⟨ns, e1, h⟩ := Option.bind_eq_some_iff.mp h
    obtain ⟨L, e2, h⟩ := Option.bind_eq_some_iff.mp h
    cases h
    rw [intsD_inv e1, rowsD_inv e2]
    rfl
  | .none :: _, _, h => by cases h
  | .bool _ :: _, _, h => by cases h
  | .int _ :: _, _, h => by cases h
  | .str _ :: _, _, h => by cases h
  | .tuple _ :: _, _, h => by cases h
  | .dict _ :: _, _, h => by cases h
@[simp] theorem rowsD_map : ∀ L : List (List Int), rowsD (L.map roI) = some L
  | [] => rfl
  | a :: L => by
    rw [List.map_cons]
    show (intsD (a.map .int)).bind _ = _
    rw [intsD_map, Option.bind_some, rowsD_map L]
    rfl
def sortLF : Rho → List Vl → Option Vl := fun ρ rs => match rs with
  | [r] => (itm ρ r).bind fun p => if p.1 = true then (rowsD p.2).bind fun L => some (.ow ((sortR L).map roI)) else none
  | _ => none
theorem ct_rows {K : PySem.W.Frag} {H : Hp} : ∀ {L : List (List Int)} {xs : List V}, CtA K H xs (L.map roI) → DpAll K H xs (L.map roI)
  | [], _, .nil => .nil
  | a :: L, _, .cons h t => .cons (h.dp (.inr (by
    unfold roI
    rw [PyData.canLay0]
    exact (lay_ints' a))) ) (ct_rows t)
where lay_ints' : ∀ ns : List Int, PyData.canLayAll0 (ns.map .int) = true
  | [] => rfl
  | n :: r => by rw [List.map_cons, PyData.canLayAll0, lay_ints' r]; rfl
theorem fz_zip {K : PySem.W.Frag} {W : Addr → Prop} {H : Hp} : ∀ {L : List (List Int)} {xs : List V}, FzA K W H xs (L.map roI) → L.length = xs.length ∧ ∀ b ∈ L.zip xs, Fz K W H b.2 (roI b.1)
  | [], _, .nil => ⟨rfl, fun b hb => nomatch hb⟩
  | a :: L, _, .cons h t => by
    obtain ⟨h1, h2⟩ := fz_zip t
    refine ⟨by rw [List.length_cons, List.length_cons, h1], fun b hb => ?_⟩
    rw [List.zip_cons_cons] at hb
    rcases List.mem_cons.mp hb with rfl | hb
    · exact h
    · exact h2 b hb
theorem fz_map {K : PySem.W.Frag} {W : Addr → Prop} {H : Hp} : ∀ {l : List (List Int × V)}, (∀ b ∈ l, Fz K W H b.2 (roI b.1)) → FzA K W H (l.map (·.2)) (l.map fun b => roI b.1)
  | [], _ => .nil
  | b :: l, h => .cons (h b List.mem_cons_self) (fz_map fun c hc => h c (List.mem_cons_of_mem _ hc))
theorem vop_sortedR {K : PySem.W.Frag} : VOp K (rSortedR K) sortLF := by
  intro W H σ ρ φ vs rs l res Q s rx dj e k
  unfold sortLF at e
  split at e
  · rename_i r
    obtain ⟨⟨b, ds⟩, e1, e⟩ := Option.bind_eq_some_iff.mp e
    split at e
    · rename_i hb
      cases hb
      obtain ⟨L, e2, e⟩ := Option.bind_eq_some_iff.mp e
      cases e
      obtain rfl := rowsD_inv e2
      obtain ⟨v, l1, rfl, h1⟩ := rx.one'
      obtain ⟨a, xs, rfl, q1, f1⟩ := h1.itm s e1
      obtain ⟨hl, hz⟩ := fz_zip f1
      refine ⟨a, xs, L, rfl, q1, hl, ct_rows f1.ct, new_list ?_ s.wf k⟩
      have em : ((L.zip xs).mergeSort lePR).map (fun b => roI b.1) = (sortR L).map roI := by
        have := msort_fst (L.zip xs)
        rw [zip_fst hl] at this
        rw [← this, List.map_map]
        rfl
      rw [← em]
      exact fz_map fun b hb => hz b (List.mem_mergeSort.mp hb)
    · cases e
  · cases e
@[simp] theorem sortLF_ow {ρ : Rho} {L : List (List Int)} : sortLF ρ [.ow (L.map roI)] = some (.ow ((sortR L).map roI)) := by
  show ((rowsD (L.map roI)).bind fun L => some (Vl.ow ((sortR L).map roI))) = _
  rw [rowsD_map]
  rfl
@[simp] theorem sortLF_l {ρ : Rho} {L : List (List Int)} : sortLF ρ [.fz (.list (L.map roI))] = some (.ow ((sortR L).map roI)) := by
  show ((rowsD (L.map roI)).bind fun L => some (Vl.ow ((sortR L).map roI))) = _
  rw [rowsD_map]
  rfl
end
end DL

namespace DL
open PySem PySem.Spec PyProof.Rows L2
noncomputable section
/-! the sum of a list or a tuple of ints -/
def sumB : Rho → List Vl → Option Vl := ctF fun ds => match ds with
  | [.tuple xs] => (intsD xs).bind fun ns => some (.int ns.sum)
  | [.list xs] => (intsD xs).bind fun ns => some (.int ns.sum)
  | _ => none
theorem vop_sumB {K : PySem.W.Frag} : VOp K (fun xs H Q => rSum K xs H Q ∨ rSumT K xs H Q) sumB := vop_ct fun H vs ds z Q ct e k => by
  (try dsimp only at e)
  split at e
  · obtain ⟨ns, e1, e⟩ := Option.bind_eq_some_iff.mp e
    cases e
    obtain rfl := intsD_inv e1
    obtain ⟨v, rfl, c⟩ := ct.one
    cases c with
    | ct c => cases c with
      | tup h r =>
        obtain rfl := r.ints
        exact .inr ⟨_, ns, rfl, h, k _ (.int _)⟩
  · obtain ⟨ns, e1, e⟩ := Option.bind_eq_some_iff.mp e
    cases e
    obtain rfl := intsD_inv e1
    obtain ⟨v, rfl, c⟩ := ct.one
    obtain ⟨a, xs, rfl, h, r⟩ := c.list_inv
    obtain rfl := r.ints
    exact .inl ⟨a, ns, rfl, h, k _ (.int _)⟩
  · cases e
theorem cr_sumB {X : Cx} (hc : X.calm = true) : CallR X (.builtin "sum") (fun xs H Q => rSum X.K xs H Q ∨ rSumT X.K xs H Q) := CallR.or (cr_sum hc) (cr_sumT hc)
@[simp] theorem sumB_l {ρ : Rho} {ds : List D} : sumB ρ [.fz (.list ds)] = sumD ds := by
  unfold sumB ctF sumD
  simp only [curA_cons, curA_nil, curR_fz, Option.bind_some]
  cases intsD ds <;> rfl
@[simp] theorem sumB_ow {ρ : Rho} {ds : List D} : sumB ρ [.ow ds] = sumD ds := by
  unfold sumB ctF sumD
  simp only [curA_cons, curA_nil, curR_ow, Option.bind_some]
  cases intsD ds <;> rfl
@[simp] theorem sumB_t {ρ : Rho} {ds : List D} : sumB ρ [.fz (.tuple ds)] = sumD ds := by
  unfold sumB ctF sumD
  simp only [curA_cons, curA_nil, curR_fz, Option.bind_some]
  cases intsD ds <;> rfl
end
end DL

namespace DL
open PySem PySem.Spec PyProof.Rows L2
noncomputable section
/-! set(l) of a list of ints -/
def nSet (w : World) : Obj := { cls := .type "set", dict := none, data := .set #[] 0 (.fresh 0 0 (!w.params.followText "set-order")) }
section
variable {P : Program} {w : World} {A : Around} {E : Value → Shared → Prop} {s : Shared}
set_option maxHeartbeats 3200000 in
theorem set_lisI {l : Addr} {its : Array Value} (ns : List Int) {Q : Value → Shared → Prop} (hh : A.handled = none) (hl : s.heap.IsList l its) (hit : IntsAre its.toList ns) (hb : ns.length + 1 < scanBound)
    (h : ∀ (g : Heap) (tk c : Nat), SetR w g s.heap.objs.size (fun j => decide (j ∈ ns)) c → c ≤ ns.length → (∀ b o, s.heap.get? b = some o → g.get? b = some o) → Q (.ref s.heap.objs.size) { s with heap := g, toks := tk }) :
    wpAny (model P w) A (call (.type "set") [.ref l]) Q E s := by
  have sz : its.size = ns.length := by
    have := IntsAre.length hit
    rwa [Array.length_toList] at this
  have ⟨c, tl, mro⟩ := F.called_set.mro
  have made := F.called_set.made; have sub := F.called_set.sub
  refine wpAny_call (codeAny_of_tree ?_); show wpAny _ _ (callAny (.type "set") _) _ _ _
  refine wpAny_pure ⟨Code.quiet_builtin _ (by decide +kernel), codeAny_builtin F.entry_type_call ?_⟩; rw [Around.under_plain (weight_type_call_type "set" [.ref l] []) rfl]
  have t1 := F.called_set.notType; have t2 := F.called_set.canCreate; have t3 := F.typeCall_set_1 (.ref l)
  repeat (any_goals (first | assumption | wp_step)) -- the new object
  refine codeAny_mono (code_set_led1 (.ref l) (E := E) (Q₁ := fun obj s₁ => obj = .ref s.heap.objs.size ∧ s₁ = { s with heap := s.heap.push (nSet w) }) ⟨rfl, rfl⟩) fun r s1 hr => ?_
  cases r with
  | error e => exact hr
  | ok fl => cases fl with
    | ret obj =>
      obtain ⟨rfl, rfl⟩ := hr
      have gS : (s.heap.push (nSet w)).get? s.heap.objs.size = some (nSet w) := Heap.get?_push_size _ rfl
      have tS : Shared.TypeIs { s with heap := s.heap.push (nSet w) } (.ref s.heap.objs.size) "set" := ⟨_, gS, rfl⟩
      have i1 := F.called_set.init.lookup; have i2 := F.called_set.init.bind (.ref s.heap.objs.size)
      repeat (any_goals (first | assumption | wp_step)) -- its filling
      refine codeAny_mono (codeAny_call_builtin (R := wants (fun r s₂ => r = .none ∧ ∃ g tk c, s₂ = { s with heap := g, toks := tk } ∧ SetR w g s.heap.objs.size (fun j => decide (j ∈ ns)) c ∧ c ≤ ns.length ∧ (∀ b o, s.heap.get? b = some o → g.get? b = some o)) E) F.called_set.init.plain F.entry_set_init (check_set_init_1 tS ?_)) fun r2 s2 hr2 => ?_
      · obtain ⟨⟨ocls, odict, odata, oslots⟩, ol, cl, nl, dl⟩ := hl
        simp only at cl dl
        subst cl; subst dl
        have ol2 : (s.heap.push (nSet w)).get? l = some { cls := .type "list", dict := odict, data := .seq its nl, slots := oslots } := Heap.get?_push_of_some _ ol
        have u1 := F.sub_list_set; have u2 := F.sub_list_frozenset
        have u3 : (Value.type "list" == Value.type "dict") = false := by decide
        have l2 : (s.heap.push (nSet w)).IsList l its := ⟨_, ol2, rfl, nl, rfl⟩
        unfold Builtin.«set.__init__» noKeywords Builtin.Frozenset.updateFrom
        generalize hPI : pyIter = PI; wp_walk
        subst hPI; refine wpAny_pyIter_list l2 ?_
        refine wpAny_bind (wpAny_runValue ?_)
        have lt : l < s.heap.objs.size := Heap.lt_size ol
        have h3 : A.in1.in1.in1.handled = none := by simp [hh]
        have z1 : (s.heap.push (nSet w)).objs.size = s.heap.objs.size + 1 := Heap.size_push ..
        have ne : l ≠ (s.heap.push (nSet w)).objs.size := by rw [z1]; exact Nat.ne_of_lt (Nat.lt_succ_of_lt lt)
        have nf : s.heap.objs.size ∉ [(s.heap.push (nSet w)).objs.size, l] := by
          rw [z1]
          intro q
          rcases List.mem_cons.mp q with q | q
          · exact absurd q (Nat.ne_of_lt (Nat.lt_succ_self _))
          · exact absurd (List.mem_singleton.mp q) (Nat.ne_of_gt lt)
        have val : ∀ (i : Nat) (v : Value), its[i]? = some v → ∃ k t, ns[i]? = some k ∧ v = .int k t := fun i v hv => by
          have hi : i < ns.length := by rw [← sz]; exact (Array.getElem?_eq_some_iff.mp hv).1
          obtain ⟨t, e⟩ := PyProof.Rows.IntsAre.int_at hit i v (by rw [Array.getElem?_toList]; exact hv)
          refine ⟨ns[i], t, List.getElem?_eq_getElem hi, ?_⟩
          rw [e, List.getD_eq_getElem?_getD, List.getElem?_eq_getElem hi]
          rfl
        refine set_update_ints ((Walks.list h3 _ l ne its).toS) s.heap.objs.size nf ns sz hb val (its.size - 0) 0 _ (by omega) (Nat.zero_le _) ⟨⟨_, Heap.get?_push_size _ rfl, rfl, rfl⟩, l2.push _⟩ ?start ?fin
        case start =>
          exact ⟨0, Nat.le_refl 0, setR_new_at (Heap.get?_push_of_some _ gS)⟩
        case fin =>
          rintro ⟨g, g2, d, tk, os⟩ c' hm hc' hS'
          have eg : g2 = s.gens := hm.gens
          have ed : d = s.drawn := hm.drawn
          have eo : os = s.os := hm.os
          subst eg; subst ed; subst eo
          refine wpAny_pure ?_
          show wpAny _ _ (ret Value.none) _ _ _
          rw [sz] at hc'
          refine wpAny_pure ⟨rfl, g, tk, c', rfl, hS', hc', fun b o e => ?_⟩
          have b0 : b < s.heap.objs.size := Heap.lt_size e
          refine hm.heap b o (fun q => ?_) (Heap.get?_push_of_some _ (Heap.get?_push_of_some _ e))
          rcases List.mem_cons.mp q with q | q
          · exact absurd q (Nat.ne_of_lt b0)
          · exact absurd ((List.mem_singleton.mp q).trans z1) (Nat.ne_of_lt (Nat.lt_succ_of_lt b0))
      · cases r2 with
        | error e => exact hr2
        | ok fl2 => cases fl2 with
          | ret r =>
            obtain ⟨rfl, g, tk, c', rfl, hS', hc', hk'⟩ := hr2
            repeat (any_goals (first | assumption | wp_step)) -- done
            exact h _ _ _ hS' hc' hk'
          | _ => exact hr2.elim
    | _ => exact hr.elim
end
/-- the set -/
theorem cr_setI {X : Cx} (hc : X.calm = true) : CallR X (.type "set") (fun vs H Q => ∃ (a : Addr) (ns : List Int), vs = [V.ref a] ∧ (SqL X.K H a (ns.map V.int) ∨ SqT X.K H a (ns.map V.int)) ∧ ns.length < 64 ∧ ∀ (q : Addr) (c : Nat), c ≤ ns.length → H q = none → Q (.ref q) (upd H q (SetO X.w q (fun j => decide (j ∈ ns)) c))) := by
  intro pins s σ H vs us Q inv r h
  obtain ⟨a, ns, rfl, hs, few, q⟩ := h
  rw [Vals.ref1 r]
  have sb : ns.length + 1 < scanBound := by unfold scanBound; omega
  have fin : ∀ (g : Heap) (tk c : Nat), SetR X.w g s.heap.objs.size (fun j => decide (j ∈ ns)) c → c ≤ ns.length → (∀ b o, s.heap.get? b = some o → g.get? b = some o) → EP X pins σ Q (.ref s.heap.objs.size) { s with heap := g, toks := tk } := fun g tk c hS hcn k =>
    ⟨.ref _, upd H s.heap.objs.size (SetO X.w s.heap.objs.size (fun j => decide (j ∈ ns)) c), inv.laid (t' := tk) k (Nat.le_refl _) (setO_new hS), rfl, q _ c hcn (inv.hok.fresh (Nat.le_refl _))⟩
  rcases hs with hs | hs
  · obtain ⟨ws, vw, pw, zw⟩ := inv.list hs
    exact set_lisI ns (inv.ok.hd hc) pw.isList vw.ints sb fin
  · obtain ⟨ws, vw, pw, zw⟩ := inv.tuple hs
    exact call_set_tupI ns (inv.ok.hd hc) (show s.heap.IsTuple a ws.toArray from pw) vw.ints sb fin
/-! sorted(set(x)) -/
def insU (a : Int) : List Int → List Int
  | [] => [a]
  | b :: r => if a < b then a :: b :: r else if a = b then b :: r else b :: insU a r
def ssI : List Int → List Int
  | [] => []
  | a :: r => insU a (ssI r)
theorem insU_mem {a k : Int} : ∀ {l : List Int}, k ∈ insU a l ↔ k = a ∨ k ∈ l
  | [] => by rw [insU]; simp
  | b :: r => by
    rw [insU]
    split
    · simp
    · split
      · rename_i q
        subst q
        simp
      · rw [List.mem_cons, insU_mem (l := r), List.mem_cons]
        constructor
        · rintro (h | h | h)
          · exact .inr (.inl h)
          · exact .inl h
          · exact .inr (.inr h)
        · rintro (h | h | h)
          · exact .inr (.inl h)
          · exact .inl h
          · exact .inr (.inr h)
theorem insU_up {a : Int} : ∀ {l : List Int}, l.Pairwise (· < ·) → (insU a l).Pairwise (· < ·)
  | [], _ => by rw [insU]; exact List.pairwise_singleton _ _
  | b :: r, h => by
    obtain ⟨h1, h2⟩ := List.pairwise_cons.mp h
    rw [insU]
    split
    · rename_i q
      refine List.pairwise_cons.mpr ⟨fun c hc => ?_, h⟩
      rcases List.mem_cons.mp hc with rfl | hc
      · exact q
      · have := h1 c hc; omega
    · split
      · exact h
      · refine List.pairwise_cons.mpr ⟨fun c hc => ?_, insU_up h2⟩
        rcases insU_mem.mp hc with rfl | hc
        · omega
        · exact h1 c hc
theorem ssI_mem {k : Int} : ∀ {l : List Int}, k ∈ ssI l ↔ k ∈ l
  | [] => Iff.rfl
  | a :: r => by rw [ssI, insU_mem, ssI_mem, List.mem_cons]
theorem ssI_up : ∀ {l : List Int}, (ssI l).Pairwise (· < ·)
  | [] => List.Pairwise.nil
  | a :: r => insU_up ssI_up
theorem up_unique : ∀ {k l : List Int}, k.Pairwise (· < ·) → l.Pairwise (· < ·) → (∀ x, x ∈ k ↔ x ∈ l) → k = l
  | [], [], _, _, _ => rfl
  | [], b :: l, _, _, h => by have := (h b).mpr List.mem_cons_self; cases this
  | a :: k, [], _, _, h => by have := (h a).mp List.mem_cons_self; cases this
  | a :: k, b :: l, h1, h2, h => by
    obtain ⟨p1, q1⟩ := List.pairwise_cons.mp h1
    obtain ⟨p2, q2⟩ := List.pairwise_cons.mp h2
    have e : a = b := by
      rcases List.mem_cons.mp ((h a).mp List.mem_cons_self) with z | z
      · exact z
      · rcases List.mem_cons.mp ((h b).mpr List.mem_cons_self) with y | y
        · exact y.symm
        · have := p1 b y
          have := p2 a z
          omega
    subst e
    rw [up_unique q1 q2 fun x => ?_]
    constructor
    · intro hx
      rcases List.mem_cons.mp ((h x).mp (List.mem_cons_of_mem _ hx)) with z | z
      · have := p1 x hx; omega
      · exact z
    · intro hx
      rcases List.mem_cons.mp ((h x).mpr (List.mem_cons_of_mem _ hx)) with z | z
      · have := p2 x hx; omega
      · exact z
def intsB : D → Option (List Int)
  | .list xs => intsD xs
  | .tuple xs => intsD xs
  | _ => none
def ssF : Rho → List Vl → Option Vl := fun ρ rs => match rs with
  | [r] => (curR ρ r).bind fun d => (intsB d).bind fun ns => if ns.length < 64 then some (.ow ((ssI ns).map .int)) else none
  | _ => none
theorem px_sset {X : Cx} {e : Expr} {fs : DA} {p1 p2 pos pos2 : Pos} (hc : X.calm = true) (hg : Gl X "sorted") (hm : X.mg "sorted" = none) (hg2 : Gl X "set") (hm2 : X.mg "set" = none) (ha : PXA X [e] fs)
    (he : starEach [e] X.env = (false, eval e X.env) :: starEach [] X.env := by rfl) (hpl : (backTo pos2 (starEach [] X.env)).any (·.1) = false := by rfl) (hpl2 : (backTo pos (starEach [] X.env)).any (·.1) = false := by rfl)
    (he2 : starEach [.Call (.Name "set" p2) [e] [] pos2] X.env = (false, eval (.Call (.Name "set" p2) [e] [] pos2) X.env) :: starEach [] X.env := by rfl) :
    PX X (.Call (.Name "sorted" p1) [.Call (.Name "set" p2) [e] [] pos2] [] pos) (opE ssF fs) := by
  refine PE.mono (pe_callB (cr_sortedSet hc) hg hm (by decide) (pa_cons (pe_callTy (cr_setI hc) hg2 hm2 PyProof.Rows.boot_set ha (by decide) (by decide) he hpl) pa_nil he2) (by decide) (by decide) he2 hpl2) ?_
  rintro σ H Q ⟨W, ρ, φ, r, ρ', s, hf, k⟩
  unfold opE at hf
  obtain ⟨⟨rs, ρ1⟩, e1, hf⟩ := Option.bind_eq_some_iff.mp hf
  obtain ⟨z, e2, hf⟩ := Option.bind_eq_some_iff.mp hf
  cases hf
  refine ⟨W, ρ, φ, rs, ρ1, s, e1, fun vs W1 H1 φ1 l o => ?_⟩
  match rs, e1, e2, o with
  | [], _, e2, _ => cases e2
  | _ :: _ :: _, _, e2, _ => cases e2
  | [r0], e1, e2, o =>
    replace e2 : ((curR ρ1 r0).bind fun d => (intsB d).bind fun ns => if ns.length < 64 then some (Vl.ow ((ssI ns).map .int)) else none) = some _ := e2
    obtain ⟨d, e3, e2⟩ := Option.bind_eq_some_iff.mp e2
    obtain ⟨ns, e4, e2⟩ := Option.bind_eq_some_iff.mp e2
    split at e2
    · rename_i few
      cases e2
      obtain ⟨v, l1, rfl, h1⟩ := o.rx.one'
      have ct := h1.ctR o.ss e3
      have hv : ∃ a, v = .ref a ∧ (SqL X.K H1 a (ns.map V.int) ∨ SqT X.K H1 a (ns.map V.int)) := by
        cases d with
        | list xs =>
          obtain ⟨a, ys, rfl, h, c⟩ := ct.list_inv
          obtain rfl := intsD_inv e4
          obtain rfl := c.ints
          exact ⟨a, rfl, .inl h⟩
        | tuple xs =>
          obtain rfl := intsD_inv e4
          cases ct with
          | ct c => cases c with
            | tup h c =>
              obtain rfl := c.ints
              exact ⟨_, rfl, .inr h⟩
        | none => cases e4
        | bool => cases e4
        | int => cases e4
        | str => cases e4
        | dict => cases e4
      obtain ⟨a, rfl, sq⟩ := hv
      refine ⟨a, ns, rfl, sq, few, fun q c hcn hq => ?_⟩
      refine ⟨q, _, c, rfl, upd_same, by omega, fun xs p pw mem _ hp => ?_⟩
      have hx : xs = ssI ns := up_unique pw ssI_up fun x => by rw [mem x, ssI_mem, decide_eq_true_eq]
      subst hx
      have hpq : p ≠ q := fun z => by rw [z, upd_same] at hp; cases hp
      have hp1 : H1 p = none := by rw [upd_ne hpq] at hp; exact hp
      have up : ∀ b ob, H1 b = some ob → upd (upd H1 q (SetO X.w q (fun j => decide (j ∈ ns)) c)) p (.lst ((ssI ns).map V.int)) b = some ob := fun b ob e => by
        rw [upd_ne (ne_of_none e hp1), upd_ne (ne_of_none e hq)]
        exact e
      refine k (.ref p) W1 _ φ1 [p] (o.op s (Ev.grow up) (fun b w => ?_) (.ow upd_same (fun w => ?_) (FzA.ints _)) fun b hb => ?_)
      · obtain ⟨ob, e⟩ := o.ss.wf b w
        exact ⟨ob, up b ob e⟩
      · obtain ⟨ob, e⟩ := o.ss.wf p w
        rw [hp1] at e
        cases e
      · obtain rfl := List.mem_singleton.mp hb
        exact .inr hp1
    · cases e2
@[simp] theorem ssF_l {ρ : Rho} {ns : List Int} (h : ns.length < 64) : ssF ρ [.fz (.list (ns.map .int))] = some (.ow ((ssI ns).map .int)) := by
  show ((intsD (ns.map .int)).bind fun ns => if ns.length < 64 then some (Vl.ow ((ssI ns).map .int)) else none) = _
  rw [intsD_map, Option.bind_some, if_pos h]
@[simp] theorem ssF_t {ρ : Rho} {ns : List Int} (h : ns.length < 64) : ssF ρ [.fz (.tuple (ns.map .int))] = some (.ow ((ssI ns).map .int)) := by
  show ((intsD (ns.map .int)).bind fun ns => if ns.length < 64 then some (Vl.ow ((ssI ns).map .int)) else none) = _
  rw [intsD_map, Option.bind_some, if_pos h]
end
end DL

namespace DL
open PySem PySem.Spec PyProof.Rows L2
noncomputable section
/-! len(set(x)) -/
theorem cr_lenSet {X : Cx} : CallR X (.builtin "len") (fun vs H Q => ∃ (a : Addr) (S : Int → Bool) (n : Nat), vs = [V.ref a] ∧ H a = some (SetO X.w a S n) ∧ n < 64 ∧ ∀ ks : List Int, ks.Nodup → (∀ k, S k = true ↔ k ∈ ks) → ks.length = n → Q (.int n) H) := by
  intro pins s σ H vs us Q I r h
  obtain ⟨a, S, n, rfl, ha, h64, q⟩ := h
  have R := setO_get I ha
  rw [Vals.ref1 r]
  obtain ⟨o, es, ep, t, ho, hex, hd, g, nd, hm, hb, hf, hn, _⟩ := R
  refine call_len_set ho hex hd hf (by rw [hn] <;> omega) ⟨.int n, H, I.tok _, ⟨_, by rw [hn]⟩, q _ nd hm ?_⟩
  rw [List.length_map, Array.length_toList, hn]
theorem nodup_le : ∀ {l m : List Int}, l.Nodup → (∀ x, x ∈ l → x ∈ m) → l.length ≤ m.length
  | [], _, _, _ => Nat.zero_le _
  | a :: l, m, h, s => by
    obtain ⟨h1, h2⟩ := List.nodup_cons.mp h
    obtain ⟨m1, m2, rfl⟩ := List.append_of_mem (s a List.mem_cons_self)
    have := nodup_le (l := l) (m := m1 ++ m2) h2 fun x hx => by
      have := s x (List.mem_cons_of_mem _ hx)
      rw [List.mem_append, List.mem_cons] at this
      rw [List.mem_append]
      rcases this with q | rfl | q
      · exact .inl q
      · exact absurd hx h1
      · exact .inr q
    rw [List.length_append] at this
    rw [List.length_cons, List.length_append, List.length_cons]
    omega
theorem ssI_nodup {l : List Int} : (ssI l).Nodup := (ssI_up (l := l)).imp fun h q => by omega
theorem ssI_card {l m : List Int} (h : m.Nodup) (e : ∀ x, x ∈ m ↔ x ∈ l) : (ssI l).length = m.length :=
  Nat.le_antisymm (nodup_le ssI_nodup fun x hx => (e x).mpr (ssI_mem.mp hx)) (nodup_le h fun x hx => ssI_mem.mpr ((e x).mp hx))
def lsF : Rho → List Vl → Option Vl := fun ρ rs => match rs with
  | [r] => (curR ρ r).bind fun d => (intsB d).bind fun ns => if ns.length < 64 then some (.fz (.int ((ssI ns).length : Nat))) else none
  | _ => none
theorem px_lset {X : Cx} {e : Expr} {fs : DA} {p1 p2 pos pos2 : Pos} (hc : X.calm = true) (hg : Gl X "len") (hm : X.mg "len" = none) (hg2 : Gl X "set") (hm2 : X.mg "set" = none) (ha : PXA X [e] fs)
    (he : starEach [e] X.env = (false, eval e X.env) :: starEach [] X.env := by rfl) (hpl : (backTo pos2 (starEach [] X.env)).any (·.1) = false := by rfl) (hpl2 : (backTo pos (starEach [] X.env)).any (·.1) = false := by rfl)
    (he2 : starEach [.Call (.Name "set" p2) [e] [] pos2] X.env = (false, eval (.Call (.Name "set" p2) [e] [] pos2) X.env) :: starEach [] X.env := by rfl) :
    PX X (.Call (.Name "len" p1) [.Call (.Name "set" p2) [e] [] pos2] [] pos) (opE lsF fs) := by
  refine PE.mono (pe_callB cr_lenSet hg hm (by decide) (pa_cons (pe_callTy (cr_setI hc) hg2 hm2 PyProof.Rows.boot_set ha (by decide) (by decide) he hpl) pa_nil he2) (by decide) (by decide) he2 hpl2) ?_
  rintro σ H Q ⟨W, ρ, φ, r, ρ', s, hf, k⟩
  unfold opE at hf
  obtain ⟨⟨rs, ρ1⟩, e1, hf⟩ := Option.bind_eq_some_iff.mp hf
  obtain ⟨z, e2, hf⟩ := Option.bind_eq_some_iff.mp hf
  cases hf
  refine ⟨W, ρ, φ, rs, ρ1, s, e1, fun vs W1 H1 φ1 l o => ?_⟩
  match rs, e1, e2, o with
  | [], _, e2, _ => cases e2
  | _ :: _ :: _, _, e2, _ => cases e2
  | [r0], e1, e2, o =>
    replace e2 : ((curR ρ1 r0).bind fun d => (intsB d).bind fun ns => if ns.length < 64 then some (Vl.fz (.int ((ssI ns).length : Nat))) else none) = some _ := e2
    obtain ⟨d, e3, e2⟩ := Option.bind_eq_some_iff.mp e2
    obtain ⟨ns, e4, e2⟩ := Option.bind_eq_some_iff.mp e2
    split at e2
    · rename_i few
      cases e2
      obtain ⟨v, l1, rfl, h1⟩ := o.rx.one'
      have ct := h1.ctR o.ss e3
      have hv : ∃ a, v = .ref a ∧ (SqL X.K H1 a (ns.map V.int) ∨ SqT X.K H1 a (ns.map V.int)) := by
        cases d with
        | list xs =>
          obtain ⟨a, ys, rfl, h, c⟩ := ct.list_inv
          obtain rfl := intsD_inv e4
          obtain rfl := c.ints
          exact ⟨a, rfl, .inl h⟩
        | tuple xs =>
          obtain rfl := intsD_inv e4
          cases ct with
          | ct c => cases c with
            | tup h c =>
              obtain rfl := c.ints
              exact ⟨_, rfl, .inr h⟩
        | none => cases e4
        | bool => cases e4
        | int => cases e4
        | str => cases e4
        | dict => cases e4
      obtain ⟨a, rfl, sq⟩ := hv
      refine ⟨a, ns, rfl, sq, few, fun q c hcn hq => ?_⟩
      refine ⟨q, _, c, rfl, upd_same, by omega, fun ks nd mem hl => ?_⟩
      have hcard : (ssI ns).length = c := by
        rw [ssI_card nd fun x => by rw [← mem x, decide_eq_true_eq]]
        exact hl
      have up : ∀ b ob, H1 b = some ob → upd H1 q (SetO X.w q (fun j => decide (j ∈ ns)) c) b = some ob := fun b ob e => by
        rw [upd_ne (ne_of_none e hq)]
        exact e
      rw [hcard] at k
      refine k (.int c) W1 _ φ1 [] (o.op s (Ev.grow up) (fun b w => ?_) (.fz (.int _)) fun b hb => ?_)
      · obtain ⟨ob, e⟩ := o.ss.wf b w
        exact ⟨ob, up b ob e⟩
      · cases hb
    · cases e2
@[simp] theorem lsF_l {ρ : Rho} {ns : List Int} (h : ns.length < 64) : lsF ρ [.fz (.list (ns.map .int))] = some (.fz (.int ((ssI ns).length : Nat))) := by
  show ((intsD (ns.map .int)).bind fun ns => if ns.length < 64 then some (Vl.fz (.int ((ssI ns).length : Nat))) else none) = _
  rw [intsD_map, Option.bind_some, if_pos h]
@[simp] theorem lsF_ow {ρ : Rho} {ns : List Int} (h : ns.length < 64) : lsF ρ [.ow (ns.map .int)] = some (.fz (.int ((ssI ns).length : Nat))) := by
  show ((intsD (ns.map .int)).bind fun ns => if ns.length < 64 then some (Vl.fz (.int ((ssI ns).length : Nat))) else none) = _
  rw [intsD_map, Option.bind_some, if_pos h]
@[simp] theorem lsF_t {ρ : Rho} {ns : List Int} (h : ns.length < 64) : lsF ρ [.fz (.tuple (ns.map .int))] = some (.fz (.int ((ssI ns).length : Nat))) := by
  show ((intsD (ns.map .int)).bind fun ns => if ns.length < 64 then some (Vl.fz (.int ((ssI ns).length : Nat))) else none) = _
  rw [intsD_map, Option.bind_some, if_pos h]
@[simp] theorem lsF_g {ρ : Rho} {i : Nat} : lsF ρ [.pk i] = lsF ρ [nmG i ρ[i]?] := by unfold lsF; dsimp only; rw [curR_g]
@[simp] theorem ssF_g {ρ : Rho} {i : Nat} : ssF ρ [.pk i] = ssF ρ [nmG i ρ[i]?] := by unfold ssF; dsimp only; rw [curR_g]
end
end DL

namespace DL
open PySem PySem.Spec PyProof.Rows L2
open PySem.W (ktu_apart)
noncomputable section
/-! list(zip(x, y)) of lists of ints -/
theorem zip_no_len : typeLookup (.type "zip") "__len__" = pure none := by rw [typeLookup_type, builtinLookup_eq_fast]; kernel_rfl
theorem zip_no_hint : typeLookup (.type "zip") "__length_hint__" = pure none := by rw [typeLookup_type, builtinLookup_eq_fast]; kernel_rfl
/-- the pairs so far -/
structure LZ (H1 H : Hp) (S : Addr) (ns ms : List Int) (bs : List Addr) : Prop where
  up : ∀ c o, H1 c = some o → H c = some o
  s0 : H1 S = none
  s : H S = some (.lst (bs.map V.ref))
  nw : ∀ b ∈ bs, H1 b = none ∧ b ≠ S
  tp : ∀ (j : Nat) b, bs[j]? = some b → H b = some (.tup [.int (ns.getD j 0), .int (ms.getD j 0)])
/-- the zip -/
def ZSt (h : Heap) (z TI TO i1 i2 l1 l2 S : Addr) (i : Nat) : Prop :=
  IsPair h TI (.ref i1) (.ref i2) ∧ h.IsListIter i1 l1 i ∧ h.IsListIter i2 l2 i ∧ (∃ o, h.get? TO = some o) ∧
    ((IsZip h z TI TO .none ∧ ∃ a b, IsPair h TO a b) ∨ ∃ T f oT, IsZipHeld h z TI TO T f ∧ h.get? T = some oT ∧ T ≠ z ∧ T ≠ i1 ∧ T ≠ i2 ∧ T ≠ S)
theorem sqL_grow {K : PySem.W.Frag} {H H' : Hp} {a : Addr} {xs : List V} (h : SqL K H a xs) (up : ∀ c o, H c = some o → H' c = some o) : SqL K H' a xs := by
  rcases h with h | h
  · rcases h with h | ⟨o, h⟩
    · exact .inl (.inl (up _ _ h))
    · exact .inl (.inr ⟨o, up _ _ h⟩)
  · exact .inr h
section
variable {X : Cx} {A : Around} {R : Result → Shared → Prop} {pins : List (Addr × Obj)} {σ : L2.St} {z TI TO i1 i2 l1 l2 S : Addr} {ns ms : List Int} {H1 : Hp}
theorem lz_get {ns : List Int} {its : List Value} (h : Vals (ns.map V.int) its) {i : Nat} (hi : i < ns.length) : ∃ u, its.toArray[i]? = some u ∧ RelV (.int (ns.getD i 0)) u := by
  have e : (ns.map V.int)[i]? = some (.int (ns.getD i 0)) := by
    rw [List.getElem?_map, List.getElem?_eq_getElem hi, List.getD_eq_getElem?_getD, List.getElem?_eq_getElem hi]
    rfl
  obtain ⟨u, hu, ru⟩ := h.get e
  exact ⟨u, by rw [List.getElem?_toArray]; exact hu, ru⟩
set_option maxHeartbeats 1600000 in
theorem lz_loop (hh : A.handled = none) (D : ZipApart z TI TO i1 i2 l1 l2) (sp : S ≠ z ∧ S ≠ TI ∧ S ≠ TO ∧ S ≠ i1 ∧ S ≠ i2) (hn : ns.length < 1000) (hm : ms.length < 1000)
    (q1 : SqL X.K H1 l1 (ns.map V.int)) (q2 : SqL X.K H1 l2 (ms.map V.int))
    (hR : ∀ s' H' bs, Inv X pins σ H' s' → LZ H1 H' S ns ms bs → bs.length = min ns.length ms.length → R (.ok (.ret .none)) s') :
    ∀ (k i : Nat) (s : Shared) (H : Hp) (bs : List Addr), min ns.length ms.length - i = k → i ≤ min ns.length ms.length → bs.length = i → Inv X pins σ H s → LZ H1 H S ns ms bs →
      (∀ c ∈ [z, TI, TO, i1, i2], FpOk X pins H c) → ZSt s.heap z TI TO i1 i2 l1 l2 S i → codeAny (model X.prog X.w) A (.builtin "list.extend.loop" ⟨[.ref S, .ref z, .none], []⟩) R s := by
  intro k
  induction k with
  | zero =>
    intro i s H bs hk hi hb I L hf st
    have hin : i = min ns.length ms.length := by omega
    obtain ⟨hTI, h1, h2, ⟨oTO, gTO⟩, hz⟩ := st
    obtain ⟨its, rv, p1, _⟩ := I.list (sqL_grow q1 L.up)
    obtain ⟨its2, rv2, p2, _⟩ := I.list (sqL_grow q2 L.up)
    have n1 := rv.length
    have n2 := rv2.length
    rw [List.length_map] at n1 n2
    have hend : its.toArray[i]? = none ∨ its2.toArray[i]? = none := by
      rw [List.getElem?_toArray, List.getElem?_toArray]
      rcases Nat.le_total ns.length ms.length with h | h
      · exact .inl (List.getElem?_eq_none (by omega))
      · exact .inr (List.getElem?_eq_none (by omega))
    refine codeAny_builtin F.entry_extend_loop ?_
    rw [Around.under_plainId F.plain_extend_loop _]
    show wpAny _ A.in1 (pyNext (.ref z) >>= _) _ _ s
    have fin : ∀ h', (∀ c o, c ∉ [z, TI, TO, i1, i2] → s.heap.get? c = some o → h'.get? c = some o) → R (.ok (.ret .none)) { s with heap := h' } := fun h' hk =>
      hR _ H bs (I.turnedL (t' := s.toks) hk hf) L (by omega)
    rcases hz with ⟨hz, a, b, hTO⟩ | ⟨T, f, oT, hz, hT, r1, r2, r3, r4⟩
    · refine wpAny_bind (wpAny_pyNext_zip_end (show A.in1.handled = none from hh) D hz hTI hTO h1 h2 p1.isList p2.isList hend fun h' hk => wpAny_pure (fin h' fun c o hc e => ?_))
      simp only [List.mem_cons, List.not_mem_nil, or_false, not_or] at hc
      exact hk c o hc.1 hc.2.2.1 hc.2.2.2.1 hc.2.2.2.2 e
    · refine wpAny_bind (wpAny_pyNext_zip_end_held (show A.in1.handled = none from hh) D hz hT hTI h1 h2 p1.isList p2.isList hend fun h' hk => wpAny_pure (fin h' fun c o hc e => ?_))
      simp only [List.mem_cons, List.not_mem_nil, or_false, not_or] at hc
      exact hk c o hc.1 hc.2.2.2.1 hc.2.2.2.2 e
  | succ k ih =>
    intro i s H bs hk hi hb I L hf st
    obtain ⟨hTI, h1, h2, ⟨oTO, gTO⟩, hz⟩ := st
    obtain ⟨its, rv, p1, _⟩ := I.list (sqL_grow q1 L.up)
    obtain ⟨its2, rv2, p2, _⟩ := I.list (sqL_grow q2 L.up)
    obtain ⟨u, hu, ru⟩ := lz_get rv (i := i) (by omega)
    obtain ⟨u2, hu2, ru2⟩ := lz_get rv2 (i := i) (by omega)
    refine codeAny_builtin F.entry_extend_loop ?_
    rw [Around.under_plainId F.plain_extend_loop _]
    show wpAny _ A.in1 (pyNext (.ref z) >>= _) _ _ s
    have fresh : ∀ {c o}, s.heap.get? c = some o → s.heap.objs.size ≠ c := fun e => Nat.ne_of_gt (Heap.lt_size e)
    have f1 : s.heap.objs.size ≠ i1 := let ⟨_, e, _⟩ := h1; fresh e
    have f2 : s.heap.objs.size ≠ i2 := let ⟨_, e, _⟩ := h2; fresh e
    have f3 : s.heap.objs.size ≠ z := by
      rcases hz with ⟨hz, _⟩ | ⟨_, _, _, hz, _⟩
      · exact fresh hz
      · exact fresh hz
    obtain ⟨zS, itS, nS, rS, eS⟩ := I.hok S _ L.s
    have f4 : s.heap.objs.size ≠ S := fresh eS
    -- the step
    have go : ∀ (h' : Heap), IsPair h' s.heap.objs.size u u2 → (∀ c o, c ∉ [z, TI, TO, i1, i2] → s.heap.get? c = some o → h'.get? c = some o) → ZSt h' z TI TO i1 i2 l1 l2 S (i + 1) →
        wpAny (model X.prog X.w) A.in1 (updateSeq S (·.push (.ref s.heap.objs.size)) >>= fun _ => again (.builtin "list.extend.loop" ⟨[.ref S, .ref z, .none], []⟩))
          (fun fin s' => match fin with | .done f => R (.ok f) s' | .again c' => c'.quiet = true ∧ codeAny (model X.prog X.w) A c' R s') (fun e s' => R (.error e) s') { s with heap := h' } := by
      intro h' hp hk st'
      have hS0 : H s.heap.objs.size = none := I.hok.fresh (Nat.le_refl _)
      have new : ObjOk X.prog X.w (upd H s.heap.objs.size (.tup [.int (ns.getD i 0), .int (ms.getD i 0)])) h' s.heap.objs.size (.tup [.int (ns.getD i 0), .int (ms.getD i 0)]) :=
        ⟨by show 2 ≤ sizeLine; decide, [u, u2], .cons ru (.cons ru2 .nil), ⟨_, hp, rfl, _, rfl⟩⟩
      have I1 : Inv X pins σ (upd H s.heap.objs.size (.tup [.int (ns.getD i 0), .int (ms.getD i 0)])) { s with heap := h' } := I.turnedNew (t' := s.toks) hk hf (Nat.le_refl _) new
      have eS1 : h'.get? S = some _ := hk S _ (by
        simp only [List.mem_cons, List.not_mem_nil, or_false, not_or]
        exact sp) eS
      have lS : itS.length = bs.length := by
        have := rS.length
        rw [List.length_map] at this
        exact this.symm
      refine wpAny_bind (wpAny_updateSeq eS1 rfl (wpAny_pure ⟨plainId_quiet F.plain_extend_loop _, ?_⟩) (by rw [List.size_toArray, lS, sizeLine_eq]; omega) (by rw [Array.size_push, List.size_toArray, lS, sizeLine_eq]; omega))
      have hSs : (upd H s.heap.objs.size (.tup [.int (ns.getD i 0), .int (ms.getD i 0)])) S = some (.lst (bs.map V.ref)) := by rw [upd_ne (Ne.symm f4)]; exact L.s
      have g1 := Heap.get?_update_self (Obj.mapSeq (·.push (Value.ref s.heap.objs.size))) eS1 rfl
      have newS : ObjOk X.prog X.w (upd (upd H s.heap.objs.size (.tup [.int (ns.getD i 0), .int (ms.getD i 0)])) S (.lst ((bs ++ [s.heap.objs.size]).map V.ref))) (h'.update S (Obj.mapSeq (·.push (Value.ref s.heap.objs.size)))) S (.lst ((bs ++ [s.heap.objs.size]).map V.ref)) := by
        have ea : (itS ++ [Value.ref s.heap.objs.size]).toArray = itS.toArray.push (.ref s.heap.objs.size) := by simp
        refine ⟨by rw [List.length_map, List.length_append, sizeLine_eq]; show _ + 1 ≤ _; omega, itS ++ [.ref s.heap.objs.size], if (itS.toArray.push (Value.ref s.heap.objs.size)).size == itS.toArray.size then nS else nS + 1, ?_, ?_⟩
        · rw [List.map_append]
          exact rS.append (.cons rfl .nil)
        · rw [ea]
          exact g1
      have I2 := I1.write (t' := s.toks) (h' := h'.update S (Obj.mapSeq (·.push (Value.ref s.heap.objs.size)))) (by rw [hSs]; trivial) (.inl rfl) (fun b v hb e => (Heap.get?_update_other _ _ (Ne.symm hb)).trans e) ⟨_, g1⟩ newS
      refine ih (i + 1) _ _ (bs ++ [s.heap.objs.size]) (by omega) (by omega) (by rw [List.length_append, hb]; rfl) I2 ⟨fun c o e => ?_, L.s0, upd_same, fun b hb => ?_, fun j b e => ?_⟩ (fun c hc => ?_) ?_
      · have e1 := L.up c o e
        have c1 : c ≠ S := fun q => by
          subst q
          rw [L.s0] at e
          cases e
        rw [upd_ne c1, upd_ne (ne_of_none e1 hS0)]
        exact e1
      · rcases List.mem_append.mp hb with hb | hb
        · exact L.nw b hb
        · obtain rfl := List.mem_singleton.mp hb
          refine ⟨?_, f4⟩
          cases q : H1 s.heap.objs.size with
          | none => rfl
          | some o => rw [L.up _ _ q] at hS0; cases hS0
      · by_cases hj : j < bs.length
        · rw [List.getElem?_append_left hj] at e
          have e1 := L.tp j b e
          have hbm : b ∈ bs := List.mem_of_getElem? e
          rw [upd_ne (L.nw b hbm).2, upd_ne (ne_of_none e1 hS0)]
          exact e1
        · rw [List.getElem?_append_right (by omega)] at e
          have j0 : j = i := by
            by_cases q : j - bs.length = 0
            · omega
            · rw [List.getElem?_eq_none (by show 1 ≤ _; omega)] at e; cases e
          subst j0
          rw [hb, Nat.sub_self] at e
          have e := Option.some.inj e
          subst e
          rw [upd_ne f4, upd_same]
      · obtain ⟨a1, a2⟩ := hf c hc
        have cS : c ≠ S := fun q => by
          subst q
          rw [L.s] at a1
          cases a1
        have cT : c ≠ s.heap.objs.size := fun q => by
          simp only [List.mem_cons, List.not_mem_nil, or_false] at hc
          rcases hc with rfl | rfl | rfl | rfl | rfl
          · exact f3 q.symm
          · exact fresh hTI q.symm
          · exact fresh gTO q.symm
          · exact f1 q.symm
          · exact f2 q.symm
        exact ⟨by rw [upd_ne cS, upd_ne cT]; exact a1, a2⟩
      · obtain ⟨t1, t2, t3, ⟨o5, t5⟩, t4⟩ := st'
        have ks : ∀ c o, c ≠ S → h'.get? c = some o → (h'.update S (Obj.mapSeq (·.push (Value.ref s.heap.objs.size)))).get? c = some o := fun c o hc e => (Heap.get?_update_other _ _ (Ne.symm hc)).trans e
        refine ⟨ks _ _ sp.2.1.symm t1, t2.at fun o e => ks _ o sp.2.2.2.1.symm e, t3.at fun o e => ks _ o sp.2.2.2.2.symm e, ⟨o5, ks _ _ sp.2.2.1.symm t5⟩, ?_⟩
        rcases t4 with ⟨hz, a, b, hTO⟩ | ⟨T, f, oT, hz, hT, r1, r2, r3, r4⟩
        · exact .inl ⟨ks _ _ sp.1.symm hz, a, b, ks _ _ sp.2.2.1.symm hTO⟩
        · exact .inr ⟨T, f, oT, ks _ _ sp.1.symm hz, ks _ _ r4 hT, r1, r2, r3, r4⟩
    rcases hz with ⟨hz, a, b, hTO⟩ | ⟨T, f, oT, hz, hT, r1, r2, r3, r4⟩
    · refine wpAny_bind (wpAny_pyNext_zip_item D hz hTI hTO h1 h2 p1.isList p2.isList hu hu2 fun h' a1 a2 a3 a4 a5 a6 hk => ?_)
      refine go h' a5 (fun c o hc e => ?_) ⟨hk _ _ D.TIz D.TITO D.TIi1 D.TIi2 hTI, a3, a4, ⟨_, a2⟩, .inr ⟨s.heap.objs.size, false, _, a1, a5, f3, f1, f2, f4⟩⟩
      simp only [List.mem_cons, List.not_mem_nil, or_false, not_or] at hc
      exact hk c o hc.1 hc.2.2.1 hc.2.2.2.1 hc.2.2.2.2 e
    · refine wpAny_bind (wpAny_pyNext_zip_item_held D hz hT hTI h1 h2 p1.isList p2.isList hu hu2 fun h' a1 a3 a4 a5 a6 hk => ?_)
      refine go h' a5 (fun c o hc e => ?_) ⟨hk _ _ D.TIz D.TIi1 D.TIi2 hTI, a3, a4, ⟨_, hk _ _ D.TOz D.TOi1 D.TOi2 gTO⟩, .inr ⟨T, true, oT, a1, hk _ _ r1 r2 r3 hT, r1, r2, r3, r4⟩⟩
      simp only [List.mem_cons, List.not_mem_nil, or_false, not_or] at hc
      exact hk c o hc.1 hc.2.2.2.1 hc.2.2.2.2 e
theorem zst_type {s : Shared} {i : Nat} (st : ZSt s.heap z TI TO i1 i2 l1 l2 S i) : s.TypeIs (.ref z) "zip" := by
  obtain ⟨_, _, _, _, hz⟩ := st
  rcases hz with ⟨hz, _⟩ | ⟨_, _, _, hz, _⟩
  · exact ⟨_, hz, rfl⟩
  · exact ⟨_, hz, rfl⟩
theorem zst_iter {s : Shared} {A : Around} {E : Value → Shared → Prop} {i : Nat} {Q : Value → Shared → Prop} (st : ZSt s.heap z TI TO i1 i2 l1 l2 S i) (hz : IsZip s.heap z TI TO .none) (h : Q (.ref z) s) : wpAny (model X.prog X.w) A (pyIter (.ref z)) Q E s := wpAny_pyIter_zip hz h
theorem zst_keep {h h' : Heap} {i : Nat} (sp : S ≠ z ∧ S ≠ TI ∧ S ≠ TO ∧ S ≠ i1 ∧ S ≠ i2) (st : ZSt h z TI TO i1 i2 l1 l2 S i) (ks : ∀ c o, c ≠ S → h.get? c = some o → h'.get? c = some o) : ZSt h' z TI TO i1 i2 l1 l2 S i := by
  obtain ⟨t1, t2, t3, ⟨o5, t5⟩, t4⟩ := st
  refine ⟨ks _ _ sp.2.1.symm t1, t2.at fun o e => ks _ o sp.2.2.2.1.symm e, t3.at fun o e => ks _ o sp.2.2.2.2.symm e, ⟨o5, ks _ _ sp.2.2.1.symm t5⟩, ?_⟩
  rcases t4 with ⟨hz, a, b, hTO⟩ | ⟨T, f, oT, hz, hT, r1, r2, r3, r4⟩
  · exact .inl ⟨ks _ _ sp.1.symm hz, a, b, ks _ _ sp.2.2.1.symm hTO⟩
  · exact .inr ⟨T, f, oT, ks _ _ sp.1.symm hz, ks _ _ r4 hT, r1, r2, r3, r4⟩
theorem upd_id {H : Hp} {a : Addr} {o : HO} (h : H a = some o) : upd H a o = H := by
  funext b
  by_cases q : b = a
  · rw [q, upd_same, h]
  · rw [upd_ne q]
set_option maxHeartbeats 1600000 in
theorem lz_init {s : Shared} {H : Hp} (hh : A.handled = none) (D : ZipApart z TI TO i1 i2 l1 l2) (sp : S ≠ z ∧ S ≠ TI ∧ S ≠ TO ∧ S ≠ i1 ∧ S ≠ i2) (hn : ns.length < 1000) (hm : ms.length < 1000)
    (q1 : SqL X.K H1 l1 (ns.map V.int)) (q2 : SqL X.K H1 l2 (ms.map V.int))
    (hR : ∀ s' H' bs, Inv X pins σ H' s' → LZ H1 H' S ns ms bs → bs.length = min ns.length ms.length → R (.ok (.ret .none)) s')
    (I : Inv X pins σ H s) (L : LZ H1 H S ns ms []) (hf : ∀ c ∈ [z, TI, TO, i1, i2], FpOk X pins H c) (st : ZSt s.heap z TI TO i1 i2 l1 l2 S 0) (hz0 : IsZip s.heap z TI TO .none) :
    wpAny (model X.prog X.w) A.in1 (Builtin.«list.__init__» ⟨[.ref S, .ref z], []⟩)
      (fun fin s' => match fin with | .done f => R (.ok f) s' | .again c' => c'.quiet = true ∧ codeAny (model X.prog X.w) A c' R s') (fun e s' => R (.error e) s') s := by
  obtain ⟨zS, itS, nS, rS, eS⟩ := I.hok S _ L.s
  have e0 : itS = [] := by
    have := rS.length
    cases itS with
    | nil => rfl
    | cons a r => simp at this
  subst e0
  have hS : s.heap.get? S = some { cls := .type "list", data := .seq #[] nS } := eS
  show wpAny _ A.in1 (do let old ← Builtin.List.listItems (.ref S); Builtin.List.listUpdate (.ref S) (fun _ => #[]); letGo old.toList.reverse; Builtin.List.listExtendWith (.ref S) (.ref z) .none) _ _ s
  refine wpAny_bind ?_
  unfold Builtin.List.listItems
  refine wpAny_bind (wpAny_seqItems hS rfl (wpAny_pure ?_))
  show wpAny _ A.in1 (updateSeq S (fun _ => #[]) >>= fun _ => letGo (#[] : Array Value).toList.reverse >>= fun _ => Builtin.List.listExtendWith (.ref S) (.ref z) .none) _ _ s
  refine wpAny_bind (wpAny_updateSeq hS rfl ?_)
  have hS₁ := Heap.get?_update_self (Obj.mapSeq (fun _ => (#[] : Array Value))) hS rfl
  have oth1 : ∀ b o, b ≠ S → s.heap.get? b = some o → (s.heap.update S (Obj.mapSeq (fun _ => (#[] : Array Value)))).get? b = some o :=
    fun b o hb e => (Heap.get?_update_other _ _ (Ne.symm hb)).trans e
  refine wpAny_bind (wpAny_letGo ?_)
  have st1 := zst_keep sp st oth1
  unfold Builtin.List.listExtendWith
  refine wpAny_bind (wpAny_typeOf (T := "zip") (zst_type (s := { s with heap := s.heap.update S (Obj.mapSeq (fun _ => (#[] : Array Value))) }) st1) ?_)
  have h1 : Builtin.List.listSameRef (.ref S) (.ref z) = false := by simp [Builtin.List.listSameRef, sp.1]
  have h2 : (Value.type "zip" == Value.type "list") = false := by decide
  have h3 : (Value.type "zip" == Value.type "tuple") = false := by decide
  simp only [h1, h2, h3, Bool.or_false, Bool.false_eq_true, if_false]
  refine wpAny_bind (wpAny_pyIter_zip (oth1 _ _ sp.1.symm hz0) ?_)
  refine wpAny_bind (wpAny_holding ?_)
  unfold Builtin.List.listLengthHint
  refine wpAny_bind (wpAny_specialOf (zst_type (s := { s with heap := s.heap.update S (Obj.mapSeq (fun _ => (#[] : Array Value))) }) st1) zip_no_len ?_)
  show wpAny _ A.in1 (specialOf (Value.ref z) (Str.ofString "__length_hint__") >>= _) _ _ _
  refine wpAny_bind (wpAny_specialOf (zst_type (s := { s with heap := s.heap.update S (Obj.mapSeq (fun _ => (#[] : Array Value))) }) st1) zip_no_hint ?_)
  refine wpAny_pure ?_
  show wpAny _ A.in1 (rule "list.extend.makes-room" >>= fun _ => Builtin.List.listTouch (.ref S) >>= fun _ =>
    again (.builtin "list.extend.loop" ⟨[.ref S, .ref z, .none], []⟩)) _ _ _
  refine wpAny_bind (wpAny_rule ?_)
  refine wpAny_bind ?_
  show wpAny _ A.in1 (updateSeq S (·.push .none) >>= fun _ => updateSeq S (·.pop)) _ _ _
  refine wpAny_bind (wpAny_updateSeq hS₁ rfl ?_)
  have hS₂ := Heap.get?_update_self (Obj.mapSeq (·.push Value.none)) hS₁ rfl
  refine wpAny_updateSeq (hz := by seq_fits) hS₂ rfl ?_
  have hS₃ := Heap.get?_update_self (Obj.mapSeq (·.pop)) hS₂ rfl
  have oth : ∀ b o, b ≠ S → s.heap.get? b = some o → (((s.heap.update S (Obj.mapSeq (fun _ => (#[] : Array Value)))).update S (Obj.mapSeq (·.push Value.none))).update S (Obj.mapSeq (·.pop))).get? b = some o :=
    fun b o hb e => (Heap.get?_update_other _ _ (Ne.symm hb)).trans ((Heap.get?_update_other _ _ (Ne.symm hb)).trans (oth1 b o hb e))
  have new : ObjOk X.prog X.w (upd H S (.lst [])) (((s.heap.update S (Obj.mapSeq (fun _ => (#[] : Array Value)))).update S (Obj.mapSeq (·.push Value.none))).update S (Obj.mapSeq (·.pop))) S (.lst []) :=
    ⟨Nat.zero_le _, [], _, .nil, hS₃⟩
  have I2 := I.write (t' := s.toks) (by rw [L.s]; trivial) (.inl rfl) oth ⟨_, hS₃⟩ new
  rw [show upd H S (HO.lst []) = H from upd_id L.s] at I2
  exact wpAny_pure ⟨plainId_quiet F.plain_extend_loop _, lz_loop hh D sp hn hm q1 q2 hR _ 0 _ H [] rfl (Nat.zero_le _) rfl I2 L hf (zst_keep sp st oth)⟩
set_option maxHeartbeats 1600000 in
theorem call_list_zip {A : Around} {E : Value → Shared → Prop} {s : Shared} {H : Hp} {Q : Value → Shared → Prop} (hh : A.handled = none) (D : ZipApart z TI TO i1 i2 l1 l2) (hn : ns.length < 1000) (hm : ms.length < 1000)
    (q1 : SqL X.K H l1 (ns.map V.int)) (q2 : SqL X.K H l2 (ms.map V.int)) (I : Inv X pins σ H s) (hf : ∀ c ∈ [z, TI, TO, i1, i2], FpOk X pins H c)
    (hz0 : IsZip s.heap z TI TO .none) (t1 : IsPair s.heap TI (.ref i1) (.ref i2)) (u2 : s.heap.IsListIter i1 l1 0) (u3 : s.heap.IsListIter i2 l2 0) (t5 : IsPair s.heap TO .none .none)
    (hQ : ∀ s' H' S bs, H S = none → Inv X pins σ H' s' → LZ H H' S ns ms bs → bs.length = min ns.length ms.length → Q (.ref S) s') :
    wpAny (model X.prog X.w) A (call (.type "list") [.ref z]) Q E s := by
  refine callType_codes (Q₁ := fun obj s₁ => obj = .ref s.heap.objs.size ∧ s₁ = { s with heap := s.heap.push { cls := .type "list", data := .seq #[] } }) F.called_list (F.typeCall_list_1 _) F.entry_list_init
    (code_list_new _ ⟨rfl, rfl⟩) fun obj s₁ h₁ => ?_
  obtain ⟨rfl, rfl⟩ := h₁
  have hS : (s.heap.push { cls := .type "list", data := .seq #[] }).get? s.heap.objs.size = some { cls := .type "list", data := .seq #[] } := Heap.get?_push_size _ rfl
  have hS0 : H s.heap.objs.size = none := I.hok.fresh (Nat.le_refl _)
  have I1 : Inv X pins σ (upd H s.heap.objs.size (.lst [])) { s with heap := s.heap.push { cls := .type "list", data := .seq #[] } } :=
    I.laid (t' := s.toks) (fun b o e => Heap.get?_push_of_some _ e) (Nat.le_refl _) (show ObjOk X.prog X.w _ _ _ (.lst []) from ⟨Nat.zero_le _, [], _, .nil, hS⟩)
  obtain ⟨o1, t2, _⟩ := id u2
  obtain ⟨o2, t3, _⟩ := id u3
  have ne : ∀ {c o}, s.heap.get? c = some o → s.heap.objs.size ≠ c := fun e => Nat.ne_of_gt (Heap.lt_size e)
  have sp : s.heap.objs.size ≠ z ∧ s.heap.objs.size ≠ TI ∧ s.heap.objs.size ≠ TO ∧ s.heap.objs.size ≠ i1 ∧ s.heap.objs.size ≠ i2 := ⟨ne hz0, ne t1, ne t5, ne t2, ne t3⟩
  have up : ∀ c o, H c = some o → upd H s.heap.objs.size (.lst []) c = some o := fun c o e => by rw [upd_ne (ne_of_none e hS0)]; exact e
  refine ⟨⟨_, hS, rfl⟩, F.args_list_init_2 _ _, lz_init (A := A.in1) hh D sp hn hm q1 q2 (fun s' H' bs I' L' hl => ⟨rfl, hQ s' H' _ bs hS0 I' L' hl⟩) I1 ⟨up, hS0, upd_same, (fun b hb => absurd hb List.not_mem_nil), fun j b e => by simp at e⟩ (fun c hc => ?_) (zst_keep sp (⟨t1, u2, u3, ⟨_, t5⟩, .inl ⟨hz0, _, _, t5⟩⟩ : ZSt s.heap z TI TO i1 i2 l1 l2 _ 0) fun c o _ e => Heap.get?_push_of_some _ e) (Heap.get?_push_of_some _ hz0)⟩
  obtain ⟨a1, a2⟩ := hf c hc
  refine ⟨?_, a2⟩
  rw [upd_ne (fun q => ?_)]
  · exact a1
  · simp only [List.mem_cons, List.not_mem_nil, or_false] at hc
    rcases hc with rfl | rfl | rfl | rfl | rfl
    · exact sp.1 q.symm
    · exact sp.2.1 q.symm
    · exact sp.2.2.1 q.symm
    · exact sp.2.2.2.1 q.symm
    · exact sp.2.2.2.2 q.symm
end
/-- list(zip(x, y)), own -/
def lzE (fs : DA) : DE := fun ρ => (fs ρ).bind fun p => (frzA p.1).bind fun ds => match ds with
  | [.list xs, .list ys] => (intsD xs).bind fun ns => (intsD ys).bind fun ms => if ns.length < 1000 ∧ ms.length < 1000 then some (.ow (zipD xs ys), p.2) else none
  | _ => none
theorem fza_zip {K : PySem.W.Frag} {W : Addr → Prop} {H : Hp} {ns ms : List Int} : ∀ (bs : List Addr) (i : Nat), bs.length = min (ns.length - i) (ms.length - i) → (∀ (j : Nat) b, bs[j]? = some b → H b = some (.tup [.int (ns.getD (i + j) 0), .int (ms.getD (i + j) 0)])) → FzA K W H (bs.map V.ref) (zipD ((ns.drop i).map .int) ((ms.drop i).map .int))
  | [], i, hl, _ => by
    rw [List.length_nil] at hl
    have : (ns.drop i = [] ∨ ms.drop i = []) := by
      by_cases q : ns.length - i = 0
      · exact .inl (List.drop_eq_nil_of_le (by omega))
      · exact .inr (List.drop_eq_nil_of_le (by omega))
    rcases this with e | e
    · rw [e]
      exact .nil
    · rw [e]
      cases (ns.drop i).map PyData.int with
      | nil => exact .nil
      | cons a r => exact .nil
  | b :: bs, i, hl, h => by
    rw [List.length_cons] at hl
    have h1 : i < ns.length := by omega
    have h2 : i < ms.length := by omega
    rw [List.drop_eq_getElem_cons h1, List.drop_eq_getElem_cons h2, List.map_cons, List.map_cons, List.map_cons, zipD]
    have hb := h 0 b rfl
    rw [Nat.add_zero, List.getD_eq_getElem?_getD, List.getElem?_eq_getElem h1, List.getD_eq_getElem?_getD, List.getElem?_eq_getElem h2] at hb
    refine .cons (.tup (.inl (.inl hb)) (.cons (.int _) (.cons (.int _) .nil))) (fza_zip bs (i + 1) (by omega) fun j c e => ?_)
    have := h (j + 1) c (by simpa using e)
    rwa [show i + (j + 1) = i + 1 + j by omega] at this
theorem fza_inv {K : PySem.W.Frag} {W : Addr → Prop} {H : Hp} : ∀ {xs : List V} {ns : List Int}, FzA K W H xs (ns.map .int) → xs = ns.map V.int
  | _, [], .nil => rfl
  | _, n :: ns, .cons h t => by
    cases h
    rw [fza_inv t, List.map_cons]
theorem px_lzip {X : Cx} {e e2 : Expr} {fs : DA} {p p2 pos q : Pos} (hc : X.calm = true) (hg : Gl X "list") (hm : X.mg "list" = none) (hg2 : Gl X "zip") (hm2 : X.mg "zip" = none) (ha : PXA X [e, e2] fs)
    (hs : starEach [e, e2] X.env = (false, eval e X.env) :: starEach [e2] X.env := by rfl) (hpl : (backTo q (starEach [e2] X.env)).any (·.1) = false := by rfl)
    (na : starEach [.Call (.Name "zip" p2) [e, e2] [] q] X.env = (false, eval (.Call (.Name "zip" p2) [e, e2] [] q) X.env) :: starEach [] X.env := by rfl) :
    PX X (.Call (.Name "list" p) [.Call (.Name "zip" p2) [e, e2] [] q] [] pos) (lzE fs) := by
  refine ⟨fun pins s σ H Q I h => ?_⟩
  obtain ⟨W, ρ, φ, r, ρ', ss, hf, k⟩ := h
  unfold lzE at hf
  obtain ⟨⟨rs, ρ1⟩, e1, hf⟩ := Option.bind_eq_some_iff.mp hf
  obtain ⟨es, e2', hf⟩ := Option.bind_eq_some_iff.mp hf
  split at hf
  · rename_i xs ys
    obtain ⟨ns, e3, hf⟩ := Option.bind_eq_some_iff.mp hf
    obtain ⟨ms, e4, hf⟩ := Option.bind_eq_some_iff.mp hf
    split at hf
    · rename_i few
      cases hf
      obtain rfl := intsD_inv e3
      obtain rfl := intsD_inv e4
      refine Call_ (ld_blt I hg hm boot_list (PyProof.Rows.callWith_type1 (args_cons ?_ na) na))
      refine Call_ (ld_blt I hg2 hm2 PyProof.Rows.boot_zip (PyProof.Rows.callWith_type1 (thn (ha.run q pins s σ H (fun vs H1 => ∃ W1 φ1 l, OutA X.K W H (InF φ) σ ρ1 rs vs W1 H1 φ1 l) I ⟨W, ρ, φ, rs, ρ1, ss, e1, fun vs W1 H1 φ1 l o => ⟨W1, φ1, l, o⟩⟩) fun us s1 ⟨vs, H1, I1, r1, q1⟩ => ?_) hs hpl))
      obtain ⟨W1, φ1, l, o⟩ := q1
      obtain ⟨o2, fz⟩ := o.fix e2'
      obtain ⟨v, u, rfl, f1, f2⟩ := fz.two
      obtain ⟨a, xv, rfl, w1, h1, g1⟩ := f1.list_inv
      obtain ⟨b, yv, rfl, w2, h2, g2⟩ := f2.list_inv
      obtain rfl := fza_inv g1
      obtain rfl := fza_inv g2
      have sq1 : SqL X.K H1 a (ns.map V.int) := .of h1
      have sq2 : SqL X.K H1 b (ms.map V.int) := .of h2
      cases r1 with
      | cons r rr =>
        cases rr with
        | cons r' rr =>
          cases rr
          cases r
          cases r'
          have fresh5 : ∀ c, c ∈ [s1.heap.objs.size + 4, s1.heap.objs.size + 2, s1.heap.objs.size + 3, s1.heap.objs.size, s1.heap.objs.size + 1] → FpOk X pins H1 c := fun c hcm => by
            have e' : c = s1.heap.objs.size + 4 ∨ c = s1.heap.objs.size + 2 ∨ c = s1.heap.objs.size + 3 ∨ c = s1.heap.objs.size ∨ c = s1.heap.objs.size + 1 := by simpa using hcm
            have hle : s1.heap.objs.size ≤ c := by
              rcases e' with z | z | z | z | z
              · rw [z]; exact Nat.le_add_right _ _
              · rw [z]; exact Nat.le_add_right _ _
              · rw [z]; exact Nat.le_add_right _ _
              · rw [z]; exact Nat.le_refl _
              · rw [z]; exact Nat.le_add_right _ _
            exact I1.fpOk hle (I1.hok.fresh hle)
          obtain ⟨its, rv, p1, _⟩ := I1.list sq1
          obtain ⟨its2, rv2, p2', _⟩ := I1.list sq2
          refine call_zip_2 p1.isList p2'.isList fun h' hz hTI hTO g3 g4 hsz hk => args_nil ?_
          have I2 : Inv X pins σ H1 { s1 with heap := h' } := I1.kept (t' := s1.toks) hk
          refine call_list_zip (s := { s1 with heap := h' }) (I2.ok.hd hc) (ktu_apart s1.heap.objs.size a b p1.lt p2'.lt) few.1 few.2 sq1 sq2 I2 fresh5 hz hTI g3 g4 hTO fun s' H' S bs hS I' L hl => ?_
          have ot : OutA X.K W H (InF φ) σ _ [] [] (Or W1 l) H1 φ1 [] := ⟨o2.ev, o2.ss, .nil, (fun a h => nomatch h), o2.sub, (fun a h => nomatch h)⟩
          have hf := fza_zip (K := X.K) (W := Or W1 l) (H := H') (ns := ns) (ms := ms) bs 0 (by rw [hl]; rfl) fun j c e => by rw [Nat.zero_add]; exact L.tp j c e
          refine ⟨.ref S, H', I', rfl, k (.ref S) (Or W1 l) H' φ1 [S] (ot.op ss (Ev.grow L.up) (fun b w => ?_) (.ow L.s (fun w => ?_) hf) fun b hb => ?_)⟩
          · obtain ⟨ob, e⟩ := o2.ss.wf b w
            exact ⟨ob, L.up _ _ e⟩
          · obtain ⟨ob, e⟩ := o2.ss.wf S w
            rw [hS] at e
            cases e
          · obtain rfl := List.mem_singleton.mp hb
            exact .inr hS
    · cases hf
  · cases hf
def lzK : List D × Rho → Option (Vl × Rho) := fun p => match p.1 with
  | [.list xs, .list ys] => (intsD xs).bind fun ns => (intsD ys).bind fun ms => if ns.length < 1000 ∧ ms.length < 1000 then some (.ow (zipD xs ys), p.2) else none
  | _ => none
@[simp] theorem ap_lzE {fs : DA} {ρ : Rho} : lzE fs ρ = (fs ρ).bind fun p => (frzA p.1).bind fun ds => lzK (ds, p.2) := rfl
theorem lzK_ok {ρ : Rho} {ns ms : List Int} (h : ns.length < 1000) (h2 : ms.length < 1000) : lzK ([.list (ns.map .int), .list (ms.map .int)], ρ) = some (.ow (zipD (ns.map .int) (ms.map .int)), ρ) := by
  unfold lzK
  dsimp only
  rw [intsD_map, intsD_map, Option.bind_some, Option.bind_some, if_pos ⟨h, h2⟩]
end
end DL

namespace DL

/-! ### sums -/
def sm : Nat → (Nat → Int) → Int
  | 0, _ => 0
  | n + 1, f => sm n f + f n
theorem sm_congr {f g : Nat → Int} : ∀ {n : Nat}, (∀ i, i < n → f i = g i) → sm n f = sm n g
  | 0, _ => rfl
  | n + 1, h => by rw [sm, sm, sm_congr fun i hi => h i (by omega), h n (by omega)]
theorem sm_zero {f : Nat → Int} : ∀ {n : Nat}, (∀ i, i < n → f i = 0) → sm n f = 0
  | 0, _ => rfl
  | n + 1, h => by rw [sm, sm_zero fun i hi => h i (by omega), h n (by omega)]; rfl
theorem sm_add {f g : Nat → Int} : ∀ {n : Nat}, sm n (fun i => f i + g i) = sm n f + sm n g
  | 0 => rfl
  | n + 1 => by rw [sm, sm, sm, sm_add]; omega
theorem sm_sub {f g : Nat → Int} : ∀ {n : Nat}, sm n (fun i => f i - g i) = sm n f - sm n g
  | 0 => rfl
  | n + 1 => by rw [sm, sm, sm, sm_sub]; omega
theorem sm_neg {f : Nat → Int} : ∀ {n : Nat}, sm n (fun i => -f i) = -sm n f
  | 0 => rfl
  | n + 1 => by rw [sm, sm, sm_neg]; omega
theorem sm_mul {f : Nat → Int} {c : Int} : ∀ {n : Nat}, sm n (fun i => c * f i) = c * sm n f
  | 0 => by rw [sm, sm, Int.mul_zero]
  | n + 1 => by rw [sm, sm, sm_mul, Int.mul_add]
theorem sm_mul_r {f : Nat → Int} {c : Int} {n : Nat} : sm n (fun i => f i * c) = sm n f * c := by
  rw [Int.mul_comm, ← sm_mul]
  exact sm_congr fun i _ => Int.mul_comm _ _
theorem sm_swap {f : Nat → Nat → Int} {m : Nat} : ∀ {n : Nat}, sm n (fun i => sm m fun j => f i j) = sm m fun j => sm n fun i => f i j
  | 0 => (sm_zero fun _ _ => rfl).symm
  | n + 1 => by
    rw [sm, sm_swap, ← sm_add]
    rfl
theorem sm_succ' {f : Nat → Int} : ∀ {n : Nat}, sm (n + 1) f = f 0 + sm n fun i => f (i + 1)
  | 0 => by rw [sm, sm, sm]; omega
  | n + 1 => by rw [sm, sm_succ', sm]; omega
theorem sm_split {f : Nat → Int} {m : Nat} : ∀ {n : Nat}, sm (m + n) f = sm m f + sm n fun i => f (m + i)
  | 0 => by rw [sm, Nat.add_zero]; omega
  | n + 1 => by rw [show m + (n + 1) = m + n + 1 by omega, sm, sm_split, sm]; omega
/-- one alone counts -/
theorem sm_one {f : Nat → Int} {k : Nat} : ∀ {n : Nat}, k < n → (∀ i, i < n → i ≠ k → f i = 0) → sm n f = f k
  | 0, h, _ => by omega
  | n + 1, h, z => by
    rw [sm]
    by_cases e : k = n
    · subst e
      rw [sm_zero fun i hi => z i (by omega) (by omega)]; omega
    · rw [sm_one (by omega) fun i hi q => z i (by omega) q, z n (by omega) fun q => e q.symm]; omega
theorem sm_le {f g : Nat → Int} : ∀ {n : Nat}, (∀ i, i < n → f i ≤ g i) → sm n f ≤ sm n g
  | 0, _ => Int.le_refl _
  | n + 1, h => by
    have := sm_le (f := f) (g := g) (n := n) fun i hi => h i (by omega)
    have := h n (by omega)
    rw [sm, sm]; omega
theorem sm_const {c : Int} : ∀ {n : Nat}, sm n (fun _ => c) = n * c
  | 0 => by rw [sm]; simp
  | n + 1 => by rw [sm, sm_const, Int.natCast_succ, Int.add_mul, Int.one_mul]
theorem sum_append (a b : List Int) : (a ++ b).sum = a.sum + b.sum := by
  induction a with
  | nil => simp
  | cons x r ih => rw [List.cons_append, List.sum_cons, List.sum_cons, ih]; omega
theorem sum_range {f : Nat → Int} : ∀ n : Nat, ((List.range n).map f).sum = sm n f
  | 0 => rfl
  | n + 1 => by rw [List.range_succ, List.map_append, sum_append, sum_range n, sm]; simp
/-! ### choices -/
def ch : Nat → Nat → Nat
  | _, 0 => 1
  | 0, _ + 1 => 0
  | n + 1, k + 1 => ch n k + ch n (k + 1)
@[simp] theorem ch_0 (n : Nat) : ch n 0 = 1 := by cases n <;> rfl
@[simp] theorem ch_z (k : Nat) : ch 0 (k + 1) = 0 := rfl
theorem ch_s (n k : Nat) : ch (n + 1) (k + 1) = ch n k + ch n (k + 1) := rfl
theorem ch_big : ∀ {n k : Nat}, n < k → ch n k = 0
  | 0, k + 1, _ => rfl
  | n + 1, k + 1, h => by rw [ch_s, ch_big (by omega), ch_big (by omega)]
@[simp] theorem ch_self : ∀ n : Nat, ch n n = 1
  | 0 => rfl
  | n + 1 => by rw [ch_s, ch_self n, ch_big (Nat.lt_succ_self n)]
theorem ch_pos : ∀ {n k : Nat}, k ≤ n → 0 < ch n k
  | n, 0, _ => by rw [ch_0]; omega
  | n + 1, k + 1, h => by rw [ch_s]; have := ch_pos (n := n) (k := k) (by omega); omega
/-- (k + 1) C(n, k + 1) = (n - k) C(n, k) -/
theorem ch_step : ∀ n k : Nat, (k + 1) * ch n (k + 1) + k * ch n k = n * ch n k
  | 0, k => by cases k <;> simp
  | n + 1, 0 => by
    have h := ch_step n 0
    rw [ch_0, Nat.zero_mul, Nat.zero_add, Nat.one_mul, Nat.mul_one] at h
    rw [ch_s, ch_0, ch_0, Nat.zero_mul, Nat.zero_add, Nat.one_mul, Nat.mul_one]
    omega
  | n + 1, k + 1 => by
    have h1 := ch_step n k
    have h2 := ch_step n (k + 1)
    rw [ch_s n (k + 1), ch_s n k]
    generalize ch n k = a at *
    generalize ch n (k + 1) = b at *
    generalize ch n (k + 1 + 1) = c at *
    have e1 : (k + 1 + 1) * (b + c) = (k + 1) * b + b + (k + 1 + 1) * c := by rw [Nat.mul_add, Nat.add_mul (k + 1) 1 b, Nat.one_mul]
    have e2 : (k + 1) * (a + b) = k * a + a + (k + 1) * b := by rw [Nat.mul_add, Nat.add_mul k 1 a, Nat.one_mul]
    have e3 : (n + 1) * (a + b) = n * a + n * b + a + b := by rw [Nat.add_mul, Nat.mul_add, Nat.one_mul]; omega
    rw [e1, e2, e3]
    omega
theorem ch_step' {n k : Nat} (h : k ≤ n) : (k + 1) * ch n (k + 1) = (n - k) * ch n k := by
  have := ch_step n k
  rw [Nat.sub_mul]
  omega
theorem ch_sym : ∀ {n k : Nat}, k ≤ n → ch n k = ch n (n - k)
  | n, 0, _ => by rw [ch_0, Nat.sub_zero, ch_self]
  | n + 1, k + 1, h => by
    by_cases e : k = n
    · subst e; rw [ch_self, Nat.sub_self, ch_0]
    · have h1 := ch_sym (n := n) (k := k) (by omega)
      have h2 := ch_sym (n := n) (k := k + 1) (by omega)
      rw [ch_s, h1, h2, show n + 1 - (k + 1) = n - (k + 1) + 1 by omega, ch_s, show n - (k + 1) + 1 = n - k by omega]
      omega
theorem ch_le2 : ∀ n k : Nat, ch n k ≤ 2 ^ n
  | n, 0 => by rw [ch_0]; exact Nat.one_le_two_pow
  | 0, k + 1 => by simp
  | n + 1, k + 1 => by
    have := ch_le2 n k
    have := ch_le2 n (k + 1)
    rw [ch_s, Nat.pow_succ]; omega
/-! ### there and back -/
def sg (k : Nat) : Int := if k % 2 = 0 then 1 else -1
theorem sg_s (k : Nat) : sg (k + 1) = -sg k := by
  unfold sg
  by_cases h : k % 2 = 0
  · rw [if_pos h, if_neg (by omega)]
  · rw [if_neg h, if_pos (by omega)]; rfl
theorem sg_sq (k : Nat) : sg k * sg k = 1 := by unfold sg; split <;> rfl
theorem sg_add : ∀ a b : Nat, sg (a + b) = sg a * sg b
  | a, 0 => by show sg a = sg a * 1; rw [Int.mul_one]
  | a, b + 1 => by rw [← Nat.add_assoc, sg_s, sg_s, sg_add a b, Int.mul_neg]
def tf (N m a : Nat) : Int := sm N fun l => sg (l + a) * (ch l a * ch m l)
theorem tf_0 (N a : Nat) (h : 0 < N) : tf N 0 a = if a = 0 then 1 else 0 := by
  unfold tf
  rw [sm_one h fun i hi q => ?_]
  · cases a with
    | zero => rfl
    | succ a => rw [ch_z]; simp
  · cases i with
    | zero => exact absurd rfl q
    | succ i => rw [ch_z]; simp
theorem tf_s (N m a : Nat) (h : m + 1 < N) : tf N (m + 1) a = match a with
    | 0 => 0
    | a + 1 => tf N m a := by
  obtain ⟨M, rfl⟩ : ∃ M, N = M + 1 := ⟨N - 1, by omega⟩
  have last : ∀ f : Nat → Int, sm (M + 1) (fun l => f l * (ch m l : Int)) = sm M fun l => f l * (ch m l : Int) := fun f => by
    rw [sm, ch_big (by omega : m < M)]; simp
  -- C(m + 1, l + 1) falls into two
  have e : tf (M + 1) (m + 1) a = sm M (fun l => sg (l + 1 + a) * ch (l + 1) a * ch m l) + tf (M + 1) m a := by
    unfold tf
    rw [sm_succ', sm_succ' (f := fun l => sg (l + a) * (ch l a * ch m l))]
    rw [show (sm M fun i => sg (i + 1 + a) * (ch (i + 1) a * ch (m + 1) (i + 1))) = sm M (fun l => sg (l + 1 + a) * ch (l + 1) a * ch m l) + sm M fun i => sg (i + 1 + a) * (ch (i + 1) a * ch m (i + 1)) by
      rw [← sm_add]
      refine sm_congr fun i _ => ?_
      rw [ch_s]
      push_cast
      rw [Int.mul_add, Int.mul_add, Int.mul_assoc]]
    rw [ch_0, ch_0]
    omega
  rw [e]
  cases a with
  | zero =>
    dsimp only
    unfold tf
    have q : sm M (fun l => sg (l + 1 + 0) * ch (l + 1) 0 * ch m l) = -sm (M + 1) fun l => sg (l + 0) * (ch l 0 * ch m l) := by
      rw [show (fun l => sg (l + 0) * ((ch l 0 : Int) * (ch m l : Int))) = fun l => (sg (l + 0) * ch l 0) * (ch m l : Int) by funext l; rw [Int.mul_assoc], last, ← sm_neg]
      refine sm_congr fun i _ => ?_
      rw [show i + 1 + 0 = i + 1 by omega, show i + 0 = i by omega, sg_s, ch_0, ch_0, Int.neg_mul, Int.neg_mul]
    rw [q]; omega
  | succ a =>
    dsimp only
    have q : sm M (fun l => sg (l + 1 + (a + 1)) * ch (l + 1) (a + 1) * ch m l) = sm M (fun l => sg (l + a) * ch l a * ch m l) + sm M fun l => -(sg (l + (a + 1)) * ch l (a + 1) * ch m l) := by
      rw [← sm_add]
      refine sm_congr fun i _ => ?_
      rw [ch_s, show i + 1 + (a + 1) = i + a + 1 + 1 by omega, show i + (a + 1) = i + a + 1 by omega, sg_s, sg_s]
      push_cast
      rw [Int.neg_neg, Int.mul_add, Int.add_mul, Int.neg_mul, Int.neg_mul, Int.neg_neg]
    have z1 : tf (M + 1) m (a + 1) = sm M fun l => sg (l + (a + 1)) * ch l (a + 1) * ch m l := by
      unfold tf
      rw [← last]
      exact sm_congr fun i _ => (Int.mul_assoc _ _ _).symm
    have z2 : tf (M + 1) m a = sm M fun l => sg (l + a) * ch l a * ch m l := by
      unfold tf
      rw [← last]
      exact sm_congr fun i _ => (Int.mul_assoc _ _ _).symm
    rw [q, z1, z2, sm_neg]; omega
theorem tf_eq : ∀ (N m a : Nat), m < N → tf N m a = if m = a then 1 else 0
  | N, 0, a, h => by
    rw [tf_0 N a h]
    cases a <;> rfl
  | N, m + 1, 0, h => by rw [tf_s N m 0 h]; rfl
  | N, m + 1, a + 1, h => by
    rw [tf_s N m (a + 1) h]
    dsimp only
    rw [tf_eq N m a (by omega)]
    by_cases e : m = a
    · rw [if_pos e, if_pos (by omega)]
    · rw [if_neg e, if_neg (by omega)]
/-- what is summed by choices -/
def alS (n : Nat) (x : Nat → Int) (a : Nat) : Int := sm n fun l => ch l a * x l
def juS (n : Nat) (x : Nat → Int) (a : Nat) : Int := sm n fun l => sg (l + a) * ch l a * x l
theorem ju_al {n : Nat} {x : Nat → Int} {a : Nat} (h : a < n) : juS n (alS n x) a = x a := by
  unfold juS alS
  have e : (sm n fun l => sg (l + a) * ch l a * sm n fun m => (ch m l : Int) * x m) = sm n fun m => tf n m a * x m := by
    rw [show (fun l => sg (l + a) * (ch l a : Int) * sm n fun m => (ch m l : Int) * x m) = fun l => sm n fun m => sg (l + a) * (ch l a * ch m l) * x m by
      funext l
      rw [← sm_mul]
      refine sm_congr fun m _ => ?_
      simp only [Int.mul_assoc], sm_swap]
    refine sm_congr fun m _ => ?_
    unfold tf
    exact sm_mul_r
  rw [e, sm_one h fun i hi q => by rw [tf_eq n i a hi, if_neg q, Int.zero_mul], tf_eq n a a h, if_pos rfl, Int.one_mul]
theorem al_ju {n : Nat} {x : Nat → Int} {a : Nat} (h : a < n) : alS n (juS n x) a = x a := by
  unfold juS alS
  have e : (sm n fun l => (ch l a : Int) * sm n fun m => sg (m + l) * (ch m l : Int) * x m) = sm n fun m => sg (m + a) * tf n m a * x m := by
    rw [show (fun l => (ch l a : Int) * sm n fun m => sg (m + l) * (ch m l : Int) * x m) = fun l => sm n fun m => sg (m + a) * (sg (l + a) * (ch l a * ch m l)) * x m by
      funext l
      rw [← sm_mul]
      refine sm_congr fun m _ => ?_
      have s : sg (m + a) * sg (l + a) = sg (m + l) := by
        rw [sg_add, sg_add, sg_add, show sg m * sg a * (sg l * sg a) = sg m * sg l * (sg a * sg a) by simp only [Int.mul_assoc, Int.mul_left_comm, Int.mul_comm], sg_sq, Int.mul_one]
      rw [← Int.mul_assoc (sg (m + a)), s]
      simp only [Int.mul_assoc, Int.mul_left_comm], sm_swap]
    refine sm_congr fun m _ => ?_
    unfold tf
    rw [← sm_mul]
    exact sm_mul_r
  rw [e, sm_one h fun i hi q => by rw [tf_eq n i a hi, if_neg q, Int.mul_zero, Int.zero_mul], tf_eq n a a h, if_pos rfl, Int.mul_one]
  rw [show sg (a + a) = 1 by unfold sg; rw [if_pos (by omega)], Int.one_mul]
end DL

namespace DL
open PySem PySem.Spec PyProof.Rows L2
/-! a function of ints on data -/
def iv (F : Int → Int) : D → D
  | .int i => .int (F i)
  | d => d
@[simp] theorem iv_i {F : Int → Int} {i : Int} : iv F (.int i) = .int (F i) := rfl
theorem iv_map {F : Int → Int} (ns : List Int) : (ns.map PyData.int).map (iv F) = (ns.map F).map .int := by rw [List.map_map, List.map_map]; rfl
theorem iv_rng {F : Int → Int} {lo : Int} {n : Nat} : (rngD lo n).map (iv F) = ((List.range n).map fun t : Nat => F (lo + (t : Int))).map .int := by unfold rngD; rw [List.map_map, List.map_map]; rfl
theorem sumD_rng {F : Int → Int} {lo : Int} {n : Nat} : sumD ((rngD lo n).map (iv F)) = some (.fz (.int (sm n fun t => F (lo + (t : Int))))) := by rw [iv_rng, sumD_map, sum_range]
/-- a list or a tuple -/
def sq (c : Bool) (ds : List D) : D := if c = true then .list ds else .tuple ds
@[simp] theorem sq_t {ds : List D} : sq true ds = .list ds := rfl
@[simp] theorem sq_f {ds : List D} : sq false ds = .tuple ds := rfl
theorem divOk_of {a j : Int} (h : 0 < j) (h2 : j < 115792089237316195423570985008687907853269984665640564039457584007913129639936) : divOk a j = true := by
  rw [divOk_eq]
  have : j.natAbs.log2 < 9000 := by
    refine (Nat.log2_lt (by omega)).mpr ?_
    have e2 : j.natAbs < 2 ^ 256 := by
      have : (2 : Nat) ^ 256 = 115792089237316195423570985008687907853269984665640564039457584007913129639936 := by decide
      omega
    exact Nat.lt_of_lt_of_le e2 (Nat.pow_le_pow_right (by decide) (by decide))
  simp [h, this]
theorem mulOk_l {a b : Int} (h : -18446744073709551616 < a) (h2 : a < 18446744073709551616) : mulOk a b = true := by
  rw [mulOk_eq]
  rw [decide_eq_true (by omega : a.natAbs < 18446744073709551616)]
  rfl
theorem mulOk_r {a b : Int} (h : -18446744073709551616 < b) (h2 : b < 18446744073709551616) : mulOk a b = true := by
  rw [mulOk_eq]
  rw [decide_eq_true (by omega : b.natAbs < 18446744073709551616), Bool.or_true]
  rfl
theorem powOk_of {a b : Int} (h0 : 0 ≤ b) (h1 : b ≤ 1000000) (h2 : -18446744073709551616 < a) (h3 : a < 18446744073709551616) : powOk a b = true := by
  rw [powOk_eq, decide_eq_true h0, decide_eq_true h1, decide_eq_true (by omega : a.natAbs < 18446744073709551616)]
  rfl
theorem allTrue : ∀ n : Nat, ((List.replicate n true).all id) = true
  | 0 => rfl
  | n + 1 => by rw [List.replicate_succ, List.all_cons, allTrue n]; rfl
theorem appG_ok {ds : List D} {d : D} (h : ds.length ≤ 1000000) : appG ds [d] = some (ds ++ [d], .none) := by
  unfold appG
  exact if_pos h
/-- nothing but a division -/
theorem ch_div {n k : Nat} (h : k ≤ n) : ((ch n k : Int) * ((n : Int) - k)) / ((k : Int) + 1) = ch n (k + 1) := by
  have e := ch_step' h
  have e2 : (ch n k : Int) * ((n : Int) - k) = ((k : Int) + 1) * ch n (k + 1) := by
    have : ((k + 1 : Nat) : Int) * ch n (k + 1) = ((n - k : Nat) : Int) * ch n k := by rw [← Int.natCast_mul, ← Int.natCast_mul, e]
    rw [Int.ofNat_sub h] at this
    push_cast at this
    rw [this, Int.mul_comm]
  rw [e2, Int.mul_ediv_cancel_left _ (by omega)]
end DL

namespace DL
open PySem PySem.Spec PyProof.Rows L2
noncomputable section
/-! data that is shown and compared without trouble -/
structure Rp (k n : Nat) (d : D) : Prop where
  sh : PyData.showable d = true
  nd : PyData.hasDict d = false
  dp : PyData.depth d ≤ k
  sz : shB d ≤ n
  ly : PyData.canLay0 d = true
theorem Rp.int {i : Int} (h : -(2 ^ 250) < i) (h2 : i < 2 ^ 250) : Rp 0 1921 (.int i) := by
  refine ⟨?_, rfl, Nat.le_refl _, ?_, rfl⟩
  · show decide (i.natAbs.log2 < 1920) = true
    refine decide_eq_true ?_
    by_cases z : i.natAbs = 0
    · rw [z]; decide
    · have : i.natAbs.log2 < 250 := by
        refine (Nat.log2_lt z).mpr ?_
        have e : (2 : Nat) ^ 250 = ((2 : Int) ^ 250).toNat := by decide
        omega
      omega
  · unfold shB
    split <;> omega
theorem Rp.bool {b : Bool} : Rp 0 1921 (.bool b) := ⟨rfl, rfl, Nat.le_refl _, by unfold shB; omega, rfl⟩
theorem Rp.none : Rp 0 1921 .none := ⟨rfl, rfl, Nat.le_refl _, by unfold shB; omega, rfl⟩
theorem Rp.mono {k n k' n' : Nat} {d : D} (h : Rp k n d) (h1 : k ≤ k') (h2 : n ≤ n') : Rp k' n' d := ⟨h.sh, h.nd, Nat.le_trans h.dp h1, Nat.le_trans h.sz h2, h.ly⟩
theorem rpA {k n : Nat} : ∀ {ds : List D}, (∀ d ∈ ds, Rp k n d) → PyData.showableAll ds = true ∧ PyData.hasDictAll ds = false ∧ PyData.depthAll ds ≤ k ∧ shBA ds ≤ ds.length * (n + 2) ∧ PyData.canLayAll0 ds = true
  | [], _ => ⟨rfl, rfl, Nat.zero_le _, by unfold shBA; simp, rfl⟩
  | d :: ds, h => by
    obtain ⟨h1, h2, h3, h4, h5⟩ := rpA (ds := ds) fun d hd => h d (List.mem_cons_of_mem _ hd)
    have q := h d List.mem_cons_self
    refine ⟨?_, ?_, ?_, ?_, ?_⟩
    · rw [PyData.showableAll, q.sh, h1]; rfl
    · rw [PyData.hasDictAll, q.nd, h2]; rfl
    · rw [PyData.depthAll]; exact Nat.max_le.mpr ⟨q.dp, h3⟩
    · rw [shBA, List.length_cons, Nat.succ_mul]
      have := q.sz
      omega
    · rw [PyData.canLayAll0, q.ly, h5]; rfl
theorem Rp.list {k n m : Nat} {ds : List D} (h : ∀ d ∈ ds, Rp k n d) (hl : ds.length ≤ m) : Rp (k + 1) (m * (n + 2) + 3) (.list ds) := by
  obtain ⟨h1, h2, h3, h4, h5⟩ := rpA h
  refine ⟨?_, ?_, ?_, ?_, ?_⟩
  · rw [PyData.showable]; exact h1
  · rw [PyData.hasDict]; exact h2
  · rw [PyData.depth]; omega
  · rw [shB]
    have := Nat.mul_le_mul_right (n + 2) hl
    omega
  · rw [PyData.canLay0]; exact h5
theorem Rp.tuple {k n m : Nat} {ds : List D} (h : ∀ d ∈ ds, Rp k n d) (hl : ds.length ≤ m) : Rp (k + 1) (m * (n + 2) + 3) (.tuple ds) := by
  obtain ⟨h1, h2, h3, h4, h5⟩ := rpA h
  refine ⟨?_, ?_, ?_, ?_, ?_⟩
  · rw [PyData.showable]; exact h1
  · rw [PyData.hasDict]; exact h2
  · rw [PyData.depth]; omega
  · rw [shB]
    have := Nat.mul_le_mul_right (n + 2) hl
    omega
  · rw [PyData.canLay0]; exact h5
theorem Rp.ok {k n : Nat} {d : D} (h : Rp k n d) (hk : k ≤ 64) (hn : n ≤ 16000000) : reprOk d = true := by
  unfold reprOk
  rw [h.sh, h.nd, decide_eq_true (Nat.le_trans h.dp hk), decide_eq_true (Nat.le_trans h.sz hn)]
  rfl
theorem Rp.shaped {k n : Nat} {d : D} (h : Rp k n d) (hk : k ≤ 64) : SeqAt.shaped d = true := by
  unfold SeqAt.shaped
  rw [h.ly, decide_eq_true (Nat.le_trans h.dp hk)]
  rfl
theorem Rp.eqD {k n : Nat} {d : D} (h : Rp k n d) (hk : k ≤ 64) : eqD d d = some true := by
  have s := h.shaped hk
  have r := SeqAt.eqv_refl d h.ly
  cases d with
  | none => rfl
  | str x => unfold DL.eqD; simp
  | _ => unfold DL.eqD; simp [s, r]
/-- ints below a bound -/
theorem Rp.ints {ns : List Int} {m : Nat} (h : ∀ i ∈ ns, -(2 ^ 250) < i ∧ i < 2 ^ 250) (hl : ns.length ≤ m) : Rp 1 (m * 1923 + 3) (.list (ns.map .int)) := by
  refine Rp.list (k := 0) (n := 1921) (fun d hd => ?_) (by rw [List.length_map]; exact hl)
  obtain ⟨i, hi, rfl⟩ := List.mem_map.mp hd
  exact Rp.int (h i hi).1 (h i hi).2
theorem lay_ints : ∀ ns : List Int, PyData.canLayAll0 (ns.map .int) = true ∧ PyData.depthAll (ns.map .int) = 0
  | [] => ⟨rfl, rfl⟩
  | n :: r => by
    obtain ⟨h1, h2⟩ := lay_ints r
    rw [List.map_cons]
    refine ⟨?_, ?_⟩
    · rw [PyData.canLayAll0, h1]; rfl
    · rw [PyData.depthAll, h2]; rfl
theorem eqD_lay {d : D} (h1 : PyData.canLay0 d = true) (h2 : PyData.depth d ≤ 64) : eqD d d = some true := by
  have s : SeqAt.shaped d = true := by
    unfold SeqAt.shaped
    rw [h1, decide_eq_true h2]
    rfl
  have r := SeqAt.eqv_refl d h1
  cases d with
  | none => rfl
  | str x => unfold DL.eqD; simp
  | _ => unfold DL.eqD; simp [s, r]
theorem eqD_ints (ns : List Int) : eqD (.list (ns.map .int)) (.list (ns.map .int)) = some true := by
  obtain ⟨h1, h2⟩ := lay_ints ns
  refine eqD_lay ?_ ?_
  · rw [PyData.canLay0]; exact h1
  · rw [PyData.depth, h2]; decide
section
variable {ρ : Rho} {i : Nat} {a : Int} {d : D} {g : DE} {fs : DA} {G : List D → List D → Option (List D × D)} {x y : Vl}
@[simp] theorem neF_ss {s : Str} : neF ρ [.fz (.str s), .fz (.str s)] = some (.fz (.bool false)) := by
  rw [neF_ap, curR_fz, Option.bind_some, Option.bind_some]
  unfold eqD
  simp
@[simp] theorem eqF_ss {s : Str} : eqF ρ [.fz (.str s), .fz (.str s)] = some (.fz (.bool true)) := by
  rw [eqF_ap, curR_fz, Option.bind_some, Option.bind_some]
  unfold eqD
  simp
/-! x[i].append(..) -/
def own2K : Option (Option Vl) → Option (List (List D))
  | some (some (.ow2 ds)) => some ds
  | _ => none
@[simp] theorem own2K_ow2 {ds : List (List D)} : own2K (some (some (.ow2 ds))) = some ds := rfl
def put2K (i : Nat) (x : List (List D)) (d : D) (ρ : Rho) : Option (Option Vl) → Option (Vl × Rho)
  | some none => some (.fz d, ρ.set i (some (.ow2 x)))
  | _ => none
@[simp] theorem put2K_no {x : List (List D)} : put2K i x d ρ (some none) = some (.fz d, ρ.set i (some (.ow2 x))) := rfl
def m2K (i : Nat) (G : List D → List D → Option (List D × D)) (fs : DA) : Vl × Rho → Option (Vl × Rho) := fun q => match q.1 with
  | .fz (.int a) => (own2K q.2[i]?).bind fun dss => (ixN dss.length a).bind fun j => (dss[j]?).bind fun ds => (fs (q.2.set i none)).bind fun p => (frzA p.1).bind fun es => (G ds es).bind fun t => put2K i (dss.set j t.1) t.2 p.2 p.2[i]?
  | _ => none
theorem own2At_ap : own2At ρ i = own2K ρ[i]? := rfl
@[simp] theorem ap_meth2E : meth2E i g G fs ρ = (own2K ρ[i]?).bind fun _ => (g ρ).bind (m2K i G fs) := by
  unfold meth2E
  rw [own2At_ap]
  congr 1
@[simp] theorem m2K_i : m2K i G fs (.fz (.int a), ρ) = (own2K ρ[i]?).bind fun dss => (ixN dss.length a).bind fun j => (dss[j]?).bind fun ds => (fs (ρ.set i none)).bind fun p => (frzA p.1).bind fun es => (G ds es).bind fun t => put2K i (dss.set j t.1) t.2 p.2 p.2[i]? := rfl
end
theorem pick_1 {d : Vl} : pick [0] [d] = [d] := rfl
theorem pick_01 {d e : Vl} : pick [0, 1] [d, e] = [d, e] := rfl
theorem pick_10 {d e : Vl} : pick [1, 0] [d, e] = [e, d] := rfl
theorem sm_abs {f : Nat → Int} {B : Int} : ∀ {n : Nat}, (∀ i, i < n → -B ≤ f i ∧ f i ≤ B) → -(n * B) ≤ sm n f ∧ sm n f ≤ n * B
  | 0, _ => by simp [sm]
  | n + 1, h => by
    have h1 := sm_abs (f := f) (B := B) (n := n) fun i hi => h i (by omega)
    have h2 := h n (by omega)
    rw [sm, Int.natCast_succ, Int.add_mul, Int.one_mul]
    omega
end
end DL

namespace DL
open PySem PySem.Spec PyProof.Rows L2
noncomputable section
/-- a while-loop of k turns -/
theorem whileL_run {c : DT} {s : DS} {P : Nat → Rho → Prop} {Q : Rho → Prop} (go : ∀ k ρ, P (k + 1) ρ → ∃ ρ1 ρ2, c ρ = some (true, ρ1) ∧ (s ρ1 = some (.nx ρ2) ∨ s ρ1 = some (.ct ρ2)) ∧ P k ρ2) (stop : ∀ ρ, P 0 ρ → ∃ ρ1, c ρ = some (false, ρ1) ∧ Q ρ1) :
    ∀ (n k : Nat) (ρ : Rho), k < n → P k ρ → ∃ ρ1, whileL c s n ρ = some (.nx ρ1) ∧ Q ρ1
  | 0, k, ρ, h, _ => absurd h (Nat.not_lt_zero _)
  | n + 1, 0, ρ, h, p => by
    obtain ⟨ρ1, e, q⟩ := stop ρ p
    refine ⟨ρ1, ?_, q⟩
    rw [whileL, e, Option.bind_some]
    rfl
  | n + 1, k + 1, ρ, h, p => by
    obtain ⟨ρ1, ρ2, e1, e2, p2⟩ := go k ρ p
    obtain ⟨ρ3, e3, q⟩ := whileL_run go stop n k ρ2 (by omega) p2
    refine ⟨ρ3, ?_, q⟩
    rw [whileL, e1, Option.bind_some]
    dsimp only
    rw [if_pos rfl]
    rcases e2 with e2 | e2 <;> (rw [e2]; exact e3)
/-- the test leaves the slots as they are -/
theorem whileL_p {c : DT} {s : DS} {P : Nat → Rho → Prop} {Q : Rho → Prop} (go : ∀ k ρ, P (k + 1) ρ → c ρ = some (true, ρ) ∧ ∃ ρ2, (s ρ = some (.nx ρ2) ∨ s ρ = some (.ct ρ2)) ∧ P k ρ2) (stop : ∀ ρ, P 0 ρ → c ρ = some (false, ρ) ∧ Q ρ)
    (n k : Nat) (ρ : Rho) (h : k < n) (p : P k ρ) : ∃ ρ1, whileL c s n ρ = some (.nx ρ1) ∧ Q ρ1 :=
  whileL_run (fun k ρ p => let ⟨h1, ρ2, h2, h3⟩ := go k ρ p; ⟨ρ, ρ2, h1, h2, h3⟩) (fun ρ p => let ⟨h1, h2⟩ := stop ρ p; ⟨ρ, h1, h2⟩) n k ρ h p
theorem fuel_big {k : Nat} (h : k < 1000000000000) : k < fuel := by
  have := fuel_ge (n := 1000000000001) (by decide)
  omega
/-! lists of ints by their places -/
def xat (xs : List Int) (i : Nat) : Int := xs.getD i 0
theorem xat_get {xs : List Int} {i : Nat} (h : i < xs.length) : (xs.map PyData.int)[i]? = some (.int (xat xs i)) := by
  rw [List.getElem?_map, List.getElem?_eq_getElem h]
  unfold xat
  rw [List.getD_eq_getElem?_getD, List.getElem?_eq_getElem h]
  rfl
theorem ix_sq {ρ : Rho} {c : Bool} {xs : List Int} {i : Nat} (h : i < xs.length) : ixF ρ [.fz (sq c (xs.map .int)), .fz (.int (i : Int))] = some (.fz (.int (xat xs i))) := by
  cases c
  · rw [sq_f, ixF_t]; exact ixL_nat (xat_get h)
  · rw [sq_t, ixF_l]; exact ixL_nat (xat_get h)
theorem len_sq {ρ : Rho} {c : Bool} {xs : List Int} : lenF ρ [.fz (sq c (xs.map .int))] = some (.fz (.int xs.length)) := by cases c <;> simp
theorem xat_map {f : Nat → Int} {n t : Nat} (h : t < n) : xat ((List.range n).map f) t = f t := by
  unfold xat
  rw [List.getD_eq_getElem?_getD, List.getElem?_map, List.getElem?_range h]
  rfl
theorem xat_all (xs : List Int) : (List.range xs.length).map (xat xs) = xs := by
  refine List.ext_getElem (by rw [List.length_map, List.length_range]) fun i h1 h2 => ?_
  rw [List.getElem_map, List.getElem_range]
  unfold xat
  rw [List.getD_eq_getElem?_getD, List.getElem?_eq_getElem h2]
  rfl
/-- of a pair -/
def pv2 (F : Int → Int → Int) : D → D
  | .tuple [.int i, .int j] => .int (F i j)
  | d => d
theorem enum_ints : ∀ (ns : List Int) (k : Nat), enumD k (ns.map .int) = (List.range ns.length).map fun t => .tuple [.int ((k + t : Nat) : Int), .int (xat ns t)]
  | [], k => rfl
  | n :: r, k => by
    rw [List.map_cons, enumD, enum_ints r (k + 1), List.length_cons, List.range_succ_eq_map, List.map_cons, List.map_map]
    congr 1
    refine List.map_congr_left fun t _ => ?_
    show PyData.tuple [.int ((k + 1 + t : Nat) : Int), .int (xat r t)] = .tuple [.int ((k + (t + 1) : Nat) : Int), .int (xat (n :: r) (t + 1))]
    rw [show k + 1 + t = k + (t + 1) by omega]
    rfl
theorem enum_mem {ns : List Int} {d : D} (h : d ∈ enumD 0 (ns.map .int)) : ∃ t : Nat, t < ns.length ∧ d = .tuple [.int (t : Int), .int (xat ns t)] := by
  rw [enum_ints] at h
  obtain ⟨t, ht, rfl⟩ := List.mem_map.mp h
  exact ⟨t, List.mem_range.mp ht, by rw [Nat.zero_add]⟩
theorem zip_ints : ∀ (xs ys : List Int), xs.length = ys.length → zipD (xs.map .int) (ys.map .int) = (List.range xs.length).map fun t => .tuple [.int (xat xs t), .int (xat ys t)]
  | [], [], _ => rfl
  | x :: xs, y :: ys, h => by
    rw [List.map_cons, List.map_cons, zipD, zip_ints xs ys (by simpa using h), List.length_cons, List.range_succ_eq_map, List.map_cons, List.map_map]
    rfl
theorem zip_mem {xs ys : List Int} (hl : xs.length = ys.length) {d : D} (h : d ∈ zipD (xs.map .int) (ys.map .int)) : ∃ t, t < xs.length ∧ d = .tuple [.int (xat xs t), .int (xat ys t)] := by
  rw [zip_ints xs ys hl] at h
  obtain ⟨t, ht, rfl⟩ := List.mem_map.mp h
  exact ⟨t, List.mem_range.mp ht, rfl⟩
/-! a row of numbers by its function -/
def vec (n : Nat) (f : Nat → Int) : List Int := (List.range n).map f
theorem vec_len {n : Nat} {f : Nat → Int} : (vec n f).length = n := by unfold vec; rw [List.length_map, List.length_range]
theorem xat_vec {n i : Nat} {f : Nat → Int} (h : i < n) : xat (vec n f) i = f i := xat_map h
theorem vec_xat (xs : List Int) : vec xs.length (xat xs) = xs := xat_all xs
theorem vec_at {n i : Nat} {f : Nat → Int} (h : i < n) : ((vec n f).map PyData.int)[i]? = some (.int (f i)) := by
  unfold vec
  rw [List.getElem?_map, List.getElem?_map, List.getElem?_range h]
  rfl
theorem vec_set {n i : Nat} {f : Nat → Int} {x : Int} : ((vec n f).map PyData.int).set i (.int x) = (vec n fun j => if j = i then x else f j).map .int := by
  refine List.ext_getElem (by rw [List.length_set, List.length_map, List.length_map, vec_len, vec_len]) fun j h1 h2 => ?_
  rw [List.getElem_set, List.getElem_map, List.getElem_map]
  unfold vec
  rw [List.getElem_map, List.getElem_map, List.getElem_range]
  by_cases e : j = i
  · rw [if_pos e.symm, if_pos e]
  · rw [if_neg (fun q => e q.symm), if_neg e]
theorem vec_congr {n : Nat} {f g : Nat → Int} (h : ∀ i, i < n → f i = g i) : vec n f = vec n g := List.map_congr_left fun i hi => h i (List.mem_range.mp hi)
theorem vec_rep {n : Nat} {c : Int} : (List.replicate n (PyData.int c)) = (vec n fun _ => c).map .int := by
  unfold vec
  rw [List.map_map]
  refine List.ext_getElem (by rw [List.length_replicate, List.length_map, List.length_range]) fun j h1 h2 => ?_
  rw [List.getElem_replicate, List.getElem_map]
  rfl
theorem vec_succ {n : Nat} {f : Nat → Int} : (vec (n + 1) f).map PyData.int = (vec n f).map PyData.int ++ [.int (f n)] := by
  unfold vec
  rw [List.range_succ, List.map_append, List.map_append]
  rfl
theorem sum_vec {n : Nat} {f : Nat → Int} : (vec n f).sum = sm n f := sum_range n
theorem eqF_vec {ρ : Rho} {xs : List Int} : eqF ρ [.ow (xs.map .int), .ow (xs.map .int)] = some (.fz (.bool true)) := by
  rw [eqF_ap, curR_ow, Option.bind_some, Option.bind_some, eqD_ints]
  rfl
theorem eqF_vecA {ρ : Rho} {xs : List Int} : eqF ρ [.ow (xs.map .int), .fz (.list (xs.map .int))] = some (.fz (.bool true)) := by
  rw [eqF_ap, curR_ow, curR_fz, Option.bind_some, Option.bind_some, eqD_ints]
  rfl
theorem eqF_vecB {ρ : Rho} {xs : List Int} : eqF ρ [.fz (.list (xs.map .int)), .ow (xs.map .int)] = some (.fz (.bool true)) := by
  rw [eqF_ap, curR_ow, curR_fz, Option.bind_some, Option.bind_some, eqD_ints]
  rfl
theorem eqF_vecC {ρ : Rho} {xs : List Int} : eqF ρ [.fz (.list (xs.map .int)), .fz (.list (xs.map .int))] = some (.fz (.bool true)) := by
  rw [eqF_ap, curR_fz, Option.bind_some, Option.bind_some, eqD_ints]
  rfl
theorem neF_vec {ρ : Rho} {xs : List Int} : neF ρ [.ow (xs.map .int), .ow (xs.map .int)] = some (.fz (.bool false)) := by
  rw [neF_ap, curR_ow, Option.bind_some, Option.bind_some, eqD_ints]
  rfl
theorem neF_vecA {ρ : Rho} {xs : List Int} : neF ρ [.ow (xs.map .int), .fz (.list (xs.map .int))] = some (.fz (.bool false)) := by
  rw [neF_ap, curR_ow, curR_fz, Option.bind_some, Option.bind_some, eqD_ints]
  rfl
theorem neF_vecB {ρ : Rho} {xs : List Int} : neF ρ [.fz (.list (xs.map .int)), .ow (xs.map .int)] = some (.fz (.bool false)) := by
  rw [neF_ap, curR_ow, curR_fz, Option.bind_some, Option.bind_some, eqD_ints]
  rfl
theorem neF_vecC {ρ : Rho} {xs : List Int} : neF ρ [.fz (.list (xs.map .int)), .fz (.list (xs.map .int))] = some (.fz (.bool false)) := by
  rw [neF_ap, curR_fz, Option.bind_some, Option.bind_some, eqD_ints]
  rfl
theorem Rp.two {k n : Nat} {d e : D} (h1 : Rp k n d) (h2 : Rp k n e) : Rp (k + 1) (2 * (n + 2) + 3) (.list [d, e]) := Rp.list (fun x hx => by
    rcases List.mem_cons.mp hx with rfl | hx
    · exact h1
    · obtain rfl := List.mem_singleton.mp hx
      exact h2) (Nat.le_refl 2)
theorem Rp.three {k n : Nat} {d e f : D} (h1 : Rp k n d) (h2 : Rp k n e) (h3 : Rp k n f) : Rp (k + 1) (3 * (n + 2) + 3) (.list [d, e, f]) := Rp.list (fun x hx => by
    rcases List.mem_cons.mp hx with rfl | hx
    · exact h1
    · rcases List.mem_cons.mp hx with rfl | hx
      · exact h2
      · obtain rfl := List.mem_singleton.mp hx
        exact h3) (Nat.le_refl 3)
def Bd (B : Int) (xs : List Int) : Prop := ∀ x ∈ xs, -B ≤ x ∧ x ≤ B
theorem Bd.xat {B : Int} {xs : List Int} (h : Bd B xs) {i : Nat} (hi : i < xs.length) : -B ≤ xat xs i ∧ xat xs i ≤ B := by
  have : DL.xat xs i = xs[i] := by unfold DL.xat; rw [List.getD_eq_getElem?_getD, List.getElem?_eq_getElem hi]; rfl
  rw [this]
  exact h _ (List.getElem_mem hi)
theorem Bd.rp {B : Int} {xs : List Int} {m : Nat} (h : Bd B xs) (hB : B < 2 ^ 250) (hl : xs.length ≤ m) : Rp 1 (m * 1923 + 3) (.list (xs.map .int)) := Rp.ints (fun i hi => by have := h i hi; omega) hl
theorem Bd.mono {B C : Int} {xs : List Int} (h : Bd B xs) (hB : B ≤ C) : Bd C xs := fun i hi => by have := h i hi; omega
theorem Bd.vec {n : Nat} {f : Nat → Int} {B : Int} (h : ∀ i, i < n → -B ≤ f i ∧ f i ≤ B) : Bd B (vec n f) := fun x hx => by
  obtain ⟨i, hi, rfl⟩ := List.mem_map.mp hx
  exact h i (List.mem_range.mp hi)
theorem mul_abs {a b A B : Int} (ha : 0 ≤ a ∧ a ≤ A) (hb : -B ≤ b ∧ b ≤ B) : -(A * B) ≤ a * b ∧ a * b ≤ A * B := by
  have hB : 0 ≤ B := by omega
  have h1 : a * b ≤ a * B := Int.mul_le_mul_of_nonneg_left hb.2 ha.1
  have h2 : a * B ≤ A * B := Int.mul_le_mul_of_nonneg_right ha.2 hB
  have h3 : a * (-B) ≤ a * b := Int.mul_le_mul_of_nonneg_left hb.1 ha.1
  rw [Int.mul_neg] at h3
  omega
end
end DL

namespace DL
open PySem PySem.Spec PyProof.Rows L2
noncomputable section
/-! equality of rows of ints -/
theorem eqvA_ints : ∀ xs ys : List Int, PyData.eqvAll (xs.map .int) (ys.map .int) = decide (xs = ys)
  | [], [] => by rw [List.map_nil, PyData.eqvAll]; rfl
  | [], y :: ys => by rw [List.map_nil, List.map_cons, PyData.eqvAll]; rfl
  | x :: xs, [] => by rw [List.map_nil, List.map_cons, PyData.eqvAll]; rfl
  | x :: xs, y :: ys => by
    rw [List.map_cons, List.map_cons, PyData.eqvAll, eqvA_ints xs ys, PyData.eqv]
    by_cases e : x = y
    · subst e; simp
    · simp [e]
theorem eqv_lI (xs ys : List Int) : PyData.eqv (.list (xs.map .int)) (.list (ys.map .int)) = decide (xs = ys) := by rw [PyData.eqv, eqvA_ints]
theorem eqv_tI (xs ys : List Int) : PyData.eqv (.tuple (xs.map .int)) (.tuple (ys.map .int)) = decide (xs = ys) := by rw [PyData.eqv, eqvA_ints]
theorem sh_lI (xs : List Int) : SeqAt.shaped (.list (xs.map .int)) = true := by
  obtain ⟨h1, h2⟩ := lay_ints xs
  unfold SeqAt.shaped
  rw [PyData.canLay0, h1, PyData.depth, h2]
  rfl
theorem sh_tI (xs : List Int) : SeqAt.shaped (.tuple (xs.map .int)) = true := by
  obtain ⟨h1, h2⟩ := lay_ints xs
  unfold SeqAt.shaped
  rw [PyData.canLay0, h1, PyData.depth, h2]
  rfl
theorem eqD_lI (xs ys : List Int) : eqD (.list (xs.map .int)) (.list (ys.map .int)) = some (decide (xs = ys)) := by
  unfold eqD
  simp only [sh_lI, eqv_lI, Bool.and_self, if_pos]
theorem eqD_tI (xs ys : List Int) : eqD (.tuple (xs.map .int)) (.tuple (ys.map .int)) = some (decide (xs = ys)) := by
  unfold eqD
  simp only [sh_tI, eqv_tI, Bool.and_self, if_pos]
theorem neD_lI (xs ys : List Int) : neD (.list (xs.map .int)) (.list (ys.map .int)) = some (!decide (xs = ys)) := by
  unfold neD
  rw [eqD_lI]
  rfl
/-- not the empty row -/
theorem neD_e (xs : List Int) : neD (.list (xs.map .int)) (.list []) = some (decide (0 < xs.length)) := by
  rw [show (PyData.list []) = .list (([] : List Int).map .int) from rfl, neD_lI]
  cases xs <;> simp
/-! rows of rows of ints -/
def tuI (ns : List Int) : D := .tuple (ns.map .int)
def liI (ns : List Int) : D := .list (ns.map .int)
theorem lay_tus : ∀ L : List (List Int), PyData.canLayAll0 (L.map tuI) = true ∧ PyData.depthAll (L.map tuI) ≤ 1
  | [] => ⟨rfl, by rw [List.map_nil, PyData.depthAll]; decide⟩
  | n :: r => by
    obtain ⟨h1, h2⟩ := lay_tus r
    obtain ⟨g1, g2⟩ := lay_ints n
    rw [List.map_cons]
    refine ⟨?_, ?_⟩
    · rw [PyData.canLayAll0, h1, tuI, PyData.canLay0, g1]; rfl
    · rw [PyData.depthAll, tuI, PyData.depth, g2]; omega
theorem lay_lis : ∀ L : List (List Int), PyData.canLayAll0 (L.map liI) = true ∧ PyData.depthAll (L.map liI) ≤ 1
  | [] => ⟨rfl, by rw [List.map_nil, PyData.depthAll]; decide⟩
  | n :: r => by
    obtain ⟨h1, h2⟩ := lay_lis r
    obtain ⟨g1, g2⟩ := lay_ints n
    rw [List.map_cons]
    refine ⟨?_, ?_⟩
    · rw [PyData.canLayAll0, h1, liI, PyData.canLay0, g1]; rfl
    · rw [PyData.depthAll, liI, PyData.depth, g2]; omega
theorem sh_ltu (L : List (List Int)) : SeqAt.shaped (.list (L.map tuI)) = true := by
  obtain ⟨h1, h2⟩ := lay_tus L
  unfold SeqAt.shaped
  rw [PyData.canLay0, h1, PyData.depth, decide_eq_true (show PyData.depthAll (L.map tuI) + 1 ≤ 64 by omega)]
  rfl
theorem sh_lli (L : List (List Int)) : SeqAt.shaped (.list (L.map liI)) = true := by
  obtain ⟨h1, h2⟩ := lay_lis L
  unfold SeqAt.shaped
  rw [PyData.canLay0, h1, PyData.depth, decide_eq_true (show PyData.depthAll (L.map liI) + 1 ≤ 64 by omega)]
  rfl
theorem sh_tu (x : List Int) : SeqAt.shaped (tuI x) = true := sh_tI x
theorem sh_li (x : List Int) : SeqAt.shaped (liI x) = true := sh_lI x
theorem cnt_tu (L : List (List Int)) (x : List Int) : cntG (L.map tuI) (tuI x) = some (.int (L.count x : Nat)) := by
  unfold cntG
  congr 3
  rw [List.countP_map, List.count]
  refine List.countP_congr fun z _ => ?_
  show PyData.eqv (tuI z) (tuI x) = true ↔ _
  rw [tuI, tuI, eqv_tI]
  simp
theorem idx_tu (L : List (List Int)) (x : List Int) (h : x ∈ L) : idxG (L.map tuI) (tuI x) = some (.int (L.idxOf x : Nat)) := by
  unfold idxG SeqAt.dataPlace
  have : (L.map tuI).findIdx? (fun y => PyData.eqv y (tuI x)) = some (L.idxOf x) := by
    rw [List.findIdx?_map]
    have e : ((fun y => PyData.eqv y (tuI x)) ∘ tuI) = fun z => z == x := by
      funext z
      show PyData.eqv (tuI z) (tuI x) = _
      rw [tuI, tuI, eqv_tI]
      rw [Bool.eq_iff_iff]; simp
    rw [e]
    unfold List.idxOf
    rw [List.findIdx?_eq_some_iff_findIdx_eq]
    exact ⟨List.findIdx_lt_length_of_exists ⟨x, h, by simp⟩, rfl⟩
  rw [this]
  rfl
/-! all rows that come of a row by taking one after the other out of it -/
def mixes : Nat → List Int → List (List Int)
  | 0, _ => [[]]
  | n + 1, l => (List.range (n + 1)).flatMap fun i => (mixes n (l.eraseIdx i)).map (l.getD i 0 :: ·)
theorem mixes_mem {n i : Nat} {l r : List Int} (hi : i < n + 1) (h : r ∈ mixes n (l.eraseIdx i)) : xat l i :: r ∈ mixes (n + 1) l := by
  rw [mixes, List.mem_flatMap]
  exact ⟨i, List.mem_range.mpr hi, List.mem_map.mpr ⟨r, h, rfl⟩⟩
theorem mixes_len : ∀ {n : Nat} {l r : List Int}, r ∈ mixes n l → r.length = n
  | 0, l, r, h => by rw [mixes, List.mem_singleton] at h; subst h; rfl
  | n + 1, l, r, h => by
    rw [mixes, List.mem_flatMap] at h
    obtain ⟨i, _, h⟩ := h
    obtain ⟨r', h', rfl⟩ := List.mem_map.mp h
    rw [List.length_cons, mixes_len h']
theorem erase_map {α β : Type} (f : α → β) : ∀ (l : List α) (i : Nat), (l.map f).eraseIdx i = (l.eraseIdx i).map f
  | [], _ => rfl
  | a :: l, 0 => rfl
  | a :: l, i + 1 => by rw [List.map_cons, List.eraseIdx_cons_succ, List.eraseIdx_cons_succ, List.map_cons, erase_map f l i]
theorem popAt_ok {xs : List Int} {i : Nat} (h : i < xs.length) (h2 : xs.length < 1000000000) : popAtG (xs.map PyData.int) [.int (i : Int)] = some ((xs.eraseIdx i).map .int, .int (xat xs i)) := by
  unfold popAtG
  dsimp only
  rw [if_pos (smallI_of (by omega) (by omega))]
  have e : seqIndex? (i : Int) (xs.map PyData.int).length = some i := by
    unfold seqIndex?
    rw [List.length_map]
    simp
    omega
  rw [e, Option.bind_some, xat_get h, Option.bind_some, erase_map]
/-! one after the other in another sequence -/
theorem sm_perm {n : Nat} {f : Nat → Int} {σ : Nat → Nat} (h1 : ∀ b, b < n → σ b < n) (h2 : ∀ a b, a < n → b < n → σ a = σ b → a = b) (h3 : ∀ c, c < n → ∃ b, b < n ∧ σ b = c) : sm n (fun b => f (σ b)) = sm n f := by
  have e1 : sm n (fun b => f (σ b)) = sm n fun b => sm n fun c => if σ b = c then f c else 0 := sm_congr fun b hb => by
    rw [sm_one (h1 b hb) fun i _ q => if_neg (fun z => q z.symm), if_pos rfl]
  rw [e1, sm_swap]
  refine sm_congr fun c hc => ?_
  obtain ⟨b, hb, rfl⟩ := h3 c hc
  rw [sm_one hb fun i hi q => if_neg fun z => q (h2 i b hi hb z), if_pos rfl]
/-- a comprehension without a condition, the state as it was, by places -/
theorem lcE_tab {fi : DI} {st : DTg} {c : DT} {f : DE} {vs : List Nat} {ρ ρ1 : Rho} {n : Nat} {F G : Nat → D} (hi : fi ρ = some ((List.range n).map F, ρ1)) (hn : n ≤ 1000000)
    (go : ∀ j, j < n → ∃ ρa r, st (.fz (F j)) (wipeR ρ1 vs) = some ρa ∧ c ρa = some (true, ρa) ∧ f ρa = some (r, ρa) ∧ frz r = some (G j) ∧ wipeR ρa vs = wipeR ρ1 vs) :
    lcE fi st c f vs ρ = some (.ow ((List.range n).map G), unwR vs ρ1 (wipeR ρ1 vs)) := by
  have gen : ∀ k, k ≤ n → lcL st c f vs ((List.range k).map fun j => F (n - k + j)) (wipeR ρ1 vs) = some ((List.range k).map fun j => G (n - k + j), wipeR ρ1 vs) := by
    intro k
    induction k with
    | zero => intro _; rfl
    | succ k ih =>
      intro hk
      obtain ⟨ρa, r, e1, e2, e3, e4, e5⟩ := go (n - (k + 1)) (by omega)
      rw [List.range_succ_eq_map, List.map_cons, List.map_cons, List.map_map, List.map_map, Nat.add_zero, lcL, e1, Option.bind_some, e2, Option.bind_some]
      dsimp only
      rw [if_pos rfl, e3, Option.bind_some]
      dsimp only
      rw [e4, Option.bind_some, e5]
      have h := ih (by omega)
      have q : ∀ j, n - (k + 1) + (j + 1) = n - k + j := fun j => by omega
      have c1 : (fun j => F (n - (k + 1) + j)) ∘ Nat.succ = fun j => F (n - k + j) := funext fun j => congrArg F (q j)
      have c2 : (fun j => G (n - (k + 1) + j)) ∘ Nat.succ = fun j => G (n - k + j) := funext fun j => congrArg G (q j)
      rw [c1, c2, h]
      rfl
  have := gen n (Nat.le_refl n)
  rw [Nat.sub_self] at this
  simp only [Nat.zero_add] at this
  exact lcE_of hi (by rw [List.length_map, List.length_range]; exact hn) this
/-- the state goes along -/
theorem lcE_go {fi : DI} {st : DTg} {c : DT} {f : DE} {vs : List Nat} {ρ ρ1 : Rho} {ds : List D} {P : List D → Nat → Rho → Prop} (hi : fi ρ = some (ds, ρ1)) (hn : ds.length ≤ 1000000) (h0 : P [] 0 (wipeR ρ1 vs))
    (go : ∀ j d acc ρ, ds[j]? = some d → P acc j ρ → ∃ ρa ρb r z ρc, st (.fz d) ρ = some ρa ∧ c ρa = some (true, ρb) ∧ f ρb = some (r, ρc) ∧ frz r = some z ∧ P (acc ++ [z]) (j + 1) (wipeR ρc vs)) :
    ∃ out ρ2, lcE fi st c f vs ρ = some (.ow out, unwR vs ρ1 ρ2) ∧ P out ds.length ρ2 := by
  obtain ⟨out, ρ2, e, p⟩ := lcL_inv (P := P) (st := st) (c := c) (f := f) (vs := vs) ds 0 [] (wipeR ρ1 vs) h0 fun j d acc ρ hd hp => by
    rw [Nat.zero_add] at hp ⊢
    obtain ⟨ρa, ρb, r, z, ρc, e1, e2, e3, e4, e5⟩ := go j d acc ρ hd hp
    exact ⟨ρa, true, ρb, e1, e2, by rw [if_pos rfl]; exact ⟨r, z, ρc, e3, e4, e5⟩⟩
  rw [List.nil_append, Nat.zero_add] at p
  exact ⟨out, ρ2, lcE_of hi hn e, p⟩
theorem rngD_tab {lo : Int} {n : Nat} : rngD lo n = (List.range n).map fun j : Nat => PyData.int (lo + (j : Int)) := rfl
theorem ints_tab (xs : List Int) : xs.map PyData.int = (List.range xs.length).map fun j => PyData.int (xat xs j) := by
  conv => lhs; rw [← xat_all xs]
  rw [List.map_map]
  rfl
end
end DL

namespace DL
open PySem PySem.Spec PyProof.Rows L2
noncomputable section
/-! chains -/
def chainK (F' : List D → Option D) (h : DE) (y : Vl) (ρ : Rho) : D → Option (Vl × Rho)
  | .bool b => if b = true then (h ρ).bind fun t => (curA t.2 [y, t.1]).bind fun es => (F' es).bind fun z => some (.fz z, t.2) else some (.fz (.bool false), ρ)
  | _ => none
section
variable {F F' : List D → Option D} {f g h : DE} {ρ : Rho} {y : Vl} {a b : Int}
@[simp] theorem ap_chainE : chainE F F' f g h ρ = (f ρ).bind fun p => (g p.2).bind fun q => (curA q.2 [p.1, q.1]).bind fun ds => (F ds).bind (chainK F' h q.1 q.2) := by
  have e : ∀ (q : Vl × Rho), (fun z : D => (match z with
    | .bool b => if b = true then (h q.2).bind fun t => (curA t.2 [q.1, t.1]).bind fun es => (F' es).bind fun y => some (.fz y, t.2) else some (.fz (.bool false), q.2)
    | _ => none : Option (Vl × Rho))) = chainK F' h q.1 q.2 := fun q => by
    funext z
    cases z <;> rfl
  show ((f ρ).bind fun p => (g p.2).bind fun q => (curA q.2 [p.1, q.1]).bind fun ds => (F ds).bind fun z => _) = _
  simp only [← e]
  all_goals rfl
@[simp] theorem chainK_t : chainK F' h y ρ (.bool true) = (h ρ).bind fun t => (curA t.2 [y, t.1]).bind fun es => (F' es).bind fun z => some (.fz z, t.2) := rfl
@[simp] theorem chainK_f : chainK F' h y ρ (.bool false) = some (.fz (.bool false), ρ) := rfl
@[simp] theorem chainK_b {c : Bool} : chainK F' h y ρ (.bool c) = if c = true then (h ρ).bind fun t => (curA t.2 [y, t.1]).bind fun es => (F' es).bind fun z => some (.fz z, t.2) else some (.fz (.bool false), ρ) := rfl
@[simp] theorem leD_i : leD [.int a, .int b] = some (.bool (decide (a ≤ b))) := rfl
@[simp] theorem ltD_i : ltD [.int a, .int b] = some (.bool (decide (a < b))) := rfl
@[simp] theorem gtD_i : gtD [.int a, .int b] = some (.bool (decide (b < a))) := rfl
@[simp] theorem geD_i : geD [.int a, .int b] = some (.bool (decide (b ≤ a))) := rfl
end
/-! rows sorted, all orders -/
theorem sort_same {a b : List Int} (h : a.Perm b) (hb : b.Pairwise (· ≤ ·)) : sortI a = b := PySem.W.ksm_same ((sortI_perm a).trans h) (sortI_sorted a) hb
def upto (n : Nat) : List Int := (List.range n).map fun k : Nat => (k : Int)
theorem upto_len {n : Nat} : (upto n).length = n := by unfold upto; rw [List.length_map, List.length_range]
theorem upto_rng {n : Nat} : rngD 0 n = (upto n).map .int := by
  unfold rngD upto
  rw [List.map_map]
  refine List.map_congr_left fun k _ => ?_
  rw [Int.zero_add]
  rfl
theorem upto_mem {n : Nat} {i : Int} : i ∈ upto n ↔ 0 ≤ i ∧ i < n := by
  unfold upto
  rw [List.mem_map]
  constructor
  · rintro ⟨k, hk, rfl⟩
    have := List.mem_range.mp hk
    omega
  · rintro ⟨h1, h2⟩
    exact ⟨i.toNat, List.mem_range.mpr (by omega), by omega⟩
theorem upto_sorted (n : Nat) : (upto n).Pairwise (· ≤ ·) := by
  unfold upto
  rw [List.pairwise_map]
  refine List.Pairwise.imp ?_ (List.pairwise_lt_range (n := n))
  intro a b h
  omega
theorem erase_perm : ∀ (l : List Int) (i : Nat) (h : i < l.length), (l[i] :: l.eraseIdx i).Perm l
  | a :: l, 0, _ => List.Perm.refl _
  | a :: l, i + 1, h => by
    rw [List.eraseIdx_cons_succ, List.getElem_cons_succ]
    exact (List.Perm.swap ..).trans ((erase_perm l i (by simpa using h)).cons a)
theorem mixes_perm : ∀ {n : Nat} {l r : List Int}, l.length = n → r ∈ mixes n l → r.Perm l
  | 0, l, r, hl, h => by
    rw [mixes, List.mem_singleton] at h
    subst h
    rw [List.length_eq_zero_iff.mp hl]
  | n + 1, l, r, hl, h => by
    rw [mixes, List.mem_flatMap] at h
    obtain ⟨i, hi, h⟩ := h
    have hi := List.mem_range.mp hi
    obtain ⟨r', h', rfl⟩ := List.mem_map.mp h
    have ih := mixes_perm (by rw [List.length_eraseIdx_of_lt (by omega)]; omega) h'
    have e : l.getD i 0 = l[i] := by rw [List.getD_eq_getElem?_getD, List.getElem?_eq_getElem (by omega)]; rfl
    rw [e]
    exact (ih.cons _).trans (erase_perm l i (by omega))
/-- an order of n things -/
structure IsOrd (os : List Int) : Prop where
  so : sortI os = upto os.length
  bd : ∀ i ∈ os, 0 ≤ i ∧ i < os.length
theorem IsOrd.of_perm {n : Nat} {os : List Int} (h : os.Perm (upto n)) : IsOrd os := by
  have hl : os.length = n := by rw [h.length_eq, upto_len]
  refine ⟨by rw [hl]; exact sort_same h (upto_sorted n), fun i hi => ?_⟩
  rw [hl]
  exact upto_mem.mp (h.mem_iff.mp hi)
end
end DL

namespace DL
open PySem PySem.Spec PyProof.Rows L2
noncomputable section
theorem flat_ints : ∀ ns : List Int, (ns.map PyData.int).all flatD = true
  | [] => rfl
  | n :: r => by rw [List.map_cons, List.all_cons, flat_ints r]; rfl
theorem any_ints (k : Int) : ∀ ns : List Int, ((ns.map PyData.int).any fun z => PyData.eqv z (.int k)) = decide (k ∈ ns)
  | [] => by simp
  | n :: r => by
    rw [List.map_cons, List.any_cons, any_ints k r]
    have : PyData.eqv (.int n) (.int k) = (n == k) := by rw [PyData.eqv]
    rw [this]
    by_cases e : n = k
    · subst e; simp
    · simp [e, Ne.symm e]
theorem sh_int (k : Int) : SeqAt.shaped (.int k) = true := rfl
theorem inD_l {k : Int} {ns : List Int} : inD [.int k, .list (ns.map .int)] = some (decide (k ∈ ns)) := by
  unfold inD
  dsimp only
  rw [sh_int, sh_lI, any_ints]
  rfl
theorem inD_t {k : Int} {ns : List Int} : inD [.int k, .tuple (ns.map .int)] = some (decide (k ∈ ns)) := by
  unfold inD
  dsimp only
  rw [if_pos (by rw [flat_ints]; rfl), any_ints]
theorem inF_l {ρ : Rho} {k : Int} {ns : List Int} : inF ρ [.fz (.int k), .fz (.list (ns.map .int))] = some (.fz (.bool (decide (k ∈ ns)))) := by
  unfold inF ctF
  simp only [curA_cons, curA_nil, curR_fz, Option.bind_some, inD_l]
theorem inF_t {ρ : Rho} {k : Int} {ns : List Int} : inF ρ [.fz (.int k), .fz (.tuple (ns.map .int))] = some (.fz (.bool (decide (k ∈ ns)))) := by
  unfold inF ctF
  simp only [curA_cons, curA_nil, curR_fz, Option.bind_some, inD_t]
theorem notInF_l {ρ : Rho} {k : Int} {ns : List Int} : notInF ρ [.fz (.int k), .fz (.list (ns.map .int))] = some (.fz (.bool (!decide (k ∈ ns)))) := by
  unfold notInF ctF
  simp only [curA_cons, curA_nil, curR_fz, Option.bind_some, inD_l]
theorem notInF_t {ρ : Rho} {k : Int} {ns : List Int} : notInF ρ [.fz (.int k), .fz (.tuple (ns.map .int))] = some (.fz (.bool (!decide (k ∈ ns)))) := by
  unfold notInF ctF
  simp only [curA_cons, curA_nil, curR_fz, Option.bind_some, inD_t]
theorem extG_ok {ds zs : List D} (h : ds.length + zs.length ≤ 1000000) : extG ds [.list zs] = some (ds ++ zs, .none) := if_pos h
/-- a comprehension with a condition, by places -/
theorem lcE_tabF {fi : DI} {st : DTg} {c : DT} {f : DE} {vs : List Nat} {ρ ρ1 : Rho} {α : Type} {L : List α} {F G : α → D} {T : α → Bool} (hi : fi ρ = some (L.map F, ρ1)) (hn : L.length ≤ 1000000)
    (go : ∀ a ∈ L, ∃ ρa r, st (.fz (F a)) (wipeR ρ1 vs) = some ρa ∧ c ρa = some (T a, ρa) ∧ wipeR ρa vs = wipeR ρ1 vs ∧ (T a = true → f ρa = some (r, ρa) ∧ frz r = some (G a))) :
    lcE fi st c f vs ρ = some (.ow ((L.filter T).map G), unwR vs ρ1 (wipeR ρ1 vs)) := by
  have gen : ∀ L' : List α, (∀ a ∈ L', a ∈ L) → lcL st c f vs (L'.map F) (wipeR ρ1 vs) = some ((L'.filter T).map G, wipeR ρ1 vs) := by
    intro L'
    induction L' with
    | nil => intro _; rfl
    | cons a r ih =>
      intro h
      obtain ⟨ρa, v, e1, e2, e3, e4⟩ := go a (h a List.mem_cons_self)
      rw [List.map_cons, lcL, e1, Option.bind_some, e2, Option.bind_some]
      dsimp only
      have ih' := ih fun b hb => h b (List.mem_cons_of_mem _ hb)
      cases q : T a with
      | true =>
        obtain ⟨e5, e6⟩ := e4 q
        rw [if_pos rfl, e5, Option.bind_some]
        dsimp only
        rw [e6, Option.bind_some, e3, ih', List.filter_cons_of_pos q]
        rfl
      | false => rw [if_neg (by decide), e3, ih', List.filter_cons_of_neg (by rw [q]; decide)]
  exact lcE_of hi (by rw [List.length_map]; exact hn) (gen L fun _ h => h)
/-- without one -/
theorem lcE_tabL {fi : DI} {st : DTg} {c : DT} {f : DE} {vs : List Nat} {ρ ρ1 : Rho} {α : Type} {L : List α} {F G : α → D} (hi : fi ρ = some (L.map F, ρ1)) (hn : L.length ≤ 1000000)
    (go : ∀ a ∈ L, ∃ ρa r, st (.fz (F a)) (wipeR ρ1 vs) = some ρa ∧ c ρa = some (true, ρa) ∧ wipeR ρa vs = wipeR ρ1 vs ∧ f ρa = some (r, ρa) ∧ frz r = some (G a)) :
    lcE fi st c f vs ρ = some (.ow (L.map G), unwR vs ρ1 (wipeR ρ1 vs)) := by
  have := lcE_tabF (T := fun _ => true) (L := L) (F := F) (G := G) (fi := fi) (st := st) (c := c) (f := f) (vs := vs) hi hn fun a ha => by
    obtain ⟨ρa, r, e1, e2, e3, e4⟩ := go a ha
    exact ⟨ρa, r, e1, e2, e3, fun _ => e4⟩
  rwa [show L.filter (fun _ => true) = L from List.filter_eq_self.mpr fun _ _ => rfl] at this
/-- a loop over a list, by the part that is behind -/
theorem forL_parts {st : DTg} {s : DS} {α : Type} {F : α → D} {P : List α → Rho → Prop} {W : List α} (go : ∀ pre a suf ρ, W = pre ++ a :: suf → P pre ρ → ∃ ρ1, ((st (.fz (F a)) ρ).bind s = some (.nx ρ1) ∨ (st (.fz (F a)) ρ).bind s = some (.ct ρ1)) ∧ P (pre ++ [a]) ρ1) {ρ : Rho} (h0 : P [] ρ) :
    ∃ ρ1, forL st s (W.map F) ρ = some (.nx ρ1) ∧ P W ρ1 := by
  have gen : ∀ (L pre : List α) (ρ : Rho), W = pre ++ L → P pre ρ → ∃ ρ1, forL st s (L.map F) ρ = some (.nx ρ1) ∧ P W ρ1 := by
    intro L
    induction L with
    | nil => intro pre ρ h p; rw [List.append_nil] at h; subst h; exact ⟨ρ, rfl, p⟩
    | cons a r ih =>
      intro pre ρ h p
      obtain ⟨ρ1, e, p1⟩ := go pre a r ρ h p
      obtain ⟨ρ2, e2, p2⟩ := ih (pre ++ [a]) ρ1 (by rw [h, List.append_assoc]; rfl) p1
      refine ⟨ρ2, ?_, p2⟩
      rw [List.map_cons]
      rcases e with e | e
      · rw [forL_nx e]; exact e2
      · rw [forL_ct e]; exact e2
  exact gen W [] ρ rfl h0
end
end DL

namespace DL
open PySem PySem.Spec PyProof.Rows L2
/-! sums by choices, there and back -/
def ss (f : Nat → Int) (a : Nat) : Int := sm (a + 1) fun i => ch a i * f i
def bk (f : Nat → Int) (a : Nat) : Int := sm (a + 1) fun i => sg (a + i) * ch a i * f i
theorem sm_moreS {f : Nat → Int} {n m : Nat} (h : n ≤ m) (hz : ∀ i, n ≤ i → f i = 0) : sm m f = sm n f := by
  obtain ⟨d, rfl⟩ : ∃ d, m = n + d := ⟨m - n, by omega⟩
  rw [sm_split, sm_zero (f := fun i => f (n + i)) fun i _ => hz _ (by omega), Int.add_zero]
theorem ss_more {f : Nat → Int} {a m : Nat} (h : a < m) : ss f a = sm m fun i => ch a i * f i := (sm_moreS h fun i hi => by rw [ch_big (show a < i by omega)]; simp).symm
theorem bk_more {f : Nat → Int} {a m : Nat} (h : a < m) : bk f a = sm m fun i => sg (a + i) * ch a i * f i := (sm_moreS h fun i hi => by rw [ch_big (show a < i by omega)]; simp).symm
theorem ss_congr {f g : Nat → Int} {a : Nat} (h : ∀ i, i ≤ a → f i = g i) : ss f a = ss g a := sm_congr fun i hi => by rw [h i (by omega)]
theorem bk_congr {f g : Nat → Int} {a : Nat} (h : ∀ i, i ≤ a → f i = g i) : bk f a = bk g a := sm_congr fun i hi => by rw [h i (by omega)]
theorem tf_sg (N k i : Nat) (h : k < N) : (sm N fun j => sg (k + j) * ch k j * ch j i) = if k = i then 1 else 0 := by
  have e := tf_eq N k i h
  unfold tf at e
  have : (sm N fun j => sg (k + j) * (ch k j : Int) * ch j i) = sg (k + i) * sm N fun j => sg (j + i) * ((ch j i : Int) * ch k j) := by
    rw [← sm_mul]
    refine sm_congr fun j _ => ?_
    have s : sg (k + j) = sg (k + i) * sg (j + i) := by
      rw [sg_add, sg_add, sg_add, show sg k * sg i * (sg j * sg i) = sg k * sg j * (sg i * sg i) by simp only [Int.mul_assoc, Int.mul_left_comm, Int.mul_comm], sg_sq, Int.mul_one]
    rw [s]
    simp only [Int.mul_assoc, Int.mul_left_comm, Int.mul_comm]
  rw [this, e]
  by_cases q : k = i
  · rw [if_pos q, q, Int.mul_one]
    unfold sg
    rw [if_pos (by omega)]
  · rw [if_neg q, Int.mul_zero]
theorem bk_ss {f : Nat → Int} {a : Nat} : bk (ss f) a = f a := by
  have e : bk (ss f) a = sm (a + 1) fun i => (sm (a + 1) fun j => sg (a + j) * ch a j * ch j i) * f i := by
    unfold bk
    rw [sm_congr (g := fun j => sm (a + 1) fun i => sg (a + j) * ch a j * ch j i * f i) fun j hj => by
      rw [ss_more (show j < a + 1 by omega), ← sm_mul]
      exact sm_congr fun i _ => by simp only [Int.mul_assoc], sm_swap]
    exact sm_congr fun i _ => sm_mul_r
  rw [e, sm_one (k := a) (by omega) fun i hi q => by rw [tf_sg _ _ _ (by omega), if_neg fun z => q z.symm, Int.zero_mul], tf_sg _ _ _ (by omega), if_pos rfl, Int.one_mul]
theorem ss_bk {f : Nat → Int} {a : Nat} : ss (bk f) a = f a := by
  have e : ss (bk f) a = sm (a + 1) fun i => sg (a + i) * (sm (a + 1) fun j => sg (a + j) * ch a j * ch j i) * f i := by
    unfold ss
    rw [sm_congr (g := fun j => sm (a + 1) fun i => sg (a + i) * (sg (a + j) * ch a j * ch j i) * f i) fun j hj => by
      rw [bk_more (show j < a + 1 by omega), ← sm_mul]
      refine sm_congr fun i _ => ?_
      have s : sg (j + i) = sg (a + i) * sg (a + j) := by
        rw [sg_add, sg_add, sg_add, show sg a * sg i * (sg a * sg j) = sg j * sg i * (sg a * sg a) by simp only [Int.mul_assoc, Int.mul_left_comm, Int.mul_comm], sg_sq, Int.mul_one]
      rw [s]
      simp only [Int.mul_assoc, Int.mul_left_comm, Int.mul_comm], sm_swap]
    refine sm_congr fun i _ => ?_
    rw [Int.mul_assoc, ← sm_mul_r, ← sm_mul]
    exact sm_congr fun j _ => by simp only [Int.mul_assoc, Int.mul_left_comm, Int.mul_comm]
  rw [e, sm_one (k := a) (by omega) fun i hi q => by rw [tf_sg _ _ _ (by omega), if_neg fun z => q z.symm, Int.mul_zero, Int.zero_mul], tf_sg _ _ _ (by omega), if_pos rfl, Int.mul_one]
  rw [show sg (a + a) = 1 by unfold sg; rw [if_pos (by omega)], Int.one_mul]
/-! differences -/
def dv (f : Nat → Int) : Nat → Nat → Int
  | 0, j => f j
  | t + 1, j => dv f t (j + 1) - dv f t j
/-- by heads -/
theorem dv_ss {f : Nat → Int} : ∀ (t j : Nat), dv (ss f) t j = ss (fun k => f (k + t)) j
  | 0, j => rfl
  | t + 1, j => by
    rw [dv, dv_ss t, dv_ss t, ss_more (show j < j + 1 + 1 by omega)]
    unfold ss
    rw [← sm_sub, sm_succ', ch_0, ch_0, Int.sub_self, Int.zero_add]
    refine sm_congr fun i _ => ?_
    show (ch (j + 1) (i + 1) : Int) * f (i + 1 + t) - (ch j (i + 1) : Int) * f (i + 1 + t) = ch j i * f (i + (t + 1))
    rw [ch_s, Int.natCast_add, Int.add_mul, Int.add_sub_cancel, show i + 1 + t = i + (t + 1) by omega]
theorem ss_0 {f : Nat → Int} : ss f 0 = f 0 := by
  unfold ss
  rw [sm, sm, ch_0]
  simp
theorem dv_0 {f : Nat → Int} (t : Nat) : dv (ss f) t 0 = f t := by
  rw [dv_ss, ss_0, Nat.zero_add]
theorem dv_bk {f : Nat → Int} (t : Nat) : dv f t 0 = bk f t := by
  have : f = ss (bk f) := funext fun a => ss_bk.symm
  conv => lhs; rw [this]
  exact dv_0 t
theorem dv_congr {f g : Nat → Int} : ∀ {t j : Nat}, (∀ i, i ≤ j + t → f i = g i) → dv f t j = dv g t j
  | 0, j, h => h j (by omega)
  | t + 1, j, h => by
    rw [dv, dv, dv_congr (t := t) (j := j + 1) fun i hi => h i (by omega), dv_congr (t := t) (j := j) fun i hi => h i (by omega)]
/-- sums of all before: a place further -/
theorem ss_sum {f : Nat → Int} (n : Nat) : sm n (ss f) = sm n fun k => ch n (k + 1) * f k := by
  induction n with
  | zero => rfl
  | succ n ih =>
    rw [sm, ih, ss_more (show n < n + 1 by omega)]
    have e : (sm n fun k => (ch n (k + 1) : Int) * f k) = sm (n + 1) fun k => (ch n (k + 1) : Int) * f k := by
      rw [sm, ch_big (Nat.lt_succ_self n)]
      simp
    rw [e, ← sm_add]
    refine sm_congr fun k _ => ?_
    rw [ch_s, Int.natCast_add, Int.add_mul, Int.add_comm]
theorem ch_pow : ∀ n k : Nat, ch n k ≤ n ^ k
  | 0, 0 => by decide
  | 0, k + 1 => by rw [ch_big (Nat.succ_pos k)]; exact Nat.zero_le _
  | n + 1, 0 => by rw [ch_0]; exact Nat.le_refl _
  | n + 1, k + 1 => by
    have h1 := ch_pow n k
    have h2 := ch_pow n (k + 1)
    have h3 : n ^ k ≤ (n + 1) ^ k := Nat.pow_le_pow_left (Nat.le_succ n) k
    rw [ch_s, Nat.pow_succ, Nat.mul_add, Nat.mul_one]
    have h4 : n ^ (k + 1) ≤ (n + 1) ^ k * n := by rw [Nat.pow_succ]; exact Nat.mul_le_mul_right n h3
    omega
theorem mulOk_bigS {a b : Int} {p q : Nat} (h1 : a.natAbs < 2 ^ p) (h2 : b.natAbs < 2 ^ q) (h : p + q ≤ 1000000) : mulOk a b = true := by
  rw [mulOk_eq]
  by_cases ha : a.natAbs = 0
  · rw [ha]; simp
  by_cases hb : b.natAbs = 0
  · rw [hb]; simp
  have g1 := (Nat.log2_lt ha).mpr h1
  have g2 := (Nat.log2_lt hb).mpr h2
  rw [decide_eq_true (show a.natAbs.log2 + b.natAbs.log2 < 1000000 by omega)]
  simp
/-! powers by heads -/
def sp : Nat → Nat → Int
  | 0, k => if k = 0 then 1 else 0
  | p + 1, 0 => 0
  | p + 1, k + 1 => (k + 1) * (sp p (k + 1) + sp p k)
theorem sp_big : ∀ {p k : Nat}, p < k → sp p k = 0
  | 0, k, h => if_neg (by omega)
  | p + 1, 0, h => absurd h (Nat.not_lt_zero _)
  | p + 1, k + 1, h => by rw [sp, sp_big (p := p) (k := k + 1) (by omega), sp_big (p := p) (k := k) (by omega)]; simp
theorem sp_self_pos : ∀ p, 0 < sp p p
  | 0 => by decide
  | p + 1 => by
    rw [sp, sp_big (Nat.lt_succ_self p), Int.zero_add]
    exact Int.mul_pos (by omega) (sp_self_pos p)
theorem ch_upS (n k : Nat) : (n : Int) * ch n k = k * ch n k + (k + 1) * ch n (k + 1) := by
  have h := ch_step n k
  have h' : ((k + 1 : Nat) : Int) * ch n (k + 1) + k * ch n k = n * ch n k := by exact_mod_cast h
  rw [← h', Int.natCast_add]
  exact Int.add_comm _ _
theorem sp_pow : ∀ p n : Nat, ss (sp p) n = (n : Int) ^ p
  | 0, n => by
    unfold ss
    rw [sm_one (k := 0) (by omega) fun i _ q => by rw [show sp 0 i = 0 from if_neg q, Int.mul_zero], ch_0]
    rfl
  | p + 1, n => by
    rw [Int.pow_succ, ← sp_pow p n, ss_more (show n < n + 2 by omega), sm_succ', show sp (p + 1) 0 = 0 from rfl, Int.mul_zero, Int.zero_add, ss_more (show n < n + 1 by omega), Int.mul_comm, ← sm_mul]
    have e : ∀ k, (n : Int) * ((ch n k : Int) * sp p k) = k * ch n k * sp p k + (k + 1) * ch n (k + 1) * sp p k := fun k => by
      rw [← Int.mul_assoc, ch_upS, Int.add_mul]
    have e2 : ∀ k, (ch n (k + 1) : Int) * sp (p + 1) (k + 1) = ((k + 1 : Nat) : Int) * ch n (k + 1) * sp p (k + 1) + (k + 1) * ch n (k + 1) * sp p k := fun k => by
      rw [sp, Int.natCast_add, Int.mul_add, Int.mul_add]
      simp only [Int.mul_assoc, Int.mul_left_comm, Int.mul_comm, Int.natCast_one]
    rw [sm_congr fun k _ => e k, sm_congr fun k _ => e2 k, sm_add, sm_add]
    congr 1
    have s : (sm (n + 1) fun k => ((k + 1 : Nat) : Int) * ch n (k + 1) * sp p (k + 1)) = sm (n + 2) fun k => (k : Int) * ch n k * sp p k := by
      rw [sm_succ' (n := n + 1) (f := fun k => (k : Int) * ch n k * sp p k)]
      simp
    rw [s, sm_moreS (n := n + 1) (m := n + 2) (by omega) fun i hi => by rw [ch_big (show n < i by omega)]; simp]
theorem sp_bd : ∀ p k : Nat, k ≤ 24 → 0 ≤ sp p k ∧ sp p k ≤ 50 ^ p
  | 0, k, _ => by
    rw [sp]
    split <;> decide
  | p + 1, 0, _ => ⟨Int.le_refl _, Int.pow_nonneg (by decide)⟩
  | p + 1, k + 1, h => by
    obtain ⟨a1, a2⟩ := sp_bd p (k + 1) h
    obtain ⟨b1, b2⟩ := sp_bd p k (by omega)
    rw [sp, Int.pow_succ]
    generalize (50 : Int) ^ p = B at *
    refine ⟨Int.mul_nonneg (by omega) (by omega), ?_⟩
    have h1 : ((k : Int) + 1) * (sp p (k + 1) + sp p k) ≤ 25 * (sp p (k + 1) + sp p k) := Int.mul_le_mul_of_nonneg_right (by omega) (by omega)
    omega
end DL

namespace DL
open PySem PySem.Spec PyProof.Rows L2
/-! digits by a prime, choices by their digits (Lucas) -/
def IsP (p : Nat) : Prop := p ∈ [2, 3, 5, 7, 11, 13, 89, 97]
def prT (p : Nat) : Bool := (List.range p).all fun a => (List.range p).all fun b => a == 0 || b == 0 || a * b % p != 0
theorem prT_all : [2, 3, 5, 7, 11, 13, 89, 97].all prT = true := by decide +kernel
theorem IsP.two {p : Nat} (h : IsP p) : 2 ≤ p ∧ p ≤ 97 := by
  simp [IsP] at h
  omega
theorem IsP.mul {p a b : Nat} (h : IsP p) (e : a * b % p = 0) : a % p = 0 ∨ b % p = 0 := by
  have h2 := h.two
  have t := List.all_eq_true.mp (List.all_eq_true.mp (List.all_eq_true.mp prT_all p h) (a % p) (List.mem_range.mpr (Nat.mod_lt _ (by omega)))) (b % p) (List.mem_range.mpr (Nat.mod_lt _ (by omega)))
  rw [← Nat.mul_mod, e] at t
  simp at t
  exact t
theorem IsP.one {p : Nat} (h : IsP p) : 1 % p = 1 := Nat.mod_eq_of_lt (by have := h.two; omega)
theorem chUp (n k : Nat) : (k + 1) * ch (n + 1) (k + 1) = (n + 1) * ch n k := by
  have h := ch_step n k
  rw [ch_s, Nat.mul_add, Nat.add_mul n 1]
  have := Nat.add_mul k 1 (ch n k)
  omega
theorem ch_pp {p c : Nat} (h : IsP p) (h0 : 0 < c) (h1 : c < p) : ch p c % p = 0 := by
  obtain ⟨b, rfl⟩ : ∃ b, c = b + 1 := ⟨c - 1, by omega⟩
  obtain ⟨q, hq⟩ : ∃ q, p = q + 1 := ⟨p - 1, by omega⟩
  have e := chUp q b
  rw [← hq] at e
  rcases h.mul (a := b + 1) (b := ch p (b + 1)) (by rw [e]; exact Nat.mul_mod_right _ _) with h2 | h2
  · rw [Nat.mod_eq_of_lt h1] at h2
    omega
  · exact h2
theorem ch_nz {p a : Nat} (h : IsP p) (ha : a < p) : ∀ {b : Nat}, b ≤ a → ch a b % p ≠ 0
  | 0, _ => by rw [ch_0, h.one]; decide
  | b + 1, hb => fun e => by
    have e2 := ch_step' (n := a) (k := b) (by omega)
    rcases h.mul (a := a - b) (b := ch a b) (by rw [← e2, Nat.mul_mod, e, Nat.mul_zero, Nat.zero_mod]) with h2 | h2
    · rw [Nat.mod_eq_of_lt (by omega)] at h2
      omega
    · exact ch_nz h ha (by omega) h2
theorem ch_z_iff {p a b : Nat} (h : IsP p) (ha : a < p) : ch a b % p = 0 ↔ a < b := by
  constructor
  · intro e
    by_cases hb : b ≤ a
    · exact absurd e (ch_nz h ha hb)
    · omega
  · intro hb
    rw [ch_big hb, Nat.zero_mod]
def dig (p n i : Nat) : Nat := n / p ^ i % p
theorem dig_0 {p n : Nat} : dig p n 0 = n % p := by unfold dig; rw [Nat.pow_zero, Nat.div_one]
theorem dig_s {p n i : Nat} : dig p n (i + 1) = dig p (n / p) i := by
  unfold dig
  rw [Nat.div_div_eq_div_mul, Nat.pow_succ, Nat.mul_comm]
theorem dig_lt {p n i : Nat} (h : 0 < p) : dig p n i < p := Nat.mod_lt _ h
theorem dig_z {p i : Nat} : dig p 0 i = 0 := by unfold dig; rw [Nat.zero_div, Nat.zero_mod]
theorem dig_big {p n i : Nat} (h : n < p ^ i) : dig p n i = 0 := by unfold dig; rw [Nat.div_eq_of_lt h, Nat.zero_mod]
def pr (f : Nat → Nat) : Nat → Nat
  | 0 => 1
  | m + 1 => pr f m * f m
theorem pr_s' {f : Nat → Nat} : ∀ {m : Nat}, pr f (m + 1) = f 0 * pr (fun i => f (i + 1)) m
  | 0 => by simp [pr]
  | m + 1 => by
    rw [pr, pr_s', pr, Nat.mul_assoc]
theorem pr_congr {f g : Nat → Nat} : ∀ {m : Nat}, (∀ i, i < m → f i = g i) → pr f m = pr g m
  | 0, _ => rfl
  | m + 1, h => by rw [pr, pr, pr_congr fun i hi => h i (by omega), h m (by omega)]
theorem pr_one {f : Nat → Nat} : ∀ {m : Nat}, (∀ i, i < m → f i = 1) → pr f m = 1
  | 0, _ => rfl
  | m + 1, h => by rw [pr, pr_one fun i hi => h i (by omega), h m (by omega)]
theorem pr_z {p : Nat} {f : Nat → Nat} (hp : IsP p) : ∀ {m : Nat}, pr f m % p = 0 ↔ ∃ i, i < m ∧ f i % p = 0
  | 0 => ⟨fun h => by rw [pr, hp.one] at h; omega, fun ⟨i, h, _⟩ => by omega⟩
  | m + 1 => by
    constructor
    · intro h
      rcases hp.mul h with h1 | h1
      · obtain ⟨i, hi, h2⟩ := pr_z hp |>.mp h1
        exact ⟨i, by omega, h2⟩
      · exact ⟨m, by omega, h1⟩
    · rintro ⟨i, hi, h1⟩
      rw [pr, Nat.mul_mod]
      by_cases e : i = m
      · rw [← e, h1, Nat.mul_zero, Nat.zero_mod]
      · rw [(pr_z hp).mpr ⟨i, by omega, h1⟩, Nat.zero_mul, Nat.zero_mod]
def LP (p n k m : Nat) : Nat := pr (fun i => ch (dig p n i) (dig p k i)) m
theorem LP_s {p n k m : Nat} : LP p n k (m + 1) = ch (n % p) (k % p) * LP p (n / p) (k / p) m := by
  unfold LP
  rw [pr_s']
  simp only [dig_0, dig_s]
theorem up_c {p n : Nat} (hp : 2 ≤ p) : (n % p + 1 < p ∧ (n + 1) % p = n % p + 1 ∧ (n + 1) / p = n / p) ∨ (n % p + 1 = p ∧ (n + 1) % p = 0 ∧ (n + 1) / p = n / p + 1) := by
  have e := Nat.div_add_mod n p
  have l := Nat.mod_lt n (show 0 < p by omega)
  generalize n / p = q at *
  generalize n % p = r at *
  subst e
  by_cases h : r + 1 < p
  · left
    rw [Nat.add_assoc, Nat.mul_add_mod, Nat.mul_add_div (by omega), Nat.mod_eq_of_lt h, Nat.div_eq_of_lt h]
    exact ⟨h, rfl, rfl⟩
  · right
    have h2 : r + 1 = p := by omega
    rw [Nat.add_assoc, Nat.mul_add_mod, Nat.mul_add_div (by omega), h2, Nat.mod_self, Nat.div_self (by omega)]
    exact ⟨rfl, rfl, rfl⟩
theorem LP_pas {p : Nat} (hp : IsP p) : ∀ {m n k : Nat}, n + 1 < p ^ m → k + 1 < p ^ m → LP p (n + 1) (k + 1) m % p = (LP p n k m + LP p n (k + 1) m) % p
  | 0, n, k, h, _ => by rw [Nat.pow_zero] at h; omega
  | m + 1, n, k, hn, hk => by
    have h2 := hp.two
    rw [LP_s, LP_s, LP_s]
    have la := Nat.mod_lt n (show 0 < p by omega)
    have lb := Nat.mod_lt k (show 0 < p by omega)
    have nn : (n + 1) / p < p ^ m := Nat.div_lt_of_lt_mul (by rw [Nat.pow_succ, Nat.mul_comm] at hn; exact hn)
    have kk : (k + 1) / p < p ^ m := Nat.div_lt_of_lt_mul (by rw [Nat.pow_succ, Nat.mul_comm] at hk; exact hk)
    rcases up_c (n := n) h2.1 with ⟨a1, a2, a3⟩ | ⟨a1, a2, a3⟩ <;> rcases up_c (n := k) h2.1 with ⟨b1, b2, b3⟩ | ⟨b1, b2, b3⟩ <;> rw [a3] at nn <;> rw [b3] at kk <;> rw [a2, a3, b2, b3]
    · rw [ch_s, Nat.add_mul]
    · rw [ch_0, ch_0, ch_big (show n % p < k % p by omega), Nat.zero_mul, Nat.zero_add]
    · rw [ch_z, Nat.zero_mul, ← Nat.add_mul, ← ch_s, a1, Nat.zero_mod, Nat.mul_mod, ch_pp hp (by omega) b1, Nat.zero_mul, Nat.zero_mod]
    · have e : n % p = k % p := by omega
      rw [ch_0, ch_0, e, ch_self, Nat.one_mul, Nat.one_mul, Nat.one_mul]
      exact LP_pas hp nn kk
theorem LP_0 {p n m : Nat} : LP p n 0 m = 1 := pr_one fun i _ => by rw [dig_z, ch_0]
theorem LP_0k {p : Nat} (hp : 2 ≤ p) : ∀ {m k : Nat}, 0 < k → k < p ^ m → LP p 0 k m = 0
  | 0, k, h, h2 => by rw [Nat.pow_zero] at h2; omega
  | m + 1, k, h, h2 => by
    rw [LP_s, Nat.zero_mod, Nat.zero_div]
    by_cases h3 : k % p = 0
    · have h4 : k / p < p ^ m := Nat.div_lt_of_lt_mul (by rw [Nat.pow_succ, Nat.mul_comm] at h2; exact h2)
      have e := Nat.div_add_mod k p
      rw [LP_0k hp (k := k / p) (Nat.pos_of_ne_zero fun h5 => by rw [h5, h3, Nat.mul_zero] at e; omega) h4, Nat.mul_zero]
    · rw [ch_big (by omega), Nat.zero_mul]
theorem lucas {p m : Nat} (hp : IsP p) : ∀ {n k : Nat}, n < p ^ m → k < p ^ m → LP p n k m % p = ch n k % p
  | 0, 0, _, _ => by rw [LP_0, ch_0]
  | 0, k + 1, _, h => by rw [LP_0k hp.two.1 (by omega) h, ch_z]
  | n + 1, 0, _, _ => by rw [LP_0, ch_0]
  | n + 1, k + 1, h, h2 => by
    rw [LP_pas hp h h2, ch_s, Nat.add_mod, lucas hp (show n < p ^ m by omega) (show k < p ^ m by omega), lucas hp (show n < p ^ m by omega) h2, ← Nat.add_mod]
/-- a digit of the bottom is greater: just then the prime divides -/
theorem ch_div_iff {p m n k : Nat} (hp : IsP p) (hn : n < p ^ m) (hk : k < p ^ m) : ch n k % p = 0 ↔ ∃ i, i < m ∧ dig p n i < dig p k i := by
  rw [← lucas hp hn hk]
  unfold LP
  rw [pr_z hp]
  have h2 := hp.two
  constructor
  · rintro ⟨i, hi, e⟩
    exact ⟨i, hi, (ch_z_iff hp (dig_lt (by omega))).mp e⟩
  · rintro ⟨i, hi, e⟩
    exact ⟨i, hi, (ch_z_iff hp (dig_lt (by omega))).mpr e⟩
/-! how many digits -/
def dlF (p n : Nat) : Nat → Nat
  | 0 => 0
  | f + 1 => if n < p ^ f then dlF p n f else f + 1
theorem dlF_ok {p n : Nat} (hp : 2 ≤ p) : ∀ {f : Nat}, n < p ^ f → n < p ^ dlF p n f ∧ dlF p n f ≤ f ∧ ∀ j, j < dlF p n f → p ^ j ≤ n
  | 0, h => ⟨h, Nat.le_refl _, fun j hj => absurd hj (Nat.not_lt_zero _)⟩
  | f + 1, h => by
    unfold dlF
    split
    · next h2 =>
      have := dlF_ok hp h2
      exact ⟨this.1, by omega, this.2.2⟩
    · next h2 => exact ⟨h, by omega, fun j hj => Nat.le_trans (Nat.pow_le_pow_right (by omega) (by omega)) (Nat.le_of_not_lt h2)⟩
def dl (p n : Nat) : Nat := dlF p n 64
theorem big64 {p n : Nat} (hp : 2 ≤ p) (h : n ≤ 1000000000000000000) : n < p ^ 64 := by
  have h1 : 2 ^ 64 ≤ p ^ 64 := Nat.pow_le_pow_left hp 64
  have h2 : (2 : Nat) ^ 64 = 18446744073709551616 := by decide
  omega
theorem dl_lt {p n : Nat} (hp : 2 ≤ p) (h : n ≤ 1000000000000000000) : n < p ^ dl p n := (dlF_ok hp (big64 hp h)).1
theorem dl_le {p n : Nat} (hp : 2 ≤ p) (h : n ≤ 1000000000000000000) : dl p n ≤ 64 := (dlF_ok hp (big64 hp h)).2.1
theorem dl_pos {p n j : Nat} (hp : 2 ≤ p) (h : n ≤ 1000000000000000000) : 0 < n / p ^ j ↔ j < dl p n := by
  have hpj : 0 < p ^ j := Nat.pow_pos (by omega)
  constructor
  · intro h1
    by_cases h2 : j < dl p n
    · exact h2
    · have h3 := dl_lt hp h
      have h4 : p ^ dl p n ≤ p ^ j := Nat.pow_le_pow_right (by omega) (by omega)
      rw [Nat.div_eq_of_lt (by omega)] at h1
      omega
  · intro h1
    exact Nat.div_pos ((dlF_ok hp (big64 hp h)).2.2 j h1) hpj
theorem pow_sd {p n j : Nat} : n / p ^ j / p = n / p ^ (j + 1) := by rw [Nat.div_div_eq_div_mul, Nat.pow_succ]
theorem pow_up {p n j : Nat} : n / p ^ j = n / p ^ (j + 1) * p + dig p n j := by
  unfold dig
  rw [← pow_sd]
  have := Nat.div_add_mod (n / p ^ j) p
  rw [Nat.mul_comm] at this
  exact this.symm
/-! counting -/
def cz (P : Nat → Bool) : Nat → Nat
  | 0 => 0
  | n + 1 => cz P n + if P n = true then 1 else 0
theorem cz_filter {P : Nat → Bool} : ∀ n : Nat, ((List.range n).filter P).length = cz P n
  | 0 => rfl
  | n + 1 => by
    rw [List.range_succ, List.filter_append, List.length_append, cz_filter n, cz]
    congr 1
    by_cases h : P n = true <;> simp [h]
theorem cz_congr {P Q : Nat → Bool} : ∀ {n : Nat}, (∀ i, i < n → P i = Q i) → cz P n = cz Q n
  | 0, _ => rfl
  | n + 1, h => by rw [cz, cz, cz_congr fun i hi => h i (by omega), h n (by omega)]
theorem cz_split {P : Nat → Bool} {m : Nat} : ∀ {n : Nat}, cz P (m + n) = cz P m + cz (fun i => P (m + i)) n
  | 0 => rfl
  | n + 1 => by rw [← Nat.add_assoc, cz, cz, cz_split, Nat.add_assoc]
theorem cz_no {P : Nat → Bool} : ∀ {n : Nat}, (∀ i, i < n → P i = false) → cz P n = 0
  | 0, _ => rfl
  | n + 1, h => by rw [cz, cz_no fun i hi => h i (by omega), h n (by omega)]; rfl
theorem cz_block {P A B : Nat → Bool} {p : Nat} (hp : 0 < p) (h : ∀ k, P k = (A (k % p) && B (k / p))) : ∀ q : Nat, cz P (p * q) = cz A p * cz B q
  | 0 => rfl
  | q + 1 => by
    rw [Nat.mul_succ, cz_split, cz_block hp h q, cz, Nat.mul_add]
    congr 1
    by_cases hb : B q = true
    · rw [if_pos hb, Nat.mul_one]
      refine cz_congr fun i hi => ?_
      rw [h, Nat.mul_add_mod, Nat.mul_add_div hp, Nat.mod_eq_of_lt hi, Nat.div_eq_of_lt hi, Nat.add_zero, hb, Bool.and_true]
    · rw [if_neg hb, Nat.mul_zero]
      refine cz_no fun i hi => ?_
      rw [h, Nat.mul_add_mod, Nat.mul_add_div hp, Nat.mod_eq_of_lt hi, Nat.div_eq_of_lt hi, Nat.add_zero, Bool.not_eq_true _ |>.mp hb, Bool.and_false]
theorem cz_le {a : Nat} : ∀ {n : Nat}, cz (fun k => decide (k ≤ a)) n = min n (a + 1)
  | 0 => by simp [cz]
  | n + 1 => by
    rw [cz, cz_le]
    by_cases h : n ≤ a <;> simp [h] <;> omega
def Dm (p n : Nat) : Nat → Nat → Bool
  | 0, _ => true
  | m + 1, k => decide (k % p ≤ n % p) && Dm p (n / p) m (k / p)
theorem Dm_iff {p : Nat} : ∀ {m n k : Nat}, Dm p n m k = true ↔ ∀ i, i < m → dig p k i ≤ dig p n i
  | 0, n, k => ⟨fun _ i hi => absurd hi (Nat.not_lt_zero _), fun _ => rfl⟩
  | m + 1, n, k => by
    rw [Dm, Bool.and_eq_true, decide_eq_true_eq, Dm_iff]
    constructor
    · rintro ⟨h1, h2⟩ i hi
      cases i with
      | zero => rw [dig_0, dig_0]; exact h1
      | succ i => rw [dig_s, dig_s]; exact h2 i (by omega)
    · intro h
      refine ⟨by have := h 0 (by omega); rw [dig_0, dig_0] at this; exact this, fun i hi => ?_⟩
      have := h (i + 1) (by omega)
      rw [dig_s, dig_s] at this
      exact this
theorem cz_Dm {p : Nat} (hp : 0 < p) : ∀ {m n : Nat}, cz (Dm p n m) (p ^ m) = pr (fun i => dig p n i + 1) m
  | 0, n => rfl
  | m + 1, n => by
    rw [Nat.pow_succ, Nat.mul_comm, cz_block (P := Dm p n (m + 1)) hp (A := fun k => decide (k ≤ n % p)) (B := Dm p (n / p) m) (fun k => rfl), cz_Dm hp, cz_le, pr_s', dig_0, Nat.min_eq_right (by have := Nat.mod_lt n hp; omega)]
    simp only [dig_s]
/-- so many of a row are not divided -/
theorem row_count {p n m : Nat} (hp : IsP p) (hn : n < p ^ m) : cz (fun k => decide (0 < ch n k % p)) (n + 1) = pr (fun i => dig p n i + 1) m := by
  have h2 := hp.two
  rw [← cz_Dm (show 0 < p by omega)]
  obtain ⟨d, hd⟩ : ∃ d, p ^ m = (n + 1) + d := ⟨p ^ m - (n + 1), by omega⟩
  have e : cz (Dm p n m) (p ^ m) = cz (fun k => decide (0 < ch n k % p)) (p ^ m) := cz_congr fun k hk => by
    rw [Bool.eq_iff_iff, Dm_iff, decide_eq_true_eq]
    have := ch_div_iff hp hn hk
    constructor
    · intro h
      refine Nat.pos_of_ne_zero fun h3 => ?_
      obtain ⟨i, hi, h4⟩ := this.mp h3
      have := h i hi
      omega
    · intro h i hi
      by_cases h3 : dig p k i ≤ dig p n i
      · exact h3
      · have := this.mpr ⟨i, hi, by omega⟩
        omega
  have e3 : cz (fun i => decide (0 < ch n (n + 1 + i) % p)) d = 0 := cz_no fun i hi => by rw [ch_big (by omega)]; simp
  rw [e, hd, cz_split (m := n + 1), e3]
  rfl
end DL

namespace DL
open PySem PySem.Spec PyProof.Rows L2
/-! how often a prime stands in a number (Legendre, Kummer) -/
def IsV (p n v : Nat) : Prop := ∃ u, n = p ^ v * u ∧ u % p ≠ 0
theorem IsV.mul {p a b v w : Nat} (hp : IsP p) (ha : IsV p a v) (hb : IsV p b w) : IsV p (a * b) (v + w) := by
  obtain ⟨x, rfl, hx⟩ := ha
  obtain ⟨y, rfl, hy⟩ := hb
  refine ⟨x * y, ?_, fun h => (hp.mul h).elim hx hy⟩
  rw [Nat.pow_add, Nat.mul_assoc, Nat.mul_assoc, Nat.mul_left_comm x]
theorem IsV.pos {p n v : Nat} (hp : IsP p) (h : IsV p n v) : 0 < n := by
  obtain ⟨x, rfl, hx⟩ := h
  have h2 := hp.two
  refine Nat.mul_pos (Nat.pow_pos (by omega)) (Nat.pos_of_ne_zero fun h => hx ?_)
  rw [h, Nat.zero_mod]
theorem IsV.succ {p n v : Nat} (hp : IsP p) (h : IsV p n (v + 1)) : n % p = 0 ∧ IsV p (n / p) v := by
  obtain ⟨x, rfl, hx⟩ := h
  have h2 := hp.two
  rw [Nat.pow_succ, Nat.mul_comm (p ^ v), Nat.mul_assoc]
  exact ⟨Nat.mul_mod_right _ _, x, Nat.mul_div_cancel_left _ (by omega), hx⟩
theorem IsV.zero {p n : Nat} (h : IsV p n 0) : n % p ≠ 0 := by
  obtain ⟨x, rfl, hx⟩ := h
  rw [Nat.pow_zero, Nat.one_mul]
  exact hx
theorem IsV.of_ne {p n : Nat} (h : n % p ≠ 0) : IsV p n 0 := ⟨n, by rw [Nat.pow_zero, Nat.one_mul], h⟩
theorem IsV.uniq {p : Nat} (hp : IsP p) : ∀ {v w n : Nat}, IsV p n v → IsV p n w → v = w
  | 0, 0, _, _, _ => rfl
  | 0, w + 1, n, h1, h2 => absurd (h2.succ hp).1 h1.zero
  | v + 1, 0, n, h1, h2 => absurd (h1.succ hp).1 h2.zero
  | v + 1, w + 1, n, h1, h2 => by rw [IsV.uniq hp (h1.succ hp).2 (h2.succ hp).2]
theorem IsV.up {p n v : Nat} (h : IsV p n v) : IsV p (p * n) (v + 1) := by
  obtain ⟨x, rfl, hx⟩ := h
  exact ⟨x, by rw [Nat.pow_succ, Nat.mul_comm (p ^ v) p, Nat.mul_assoc], hx⟩
theorem IsV.ex {p : Nat} (hp : IsP p) : ∀ {f n : Nat}, n ≤ f → 0 < n → ∃ v, IsV p n v
  | 0, n, h, h2 => by omega
  | f + 1, n, h, h2 => by
    by_cases h3 : n % p = 0
    · have e := Nat.div_add_mod n p
      have h4 := hp.two
      rw [h3, Nat.add_zero] at e
      have h5 : n / p < n := Nat.div_lt_self h2 (by omega)
      obtain ⟨v, hv⟩ := IsV.ex hp (f := f) (n := n / p) (by omega) (Nat.pos_of_ne_zero fun h6 => by rw [h6, Nat.mul_zero] at e; omega)
      have := hv.up
      rw [e] at this
      exact ⟨v + 1, this⟩
    · exact ⟨0, IsV.of_ne h3⟩
theorem IsV.two {p n v : Nat} (hp : IsP p) (h : IsV p n v) : 2 ^ v ≤ n := by
  have h0 := h.pos hp
  obtain ⟨x, rfl, hx⟩ := h
  have h1 : 2 ^ v ≤ p ^ v := Nat.pow_le_pow_left hp.two.1 v
  have h2 : 0 < x := Nat.pos_of_ne_zero fun h => hx (by rw [h, Nat.zero_mod])
  exact Nat.le_trans h1 (Nat.le_mul_of_pos_right _ h2)
/-- the numbers of parts that are divided, together -/
def EN (p n : Nat) : Nat → Nat
  | 0 => 0
  | m + 1 => EN p n m + n / p ^ (m + 1)
def SD (p n : Nat) : Nat → Nat
  | 0 => 0
  | m + 1 => SD p n m + dig p n m
theorem EN_s {p n : Nat} : ∀ {m : Nat}, EN p n (m + 1) = n / p + EN p (n / p) m
  | 0 => by simp [EN]
  | m + 1 => by
    rw [EN, EN_s, EN, Nat.add_assoc, Nat.div_div_eq_div_mul, Nat.pow_succ (m := m + 1), Nat.mul_comm p]
theorem SD_s {p n : Nat} : ∀ {m : Nat}, SD p n (m + 1) = n % p + SD p (n / p) m
  | 0 => by simp [SD, dig_0]
  | m + 1 => by rw [SD, SD_s, SD, Nat.add_assoc, dig_s]
theorem legendre {p : Nat} (hp : 2 ≤ p) : ∀ {m n : Nat}, n < p ^ m → EN p n m * (p - 1) + SD p n m = n
  | 0, n, h => by rw [Nat.pow_zero] at h; simp [EN, SD]; omega
  | m + 1, n, h => by
    have ih := legendre hp (m := m) (n := n / p) (Nat.div_lt_of_lt_mul (by rw [Nat.pow_succ, Nat.mul_comm] at h; exact h))
    have e := Nat.div_add_mod n p
    rw [EN_s, SD_s, Nat.add_mul]
    have e2 : n / p * (p - 1) + n / p = p * (n / p) := by
      obtain ⟨q, rfl⟩ : ∃ q, p = q + 1 := ⟨p - 1, by omega⟩
      rw [Nat.add_sub_cancel, ← Nat.mul_succ, Nat.mul_comm]
    omega
theorem EN_more {p n m : Nat} (hp : 2 ≤ p) (h : n < p ^ m) : ∀ d, EN p n (m + d) = EN p n m
  | 0 => rfl
  | d + 1 => by
    rw [← Nat.add_assoc, EN, EN_more hp h d, Nat.div_eq_of_lt (Nat.lt_of_lt_of_le h (Nat.pow_le_pow_right (by omega) (by omega))), Nat.add_zero]
theorem SD_more {p n m : Nat} (hp : 2 ≤ p) (h : n < p ^ m) : ∀ d, SD p n (m + d) = SD p n m
  | 0 => rfl
  | d + 1 => by
    rw [← Nat.add_assoc, SD, SD_more hp h d, dig_big (Nat.lt_of_lt_of_le h (Nat.pow_le_pow_right (by omega) (by omega))), Nat.add_zero]
theorem EN_up {p : Nat} (hp : IsP p) : ∀ {m n v : Nat}, n + 1 < p ^ m → IsV p (n + 1) v → EN p (n + 1) m = EN p n m + v
  | 0, n, v, h, _ => by rw [Nat.pow_zero] at h; omega
  | m + 1, n, v, h, hv => by
    rw [EN_s, EN_s]
    rcases up_c (n := n) hp.two.1 with ⟨a1, a2, a3⟩ | ⟨a1, a2, a3⟩
    · have hv0 : IsV p (n + 1) 0 := IsV.of_ne (by omega)
      rw [hv.uniq hp hv0, a3]
      rfl
    · have lt : (n + 1) / p < p ^ m := Nat.div_lt_of_lt_mul (by rw [Nat.pow_succ, Nat.mul_comm] at h; exact h)
      cases v with
      | zero => exact absurd a2 hv.zero
      | succ v =>
        have h2 := (hv.succ hp).2
        rw [a3] at lt h2
        rw [a3, EN_up hp lt h2]
        omega
def fac : Nat → Nat
  | 0 => 1
  | n + 1 => fac n * (n + 1)
theorem EN_0 {p : Nat} : ∀ m, EN p 0 m = 0
  | 0 => rfl
  | m + 1 => by rw [EN, EN_0 m, Nat.zero_div]
theorem fac_v {p m : Nat} (hp : IsP p) : ∀ {n : Nat}, n < p ^ m → IsV p (fac n) (EN p n m)
  | 0, _ => by
    rw [EN_0]
    exact IsV.of_ne (by rw [fac, hp.one]; decide)
  | n + 1, h => by
    obtain ⟨v, hv⟩ := IsV.ex hp (n := n + 1) (Nat.le_refl _) (by omega)
    rw [EN_up hp h hv, fac]
    exact (fac_v hp (show n < p ^ m by omega)).mul hp hv
theorem ch_fac : ∀ k d : Nat, ch (k + d) k * (fac k * fac d) = fac (k + d)
  | 0, d => by rw [Nat.zero_add, ch_0, Nat.one_mul, fac, Nat.one_mul]
  | k + 1, d => by
    have h := chUp (k + d) k
    have ih := ch_fac k d
    rw [show k + 1 + d = k + d + 1 by omega, fac, fac, ← ih]
    calc ch (k + d + 1) (k + 1) * (fac k * (k + 1) * fac d) = ((k + 1) * ch (k + d + 1) (k + 1)) * (fac k * fac d) := by
          simp only [Nat.mul_assoc, Nat.mul_left_comm, Nat.mul_comm]
      _ = (k + d + 1) * ch (k + d) k * (fac k * fac d) := by rw [h]
      _ = ch (k + d) k * (fac k * fac d) * (k + d + 1) := by
          simp only [Nat.mul_assoc, Nat.mul_left_comm, Nat.mul_comm]
/-- what is carried into place i -/
def cr (p a b : Nat) : Nat → Nat
  | 0 => 0
  | i + 1 => (dig p a i + dig p b i + cr p a b i) / p
theorem cr_le {p a b : Nat} (hp : 2 ≤ p) : ∀ i, cr p a b i ≤ 1
  | 0 => Nat.zero_le _
  | i + 1 => by
    have h1 := dig_lt (p := p) (n := a) (i := i) (by omega)
    have h2 := dig_lt (p := p) (n := b) (i := i) (by omega)
    have h3 := cr_le (a := a) (b := b) hp i
    have : cr p a b (i + 1) < 2 := Nat.div_lt_of_lt_mul (by omega)
    omega
theorem cr_comm {p a b : Nat} : ∀ i, cr p a b i = cr p b a i
  | 0 => rfl
  | i + 1 => by rw [cr, cr, cr_comm i, Nat.add_comm (dig p a i)]
theorem cr_div {p a b : Nat} (hp : 2 ≤ p) : ∀ i, (a + b) / p ^ i = a / p ^ i + b / p ^ i + cr p a b i
  | 0 => by simp [cr]
  | i + 1 => by
    rw [← pow_sd, cr_div hp i, cr, pow_up (n := a) (j := i), pow_up (n := b) (j := i)]
    generalize a / p ^ (i + 1) = A
    generalize b / p ^ (i + 1) = B
    rw [show A * p + dig p a i + (B * p + dig p b i) + cr p a b i = p * (A + B) + (dig p a i + dig p b i + cr p a b i) by rw [Nat.mul_add, Nat.mul_comm p A, Nat.mul_comm p B]; omega, Nat.mul_add_div (by omega)]
def NC (p a b : Nat) : Nat → Nat
  | 0 => 0
  | m + 1 => NC p a b m + cr p a b (m + 1)
theorem NC_comm {p a b : Nat} : ∀ m, NC p a b m = NC p b a m
  | 0 => rfl
  | m + 1 => by rw [NC, NC, NC_comm m, cr_comm]
theorem kummer {p a b : Nat} (hp : 2 ≤ p) : ∀ m, EN p (a + b) m = EN p a m + EN p b m + NC p a b m
  | 0 => rfl
  | m + 1 => by
    rw [EN, EN, EN, NC, kummer hp m, cr_div hp]
    omega
theorem NC_cz {p a b : Nat} (hp : 2 ≤ p) : ∀ m, NC p a b m = cz (fun i => decide (0 < cr p a b (i + 1))) m
  | 0 => rfl
  | m + 1 => by
    rw [NC, cz, NC_cz hp m]
    have := cr_le (a := a) (b := b) hp (m + 1)
    by_cases h : 0 < cr p a b (m + 1)
    · simp [h]; omega
    · simp [h]; omega
theorem NC_more {p a b m : Nat} (hp : 2 ≤ p) (ha : a < p ^ m) (hb : b < p ^ m) : ∀ d, NC p a b (m + d) = NC p a b m
  | 0 => rfl
  | d + 1 => by
    rw [← Nat.add_assoc, NC, NC_more hp ha hb d, cr]
    have h1 := dig_big (Nat.lt_of_lt_of_le ha (Nat.pow_le_pow_right (n := p) (by omega) (show m ≤ m + d by omega)))
    have h2 := dig_big (Nat.lt_of_lt_of_le hb (Nat.pow_le_pow_right (n := p) (by omega) (show m ≤ m + d by omega)))
    have h3 := cr_le (a := a) (b := b) hp (m + d)
    rw [h1, h2, Nat.div_eq_of_lt (by omega)]
    rfl
theorem ch_v {p m a b : Nat} (hp : IsP p) (h : a + b < p ^ m) : IsV p (ch (a + b) a) (NC p a b m) := by
  have h1 := fac_v hp h
  have h2 := (fac_v hp (show a < p ^ m by omega)).mul hp (fac_v hp (show b < p ^ m by omega))
  obtain ⟨v, hv⟩ := IsV.ex hp (n := ch (a + b) a) (Nat.le_refl _) (ch_pos (by omega))
  have h3 := hv.mul hp h2
  rw [ch_fac] at h3
  have e := h1.uniq hp h3
  rw [kummer hp.two.1] at e
  rw [show NC p a b m = v by omega]
  exact hv
end DL

namespace DL
open PySem PySem.Spec PyProof.Rows L2
/-! products without the prime (Wilson), common divisors of rows -/
theorem wil_all : [2, 3, 5, 7, 11, 13, 89, 97].all (fun p => decide (fac (p - 1) % p = p - 1)) = true := by decide +kernel
theorem wilson {p : Nat} (hp : IsP p) : fac (p - 1) % p = p - 1 := of_decide_eq_true (List.all_eq_true.mp wil_all p hp)
def IL (p r : Nat) : List Nat := (List.range p).filter fun x => decide (x * r % p = 1)
theorem inv_all : [2, 3, 5, 7, 11, 13, 89, 97].all (fun p => (List.range p).all fun r => r == 0 || !(IL p r).isEmpty) = true := by decide +kernel
theorem IL_ok {p r : Nat} (hp : IsP p) (h0 : 0 < r) (h : r < p) : ∃ x t, IL p r = x :: t ∧ x < p ∧ x * r % p = 1 := by
  have t := List.all_eq_true.mp (List.all_eq_true.mp inv_all p hp) r (List.mem_range.mpr h)
  cases e : IL p r with
  | nil => rw [e] at t; simp at t; omega
  | cons x l =>
    have m : x ∈ IL p r := by rw [e]; exact List.mem_cons_self
    have := List.mem_filter.mp m
    exact ⟨x, l, rfl, List.mem_range.mp this.1, of_decide_eq_true this.2⟩
theorem mulm {p a b c d : Nat} (h1 : a % p = b % p) (h2 : c % p = d % p) : a * c % p = b * d % p := by
  rw [Nat.mul_mod, h1, h2, ← Nat.mul_mod]
def bf (p n i : Nat) : Nat := fac (dig p n i) * (p - 1) ^ (n / p ^ (i + 1))
def BP (p n m : Nat) : Nat := pr (bf p n) m
theorem BP_s {p n m : Nat} : BP p n (m + 1) = fac (n % p) * (p - 1) ^ (n / p) * BP p (n / p) m := by
  unfold BP
  rw [pr_s']
  congr 1
  · unfold bf
    rw [dig_0, Nat.pow_one]
  · refine pr_congr fun i _ => ?_
    unfold bf
    rw [dig_s, Nat.div_div_eq_div_mul, Nat.pow_succ (m := i + 1), Nat.mul_comm p]
def st1 (p n : Nat) : Nat := if n % p = 0 then n / p else n
def stN (p n : Nat) : Nat → Nat
  | 0 => n
  | j + 1 => st1 p (stN p n j)
theorem IsV.at' {p n v : Nat} (hp : IsP p) (h : IsV p n v) : ∀ {i : Nat}, i ≤ v → IsV p (n / p ^ i) (v - i)
  | 0, _ => by rw [Nat.pow_zero, Nat.div_one]; exact h
  | i + 1, hi => by
    have ih := h.at' hp (i := i) (by omega)
    rw [show v - i = (v - (i + 1)) + 1 by omega] at ih
    rw [← pow_sd]
    exact (ih.succ hp).2
theorem stN_v {p n v : Nat} (hp : IsP p) (h : IsV p n v) : ∀ j, stN p n j = n / p ^ min j v
  | 0 => by rw [Nat.zero_min, Nat.pow_zero, Nat.div_one]; rfl
  | j + 1 => by
    rw [stN, stN_v hp h j, st1]
    by_cases q : j < v
    · rw [Nat.min_eq_left (by omega), Nat.min_eq_left (by omega)]
      have t := h.at' hp (i := j) (by omega)
      rw [show v - j = (v - j - 1) + 1 by omega] at t
      rw [if_pos (t.succ hp).1, pow_sd]
    · rw [Nat.min_eq_right (by omega), Nat.min_eq_right (by omega)]
      have t := h.at' hp (i := v) (by omega)
      rw [Nat.sub_self] at t
      rw [if_neg t.zero]
def sN (p n : Nat) : Nat := stN p n 400
theorem sN_v {p n v : Nat} (hp : IsP p) (h : IsV p n v) (hv : v ≤ 400) : sN p n = n / p ^ v ∧ n = p ^ v * sN p n ∧ sN p n % p ≠ 0 := by
  have e : sN p n = n / p ^ v := by
    unfold sN
    rw [stN_v hp h, Nat.min_eq_right hv]
  have h2 := hp.two
  rw [e]
  obtain ⟨u, rfl, hu⟩ := h
  rw [Nat.mul_div_cancel_left _ (Nat.pow_pos (by omega))]
  exact ⟨rfl, rfl, hu⟩
theorem lt_two (v : Nat) : v < 2 ^ v := Nat.lt_two_pow_self
theorem v_small {p n v : Nat} (hp : IsP p) (h : IsV p n v) (hn : n < 400) : v ≤ 400 := by
  have := h.two hp
  have := lt_two v
  omega
theorem BP_up {p : Nat} (hp : IsP p) : ∀ {m n : Nat}, n + 1 < p ^ m → n + 1 < 400 → BP p (n + 1) m % p = BP p n m * sN p (n + 1) % p
  | 0, n, h, _ => by rw [Nat.pow_zero] at h; omega
  | m + 1, n, h, hn => by
    have h2 := hp.two
    obtain ⟨v, hv⟩ := IsV.ex hp (n := n + 1) (Nat.le_refl _) (by omega)
    have s1 := sN_v hp hv (v_small hp hv hn)
    rw [BP_s, BP_s]
    rcases up_c (n := n) h2.1 with ⟨a1, a2, a3⟩ | ⟨a1, a2, a3⟩
    · have hv0 : IsV p (n + 1) 0 := IsV.of_ne (by omega)
      have v0 := hv.uniq hp hv0
      rw [v0, Nat.pow_zero, Nat.div_one] at s1
      rw [a2, a3, s1.1, fac]
      rw [show fac (n % p) * (n % p + 1) * (p - 1) ^ (n / p) * BP p (n / p) m = fac (n % p) * (p - 1) ^ (n / p) * BP p (n / p) m * (n % p + 1) by simp only [Nat.mul_assoc, Nat.mul_left_comm, Nat.mul_comm]]
      exact mulm rfl (by rw [← a2, Nat.mod_mod])
    · have lt : (n + 1) / p < p ^ m := Nat.div_lt_of_lt_mul (by rw [Nat.pow_succ, Nat.mul_comm] at h; exact h)
      cases v with
      | zero => exact absurd a2 hv.zero
      | succ v =>
        have hv2 := (hv.succ hp).2
        have q1 : (n + 1) / p < 400 := Nat.lt_of_le_of_lt (Nat.div_le_self _ _) hn
        have s2 := sN_v hp hv2 (v_small hp hv2 q1)
        have e : sN p (n + 1) = sN p ((n + 1) / p) := by
          rw [s1.1, s2.1, Nat.div_div_eq_div_mul, Nat.pow_succ, Nat.mul_comm]
        rw [e]
        rw [a3] at lt q1 ⊢
        rw [a2, show n % p = p - 1 by omega]
        have ih := BP_up hp lt q1
        have w := wilson hp
        rw [show fac 0 = 1 from rfl, Nat.one_mul, Nat.pow_succ]
        rw [show fac (p - 1) * (p - 1) ^ (n / p) * BP p (n / p) m * sN p (n / p + 1) = (p - 1) ^ (n / p) * fac (p - 1) * (BP p (n / p) m * sN p (n / p + 1)) by simp only [Nat.mul_assoc, Nat.mul_left_comm, Nat.mul_comm]]
        refine mulm (mulm rfl ?_) ih
        rw [w, Nat.mod_eq_of_lt (by omega)]
def WN (p n : Nat) : Nat := pr (fun k => sN p (k + 1)) n
theorem BP_0 {p : Nat} : ∀ m, BP p 0 m = 1 := fun m => pr_one fun i _ => by unfold bf; rw [dig_z, Nat.zero_div]; rfl
theorem BP_W {p m : Nat} (hp : IsP p) : ∀ {n : Nat}, n < p ^ m → n < 400 → BP p n m % p = WN p n % p
  | 0, _, _ => by rw [BP_0]; rfl
  | n + 1, h, hn => by
    rw [BP_up hp h hn]
    exact mulm (BP_W hp (show n < p ^ m by omega) (by omega)) rfl
theorem WN_fac {p : Nat} (hp : IsP p) : ∀ {n : Nat}, n < 400 → ∃ e, fac n = p ^ e * WN p n ∧ WN p n % p ≠ 0
  | 0, _ => ⟨0, rfl, by show 1 % p ≠ 0; rw [hp.one]; decide⟩
  | n + 1, h => by
    obtain ⟨e, h1, h2⟩ := WN_fac hp (n := n) (by omega)
    obtain ⟨v, hv⟩ := IsV.ex hp (n := n + 1) (Nat.le_refl _) (by omega)
    obtain ⟨_, s2, s3⟩ := sN_v hp hv (v_small hp hv h)
    refine ⟨e + v, ?_, fun z => (hp.mul z).elim h2 s3⟩
    rw [fac, h1]
    conv => lhs; rw [s2]
    show _ = p ^ (e + v) * (WN p n * sN p (n + 1))
    rw [Nat.pow_add]
    simp only [Nat.mul_assoc, Nat.mul_left_comm, Nat.mul_comm]
theorem bare_uniq {p e f A B : Nat} (hp : IsP p) (h : p ^ e * A = p ^ f * B) (hA : A % p ≠ 0) (hB : B % p ≠ 0) : A = B := by
  have h1 : IsV p (p ^ e * A) e := ⟨A, rfl, hA⟩
  have h2 : IsV p (p ^ e * A) f := ⟨B, h, hB⟩
  have := h1.uniq hp h2
  subst this
  exact Nat.eq_of_mul_eq_mul_left (Nat.pow_pos (by have := hp.two; omega)) h
theorem ch_small {a b : Nat} {p v : Nat} (hp : IsP p) (h : a + b ≤ 200) (hv : IsV p (ch (a + b) a) v) : v ≤ 200 := by
  have h1 := hv.two hp
  have h2 := ch_le2 (a + b) a
  have h3 : 2 ^ v ≤ 2 ^ (a + b) := Nat.le_trans h1 h2
  have := (Nat.pow_le_pow_iff_right (by decide : 1 < 2)).mp h3
  omega
theorem bare_ch {p a b : Nat} (hp : IsP p) (h : a + b ≤ 200) : sN p (ch (a + b) a) * (WN p a * WN p b) = WN p (a + b) := by
  obtain ⟨v, hv⟩ := IsV.ex hp (n := ch (a + b) a) (Nat.le_refl _) (ch_pos (by omega))
  obtain ⟨_, s2, s3⟩ := sN_v hp hv (by have := ch_small hp h hv; omega)
  obtain ⟨e1, f1, g1⟩ := WN_fac hp (n := a) (by omega)
  obtain ⟨e2, f2, g2⟩ := WN_fac hp (n := b) (by omega)
  obtain ⟨e3, f3, g3⟩ := WN_fac hp (n := a + b) (by omega)
  have c := ch_fac a b
  rw [f1, f2, f3, s2] at c
  refine bare_uniq (e := v + (e1 + e2)) (f := e3) hp ?_ (fun z => (hp.mul z).elim s3 fun z => (hp.mul z).elim g1 g2) g3
  rw [← c, Nat.pow_add, Nat.pow_add]
  simp only [Nat.mul_assoc, Nat.mul_left_comm, Nat.mul_comm]
/-- what is told -/
def BR (p n : Nat) : Nat := BP p n 64 % p
theorem fac_nz {p : Nat} (hp : IsP p) : ∀ {d : Nat}, d < p → fac d % p ≠ 0
  | 0, _ => by rw [fac, hp.one]; decide
  | d + 1, h => fun z => (hp.mul z).elim (fac_nz hp (by omega)) fun z => by rw [Nat.mod_eq_of_lt h] at z; omega
theorem pow_nz {p : Nat} (hp : IsP p) : ∀ {q : Nat}, (p - 1) ^ q % p ≠ 0
  | 0 => by rw [Nat.pow_zero, hp.one]; decide
  | q + 1 => fun z => (hp.mul z).elim (pow_nz hp) fun z => by have := hp.two; rw [Nat.mod_eq_of_lt (by omega)] at z; omega
theorem BP_nz {p n m : Nat} (hp : IsP p) : BP p n m % p ≠ 0 := fun z => by
  obtain ⟨i, _, hi⟩ := (pr_z hp).mp z
  exact (hp.mul hi).elim (fac_nz hp (dig_lt (by have := hp.two; omega))) (pow_nz hp)
theorem BR_pos {p n : Nat} (hp : IsP p) : 0 < BR p n ∧ BR p n < p := ⟨Nat.pos_of_ne_zero (BP_nz hp), Nat.mod_lt _ (by have := hp.two; omega)⟩
theorem br_ch {p a b : Nat} (hp : IsP p) (h : a + b ≤ 200) : sN p (ch (a + b) a) % p * (BR p a * BR p b % p) % p = BR p (a + b) := by
  have c := bare_ch hp h
  have k : ∀ n, n ≤ 200 → BR p n = WN p n % p := fun n hn => BP_W hp (big64 hp.two.1 (by omega)) (by omega)
  rw [k a (by omega), k b (by omega), k (a + b) h, ← c, ← Nat.mul_mod]
  exact mulm rfl (by rw [← Nat.mul_mod])
/-- bare rests of choices -/
def TR (p a b : Nat) : Nat := BR p (a + b) * (IL p (BR p a * BR p b % p)).headD 0 % p
theorem below_pos {p a b : Nat} (hp : IsP p) : 0 < BR p a * BR p b % p := Nat.pos_of_ne_zero fun z => by
  have h1 := BR_pos (n := a) hp
  have h2 := BR_pos (n := b) hp
  rcases hp.mul z with z | z <;> rw [Nat.mod_eq_of_lt (by omega)] at z <;> omega
theorem TR_back {p a b : Nat} (hp : IsP p) : TR p a b * (BR p a * BR p b % p) % p = BR p (a + b) ∧ 0 < TR p a b ∧ TR p a b < p := by
  obtain ⟨x, t, e, hx, h1⟩ := IL_ok hp (below_pos (a := a) (b := b) hp) (Nat.mod_lt _ (by have := hp.two; omega))
  have hb := BR_pos (n := a + b) hp
  have e2 : TR p a b * (BR p a * BR p b % p) % p = BR p (a + b) := by
    unfold TR
    rw [e, List.headD_cons, Nat.mod_mul_mod, Nat.mul_assoc, Nat.mul_mod, h1, Nat.mul_one, Nat.mod_mod, Nat.mod_eq_of_lt hb.2]
  refine ⟨e2, Nat.pos_of_ne_zero fun z => ?_, Nat.mod_lt _ (by have := hp.two; omega)⟩
  rw [z, Nat.zero_mul, Nat.zero_mod] at e2
  omega
theorem TR_ch {p a b : Nat} (hp : IsP p) (h : a + b ≤ 200) : TR p a b = sN p (ch (a + b) a) % p := by
  obtain ⟨x, t, e, hx, h1⟩ := IL_ok hp (below_pos (a := a) (b := b) hp) (Nat.mod_lt _ (by have := hp.two; omega))
  unfold TR
  rw [← br_ch hp h, e, List.headD_cons, Nat.mod_mul_mod, Nat.mul_assoc, Nat.mul_comm _ x, Nat.mul_mod, h1, Nat.mul_one, Nat.mod_mod, Nat.mod_mod]
theorem TR_comm {p a b : Nat} : TR p a b = TR p b a := by unfold TR; rw [Nat.add_comm, Nat.mul_comm (BR p a)]
/-- minus one -/
theorem sign_ok {p x : Nat} (hp : IsP p) (hx : x < p) : ∀ q, x * (p - 1) ^ q % p = if q % 2 = 1 then (p - x) % p else x
  | 0 => by rw [Nat.pow_zero, Nat.mul_one, Nat.mod_eq_of_lt hx]; rfl
  | q + 1 => by
    have h2 := hp.two
    rw [Nat.pow_succ, ← Nat.mul_assoc, Nat.mul_mod, sign_ok hp hx q]
    have neg : ∀ y, y < p → y * ((p - 1) % p) % p = (p - y) % p := fun y hy => by
      rw [Nat.mod_eq_of_lt (show p - 1 < p by omega)]
      have e : y * (p - 1) + y = p * y := by
        obtain ⟨r, rfl⟩ : ∃ r, p = r + 1 := ⟨p - 1, by omega⟩
        rw [Nat.add_sub_cancel, ← Nat.mul_succ, Nat.mul_comm]
      by_cases hy0 : y = 0
      · subst hy0; simp
      · rw [show y * (p - 1) = p * (y - 1) + (p - y) by
          have : p * y = p * (y - 1) + p := by
            obtain ⟨z, rfl⟩ : ∃ z, y = z + 1 := ⟨y - 1, by omega⟩
            rw [Nat.add_sub_cancel, Nat.mul_succ]
          omega, Nat.mul_add_mod]
    by_cases hq : q % 2 = 1
    · rw [if_pos hq, if_neg (by omega), neg _ (Nat.mod_lt _ (by omega))]
      by_cases x0 : x = 0
      · subst x0; simp
      · rw [Nat.mod_eq_of_lt (show p - x < p by omega), Nat.mod_eq_of_lt (by omega)]
        omega
    · rw [if_neg hq, if_pos (by omega)]
      exact neg x hx
theorem BP_EN {p n : Nat} : ∀ m, BP p n m = pr (fun i => fac (dig p n i)) m * (p - 1) ^ EN p n m
  | 0 => by simp [BP, pr, EN]
  | m + 1 => by
    show BP p n m * bf p n m = _
    rw [BP_EN m, pr, EN, Nat.pow_add]
    unfold bf
    simp only [Nat.mul_assoc, Nat.mul_left_comm, Nat.mul_comm]
/-! Euclid -/
def es : Nat → Nat → Nat → Nat
  | 0, _, _ => 0
  | f + 1, x, y => if y = 0 then 0 else es f y (x % y) + 1
theorem es_le : ∀ f x y, es f x y ≤ f
  | 0, _, _ => Nat.le_refl _
  | f + 1, x, y => by
    rw [es]
    split
    · omega
    · have := es_le f y (x % y); omega
theorem es_le_y : ∀ {f x y : Nat}, es f x y ≤ y
  | 0, _, y => Nat.zero_le _
  | f + 1, x, y => by
    rw [es]
    split
    · omega
    · next h =>
      have := es_le_y (f := f) (x := y) (y := x % y)
      have := Nat.mod_lt x (show 0 < y by omega)
      omega
theorem es_le_x {f x y : Nat} : es f x y ≤ x + 1 := by
  cases f with
  | zero => exact Nat.zero_le _
  | succ f =>
    rw [es]
    split
    · omega
    · have := es_le_y (f := f) (x := y) (y := x % y)
      have := Nat.mod_le x y
      omega
def GR (n : Nat) : Nat → Nat
  | 0 => 0
  | j + 1 => Nat.gcd (GR n j) (ch n (j + 1))
theorem ch_one : ∀ n, ch n 1 = n
  | 0 => rfl
  | n + 1 => by rw [ch_s, ch_0, ch_one n, Nat.add_comm]
theorem GR_dvd {n : Nat} : ∀ j, GR n (j + 1) ∣ n
  | 0 => by rw [GR, GR, Nat.gcd_zero_left, ch_one]; exact Nat.dvd_refl _
  | j + 1 => Nat.dvd_trans (Nat.gcd_dvd_left _ _) (GR_dvd j)
theorem GR_le {n : Nat} (h : 0 < n) : ∀ j, GR n j ≤ n
  | 0 => Nat.zero_le _
  | j + 1 => Nat.le_of_dvd h (GR_dvd j)
/-- both at once, step by step -/
def gl (n : Nat) : Nat → Nat × Nat
  | 0 => (1, 0)
  | j + 1 => ((gl n j).1 * (n - j) / (j + 1), Nat.gcd (gl n j).2 ((gl n j).1 * (n - j) / (j + 1)))
theorem gl_ok {n : Nat} : ∀ {j : Nat}, j ≤ n → gl n j = (ch n j, GR n j)
  | 0, _ => by rw [ch_0]; rfl
  | j + 1, h => by
    rw [gl, gl_ok (show j ≤ n by omega)]
    have e := ch_step' (n := n) (k := j) (by omega)
    have e2 : ch n j * (n - j) / (j + 1) = ch n (j + 1) := by
      rw [Nat.mul_comm, ← e, Nat.mul_div_cancel_left _ (by omega)]
    simp only [e2]
    rfl
def prm (o : Nat) : Bool := (List.range (o - 2)).all fun j => o % (2 + j) != 0
def PD (n : Nat) : List Nat := (List.range (n - 1)).filter fun i => n % (2 + i) == 0 && prm (2 + i)
def PDv (n : Nat) : Nat := match PD n with
  | [i] => 2 + i
  | _ => 1
def DVL (n : Nat) : List Nat := (List.range (n - 1)).filter fun i => n % (2 + i) == 0
def ckG (n : Nat) : Bool := (gl n (n - 1)).2 == PDv n && Nat.gcd n (gl n (n - 1)).2 == (gl n (n - 1)).2
theorem ckG_all : (List.range 199).all (fun i => ckG (i + 2)) = true := by decide +kernel
def POW : List Nat := [4, 8, 16, 32, 64, 128, 9, 27, 81, 25, 125, 49, 121, 169, 2, 3, 5, 197]
def ckP (n : Nat) : Bool := match DVL n with
  | [] => false
  | i :: _ => (gl n (n - 1)).2 == 2 + i
theorem ckP_all : POW.all ckP = true := by decide +kernel
theorem GR_ok {n : Nat} (h : 2 ≤ n) (h2 : n ≤ 200) : GR n (n - 1) = PDv n ∧ Nat.gcd n (GR n (n - 1)) = GR n (n - 1) := by
  have t := List.all_eq_true.mp ckG_all (n - 2) (List.mem_range.mpr (by omega))
  rw [Nat.sub_add_cancel h] at t
  unfold ckG at t
  rw [gl_ok (by omega)] at t
  simp only [Bool.and_eq_true, beq_iff_eq] at t
  exact t
theorem POW_ok {n : Nat} (h : n ∈ POW) : ∃ i t, DVL n = i :: t ∧ GR n (n - 1) = 2 + i := by
  have t := List.all_eq_true.mp ckP_all n h
  unfold ckP at t
  cases e : DVL n with
  | nil => rw [e] at t; cases t
  | cons i l =>
    rw [e] at t
    dsimp only at t
    rw [gl_ok (by omega)] at t
    exact ⟨i, l, rfl, of_decide_eq_true t⟩
end DL

set_option maxHeartbeats 4000000
namespace DL
open PySem PySem.Spec PyProof.Rows L2
noncomputable section
def topS (i : Nat) : Stmt := PySem.Challenge.pw_twowaycounts_k08_whole_primes_beside_all.main.body.getD i (.Pass ⟨0, 0, 0, 0⟩)
abbrev s__law_draw : Stmt := topS 85
theorem sc__law_draw : FnScope ["pot", "many", "digit"] ["pot", "many"] (defScope s__law_draw) := ⟨rfl, rfl, rfl, by decide +kernel, rfl, by decide +kernel, by decide +kernel⟩
abbrev s__law_pick : Stmt := topS 86
theorem sc__law_pick : FnScope ["pot", "some"] ["pot", "some"] (defScope s__law_pick) := ⟨rfl, rfl, rfl, by decide +kernel, rfl, by decide +kernel, by decide +kernel⟩
abbrev s__law_prime : Stmt := topS 92
theorem sc__law_prime : FnScope ["pot"] ["pot"] (defScope s__law_prime) := ⟨rfl, rfl, rfl, by decide +kernel, rfl, by decide +kernel, by decide +kernel⟩
abbrev s_is_integer : Stmt := topS 1
theorem sc_is_integer : FnScope ["value"] ["value"] (defScope s_is_integer) := ⟨rfl, rfl, rfl, by decide +kernel, rfl, by decide +kernel, by decide +kernel⟩
abbrev s_is_within : Stmt := topS 2
theorem sc_is_within : FnScope ["value", "least", "most"] ["value", "least", "most"] (defScope s_is_within) := ⟨rfl, rfl, rfl, by decide +kernel, rfl, by decide +kernel, by decide +kernel⟩
abbrev s_want_many : Stmt := topS 17
theorem sc_want_many : FnScope ["many"] ["many"] (defScope s_want_many) := ⟨rfl, rfl, rfl, by decide +kernel, rfl, by decide +kernel, by decide +kernel⟩
abbrev s_choose_of : Stmt := topS 19
theorem sc_choose_of : FnScope ["many", "some", "found", "at"] ["many", "some"] (defScope s_choose_of) := ⟨rfl, rfl, rfl, by decide +kernel, rfl, by decide +kernel, by decide +kernel⟩
abbrev s_choose_row : Stmt := topS 21
theorem sc_choose_row : FnScope ["many", "some"] ["many"] (defScope s_choose_row) := ⟨rfl, rfl, rfl, by decide +kernel, rfl, by decide +kernel, by decide +kernel⟩
abbrev s_want_prime : Stmt := topS 25
theorem sc_want_prime : FnScope ["prime", "one"] ["prime"] (defScope s_want_prime) := ⟨rfl, rfl, rfl, by decide +kernel, rfl, by decide +kernel, by decide +kernel⟩
abbrev s_want_great : Stmt := topS 26
theorem sc_want_great : FnScope ["number"] ["number"] (defScope s_want_great) := ⟨rfl, rfl, rfl, by decide +kernel, rfl, by decide +kernel, by decide +kernel⟩
abbrev s_want_choice : Stmt := topS 27
theorem sc_want_choice : FnScope ["prime", "top", "bottom"] ["prime", "top", "bottom"] (defScope s_want_choice) := ⟨rfl, rfl, rfl, by decide +kernel, rfl, by decide +kernel, by decide +kernel⟩
abbrev s_digits_of : Stmt := topS 28
theorem sc_digits_of : FnScope ["prime", "number", "found"] ["prime", "number"] (defScope s_digits_of) := ⟨rfl, rfl, rfl, by decide +kernel, rfl, by decide +kernel, by decide +kernel⟩
abbrev s_both_digits : Stmt := topS 29
theorem sc_both_digits : FnScope ["prime", "top", "bottom", "many", "near", "far"] ["prime", "top", "bottom"] (defScope s_both_digits) := ⟨rfl, rfl, rfl, by decide +kernel, rfl, by decide +kernel, by decide +kernel⟩
abbrev s_carried : Stmt := topS 31
theorem sc_carried : FnScope ["prime", "number", "other", "found", "more", "at", "near", "far"] ["prime", "number", "other"] (defScope s_carried) := ⟨rfl, rfl, rfl, by decide +kernel, rfl, by decide +kernel, by decide +kernel⟩
abbrev s_choice_times : Stmt := topS 38
theorem sc_choice_times : FnScope ["prime", "top", "bottom"] ["prime", "top", "bottom"] (defScope s_choice_times) := ⟨rfl, rfl, rfl, by decide +kernel, rfl, by decide +kernel, by decide +kernel⟩
abbrev s__law_often : Stmt := topS 91
theorem sc__law_often : FnScope ["prime", "number", "turn", "found", "left"] ["prime", "number"] (defScope s__law_often) := ⟨rfl, rfl, rfl, by decide +kernel, rfl, by decide +kernel, by decide +kernel⟩
abbrev s_rest_of : Stmt := topS 30
theorem sc_rest_of : FnScope ["prime", "top", "bottom", "found", "near", "far"] ["prime", "top", "bottom"] (defScope s_rest_of) := ⟨rfl, rfl, rfl, by decide +kernel, rfl, by decide +kernel, by decide +kernel⟩
abbrev s_row_rests : Stmt := topS 37
theorem sc_row_rests : FnScope ["prime", "many", "some"] ["prime", "many"] (defScope s_row_rests) := ⟨rfl, rfl, rfl, by decide +kernel, rfl, by decide +kernel, by decide +kernel⟩
abbrev s_row_left : Stmt := topS 36
theorem sc_row_left : FnScope ["prime", "top", "found", "one"] ["prime", "top"] (defScope s_row_left) := ⟨rfl, rfl, rfl, by decide +kernel, rfl, by decide +kernel, by decide +kernel⟩
abbrev s_want_some : Stmt := topS 18
theorem sc_want_some : FnScope ["some"] ["some"] (defScope s_want_some) := ⟨rfl, rfl, rfl, by decide +kernel, rfl, by decide +kernel, by decide +kernel⟩
abbrev s_choose : Stmt := topS 20
theorem sc_choose : FnScope ["many", "some"] ["many", "some"] (defScope s_choose) := ⟨rfl, rfl, rfl, by decide +kernel, rfl, by decide +kernel, by decide +kernel⟩
abbrev s_choice_rest : Stmt := topS 35
theorem sc_choice_rest : FnScope ["prime", "top", "bottom"] ["prime", "top", "bottom"] (defScope s_choice_rest) := ⟨rfl, rfl, rfl, by decide +kernel, rfl, by decide +kernel, by decide +kernel⟩
abbrev s_bags_counted : Stmt := topS 43
theorem sc_bags_counted : FnScope ["many", "some"] ["many", "some"] (defScope s_bags_counted) := ⟨rfl, rfl, rfl, by decide +kernel, rfl, by decide +kernel, by decide +kernel⟩
abbrev s_many_bags : Stmt := topS 44
theorem sc_many_bags : FnScope ["many", "some"] ["many", "some"] (defScope s_many_bags) := ⟨rfl, rfl, rfl, by decide +kernel, rfl, by decide +kernel, by decide +kernel⟩
abbrev s_want_steps : Stmt := topS 78
theorem sc_want_steps : FnScope ["rights", "ups"] ["rights", "ups"] (defScope s_want_steps) := ⟨rfl, rfl, rfl, by decide +kernel, rfl, by decide +kernel, by decide +kernel⟩
abbrev s_many_paths : Stmt := topS 81
theorem sc_many_paths : FnScope ["rights", "ups"] ["rights", "ups"] (defScope s_many_paths) := ⟨rfl, rfl, rfl, by decide +kernel, rfl, by decide +kernel, by decide +kernel⟩
abbrev s__law_choices_right : Stmt := topS 98
theorem sc__law_choices_right : FnScope ["pot", "prime", "many", "some", "row", "few", "more", "rights", "ups", "one"] ["pot", "prime"] (defScope s__law_choices_right) := ⟨rfl, rfl, rfl, by decide +kernel, rfl, by decide +kernel, by decide +kernel⟩
abbrev s_orders_counted : Stmt := topS 75
theorem sc_orders_counted : FnScope ["many", "found", "one"] ["many"] (defScope s_orders_counted) := ⟨rfl, rfl, rfl, by decide +kernel, rfl, by decide +kernel, by decide +kernel⟩
abbrev s_many_orders : Stmt := topS 76
theorem sc_many_orders : FnScope ["many"] ["many"] (defScope s_many_orders) := ⟨rfl, rfl, rfl, by decide +kernel, rfl, by decide +kernel, by decide +kernel⟩
abbrev s_times_in_product : Stmt := topS 32
theorem sc_times_in_product : FnScope ["prime", "number", "found"] ["prime", "number"] (defScope s_times_in_product) := ⟨rfl, rfl, rfl, by decide +kernel, rfl, by decide +kernel, by decide +kernel⟩
abbrev s_product_times : Stmt := topS 39
theorem sc_product_times : FnScope ["prime", "number"] ["prime", "number"] (defScope s_product_times) := ⟨rfl, rfl, rfl, by decide +kernel, rfl, by decide +kernel, by decide +kernel⟩
abbrev s_bare_product : Stmt := topS 33
theorem sc_bare_product : FnScope ["prime", "number", "found", "one"] ["prime", "number"] (defScope s_bare_product) := ⟨rfl, rfl, rfl, by decide +kernel, rfl, by decide +kernel, by decide +kernel⟩
abbrev s_product_rest : Stmt := topS 40
theorem sc_product_rest : FnScope ["prime", "number"] ["prime", "number"] (defScope s_product_rest) := ⟨rfl, rfl, rfl, by decide +kernel, rfl, by decide +kernel, by decide +kernel⟩
abbrev s_is_list : Stmt := topS 3
theorem sc_is_list : FnScope ["value"] ["value"] (defScope s_is_list) := ⟨rfl, rfl, rfl, by decide +kernel, rfl, by decide +kernel, by decide +kernel⟩
abbrev s_are_letters_value : Stmt := topS 70
theorem sc_are_letters_value : FnScope ["value", "one"] ["value"] (defScope s_are_letters_value) := ⟨rfl, rfl, rfl, by decide +kernel, rfl, by decide +kernel, by decide +kernel⟩
abbrev s_want_letters : Stmt := topS 71
theorem sc_want_letters : FnScope ["letters"] ["letters"] (defScope s_want_letters) := ⟨rfl, rfl, rfl, by decide +kernel, rfl, by decide +kernel, by decide +kernel⟩
abbrev s_words_counted : Stmt := topS 72
theorem sc_words_counted : FnScope ["letters", "often", "found", "whole"] ["letters"] (defScope s_words_counted) := ⟨rfl, rfl, rfl, by decide +kernel, rfl, by decide +kernel, by decide +kernel⟩
abbrev s_many_words : Stmt := topS 73
theorem sc_many_words : FnScope ["letters"] ["letters"] (defScope s_many_words) := ⟨rfl, rfl, rfl, by decide +kernel, rfl, by decide +kernel, by decide +kernel⟩
abbrev s_want_many_to : Stmt := topS 46
theorem sc_want_many_to : FnScope ["many", "most"] ["many", "most"] (defScope s_want_many_to) := ⟨rfl, rfl, rfl, by decide +kernel, rfl, by decide +kernel, by decide +kernel⟩
abbrev s_catalan_of : Stmt := topS 47
theorem sc_catalan_of : FnScope ["many"] ["many"] (defScope s_catalan_of) := ⟨rfl, rfl, rfl, by decide +kernel, rfl, by decide +kernel, by decide +kernel⟩
abbrev s_many_brackets : Stmt := topS 48
theorem sc_many_brackets : FnScope ["many"] ["many"] (defScope s_many_brackets) := ⟨rfl, rfl, rfl, by decide +kernel, rfl, by decide +kernel, by decide +kernel⟩
abbrev s_want_line : Stmt := topS 79
theorem sc_want_line : FnScope ["line"] ["line"] (defScope s_want_line) := ⟨rfl, rfl, rfl, by decide +kernel, rfl, by decide +kernel, by decide +kernel⟩
abbrev s_below_of : Stmt := topS 80
theorem sc_below_of : FnScope ["rights", "ups", "line", "found"] ["rights", "ups", "line"] (defScope s_below_of) := ⟨rfl, rfl, rfl, by decide +kernel, rfl, by decide +kernel, by decide +kernel⟩
abbrev s_many_below : Stmt := topS 82
theorem sc_many_below : FnScope ["rights", "ups", "line"] ["rights", "ups", "line"] (defScope s_many_below) := ⟨rfl, rfl, rfl, by decide +kernel, rfl, by decide +kernel, by decide +kernel⟩
abbrev s_digit_sum : Stmt := topS 34
theorem sc_digit_sum : FnScope ["prime", "number"] ["prime", "number"] (defScope s_digit_sum) := ⟨rfl, rfl, rfl, by decide +kernel, rfl, by decide +kernel, by decide +kernel⟩
abbrev s__law_products_right : Stmt := topS 99
theorem sc__law_products_right : FnScope ["pot", "prime", "many", "orders", "turn", "letters", "due", "couples", "number", "left", "often", "one"] ["pot", "prime"] (defScope s__law_products_right) := ⟨rfl, rfl, rfl, by decide +kernel, rfl, by decide +kernel, by decide +kernel⟩
abbrev s_row_common : Stmt := topS 41
theorem sc_row_common : FnScope ["many", "found", "some", "late"] ["many"] (defScope s_row_common) := ⟨rfl, rfl, rfl, by decide +kernel, rfl, by decide +kernel, by decide +kernel⟩
abbrev s__law_prime_right : Stmt := topS 100
theorem sc__law_prime_right : FnScope ["prime", "at"] ["prime"] (defScope s__law_prime_right) := ⟨rfl, rfl, rfl, by decide +kernel, rfl, by decide +kernel, by decide +kernel⟩
abbrev s_want_count : Stmt := topS 64
theorem sc_want_count : FnScope ["count"] ["count"] (defScope s_want_count) := ⟨rfl, rfl, rfl, by decide +kernel, rfl, by decide +kernel, by decide +kernel⟩
abbrev s_fib_of : Stmt := topS 65
theorem sc_fib_of : FnScope ["count", "turn", "near", "far"] ["count"] (defScope s_fib_of) := ⟨rfl, rfl, rfl, by decide +kernel, rfl, by decide +kernel, by decide +kernel⟩
abbrev s_fib : Stmt := topS 66
theorem sc_fib : FnScope ["count"] ["count"] (defScope s_fib) := ⟨rfl, rfl, rfl, by decide +kernel, rfl, by decide +kernel, by decide +kernel⟩
abbrev s_want_numbers : Stmt := topS 52
theorem sc_want_numbers : FnScope ["numbers", "one"] ["numbers"] (defScope s_want_numbers) := ⟨rfl, rfl, rfl, by decide +kernel, rfl, by decide +kernel, by decide +kernel⟩
abbrev s_row_below : Stmt := topS 60
theorem sc_row_below : FnScope ["numbers", "near", "far"] ["numbers"] (defScope s_row_below) := ⟨rfl, rfl, rfl, by decide +kernel, rfl, by decide +kernel, by decide +kernel⟩
abbrev s_difference_row : Stmt := topS 61
theorem sc_difference_row : FnScope ["numbers"] ["numbers"] (defScope s_difference_row) := ⟨rfl, rfl, rfl, by decide +kernel, rfl, by decide +kernel, by decide +kernel⟩
abbrev s_summed_at : Stmt := topS 53
theorem sc_summed_at : FnScope ["numbers", "place", "at", "one"] ["numbers", "place"] (defScope s_summed_at) := ⟨rfl, rfl, rfl, by decide +kernel, rfl, by decide +kernel, by decide +kernel⟩
abbrev s_sums_of : Stmt := topS 55
theorem sc_sums_of : FnScope ["numbers", "place"] ["numbers"] (defScope s_sums_of) := ⟨rfl, rfl, rfl, by decide +kernel, rfl, by decide +kernel, by decide +kernel⟩
abbrev s_choice_sums : Stmt := topS 57
theorem sc_choice_sums : FnScope ["numbers"] ["numbers"] (defScope s_choice_sums) := ⟨rfl, rfl, rfl, by decide +kernel, rfl, by decide +kernel, by decide +kernel⟩
abbrev s_signed : Stmt := topS 54
theorem sc_signed : FnScope ["numbers", "at", "one"] ["numbers"] (defScope s_signed) := ⟨rfl, rfl, rfl, by decide +kernel, rfl, by decide +kernel, by decide +kernel⟩
abbrev s_back_of : Stmt := topS 56
theorem sc_back_of : FnScope ["numbers"] ["numbers"] (defScope s_back_of) := ⟨rfl, rfl, rfl, by decide +kernel, rfl, by decide +kernel, by decide +kernel⟩
abbrev s_taken_back : Stmt := topS 58
theorem sc_taken_back : FnScope ["numbers"] ["numbers"] (defScope s_taken_back) := ⟨rfl, rfl, rfl, by decide +kernel, rfl, by decide +kernel, by decide +kernel⟩
abbrev s__law_fibonacci_right : Stmt := topS 101
theorem sc__law_fibonacci_right : FnScope ["pot", "many", "row", "at"] ["pot"] (defScope s__law_fibonacci_right) := ⟨rfl, rfl, rfl, by decide +kernel, rfl, by decide +kernel, by decide +kernel⟩
abbrev s__law_right : Stmt := topS 102
theorem sc__law_right : FnScope ["pot", "prime"] ["pot"] (defScope s__law_right) := ⟨rfl, rfl, rfl, by decide +kernel, rfl, by decide +kernel, by decide +kernel⟩
abbrev s__law_pot : Stmt := topS 84
theorem sc__law_pot : FnScope ["script", "k", "cell"] ["script", "k"] (defScope s__law_pot) := ⟨rfl, rfl, rfl, by decide +kernel, rfl, by decide +kernel, by decide +kernel⟩
abbrev s_law : Stmt := topS 103
theorem sc_law : FnScope ["script", "k"] ["script"] (defScope s_law) := ⟨rfl, rfl, rfl, by decide +kernel, rfl, by decide +kernel, by decide +kernel⟩
/-! _law_draw: 0 pot 1 many 2 digit -/
def den__law_draw : DE := fnE 2 [0] 3 (seqS (ifS (bT (opE gtI (consA (opE ixF (consA (nmE 0) (consA (cE (.int 0)) nilA))) (consA (cE (.int 0)) nilA)))) (seqS (asgS (opE divmodF (consA (opE ixF (consA (nmE 0) (consA (cE (.int 0)) nilA))) (consA (nmE 1) (nilA)))) (tupT [subT 0 (cE (.int 0)), nameF 2])) (retS (nmE 2))) (nxS)) (seqS (asgS (opE modI (consA (opE intF (consA (opE addF (consA (opE mulF (consA (opE ixF (consA (nmE 0) (consA (cE (.int 1)) nilA))) (consA (cE (.int 39373)) nilA))) (consA (cE (.int 3049)) nilA))) (nilA))) (consA (cE (.int 2147483587)) nilA))) (subT 0 (cE (.int 1)))) (retS (opE modI (consA (opE intF (consA (opE divI (consA (opE modI (consA (opE intF (consA (opE mulF (consA (opE ixF (consA (nmE 0) (consA (cE (.int 1)) nilA))) (consA (opE ixF (consA (nmE 0) (consA (cE (.int 1)) nilA))) nilA))) (nilA))) (consA (cE (.int 2147483563)) nilA))) (consA (cE (.int 19)) nilA))) (nilA))) (consA (nmE 1) nilA))))))
/-! _law_pick: 0 pot 1 some -/
def den__law_pick : DE := fnE 2 [0] 2 (retS (opE ixF (consA (nmE 1) (consA (callE [true, false] den__law_draw (consA (nmE 0) (consA (opE lenF (consA (nmE 1) (nilA))) (nilA)))) nilA))))
/-! _law_prime: 0 pot -/
def den__law_prime : DE := fnE 1 [0] 1 (retS (callE [true, false] den__law_pick (consA (nmE 0) (consA (lstE (consA (cE (.int 2)) (consA (cE (.int 2)) (consA (cE (.int 3)) (consA (cE (.int 3)) (consA (cE (.int 5)) (consA (cE (.int 7)) (consA (cE (.int 11)) (consA (cE (.int 13)) (consA (cE (.int 89)) (consA (cE (.int 97)) (nilA)))))))))))) (nilA)))))
/-! is_integer: 0 value -/
def den_is_integer : DE := fnE 1 [] 1 (retS (tB (andT (bT (isE [.int] (nmE 0))) (bT (tB (notT (bT (isE [.bool] (nmE 0)))))))))
/-! is_within: 0 value 1 least 2 most -/
def den_is_within : DE := fnE 3 [] 3 (retS (tB (andT (bT (callE [false] den_is_integer (consA (nmE 0) (nilA)))) (bT (chainE leD leD (nmE 1) (nmE 0) (nmE 2))))))
/-! want_many: 0 many -/
def den_want_many : DE := fnE 1 [] 1 (ifS (notT (bT (callE [false, false, false] den_is_within (consA (nmE 0) (consA (cE (.int 0)) (consA (cE (.int 200)) (nilA))))))) (nevS) (nxS))
/-! choose_of: 0 many 1 some 2 found 3 at -/
def fb_choose_of_1 : DS := asgS (opE divI (consA (opE mulF (consA (nmE 2) (consA (opE subI (consA (nmE 0) (consA (nmE 3) nilA))) nilA))) (consA (opE addF (consA (nmE 3) (consA (cE (.int 1)) nilA))) nilA))) (nameF 2)
def fi_choose_of_2 : DI := rngI1 (consA (opE minF (consA (nmE 1) (consA (opE subI (consA (nmE 0) (consA (nmE 1) nilA))) (nilA)))) (nilA))
def fo_choose_of_3 : DS := forS fi_choose_of_2 (nameF 3) fb_choose_of_1
def den_choose_of : DE := fnE 2 [] 4 (seqS (ifS (bT (opE gtI (consA (nmE 1) (consA (nmE 0) nilA)))) (retS (cE (.int 0))) (nxS)) (seqS (asgS (cE (.int 1)) (nameF 2)) (seqS (fo_choose_of_3) (retS (nmE 2)))))
/-! choose_row: 0 many 1 some -/
def li_choose_row_1 : DI := rngI1 (consA (opE addF (consA (nmE 0) (consA (cE (.int 1)) nilA))) (nilA))
def le_choose_row_2 : DE := callE [false, false] den_choose_of (consA (nmE 0) (consA (nmE 1) (nilA)))
def lc_choose_row_3 : DE := lcE li_choose_row_1 (nameF 1) yesT le_choose_row_2 [1]
def den_choose_row : DE := fnE 1 [] 2 (seqS (dropS (callE [false] den_want_many (consA (nmE 0) (nilA)))) (retS (lc_choose_row_3)))
/-! want_prime: 0 prime 1 one -/
def li_want_prime_1 : DI := rngI2 (consA (cE (.int 2)) (consA (nmE 0) (nilA)))
def le_want_prime_2 : DE := opE neF (consA (opE modI (consA (opE intF (consA (nmE 0) (nilA))) (consA (nmE 1) nilA))) (consA (cE (.int 0)) nilA))
def lc_want_prime_3 : DE := lcE li_want_prime_1 (nameF 1) yesT le_want_prime_2 [1]
def den_want_prime : DE := fnE 1 [] 2 (ifS (orT (notT (bT (callE [false, false, false] den_is_within (consA (nmE 0) (consA (cE (.int 2)) (consA (cE (.int 97)) (nilA))))))) (notT (bT (opE allF (consA (lc_want_prime_3) (nilA)))))) (nevS) (nxS))
/-! want_great: 0 number -/
def den_want_great : DE := fnE 1 [] 1 (ifS (notT (bT (callE [false, false, false] den_is_within (consA (nmE 0) (consA (cE (.int 0)) (consA (cE (.int 1000000000000000000)) (nilA))))))) (nevS) (nxS))
/-! want_choice: 0 prime 1 top 2 bottom -/
def den_want_choice : DE := fnE 3 [] 3 (seqS (dropS (callE [false] den_want_prime (consA (nmE 0) (nilA)))) (seqS (dropS (callE [false] den_want_great (consA (nmE 1) (nilA)))) (dropS (callE [false] den_want_great (consA (nmE 2) (nilA))))))
/-! digits_of: 0 prime 1 number 2 found -/
def wt_digits_of_1 : DT := bT (opE gtI (consA (nmE 1) (consA (cE (.int 0)) nilA)))
def wb_digits_of_2 : DS := seqS (dropS (methE 2 appG (consA (opE modI (consA (opE intF (consA (nmE 1) (nilA))) (consA (nmE 0) nilA))) (nilA)))) (asgS (opE divI (consA (nmE 1) (consA (nmE 0) nilA))) (nameF 1))
def wh_digits_of_3 : DS := whileL wt_digits_of_1 wb_digits_of_2 fuel
def den_digits_of : DE := fnE 2 [] 3 (seqS (asgS (lstE (nilA)) (nameT 2)) (seqS (wh_digits_of_3) (retS (nmE 2))))
/-! both_digits: 0 prime 1 top 2 bottom 3 many 4 near 5 far -/
def den_both_digits : DE := fnE 3 [] 6 (seqS (parS (consA (callE [false, false] den_digits_of (consA (nmE 0) (consA (nmE 1) (nilA)))) (consA (callE [false, false] den_digits_of (consA (nmE 0) (consA (nmE 2) (nilA)))) (nilA))) [nameT 4, nameT 5]) (frzS 5 (frzS 4 (seqS (asgS (opE maxF (consA (opE lenF (consA (nmE 4) (nilA))) (consA (opE lenF (consA (nmE 5) (nilA))) (nilA)))) (nameF 3)) (retS (lzE (consA (opE addF (consA (nmE 4) (consA (opE mulF (consA (lstE (consA (cE (.int 0)) (nilA))) (consA (opE subI (consA (nmE 3) (consA (opE lenF (consA (nmE 4) (nilA))) nilA))) nilA))) nilA))) (consA (opE addF (consA (nmE 5) (consA (opE mulF (consA (lstE (consA (cE (.int 0)) (nilA))) (consA (opE subI (consA (nmE 3) (consA (opE lenF (consA (nmE 5) (nilA))) nilA))) nilA))) nilA))) (nilA)))))))))
/-! carried: 0 prime 1 number 2 other 3 found 4 more 5 at 6 near 7 far -/
def fb_carried_1 : DS := seqS (asgS (opE divI (consA (opE addF (consA (opE addF (consA (nmE 6) (consA (nmE 7) nilA))) (consA (nmE 4) nilA))) (consA (nmE 0) nilA))) (nameF 4)) (dropS (methE 3 extG (consA (ifE (bT (opE gtI (consA (nmE 4) (consA (cE (.int 0)) nilA)))) (lstE (consA (nmE 5) (nilA))) (lstE (nilA))) (nilA))))
def fi_carried_2 : DI := enuI (consA (callE [false, false, false] den_both_digits (consA (nmE 0) (consA (nmE 1) (consA (nmE 2) (nilA))))) (nilA))
def fo_carried_3 : DS := forS fi_carried_2 (tupT [nameF 5, tupT [nameF 6, nameF 7]]) fb_carried_1
def den_carried : DE := fnE 3 [] 8 (seqS (parS (consA (lstE (nilA)) (consA (cE (.int 0)) (nilA))) [nameT 3, nameT 4]) (seqS (fo_carried_3) (retS (nmE 3))))
/-! choice_times: 0 prime 1 top 2 bottom -/
def den_choice_times : DE := fnE 3 [] 3 (seqS (dropS (callE [false, false, false] den_want_choice (consA (nmE 0) (consA (nmE 1) (consA (nmE 2) (nilA)))))) (retS (ifE (bT (opE leI (consA (nmE 2) (consA (nmE 1) nilA)))) (opE lenF (consA (callE [false, false, false] den_carried (consA (nmE 0) (consA (nmE 2) (consA (opE subI (consA (nmE 1) (consA (nmE 2) nilA))) (nilA))))) (nilA))) (cE .none))))
/-! _law_often: 0 prime 1 number 2 turn 3 found 4 left -/
def fb_law_often_1 : DS := ifS (andT (bT (opE neF (consA (nmE 4) (consA (cE (.int 0)) nilA)))) (bT (opE eqF (consA (opE modI (consA (opE intF (consA (nmE 4) (nilA))) (consA (nmE 0) nilA))) (consA (cE (.int 0)) nilA))))) (seqS (parS (consA (opE addF (consA (nmE 3) (consA (cE (.int 1)) nilA))) (consA (opE divI (consA (nmE 4) (consA (nmE 0) nilA))) (nilA))) [nameT 3, nameT 4]) (frzS 3 (nxS))) (nxS)
def fi_law_often_2 : DI := rngI1 (consA (cE (.int 400)) (nilA))
def fo_law_often_3 : DS := forS fi_law_often_2 (nameF 2) fb_law_often_1
def den__law_often : DE := fnE 2 [] 5 (seqS (parS (consA (cE (.int 0)) (consA (nmE 1) (nilA))) [nameT 3, nameT 4]) (frzS 4 (seqS (fo_law_often_3) (retS (nmE 3)))))
/-! rest_of: 0 prime 1 top 2 bottom 3 found 4 near 5 far -/
def fb_rest_of_1 : DS := asgS (opE modI (consA (opE intF (consA (opE mulF (consA (nmE 3) (consA (callE [false, false] den_choose_of (consA (nmE 4) (consA (nmE 5) (nilA)))) nilA))) (nilA))) (consA (nmE 0) nilA))) (nameF 3)
def fi_rest_of_2 : DI := seqI (callE [false, false, false] den_both_digits (consA (nmE 0) (consA (nmE 1) (consA (nmE 2) (nilA)))))
def fo_rest_of_3 : DS := forS fi_rest_of_2 (tupT [nameF 4, nameF 5]) fb_rest_of_1
def den_rest_of : DE := fnE 3 [] 6 (seqS (asgS (cE (.int 1)) (nameF 3)) (seqS (fo_rest_of_3) (retS (nmE 3))))
/-! row_rests: 0 prime 1 many 2 some -/
def li_row_rests_1 : DI := rngI1 (consA (opE addF (consA (nmE 1) (consA (cE (.int 1)) nilA))) (nilA))
def le_row_rests_2 : DE := callE [false, false, false] den_rest_of (consA (nmE 0) (consA (nmE 1) (consA (nmE 2) (nilA))))
def lc_row_rests_3 : DE := lcE li_row_rests_1 (nameF 2) yesT le_row_rests_2 [2]
def den_row_rests : DE := fnE 2 [] 3 (seqS (dropS (callE [false] den_want_prime (consA (nmE 0) (nilA)))) (seqS (dropS (callE [false] den_want_many (consA (nmE 1) (nilA)))) (retS (lc_row_rests_3))))
/-! row_left: 0 prime 1 top 2 found 3 one -/
def fb_row_left_1 : DS := asgS (opE mulF (consA (nmE 2) (consA (opE addF (consA (nmE 3) (consA (cE (.int 1)) nilA))) nilA))) (nameF 2)
def fi_row_left_2 : DI := seqI (callE [false, false] den_digits_of (consA (nmE 0) (consA (nmE 1) (nilA))))
def fo_row_left_3 : DS := forS fi_row_left_2 (nameF 3) fb_row_left_1
def den_row_left : DE := fnE 2 [] 4 (seqS (dropS (callE [false] den_want_prime (consA (nmE 0) (nilA)))) (seqS (dropS (callE [false] den_want_great (consA (nmE 1) (nilA)))) (seqS (asgS (cE (.int 1)) (nameF 2)) (seqS (fo_row_left_3) (retS (nmE 2))))))
/-! want_some: 0 some -/
def den_want_some : DE := fnE 1 [] 1 (ifS (notT (bT (callE [false, false, false] den_is_within (consA (nmE 0) (consA (cE (.int 0)) (consA (cE (.int 200)) (nilA))))))) (nevS) (nxS))
/-! choose: 0 many 1 some -/
def den_choose : DE := fnE 2 [] 2 (seqS (dropS (callE [false] den_want_many (consA (nmE 0) (nilA)))) (seqS (dropS (callE [false] den_want_some (consA (nmE 1) (nilA)))) (retS (callE [false, false] den_choose_of (consA (nmE 0) (consA (nmE 1) (nilA)))))))
/-! choice_rest: 0 prime 1 top 2 bottom -/
def den_choice_rest : DE := fnE 3 [] 3 (seqS (dropS (callE [false, false, false] den_want_choice (consA (nmE 0) (consA (nmE 1) (consA (nmE 2) (nilA)))))) (retS (callE [false, false, false] den_rest_of (consA (nmE 0) (consA (nmE 1) (consA (nmE 2) (nilA)))))))
/-! bags_counted: 0 many 1 some -/
def den_bags_counted : DE := fnE 2 [] 2 (retS (ifE (bT (opE gtI (consA (nmE 0) (consA (cE (.int 0)) nilA)))) (callE [false, false] den_choose_of (consA (opE subI (consA (opE addF (consA (nmE 0) (consA (nmE 1) nilA))) (consA (cE (.int 1)) nilA))) (consA (nmE 1) (nilA)))) (opE intF (consA (opE eqF (consA (nmE 1) (consA (cE (.int 0)) nilA))) (nilA)))))
/-! many_bags: 0 many 1 some -/
def den_many_bags : DE := fnE 2 [] 2 (seqS (dropS (callE [false] den_want_many (consA (nmE 0) (nilA)))) (seqS (dropS (callE [false] den_want_some (consA (nmE 1) (nilA)))) (retS (callE [false, false] den_bags_counted (consA (nmE 0) (consA (nmE 1) (nilA)))))))
/-! want_steps: 0 rights 1 ups -/
def den_want_steps : DE := fnE 2 [] 2 (seqS (ifS (notT (bT (callE [false, false, false] den_is_within (consA (nmE 0) (consA (cE (.int 0)) (consA (cE (.int 200)) (nilA))))))) (nevS) (nxS)) (ifS (notT (bT (callE [false, false, false] den_is_within (consA (nmE 1) (consA (cE (.int 0)) (consA (opE subI (consA (cE (.int 200)) (consA (nmE 0) nilA))) (nilA))))))) (nevS) (nxS)))
/-! many_paths: 0 rights 1 ups -/
def den_many_paths : DE := fnE 2 [] 2 (seqS (dropS (callE [false, false] den_want_steps (consA (nmE 0) (consA (nmE 1) (nilA))))) (retS (callE [false, false] den_choose_of (consA (opE addF (consA (nmE 0) (consA (nmE 1) nilA))) (consA (nmE 1) (nilA))))))
/-! _law_choices_right: 0 pot 1 prime 2 many 3 some 4 row 5 few 6 more 7 rights 8 ups 9 one -/
def li_law_choices_right_1 : DI := seqI (nmE 4)
def le_law_choices_right_2 : DE := opE modI (consA (opE intF (consA (nmE 9) (nilA))) (consA (nmE 1) nilA))
def lc_law_choices_right_3 : DE := lcE li_law_choices_right_1 (nameF 9) yesT le_law_choices_right_2 [9]
def li_law_choices_right_4 : DI := seqI (nmE 4)
def le_law_choices_right_5 : DE := nmE 9
def lt_law_choices_right_6 : DT := bT (opE neF (consA (opE modI (consA (opE intF (consA (nmE 9) (nilA))) (consA (nmE 1) nilA))) (consA (cE (.int 0)) nilA)))
def lc_law_choices_right_7 : DE := lcE li_law_choices_right_4 (nameF 9) lt_law_choices_right_6 le_law_choices_right_5 [9]
def sq_law_choices_right_8 : DS := seqS (parS (consA (opE addF (consA (cE (.int 1)) (consA (callE [true, false] den__law_draw (consA (nmE 0) (consA (cE (.int 100)) (nilA)))) nilA))) (consA (callE [true, false] den__law_draw (consA (nmE 0) (consA (cE (.int 100)) (nilA)))) (nilA))) [nameT 5, nameT 6]) (frzS 6 (frzS 5 (seqS (ifS (orT (bT (opE neF (consA (opE modI (consA (opE intF (consA (callE [false, false] den_many_bags (consA (nmE 5) (consA (nmE 6) (nilA)))) (nilA))) (consA (nmE 1) nilA))) (consA (callE [false, false, false] den_choice_rest (consA (nmE 1) (consA (opE subI (consA (opE addF (consA (nmE 5) (consA (nmE 6) nilA))) (consA (cE (.int 1)) nilA))) (consA (nmE 6) (nilA))))) nilA)))) (bT (opE neF (consA (callE [false, false] den__law_often (consA (nmE 1) (consA (callE [false, false] den_many_bags (consA (nmE 5) (consA (nmE 6) (nilA)))) (nilA)))) (consA (callE [false, false, false] den_choice_times (consA (nmE 1) (consA (opE subI (consA (opE addF (consA (nmE 5) (consA (nmE 6) nilA))) (consA (cE (.int 1)) nilA))) (consA (nmE 6) (nilA))))) nilA))))) (retS (cE (.bool false))) (nxS)) (seqS (parS (consA (callE [true, false] den__law_draw (consA (nmE 0) (consA (cE (.int 101)) (nilA)))) (consA (callE [true, false] den__law_draw (consA (nmE 0) (consA (cE (.int 100)) (nilA)))) (nilA))) [nameT 7, nameT 8]) (frzS 8 (frzS 7 (retS (tB (andT (bT (opE eqF (consA (opE modI (consA (opE intF (consA (callE [false, false] den_many_paths (consA (nmE 7) (consA (nmE 8) (nilA)))) (nilA))) (consA (nmE 1) nilA))) (consA (callE [false, false, false] den_choice_rest (consA (nmE 1) (consA (opE addF (consA (nmE 7) (consA (nmE 8) nilA))) (consA (nmE 8) (nilA))))) nilA)))) (bT (opE eqF (consA (callE [false, false] den__law_often (consA (nmE 1) (consA (callE [false, false] den_many_paths (consA (nmE 7) (consA (nmE 8) (nilA)))) (nilA)))) (consA (callE [false, false, false] den_choice_times (consA (nmE 1) (consA (opE addF (consA (nmE 7) (consA (nmE 8) nilA))) (consA (nmE 7) (nilA))))) nilA)))))))))))))
def den__law_choices_right : DE := fnE 2 [0] 10 (seqS (asgS (callE [true, false] den__law_draw (consA (nmE 0) (consA (cE (.int 201)) (nilA)))) (nameF 2)) (seqS (asgS (callE [true, false] den__law_draw (consA (nmE 0) (consA (opE addF (consA (nmE 2) (consA (cE (.int 1)) nilA))) (nilA)))) (nameF 3)) (seqS (asgS (callE [false] den_choose_row (consA (nmE 2) (nilA))) (nameF 4)) (seqS (ifS (orT (bT (opE neF (consA (callE [false, false] den_row_rests (consA (nmE 1) (consA (nmE 2) (nilA)))) (consA (lc_law_choices_right_3) nilA)))) (bT (opE neF (consA (callE [false, false] den_row_left (pickA [1, 0] (appA (lenA 0 nilA) (lenA 2 (consA (nmE 2) (consA (nmE 1) (nilA))))))) (consA (opE lenF (consA (lc_law_choices_right_7) (nilA))) nilA))))) (retS (cE (.bool false))) (nxS)) (seqS (ifS (bT (opE neF (consA (callE [false, false, false] den_choice_times (consA (nmE 1) (consA (nmE 2) (consA (nmE 3) (nilA))))) (consA (callE [false, false] den__law_often (consA (nmE 1) (consA (callE [false, false] den_choose (pickA [0, 1] (appA (lenA 0 nilA) (lenA 2 (consA (nmE 2) (consA (nmE 3) (nilA))))))) (nilA)))) nilA)))) (retS (cE (.bool false))) (nxS)) (sq_law_choices_right_8))))))
/-! orders_counted: 0 many 1 found 2 one -/
def fb_orders_counted_1 : DS := asgS (opE mulF (consA (nmE 1) (consA (nmE 2) nilA))) (nameF 1)
def fi_orders_counted_2 : DI := rngI2 (consA (cE (.int 2)) (consA (opE addF (consA (nmE 0) (consA (cE (.int 1)) nilA))) (nilA)))
def fo_orders_counted_3 : DS := forS fi_orders_counted_2 (nameF 2) fb_orders_counted_1
def den_orders_counted : DE := fnE 1 [] 3 (seqS (asgS (cE (.int 1)) (nameF 1)) (seqS (fo_orders_counted_3) (retS (nmE 1))))
/-! many_orders: 0 many -/
def den_many_orders : DE := fnE 1 [] 1 (seqS (dropS (callE [false] den_want_many (consA (nmE 0) (nilA)))) (retS (callE [false] den_orders_counted (consA (nmE 0) (nilA)))))
/-! times_in_product: 0 prime 1 number 2 found -/
def wt_times_in_product_1 : DT := bT (opE gtI (consA (nmE 1) (consA (cE (.int 0)) nilA)))
def wb_times_in_product_2 : DS := seqS (asgS (opE divI (consA (nmE 1) (consA (nmE 0) nilA))) (nameF 1)) (asgS (opE addF (consA (nmE 2) (consA (nmE 1) nilA))) (nameF 2))
def wh_times_in_product_3 : DS := whileL wt_times_in_product_1 wb_times_in_product_2 fuel
def den_times_in_product : DE := fnE 2 [] 3 (seqS (asgS (cE (.int 0)) (nameF 2)) (seqS (wh_times_in_product_3) (retS (nmE 2))))
/-! product_times: 0 prime 1 number -/
def den_product_times : DE := fnE 2 [] 2 (seqS (dropS (callE [false] den_want_prime (consA (nmE 0) (nilA)))) (seqS (dropS (callE [false] den_want_great (consA (nmE 1) (nilA)))) (retS (callE [false, false] den_times_in_product (consA (nmE 0) (consA (nmE 1) (nilA)))))))
/-! bare_product: 0 prime 1 number 2 found 3 one -/
def fb_bare_product_1 : DS := asgS (opE modI (consA (opE intF (consA (opE mulF (consA (nmE 2) (consA (nmE 3) nilA))) (nilA))) (consA (nmE 0) nilA))) (nameF 2)
def fi_bare_product_2 : DI := rngI2 (consA (cE (.int 1)) (consA (opE addF (consA (opE modI (consA (opE intF (consA (nmE 1) (nilA))) (consA (nmE 0) nilA))) (consA (cE (.int 1)) nilA))) (nilA)))
def fo_bare_product_3 : DS := forS fi_bare_product_2 (nameF 3) fb_bare_product_1
def wt_bare_product_4 : DT := bT (opE gtI (consA (nmE 1) (consA (cE (.int 0)) nilA)))
def wb_bare_product_5 : DS := seqS (fo_bare_product_3) (seqS (asgS (opE divI (consA (nmE 1) (consA (nmE 0) nilA))) (nameF 1)) (asgS (ifE (bT (opE eqF (consA (opE modI (consA (opE intF (consA (nmE 1) (nilA))) (consA (cE (.int 2)) nilA))) (consA (cE (.int 1)) nilA)))) (opE modI (consA (opE intF (consA (opE subI (consA (cE (.int 0)) (consA (nmE 2) nilA))) (nilA))) (consA (nmE 0) nilA))) (nmE 2)) (nameF 2)))
def wh_bare_product_6 : DS := whileL wt_bare_product_4 wb_bare_product_5 fuel
def den_bare_product : DE := fnE 2 [] 4 (seqS (asgS (cE (.int 1)) (nameF 2)) (seqS (wh_bare_product_6) (retS (nmE 2))))
/-! product_rest: 0 prime 1 number -/
def den_product_rest : DE := fnE 2 [] 2 (seqS (dropS (callE [false] den_want_prime (consA (nmE 0) (nilA)))) (seqS (dropS (callE [false] den_want_great (consA (nmE 1) (nilA)))) (retS (callE [false, false] den_bare_product (consA (nmE 0) (consA (nmE 1) (nilA)))))))
/-! is_list: 0 value -/
def den_is_list : DE := fnE 1 [] 1 (retS (isE [.list, .tuple] (nmE 0)))
/-! are_letters_value: 0 value 1 one -/
def li_are_letters_value_1 : DI := seqI (nmE 0)
def le_are_letters_value_2 : DE := callE [false, false, false] den_is_within (consA (nmE 1) (consA (cE (.int 0)) (consA (cE (.int 100)) (nilA))))
def lc_are_letters_value_3 : DE := lcE li_are_letters_value_1 (nameF 1) yesT le_are_letters_value_2 [1]
def den_are_letters_value : DE := fnE 1 [] 2 (seqS (ifS (orT (notT (bT (callE [false] den_is_list (consA (nmE 0) (nilA))))) (orT (bT (opE gtI (consA (opE lenF (consA (nmE 0) (nilA))) (consA (cE (.int 20)) nilA)))) (notT (bT (opE allF (consA (lc_are_letters_value_3) (nilA))))))) (retS (cE (.bool false))) (nxS)) (retS (opE leI (consA (opE sumF (consA (nmE 0) (nilA))) (consA (cE (.int 100)) nilA)))))
/-! want_letters: 0 letters -/
def den_want_letters : DE := fnE 1 [] 1 (ifS (notT (bT (callE [false] den_are_letters_value (consA (nmE 0) (nilA))))) (nevS) (nxS))
/-! words_counted: 0 letters 1 often 2 found 3 whole -/
def fb_words_counted_1 : DS := seqS (asgS (opE addF (consA (nmE 3) (consA (nmE 1) nilA))) (nameF 3)) (asgS (opE mulF (consA (nmE 2) (consA (callE [false, false] den_choose_of (consA (nmE 3) (consA (nmE 1) (nilA)))) nilA))) (nameF 2))
def fi_words_counted_2 : DI := seqI (nmE 0)
def fo_words_counted_3 : DS := forS fi_words_counted_2 (nameF 1) fb_words_counted_1
def den_words_counted : DE := fnE 1 [] 4 (seqS (asgS (tupE (consA (cE (.int 1)) (consA (cE (.int 0)) (nilA)))) (tupT [nameF 2, nameF 3])) (seqS (fo_words_counted_3) (retS (nmE 2))))
/-! many_words: 0 letters -/
def den_many_words : DE := fnE 1 [] 1 (seqS (dropS (callE [false] den_want_letters (consA (nmE 0) (nilA)))) (retS (callE [false] den_words_counted (consA (nmE 0) (nilA)))))
/-! want_many_to: 0 many 1 most -/
def den_want_many_to : DE := fnE 2 [] 2 (ifS (notT (bT (callE [false, false, false] den_is_within (consA (nmE 0) (consA (cE (.int 0)) (consA (nmE 1) (nilA))))))) (nevS) (nxS))
/-! catalan_of: 0 many -/
def den_catalan_of : DE := fnE 1 [] 1 (retS (opE divI (consA (callE [false, false] den_choose_of (consA (opE mulF (consA (cE (.int 2)) (consA (nmE 0) nilA))) (consA (nmE 0) (nilA)))) (consA (opE addF (consA (nmE 0) (consA (cE (.int 1)) nilA))) nilA))))
/-! many_brackets: 0 many -/
def den_many_brackets : DE := fnE 1 [] 1 (seqS (dropS (callE [false, false] den_want_many_to (consA (nmE 0) (consA (cE (.int 200)) (nilA))))) (retS (callE [false] den_catalan_of (consA (nmE 0) (nilA)))))
/-! want_line: 0 line -/
def den_want_line : DE := fnE 1 [] 1 (ifS (notT (bT (callE [false, false, false] den_is_within (consA (nmE 0) (consA (cE (.int 0)) (consA (cE (.int 200)) (nilA))))))) (nevS) (nxS))
/-! below_of: 0 rights 1 ups 2 line 3 found -/
def den_below_of : DE := fnE 3 [] 4 (seqS (ifS (orT (bT (opE ltI (consA (nmE 2) (consA (cE (.int 0)) nilA)))) (orT (bT (opE ltI (consA (nmE 0) (consA (cE (.int 0)) nilA)))) (orT (bT (opE ltI (consA (nmE 1) (consA (cE (.int 0)) nilA)))) (bT (opE gtI (consA (opE subI (consA (nmE 1) (consA (nmE 0) nilA))) (consA (nmE 2) nilA))))))) (retS (cE (.int 0))) (nxS)) (seqS (asgS (callE [false, false] den_choose_of (consA (opE addF (consA (nmE 0) (consA (nmE 1) nilA))) (consA (nmE 1) (nilA)))) (nameF 3)) (retS (ifE (bT (opE gtI (consA (nmE 1) (consA (nmE 2) nilA)))) (opE subI (consA (nmE 3) (consA (callE [false, false] den_choose_of (consA (opE addF (consA (nmE 0) (consA (nmE 1) nilA))) (consA (opE subI (consA (opE subI (consA (nmE 1) (consA (nmE 2) nilA))) (consA (cE (.int 1)) nilA))) (nilA)))) nilA))) (nmE 3)))))
/-! many_below: 0 rights 1 ups 2 line -/
def den_many_below : DE := fnE 3 [] 3 (seqS (dropS (callE [false, false] den_want_steps (consA (nmE 0) (consA (nmE 1) (nilA))))) (seqS (dropS (callE [false] den_want_line (consA (nmE 2) (nilA)))) (retS (callE [false, false, false] den_below_of (consA (nmE 0) (consA (nmE 1) (consA (nmE 2) (nilA))))))))
/-! digit_sum: 0 prime 1 number -/
def den_digit_sum : DE := fnE 2 [] 2 (seqS (dropS (callE [false] den_want_prime (consA (nmE 0) (nilA)))) (seqS (dropS (callE [false] den_want_great (consA (nmE 1) (nilA)))) (retS (opE sumF (consA (callE [false, false] den_digits_of (consA (nmE 0) (consA (nmE 1) (nilA)))) (nilA))))))
/-! _law_products_right: 0 pot 1 prime 2 many 3 orders 4 turn 5 letters 6 due 7 couples 8 number 9 left 10 often 11 one -/
def fb_law_products_right_1 : DS := asgS (opE divI (consA (nmE 9) (consA (nmE 1) nilA))) (nameF 9)
def fi_law_products_right_2 : DI := rngI1 (consA (nmE 10) (nilA))
def fo_law_products_right_3 : DS := forS fi_law_products_right_2 (nameF 4) fb_law_products_right_1
def li_law_products_right_4 : DI := rngI1 (consA (callE [true, false] den__law_draw (consA (nmE 0) (consA (cE (.int 6)) (nilA)))) (nilA))
def le_law_products_right_5 : DE := callE [true, false] den__law_draw (consA (nmE 0) (consA (cE (.int 20)) (nilA)))
def lc_law_products_right_6 : DE := lcE li_law_products_right_4 (nameF 4) yesT le_law_products_right_5 [4]
def li_law_products_right_7 : DI := seqI (nmE 5)
def le_law_products_right_8 : DE := callE [false, false] den_product_times (consA (nmE 1) (consA (nmE 11) (nilA)))
def lc_law_products_right_9 : DE := lcE li_law_products_right_7 (nameF 11) yesT le_law_products_right_8 [11]
def sq_law_products_right_10 : DS := seqS (asgS (callE [true, false] den__law_draw (consA (nmE 0) (consA (cE (.int 100)) (nilA)))) (nameF 8)) (retS (opE eqF (consA (callE [false, false] den__law_often (consA (nmE 1) (consA (callE [false, false, false] den_many_below (consA (nmE 8) (consA (nmE 8) (consA (cE (.int 0)) (nilA))))) (nilA)))) (consA (opE subI (consA (callE [false, false, false] den_choice_times (consA (nmE 1) (consA (opE mulF (consA (cE (.int 2)) (consA (nmE 8) nilA))) (consA (nmE 8) (nilA))))) (consA (callE [false, false] den__law_often (consA (nmE 1) (consA (opE addF (consA (nmE 8) (consA (cE (.int 1)) nilA))) (nilA)))) nilA))) nilA))))
def sq_law_products_right_11 : DS := seqS (asgS (lc_law_products_right_6) (nameF 5)) (seqS (asgS (opE subI (consA (callE [false, false] den_product_times (consA (nmE 1) (consA (opE sumF (consA (nmE 5) (nilA))) (nilA)))) (consA (opE sumF (consA (lc_law_products_right_9) (nilA))) nilA))) (nameF 6)) (seqS (ifS (bT (opE neF (consA (callE [false, false] den__law_often (consA (nmE 1) (consA (callE [false] den_many_words (consA (nmE 5) (nilA))) (nilA)))) (consA (nmE 6) nilA)))) (retS (cE (.bool false))) (nxS)) (seqS (asgS (callE [true, false] den__law_draw (consA (nmE 0) (consA (cE (.int 10)) (nilA)))) (nameF 7)) (seqS (ifS (bT (opE neF (consA (callE [false, false] den__law_often (consA (nmE 1) (consA (callE [false] den_many_brackets (consA (nmE 7) (nilA))) (nilA)))) (consA (opE subI (consA (callE [false, false, false] den_choice_times (consA (nmE 1) (consA (opE mulF (consA (cE (.int 2)) (consA (nmE 7) nilA))) (consA (nmE 7) (nilA))))) (consA (callE [false, false] den__law_often (consA (nmE 1) (consA (opE addF (consA (nmE 7) (consA (cE (.int 1)) nilA))) (nilA)))) nilA))) nilA)))) (retS (cE (.bool false))) (nxS)) (sq_law_products_right_10)))))
def den__law_products_right : DE := fnE 2 [0] 12 (seqS (asgS (callE [true, false] den__law_draw (consA (nmE 0) (consA (cE (.int 201)) (nilA)))) (nameF 2)) (seqS (asgS (callE [false] den_many_orders (consA (nmE 2) (nilA))) (nameF 3)) (seqS (parS (consA (nmE 3) (consA (callE [false, false] den__law_often (consA (nmE 1) (consA (nmE 3) (nilA)))) (nilA))) [nameT 9, nameT 10]) (frzS 10 (frzS 9 (seqS (fo_law_products_right_3) (seqS (ifS (orT (bT (opE neF (consA (callE [false, false] den_product_times (pickA [1, 0] (appA (lenA 0 nilA) (lenA 2 (consA (nmE 2) (consA (nmE 1) (nilA))))))) (consA (nmE 10) nilA)))) (orT (bT (opE neF (consA (callE [false, false] den_product_rest (consA (nmE 1) (consA (nmE 2) (nilA)))) (consA (opE modI (consA (opE intF (consA (nmE 9) (nilA))) (consA (nmE 1) nilA))) nilA)))) (bT (opE neF (consA (opE mulF (consA (nmE 10) (consA (opE subI (consA (nmE 1) (consA (cE (.int 1)) nilA))) nilA))) (consA (opE subI (consA (nmE 2) (consA (callE [false, false] den_digit_sum (consA (nmE 1) (consA (nmE 2) (nilA)))) nilA))) nilA)))))) (retS (cE (.bool false))) (nxS)) (sq_law_products_right_11))))))))
/-! row_common: 0 many 1 found 2 some 3 late -/
def wt_row_common_1 : DT := bT (opE gtI (consA (nmE 3) (consA (cE (.int 0)) nilA)))
def wb_row_common_2 : DS := seqS (parS (consA (nmE 3) (consA (opE modI (consA (opE intF (consA (nmE 1) (nilA))) (consA (nmE 3) nilA))) (nilA))) [nameT 1, nameT 3]) (frzS 1 (nxS))
def wh_row_common_3 : DS := whileL wt_row_common_1 wb_row_common_2 fuel
def fb_row_common_4 : DS := seqS (asgS (callE [false, false] den_choose_of (consA (nmE 0) (consA (nmE 2) (nilA)))) (nameF 3)) (wh_row_common_3)
def fi_row_common_5 : DI := rngI2 (consA (cE (.int 1)) (consA (nmE 0) (nilA)))
def fo_row_common_6 : DS := forS fi_row_common_5 (nameF 2) fb_row_common_4
def den_row_common : DE := fnE 1 [] 4 (seqS (ifS (notT (bT (callE [false, false, false] den_is_within (consA (nmE 0) (consA (cE (.int 2)) (consA (cE (.int 200)) (nilA))))))) (nevS) (nxS)) (seqS (asgS (nmE 0) (nameF 1)) (seqS (fo_row_common_6) (retS (nmE 1)))))
/-! _law_prime_right: 0 prime 1 at -/
def li_law_prime_right_1 : DI := rngI1 (consA (nmE 0) (nilA))
def le_law_prime_right_2 : DE := ifE (bT (opE eqF (consA (opE modI (consA (nmE 1) (consA (cE (.int 2)) nilA))) (consA (cE (.int 0)) nilA)))) (cE (.int 1)) (opE modI (consA (opE intF (consA (opE subI (consA (cE (.int 0)) (consA (cE (.int 1)) nilA))) (nilA))) (consA (nmE 0) nilA)))
def lc_law_prime_right_3 : DE := lcE li_law_prime_right_1 (nameF 1) yesT le_law_prime_right_2 [1]
def den__law_prime_right : DE := fnE 1 [] 2 (seqS (ifS (orT (bT (opE neF (consA (callE [false, false] den_row_rests (consA (nmE 0) (consA (nmE 0) (nilA)))) (consA (opE addF (consA (opE addF (consA (lstE (consA (cE (.int 1)) (nilA))) (consA (opE mulF (consA (lstE (consA (cE (.int 0)) (nilA))) (consA (opE subI (consA (nmE 0) (consA (cE (.int 1)) nilA))) nilA))) nilA))) (consA (lstE (consA (cE (.int 1)) (nilA))) nilA))) nilA)))) (bT (opE neF (consA (callE [false] den_row_common (consA (nmE 0) (nilA))) (consA (nmE 0) nilA))))) (retS (cE (.bool false))) (nxS)) (seqS (ifS (orT (bT (opE neF (consA (callE [false, false] den_product_rest (consA (nmE 0) (consA (opE subI (consA (nmE 0) (consA (cE (.int 1)) nilA))) (nilA)))) (consA (opE subI (consA (nmE 0) (consA (cE (.int 1)) nilA))) nilA)))) (bT (opE neF (consA (callE [false, false] den_row_rests (consA (nmE 0) (consA (opE subI (consA (nmE 0) (consA (cE (.int 1)) nilA))) (nilA)))) (consA (lc_law_prime_right_3) nilA))))) (retS (cE (.bool false))) (nxS)) (retS (tB (andT (bT (opE eqF (consA (callE [false, false] den_row_left (consA (nmE 0) (consA (opE subI (consA (nmE 0) (consA (cE (.int 1)) nilA))) (nilA)))) (consA (nmE 0) nilA)))) (bT (opE eqF (consA (callE [false, false, false] den_choice_times (consA (nmE 0) (consA (opE mulF (consA (nmE 0) (consA (nmE 0) nilA))) (consA (cE (.int 1)) (nilA))))) (consA (cE (.int 2)) nilA)))))))))
/-! want_count: 0 count -/
def den_want_count : DE := fnE 1 [] 1 (ifS (notT (bT (callE [false, false, false] den_is_within (consA (nmE 0) (consA (cE (.int 0)) (consA (cE (.int 200)) (nilA))))))) (nevS) (nxS))
/-! fib_of: 0 count 1 turn 2 near 3 far -/
def fb_fib_of_1 : DS := seqS (parS (consA (nmE 3) (consA (opE addF (consA (nmE 2) (consA (nmE 3) nilA))) (nilA))) [nameT 2, nameT 3]) (frzS 3 (frzS 2 (nxS)))
def fi_fib_of_2 : DI := rngI1 (consA (nmE 0) (nilA))
def fo_fib_of_3 : DS := forS fi_fib_of_2 (nameF 1) fb_fib_of_1
def den_fib_of : DE := fnE 1 [] 4 (seqS (asgS (tupE (consA (cE (.int 0)) (consA (cE (.int 1)) (nilA)))) (tupT [nameF 2, nameF 3])) (seqS (fo_fib_of_3) (retS (nmE 2))))
/-! fib: 0 count -/
def den_fib : DE := fnE 1 [] 1 (seqS (dropS (callE [false] den_want_count (consA (nmE 0) (nilA)))) (retS (callE [false] den_fib_of (consA (nmE 0) (nilA)))))
/-! want_numbers: 0 numbers 1 one -/
def li_want_numbers_1 : DI := seqI (nmE 0)
def le_want_numbers_2 : DE := callE [false, false, false] den_is_within (consA (nmE 1) (consA (opE subI (consA (cE (.int 0)) (consA (cE (.int 1000000000000)) nilA))) (consA (cE (.int 1000000000000)) (nilA))))
def lc_want_numbers_3 : DE := lcE li_want_numbers_1 (nameF 1) yesT le_want_numbers_2 [1]
def den_want_numbers : DE := fnE 1 [] 2 (seqS (ifS (orT (notT (bT (callE [false] den_is_list (consA (nmE 0) (nilA))))) (bT (opE gtI (consA (opE lenF (consA (nmE 0) (nilA))) (consA (cE (.int 60)) nilA))))) (nevS) (nxS)) (ifS (notT (bT (opE allF (consA (lc_want_numbers_3) (nilA))))) (nevS) (nxS)))
/-! row_below: 0 numbers 1 near 2 far -/
def li_row_below_1 : DI := zipI (consA (nmE 0) (consA (sliceE (nmE 0) (someO (cE (.int 1))) (noO)) (nilA)))
def le_row_below_2 : DE := opE subI (consA (nmE 2) (consA (nmE 1) nilA))
def lc_row_below_3 : DE := lcE li_row_below_1 (tupT [nameF 1, nameF 2]) yesT le_row_below_2 [1, 2]
def den_row_below : DE := fnE 1 [] 3 (retS (lc_row_below_3))
/-! difference_row: 0 numbers -/
def den_difference_row : DE := fnE 1 [] 1 (seqS (dropS (callE [false] den_want_numbers (consA (nmE 0) (nilA)))) (retS (callE [false] den_row_below (consA (nmE 0) (nilA)))))
/-! summed_at: 0 numbers 1 place 2 at 3 one -/
def li_summed_at_1 : DI := enuI (consA (sliceE (nmE 0) (noO) (someO (opE addF (consA (nmE 1) (consA (cE (.int 1)) nilA))))) (nilA))
def le_summed_at_2 : DE := opE mulF (consA (callE [false, false] den_choose_of (consA (nmE 1) (consA (nmE 2) (nilA)))) (consA (nmE 3) nilA))
def lc_summed_at_3 : DE := lcE li_summed_at_1 (tupT [nameF 2, nameF 3]) yesT le_summed_at_2 [2, 3]
def den_summed_at : DE := fnE 2 [] 4 (retS (opE sumF (consA (lc_summed_at_3) (nilA))))
/-! sums_of: 0 numbers 1 place -/
def li_sums_of_1 : DI := rngI1 (consA (opE lenF (consA (nmE 0) (nilA))) (nilA))
def le_sums_of_2 : DE := callE [false, false] den_summed_at (consA (nmE 0) (consA (nmE 1) (nilA)))
def lc_sums_of_3 : DE := lcE li_sums_of_1 (nameF 1) yesT le_sums_of_2 [1]
def den_sums_of : DE := fnE 1 [] 2 (retS (lc_sums_of_3))
/-! choice_sums: 0 numbers -/
def den_choice_sums : DE := fnE 1 [] 1 (seqS (dropS (callE [false] den_want_numbers (consA (nmE 0) (nilA)))) (retS (callE [false] den_sums_of (consA (nmE 0) (nilA)))))
/-! signed: 0 numbers 1 at 2 one -/
def li_signed_1 : DI := enuI (consA (nmE 0) (nilA))
def le_signed_2 : DE := ifE (bT (opE eqF (consA (opE modI (consA (opE intF (consA (nmE 1) (nilA))) (consA (cE (.int 2)) nilA))) (consA (cE (.int 0)) nilA)))) (nmE 2) (opE subI (consA (cE (.int 0)) (consA (nmE 2) nilA)))
def lc_signed_3 : DE := lcE li_signed_1 (tupT [nameF 1, nameF 2]) yesT le_signed_2 [1, 2]
def den_signed : DE := fnE 1 [] 3 (retS (lc_signed_3))
/-! back_of: 0 numbers -/
def den_back_of : DE := fnE 1 [] 1 (retS (callE [false] den_signed (consA (callE [false] den_sums_of (consA (callE [false] den_signed (consA (nmE 0) (nilA))) (nilA))) (nilA))))
/-! taken_back: 0 numbers -/
def den_taken_back : DE := fnE 1 [] 1 (seqS (dropS (callE [false] den_want_numbers (consA (nmE 0) (nilA)))) (retS (callE [false] den_back_of (consA (nmE 0) (nilA)))))
/-! _law_fibonacci_right: 0 pot 1 many 2 row 3 at -/
def li_law_fibonacci_right_1 : DI := rngI1 (consA (nmE 1) (nilA))
def le_law_fibonacci_right_2 : DE := callE [false] den_fib (consA (nmE 3) (nilA))
def lc_law_fibonacci_right_3 : DE := lcE li_law_fibonacci_right_1 (nameF 3) yesT le_law_fibonacci_right_2 [3]
def li_law_fibonacci_right_4 : DI := rngI1 (consA (nmE 1) (nilA))
def le_law_fibonacci_right_5 : DE := callE [false] den_fib (consA (opE mulF (consA (cE (.int 2)) (consA (nmE 3) nilA))) (nilA))
def lc_law_fibonacci_right_6 : DE := lcE li_law_fibonacci_right_4 (nameF 3) yesT le_law_fibonacci_right_5 [3]
def li_law_fibonacci_right_7 : DI := rngI1 (consA (nmE 1) (nilA))
def le_law_fibonacci_right_8 : DE := callE [false] den_fib (consA (opE mulF (consA (cE (.int 2)) (consA (nmE 3) nilA))) (nilA))
def lc_law_fibonacci_right_9 : DE := lcE li_law_fibonacci_right_7 (nameF 3) yesT le_law_fibonacci_right_8 [3]
def li_law_fibonacci_right_10 : DI := rngI1 (consA (nmE 1) (nilA))
def le_law_fibonacci_right_11 : DE := callE [false] den_fib (consA (opE addF (consA (nmE 3) (consA (cE (.int 1)) nilA))) (nilA))
def lc_law_fibonacci_right_12 : DE := lcE li_law_fibonacci_right_10 (nameF 3) yesT le_law_fibonacci_right_11 [3]
def den__law_fibonacci_right : DE := fnE 1 [0] 4 (seqS (asgS (opE addF (consA (cE (.int 1)) (consA (callE [true, false] den__law_draw (consA (nmE 0) (consA (cE (.int 25)) (nilA)))) nilA))) (nameF 1)) (seqS (asgS (lc_law_fibonacci_right_3) (nameF 2)) (seqS (ifS (orT (bT (opE neF (consA (callE [false] den_choice_sums (consA (nmE 2) (nilA))) (consA (lc_law_fibonacci_right_6) nilA)))) (bT (opE neF (consA (callE [false] den_taken_back (consA (lc_law_fibonacci_right_9) (nilA))) (consA (nmE 2) nilA))))) (retS (cE (.bool false))) (nxS)) (retS (opE eqF (consA (callE [false] den_difference_row (consA (lc_law_fibonacci_right_12) (nilA))) (consA (sliceE (nmE 2) (noO) (someO (opE subI (consA (nmE 1) (consA (cE (.int 1)) nilA))))) nilA)))))))
/-! _law_right: 0 pot 1 prime -/
def den__law_right : DE := fnE 1 [0] 2 (seqS (asgS (callE [true] den__law_prime (consA (nmE 0) (nilA))) (nameF 1)) (retS (tB (andT (bT (callE [true, false] den__law_choices_right (consA (nmE 0) (consA (nmE 1) (nilA))))) (andT (bT (callE [true, false] den__law_products_right (consA (nmE 0) (consA (nmE 1) (nilA))))) (andT (bT (callE [false] den__law_prime_right (consA (nmE 1) (nilA)))) (bT (callE [true] den__law_fibonacci_right (consA (nmE 0) (nilA))))))))))
/-! _law_pot: 0 script 1 k 2 cell -/
def den__law_pot : DE := fnE 2 [] 3 (seqS (asgS (opE addF (consA (opE mulF (consA (cE (.int 3041)) (consA (nmE 1) nilA))) (consA (cE (.int 11807)) nilA))) (nameF 2)) (seqS (ifS (bT (opE ltI (consA (nmE 1) (consA (opE lenF (consA (nmE 0) (nilA))) nilA)))) (asgS (opE absF (consA (opE ixF (consA (nmE 0) (consA (nmE 1) nilA))) (nilA))) (nameF 2)) (nxS)) (retS (lstE (consA (opE maxF (consA (cE (.int 0)) (consA (opE subI (consA (nmE 2) (consA (opE powI (consA (cE (.int 10)) (consA (cE (.int 18)) nilA))) nilA))) (nilA)))) (consA (opE addF (consA (opE modI (consA (opE intF (consA (opE addF (consA (opE addF (consA (opE mulF (consA (opE modI (consA (opE intF (consA (nmE 2) (nilA))) (consA (cE (.int 2147483549)) nilA))) (consA (cE (.int 40014)) nilA))) (consA (opE mulF (consA (cE (.int 11807)) (consA (nmE 1) nilA))) nilA))) (consA (cE (.int 61)) nilA))) (nilA))) (consA (cE (.int 2147483563)) nilA))) (consA (cE (.int 1)) nilA))) (nilA)))))))
/-! law: 0 script 1 k -/
def li_law_1 : DI := rngI1 (consA (opE maxF (consA (cE (.int 1)) (consA (opE minF (consA (cE (.int 3)) (consA (opE lenF (consA (nmE 0) (nilA))) (nilA)))) (nilA)))) (nilA))
def le_law_2 : DE := callE [true] den__law_right (consA (callE [false, false] den__law_pot (consA (nmE 0) (consA (nmE 1) (nilA)))) (nilA))
def lc_law_3 : DE := lcE li_law_1 (nameF 1) yesT le_law_2 [1]
def den_law : DE := fnE 1 [] 2 (retS (opE allF (consA (lc_law_3) (nilA))))
structure Top (K : PySem.W.Frag) (mg : Str → Option Value) where
  f__law_draw : Addr
  d__law_draw : FuncData
  F__law_draw : Fun K "_law_draw" "_law_draw" s__law_draw f__law_draw d__law_draw
  m__law_draw : mg "_law_draw" = some (.ref f__law_draw)
  b__law_draw : Binds K d__law_draw ["pot", "many"] []
  f__law_pick : Addr
  d__law_pick : FuncData
  F__law_pick : Fun K "_law_pick" "_law_pick" s__law_pick f__law_pick d__law_pick
  m__law_pick : mg "_law_pick" = some (.ref f__law_pick)
  b__law_pick : Binds K d__law_pick ["pot", "some"] []
  f__law_prime : Addr
  d__law_prime : FuncData
  F__law_prime : Fun K "_law_prime" "_law_prime" s__law_prime f__law_prime d__law_prime
  m__law_prime : mg "_law_prime" = some (.ref f__law_prime)
  b__law_prime : Binds K d__law_prime ["pot"] []
  f_is_integer : Addr
  d_is_integer : FuncData
  F_is_integer : Fun K "is_integer" "is_integer" s_is_integer f_is_integer d_is_integer
  m_is_integer : mg "is_integer" = some (.ref f_is_integer)
  b_is_integer : Binds K d_is_integer ["value"] []
  f_is_within : Addr
  d_is_within : FuncData
  F_is_within : Fun K "is_within" "is_within" s_is_within f_is_within d_is_within
  m_is_within : mg "is_within" = some (.ref f_is_within)
  b_is_within : Binds K d_is_within ["value", "least", "most"] []
  f_want_many : Addr
  d_want_many : FuncData
  F_want_many : Fun K "want_many" "want_many" s_want_many f_want_many d_want_many
  m_want_many : mg "want_many" = some (.ref f_want_many)
  b_want_many : Binds K d_want_many ["many"] []
  f_choose_of : Addr
  d_choose_of : FuncData
  F_choose_of : Fun K "choose_of" "choose_of" s_choose_of f_choose_of d_choose_of
  m_choose_of : mg "choose_of" = some (.ref f_choose_of)
  b_choose_of : Binds K d_choose_of ["many", "some"] []
  f_choose_row : Addr
  d_choose_row : FuncData
  F_choose_row : Fun K "choose_row" "choose_row" s_choose_row f_choose_row d_choose_row
  m_choose_row : mg "choose_row" = some (.ref f_choose_row)
  b_choose_row : Binds K d_choose_row ["many"] []
  f_want_prime : Addr
  d_want_prime : FuncData
  F_want_prime : Fun K "want_prime" "want_prime" s_want_prime f_want_prime d_want_prime
  m_want_prime : mg "want_prime" = some (.ref f_want_prime)
  b_want_prime : Binds K d_want_prime ["prime"] []
  f_want_great : Addr
  d_want_great : FuncData
  F_want_great : Fun K "want_great" "want_great" s_want_great f_want_great d_want_great
  m_want_great : mg "want_great" = some (.ref f_want_great)
  b_want_great : Binds K d_want_great ["number"] []
  f_want_choice : Addr
  d_want_choice : FuncData
  F_want_choice : Fun K "want_choice" "want_choice" s_want_choice f_want_choice d_want_choice
  m_want_choice : mg "want_choice" = some (.ref f_want_choice)
  b_want_choice : Binds K d_want_choice ["prime", "top", "bottom"] []
  f_digits_of : Addr
  d_digits_of : FuncData
  F_digits_of : Fun K "digits_of" "digits_of" s_digits_of f_digits_of d_digits_of
  m_digits_of : mg "digits_of" = some (.ref f_digits_of)
  b_digits_of : Binds K d_digits_of ["prime", "number"] []
  f_both_digits : Addr
  d_both_digits : FuncData
  F_both_digits : Fun K "both_digits" "both_digits" s_both_digits f_both_digits d_both_digits
  m_both_digits : mg "both_digits" = some (.ref f_both_digits)
  b_both_digits : Binds K d_both_digits ["prime", "top", "bottom"] []
  f_carried : Addr
  d_carried : FuncData
  F_carried : Fun K "carried" "carried" s_carried f_carried d_carried
  m_carried : mg "carried" = some (.ref f_carried)
  b_carried : Binds K d_carried ["prime", "number", "other"] []
  f_choice_times : Addr
  d_choice_times : FuncData
  F_choice_times : Fun K "choice_times" "choice_times" s_choice_times f_choice_times d_choice_times
  m_choice_times : mg "choice_times" = some (.ref f_choice_times)
  b_choice_times : Binds K d_choice_times ["prime", "top", "bottom"] []
  f__law_often : Addr
  d__law_often : FuncData
  F__law_often : Fun K "_law_often" "_law_often" s__law_often f__law_often d__law_often
  m__law_often : mg "_law_often" = some (.ref f__law_often)
  b__law_often : Binds K d__law_often ["prime", "number"] []
  f_rest_of : Addr
  d_rest_of : FuncData
  F_rest_of : Fun K "rest_of" "rest_of" s_rest_of f_rest_of d_rest_of
  m_rest_of : mg "rest_of" = some (.ref f_rest_of)
  b_rest_of : Binds K d_rest_of ["prime", "top", "bottom"] []
  f_row_rests : Addr
  d_row_rests : FuncData
  F_row_rests : Fun K "row_rests" "row_rests" s_row_rests f_row_rests d_row_rests
  m_row_rests : mg "row_rests" = some (.ref f_row_rests)
  b_row_rests : Binds K d_row_rests ["prime", "many"] []
  f_row_left : Addr
  d_row_left : FuncData
  F_row_left : Fun K "row_left" "row_left" s_row_left f_row_left d_row_left
  m_row_left : mg "row_left" = some (.ref f_row_left)
  b_row_left : Binds K d_row_left ["prime", "top"] []
  f_want_some : Addr
  d_want_some : FuncData
  F_want_some : Fun K "want_some" "want_some" s_want_some f_want_some d_want_some
  m_want_some : mg "want_some" = some (.ref f_want_some)
  b_want_some : Binds K d_want_some ["some"] []
  f_choose : Addr
  d_choose : FuncData
  F_choose : Fun K "choose" "choose" s_choose f_choose d_choose
  m_choose : mg "choose" = some (.ref f_choose)
  b_choose : Binds K d_choose ["many", "some"] []
  f_choice_rest : Addr
  d_choice_rest : FuncData
  F_choice_rest : Fun K "choice_rest" "choice_rest" s_choice_rest f_choice_rest d_choice_rest
  m_choice_rest : mg "choice_rest" = some (.ref f_choice_rest)
  b_choice_rest : Binds K d_choice_rest ["prime", "top", "bottom"] []
  f_bags_counted : Addr
  d_bags_counted : FuncData
  F_bags_counted : Fun K "bags_counted" "bags_counted" s_bags_counted f_bags_counted d_bags_counted
  m_bags_counted : mg "bags_counted" = some (.ref f_bags_counted)
  b_bags_counted : Binds K d_bags_counted ["many", "some"] []
  f_many_bags : Addr
  d_many_bags : FuncData
  F_many_bags : Fun K "many_bags" "many_bags" s_many_bags f_many_bags d_many_bags
  m_many_bags : mg "many_bags" = some (.ref f_many_bags)
  b_many_bags : Binds K d_many_bags ["many", "some"] []
  f_want_steps : Addr
  d_want_steps : FuncData
  F_want_steps : Fun K "want_steps" "want_steps" s_want_steps f_want_steps d_want_steps
  m_want_steps : mg "want_steps" = some (.ref f_want_steps)
  b_want_steps : Binds K d_want_steps ["rights", "ups"] []
  f_many_paths : Addr
  d_many_paths : FuncData
  F_many_paths : Fun K "many_paths" "many_paths" s_many_paths f_many_paths d_many_paths
  m_many_paths : mg "many_paths" = some (.ref f_many_paths)
  b_many_paths : Binds K d_many_paths ["rights", "ups"] []
  f__law_choices_right : Addr
  d__law_choices_right : FuncData
  F__law_choices_right : Fun K "_law_choices_right" "_law_choices_right" s__law_choices_right f__law_choices_right d__law_choices_right
  m__law_choices_right : mg "_law_choices_right" = some (.ref f__law_choices_right)
  b__law_choices_right : Binds K d__law_choices_right ["pot", "prime"] []
  f_orders_counted : Addr
  d_orders_counted : FuncData
  F_orders_counted : Fun K "orders_counted" "orders_counted" s_orders_counted f_orders_counted d_orders_counted
  m_orders_counted : mg "orders_counted" = some (.ref f_orders_counted)
  b_orders_counted : Binds K d_orders_counted ["many"] []
  f_many_orders : Addr
  d_many_orders : FuncData
  F_many_orders : Fun K "many_orders" "many_orders" s_many_orders f_many_orders d_many_orders
  m_many_orders : mg "many_orders" = some (.ref f_many_orders)
  b_many_orders : Binds K d_many_orders ["many"] []
  f_times_in_product : Addr
  d_times_in_product : FuncData
  F_times_in_product : Fun K "times_in_product" "times_in_product" s_times_in_product f_times_in_product d_times_in_product
  m_times_in_product : mg "times_in_product" = some (.ref f_times_in_product)
  b_times_in_product : Binds K d_times_in_product ["prime", "number"] []
  f_product_times : Addr
  d_product_times : FuncData
  F_product_times : Fun K "product_times" "product_times" s_product_times f_product_times d_product_times
  m_product_times : mg "product_times" = some (.ref f_product_times)
  b_product_times : Binds K d_product_times ["prime", "number"] []
  f_bare_product : Addr
  d_bare_product : FuncData
  F_bare_product : Fun K "bare_product" "bare_product" s_bare_product f_bare_product d_bare_product
  m_bare_product : mg "bare_product" = some (.ref f_bare_product)
  b_bare_product : Binds K d_bare_product ["prime", "number"] []
  f_product_rest : Addr
  d_product_rest : FuncData
  F_product_rest : Fun K "product_rest" "product_rest" s_product_rest f_product_rest d_product_rest
  m_product_rest : mg "product_rest" = some (.ref f_product_rest)
  b_product_rest : Binds K d_product_rest ["prime", "number"] []
  f_is_list : Addr
  d_is_list : FuncData
  F_is_list : Fun K "is_list" "is_list" s_is_list f_is_list d_is_list
  m_is_list : mg "is_list" = some (.ref f_is_list)
  b_is_list : Binds K d_is_list ["value"] []
  f_are_letters_value : Addr
  d_are_letters_value : FuncData
  F_are_letters_value : Fun K "are_letters_value" "are_letters_value" s_are_letters_value f_are_letters_value d_are_letters_value
  m_are_letters_value : mg "are_letters_value" = some (.ref f_are_letters_value)
  b_are_letters_value : Binds K d_are_letters_value ["value"] []
  f_want_letters : Addr
  d_want_letters : FuncData
  F_want_letters : Fun K "want_letters" "want_letters" s_want_letters f_want_letters d_want_letters
  m_want_letters : mg "want_letters" = some (.ref f_want_letters)
  b_want_letters : Binds K d_want_letters ["letters"] []
  f_words_counted : Addr
  d_words_counted : FuncData
  F_words_counted : Fun K "words_counted" "words_counted" s_words_counted f_words_counted d_words_counted
  m_words_counted : mg "words_counted" = some (.ref f_words_counted)
  b_words_counted : Binds K d_words_counted ["letters"] []
  f_many_words : Addr
  d_many_words : FuncData
  F_many_words : Fun K "many_words" "many_words" s_many_words f_many_words d_many_words
  m_many_words : mg "many_words" = some (.ref f_many_words)
  b_many_words : Binds K d_many_words ["letters"] []
  f_want_many_to : Addr
  d_want_many_to : FuncData
  F_want_many_to : Fun K "want_many_to" "want_many_to" s_want_many_to f_want_many_to d_want_many_to
  m_want_many_to : mg "want_many_to" = some (.ref f_want_many_to)
  b_want_many_to : Binds K d_want_many_to ["many", "most"] []
  f_catalan_of : Addr
  d_catalan_of : FuncData
  F_catalan_of : Fun K "catalan_of" "catalan_of" s_catalan_of f_catalan_of d_catalan_of
  m_catalan_of : mg "catalan_of" = some (.ref f_catalan_of)
  b_catalan_of : Binds K d_catalan_of ["many"] []
  f_many_brackets : Addr
  d_many_brackets : FuncData
  F_many_brackets : Fun K "many_brackets" "many_brackets" s_many_brackets f_many_brackets d_many_brackets
  m_many_brackets : mg "many_brackets" = some (.ref f_many_brackets)
  b_many_brackets : Binds K d_many_brackets ["many"] []
  f_want_line : Addr
  d_want_line : FuncData
  F_want_line : Fun K "want_line" "want_line" s_want_line f_want_line d_want_line
  m_want_line : mg "want_line" = some (.ref f_want_line)
  b_want_line : Binds K d_want_line ["line"] []
  f_below_of : Addr
  d_below_of : FuncData
  F_below_of : Fun K "below_of" "below_of" s_below_of f_below_of d_below_of
  m_below_of : mg "below_of" = some (.ref f_below_of)
  b_below_of : Binds K d_below_of ["rights", "ups", "line"] []
  f_many_below : Addr
  d_many_below : FuncData
  F_many_below : Fun K "many_below" "many_below" s_many_below f_many_below d_many_below
  m_many_below : mg "many_below" = some (.ref f_many_below)
  b_many_below : Binds K d_many_below ["rights", "ups", "line"] []
  f_digit_sum : Addr
  d_digit_sum : FuncData
  F_digit_sum : Fun K "digit_sum" "digit_sum" s_digit_sum f_digit_sum d_digit_sum
  m_digit_sum : mg "digit_sum" = some (.ref f_digit_sum)
  b_digit_sum : Binds K d_digit_sum ["prime", "number"] []
  f__law_products_right : Addr
  d__law_products_right : FuncData
  F__law_products_right : Fun K "_law_products_right" "_law_products_right" s__law_products_right f__law_products_right d__law_products_right
  m__law_products_right : mg "_law_products_right" = some (.ref f__law_products_right)
  b__law_products_right : Binds K d__law_products_right ["pot", "prime"] []
  f_row_common : Addr
  d_row_common : FuncData
  F_row_common : Fun K "row_common" "row_common" s_row_common f_row_common d_row_common
  m_row_common : mg "row_common" = some (.ref f_row_common)
  b_row_common : Binds K d_row_common ["many"] []
  f__law_prime_right : Addr
  d__law_prime_right : FuncData
  F__law_prime_right : Fun K "_law_prime_right" "_law_prime_right" s__law_prime_right f__law_prime_right d__law_prime_right
  m__law_prime_right : mg "_law_prime_right" = some (.ref f__law_prime_right)
  b__law_prime_right : Binds K d__law_prime_right ["prime"] []
  f_want_count : Addr
  d_want_count : FuncData
  F_want_count : Fun K "want_count" "want_count" s_want_count f_want_count d_want_count
  m_want_count : mg "want_count" = some (.ref f_want_count)
  b_want_count : Binds K d_want_count ["count"] []
  f_fib_of : Addr
  d_fib_of : FuncData
  F_fib_of : Fun K "fib_of" "fib_of" s_fib_of f_fib_of d_fib_of
  m_fib_of : mg "fib_of" = some (.ref f_fib_of)
  b_fib_of : Binds K d_fib_of ["count"] []
  f_fib : Addr
  d_fib : FuncData
  F_fib : Fun K "fib" "fib" s_fib f_fib d_fib
  m_fib : mg "fib" = some (.ref f_fib)
  b_fib : Binds K d_fib ["count"] []
  f_want_numbers : Addr
  d_want_numbers : FuncData
  F_want_numbers : Fun K "want_numbers" "want_numbers" s_want_numbers f_want_numbers d_want_numbers
  m_want_numbers : mg "want_numbers" = some (.ref f_want_numbers)
  b_want_numbers : Binds K d_want_numbers ["numbers"] []
  f_row_below : Addr
  d_row_below : FuncData
  F_row_below : Fun K "row_below" "row_below" s_row_below f_row_below d_row_below
  m_row_below : mg "row_below" = some (.ref f_row_below)
  b_row_below : Binds K d_row_below ["numbers"] []
  f_difference_row : Addr
  d_difference_row : FuncData
  F_difference_row : Fun K "difference_row" "difference_row" s_difference_row f_difference_row d_difference_row
  m_difference_row : mg "difference_row" = some (.ref f_difference_row)
  b_difference_row : Binds K d_difference_row ["numbers"] []
  f_summed_at : Addr
  d_summed_at : FuncData
  F_summed_at : Fun K "summed_at" "summed_at" s_summed_at f_summed_at d_summed_at
  m_summed_at : mg "summed_at" = some (.ref f_summed_at)
  b_summed_at : Binds K d_summed_at ["numbers", "place"] []
  f_sums_of : Addr
  d_sums_of : FuncData
  F_sums_of : Fun K "sums_of" "sums_of" s_sums_of f_sums_of d_sums_of
  m_sums_of : mg "sums_of" = some (.ref f_sums_of)
  b_sums_of : Binds K d_sums_of ["numbers"] []
  f_choice_sums : Addr
  d_choice_sums : FuncData
  F_choice_sums : Fun K "choice_sums" "choice_sums" s_choice_sums f_choice_sums d_choice_sums
  m_choice_sums : mg "choice_sums" = some (.ref f_choice_sums)
  b_choice_sums : Binds K d_choice_sums ["numbers"] []
  f_signed : Addr
  d_signed : FuncData
  F_signed : Fun K "signed" "signed" s_signed f_signed d_signed
  m_signed : mg "signed" = some (.ref f_signed)
  b_signed : Binds K d_signed ["numbers"] []
  f_back_of : Addr
  d_back_of : FuncData
  F_back_of : Fun K "back_of" "back_of" s_back_of f_back_of d_back_of
  m_back_of : mg "back_of" = some (.ref f_back_of)
  b_back_of : Binds K d_back_of ["numbers"] []
  f_taken_back : Addr
  d_taken_back : FuncData
  F_taken_back : Fun K "taken_back" "taken_back" s_taken_back f_taken_back d_taken_back
  m_taken_back : mg "taken_back" = some (.ref f_taken_back)
  b_taken_back : Binds K d_taken_back ["numbers"] []
  f__law_fibonacci_right : Addr
  d__law_fibonacci_right : FuncData
  F__law_fibonacci_right : Fun K "_law_fibonacci_right" "_law_fibonacci_right" s__law_fibonacci_right f__law_fibonacci_right d__law_fibonacci_right
  m__law_fibonacci_right : mg "_law_fibonacci_right" = some (.ref f__law_fibonacci_right)
  b__law_fibonacci_right : Binds K d__law_fibonacci_right ["pot"] []
  f__law_right : Addr
  d__law_right : FuncData
  F__law_right : Fun K "_law_right" "_law_right" s__law_right f__law_right d__law_right
  m__law_right : mg "_law_right" = some (.ref f__law_right)
  b__law_right : Binds K d__law_right ["pot"] []
  f__law_pot : Addr
  d__law_pot : FuncData
  F__law_pot : Fun K "_law_pot" "_law_pot" s__law_pot f__law_pot d__law_pot
  m__law_pot : mg "_law_pot" = some (.ref f__law_pot)
  b__law_pot : Binds K d__law_pot ["script", "k"] []
  f_law : Addr
  d_law : FuncData
  F_law : Fun K "law" "law" s_law f_law d_law
  m_law : mg "law" = some (.ref f_law)
  b_law : Binds K d_law ["script"] []
  z_abs : mg "abs" = none
  z_all : mg "all" = none
  z_bool : mg "bool" = none
  z_divmod : mg "divmod" = none
  z_enumerate : mg "enumerate" = none
  z_int : mg "int" = none
  z_isinstance : mg "isinstance" = none
  z_len : mg "len" = none
  z_list : mg "list" = none
  z_max : mg "max" = none
  z_min : mg "min" = none
  z_range : mg "range" = none
  z_sum : mg "sum" = none
  z_tuple : mg "tuple" = none
  z_zip : mg "zip" = none
  t_MOST_KINDS : Tok
  c_MOST_KINDS : mg "MOST_KINDS" = some (.int 20 t_MOST_KINDS)
  t_MOST_LETTERS : Tok
  c_MOST_LETTERS : mg "MOST_LETTERS" = some (.int 100 t_MOST_LETTERS)
  t_MOST_MANY : Tok
  c_MOST_MANY : mg "MOST_MANY" = some (.int 200 t_MOST_MANY)
  t_MOST_NUMBER : Tok
  c_MOST_NUMBER : mg "MOST_NUMBER" = some (.int 1000000000000000000 t_MOST_NUMBER)
  t_MOST_NUMBERS : Tok
  c_MOST_NUMBERS : mg "MOST_NUMBERS" = some (.int 60 t_MOST_NUMBERS)
  t_MOST_PLACE : Tok
  c_MOST_PLACE : mg "MOST_PLACE" = some (.int 200 t_MOST_PLACE)
  t_MOST_PRIME : Tok
  c_MOST_PRIME : mg "MOST_PRIME" = some (.int 97 t_MOST_PRIME)
  t_MOST_SIZE : Tok
  c_MOST_SIZE : mg "MOST_SIZE" = some (.int 1000000000000 t_MOST_SIZE)
section
variable {P : Program} {w : World} {K : PySem.W.Frag} {mg : Str → Option Value} {base : Heap}
theorem ok__law_draw (T : Top K mg) : FnG P w K mg base CX0 1 T.f__law_draw T.d__law_draw ["pot", "many"] (spF K 2 den__law_draw) := by
  refine fn_ok T.F__law_draw sc__law_draw fun cdv A outer s H E hr => ?_
  have nd := sc__law_draw.nd
  exact pxs_cons (px_if (pxt_cmp op_gt vop_gt (px_ix ix_seq vop_ix (px_name 0) (px_int)) (px_int)) (pxs_cons (px_asg (px_callB op_divmodW vop_divmod rfl T.z_divmod rfl (pxa_cons (px_ix ix_seq vop_ix (px_name 0) (px_int)) (pxa_cons (px_name 1) (pxa_nil)))) (pxg_tup rfl (pxgs_cons (pxg_sub 0 (hi := px_int)) (pxgs_cons (pxg_fix 2 nd) (pxgs_nil))))) (pxs_one (px_ret (px_name 2)))) (pxs_nil)) (pxs_cons (px_asg (px_op op_mod vop_mod (px_callTy call_int1 vop_int rfl T.z_int rfl (pxa_cons (px_op op_addB vop_addB (px_op op_mulA vop_mulB (px_ix ix_seq vop_ix (px_name 0) (px_int)) (px_int)) (px_int)) (pxa_nil))) (px_int)) (pxg_sub 0 (hi := px_int))) (pxs_one (px_ret (px_op op_mod vop_mod (px_callTy call_int1 vop_int rfl T.z_int rfl (pxa_cons (px_op op_fdivW vop_div (px_op op_mod vop_mod (px_callTy call_int1 vop_int rfl T.z_int rfl (pxa_cons (px_op op_mulA vop_mulB (px_ix ix_seq vop_ix (px_name 0) (px_int)) (px_ix ix_seq vop_ix (px_name 0) (px_int))) (pxa_nil))) (px_int)) (px_int)) (pxa_nil))) (px_name 1)))))
theorem ok__law_pick (T : Top K mg) : FnG P w K mg base CX0 2 T.f__law_pick T.d__law_pick ["pot", "some"] (spF K 2 den__law_pick) := by
  refine fn_ok T.F__law_pick sc__law_pick fun cdv A outer s H E hr => ?_
  have nd := sc__law_pick.nd
  exact pxs_one (px_ret (px_ix ix_seq vop_ix (px_name 1) (px_call [true, false] (ok__law_draw T) hr T.m__law_draw T.F__law_draw.kp T.b__law_draw (pxa_cons (px_name 0) (pxa_cons (px_callB call_len vop_len rfl T.z_len rfl (pxa_cons (px_name 1) (pxa_nil))) (pxa_nil))))))
theorem ok__law_prime (T : Top K mg) : FnG P w K mg base CX0 3 T.f__law_prime T.d__law_prime ["pot"] (spF K 1 den__law_prime) := by
  refine fn_ok T.F__law_prime sc__law_prime fun cdv A outer s H E hr => ?_
  have nd := sc__law_prime.nd
  exact pxs_one (px_ret (px_call [true, false] (ok__law_pick T) hr T.m__law_pick T.F__law_pick.kp T.b__law_pick (pxa_cons (px_name 0) (pxa_cons (px_lst (pxa_cons (px_int) (pxa_cons (px_int) (pxa_cons (px_int) (pxa_cons (px_int) (pxa_cons (px_int) (pxa_cons (px_int) (pxa_cons (px_int) (pxa_cons (px_int) (pxa_cons (px_int) (pxa_cons (px_int) (pxa_nil)))))))))))) (pxa_nil)))))
theorem ok_is_integer (T : Top K mg) : FnG P w K mg base CX0 1 T.f_is_integer T.d_is_integer ["value"] (spF K 1 den_is_integer) := by
  refine fn_ok T.F_is_integer sc_is_integer fun cdv A outer s H E hr => ?_
  have nd := sc_is_integer.nd
  exact pxs_one (px_ret (px_and (px_is1 .int T.z_isinstance T.z_int (px_name 0) rfl rfl) (px_tB (px_one (px_not (px_is1 .bool T.z_isinstance T.z_bool (px_name 0) rfl rfl))))))
theorem ok_is_within (T : Top K mg) : FnG P w K mg base CX0 2 T.f_is_within T.d_is_within ["value", "least", "most"] (spF K 3 den_is_within) := by
  refine fn_ok T.F_is_within sc_is_within fun cdv A outer s H E hr => ?_
  have nd := sc_is_within.nd
  exact pxs_one (px_ret (px_and (px_call [false] (ok_is_integer T) hr T.m_is_integer T.F_is_integer.kp T.b_is_integer (pxa_cons (px_name 0) (pxa_nil))) (px_tB (px_one (px_chain op_le op_le ct_b2 ct_b2 (px_name 1) (px_name 0) (px_name 2))))))
theorem ok_want_many (T : Top K mg) : FnG P w K mg base CX0 3 T.f_want_many T.d_want_many ["many"] (spF K 1 den_want_many) := by
  refine fn_ok T.F_want_many sc_want_many fun cdv A outer s H E hr => ?_
  have nd := sc_want_many.nd
  exact pxs_one (px_if (pxt_not (pxt_val (px_call [false, false, false] (ok_is_within T) hr T.m_is_within T.F_is_within.kp T.b_is_within (pxa_cons (px_name 0) (pxa_cons (px_int) (pxa_cons (px_glob (v := .int 200) rfl T.c_MOST_MANY ⟨_, rfl⟩ (.int _)) (pxa_nil))))))) (pxs_one (px_never)) (pxs_nil))
theorem ok_choose_of (T : Top K mg) : FnG P w K mg base CX0 1 T.f_choose_of T.d_choose_of ["many", "some"] (spF K 2 den_choose_of) := by
  refine fn_ok T.F_choose_of sc_choose_of fun cdv A outer s H E hr => ?_
  have nd := sc_choose_of.nd
  exact pxs_cons (px_if (pxt_cmp op_gt vop_gt (px_name 1) (px_name 0)) (pxs_one (px_ret (px_int))) (pxs_nil)) (pxs_cons (px_fix 2 nd (px_int)) (pxs_cons (px_for PassesOwn.never rfl (pxi_range1 T.z_range (pxa_cons (px_callB (cr_minB rfl) vop_min rfl T.z_min rfl (pxa_cons (px_name 1) (pxa_cons (px_op op_sub vop_sub (px_name 0) (px_name 1)) (pxa_nil)))) (pxa_nil))) (pxg_fix 3 nd) (pxs_one (px_fix 2 nd (px_op op_fdivW vop_div (px_op op_mulA vop_mulB (px_name 2) (px_op op_sub vop_sub (px_name 0) (px_name 3))) (px_op op_addB vop_addB (px_name 3) (px_int)))))) (pxs_one (px_ret (px_name 2)))))
theorem ok_choose_row (T : Top K mg) : FnG P w K mg base CX0 4 T.f_choose_row T.d_choose_row ["many"] (spF K 1 den_choose_row) := by
  refine fn_ok T.F_choose_row sc_choose_row fun cdv A outer s H E hr => ?_
  have nd := sc_choose_row.nd
  exact pxs_cons (px_expr (px_call [false] (ok_want_many T) hr T.m_want_many T.F_want_many.kp T.b_want_many (pxa_cons (px_name 0) (pxa_nil)))) (pxs_one (px_ret (px_lc rfl nd (own := [("some", 1)]) (pxi_range1 T.z_range (pxa_cons (px_op op_addB vop_addB (px_name 0) (px_int)) (pxa_nil))) (blk_ok rfl) (fun _ _ _ _ _ => pxg_fix 1 nd) (fun _ _ _ _ _ => pxts_nil) (fun _ _ _ _ _ => px_call [false, false] ((ok_choose_of T).mono (by decide)) hr T.m_choose_of T.F_choose_of.kp T.b_choose_of (pxa_cons (px_name 0) (pxa_cons (px_name 1) (pxa_nil)))))))
theorem ok_want_prime (T : Top K mg) : FnG P w K mg base CX0 3 T.f_want_prime T.d_want_prime ["prime"] (spF K 1 den_want_prime) := by
  refine fn_ok T.F_want_prime sc_want_prime fun cdv A outer s H E hr => ?_
  have nd := sc_want_prime.nd
  exact pxs_one (px_if (PXW.t (pxw_or (pxt_not (pxt_val (px_call [false, false, false] (ok_is_within T) hr T.m_is_within T.F_is_within.kp T.b_is_within (pxa_cons (px_name 0) (pxa_cons (px_int) (pxa_cons (px_glob (v := .int 97) rfl T.c_MOST_PRIME ⟨_, rfl⟩ (.int _)) (pxa_nil))))))) (pxw_or1 (pxt_not (pxt_val (px_callB (cr_all rfl) vop_all rfl T.z_all rfl (pxa_cons (px_lc rfl nd (own := [("one", 1)]) (pxi_range2 T.z_range (pxa_cons (px_int) (pxa_cons (px_name 0) (pxa_nil)))) (blk_ok rfl) (fun _ _ _ _ _ => pxg_fix 1 nd) (fun _ _ _ _ _ => pxts_nil) (fun _ _ _ _ _ => px_cmp (op_neB hr.hu64) vop_ne (px_op op_mod vop_mod (px_callTy call_int1 vop_int rfl T.z_int rfl (pxa_cons (px_name 0) (pxa_nil))) (px_name 1)) (px_int))) (pxa_nil)))))))) (pxs_one (px_never)) (pxs_nil))
theorem ok_want_great (T : Top K mg) : FnG P w K mg base CX0 3 T.f_want_great T.d_want_great ["number"] (spF K 1 den_want_great) := by
  refine fn_ok T.F_want_great sc_want_great fun cdv A outer s H E hr => ?_
  have nd := sc_want_great.nd
  exact pxs_one (px_if (pxt_not (pxt_val (px_call [false, false, false] (ok_is_within T) hr T.m_is_within T.F_is_within.kp T.b_is_within (pxa_cons (px_name 0) (pxa_cons (px_int) (pxa_cons (px_glob (v := .int 1000000000000000000) rfl T.c_MOST_NUMBER ⟨_, rfl⟩ (.int _)) (pxa_nil))))))) (pxs_one (px_never)) (pxs_nil))
theorem ok_want_choice (T : Top K mg) : FnG P w K mg base CX0 4 T.f_want_choice T.d_want_choice ["prime", "top", "bottom"] (spF K 3 den_want_choice) := by
  refine fn_ok T.F_want_choice sc_want_choice fun cdv A outer s H E hr => ?_
  have nd := sc_want_choice.nd
  exact pxs_cons (px_expr (px_call [false] (ok_want_prime T) hr T.m_want_prime T.F_want_prime.kp T.b_want_prime (pxa_cons (px_name 0) (pxa_nil)))) (pxs_cons (px_expr (px_call [false] (ok_want_great T) hr T.m_want_great T.F_want_great.kp T.b_want_great (pxa_cons (px_name 1) (pxa_nil)))) (pxs_one (px_expr (px_call [false] (ok_want_great T) hr T.m_want_great T.F_want_great.kp T.b_want_great (pxa_cons (px_name 2) (pxa_nil))))))
theorem ok_digits_of (T : Top K mg) : FnG P w K mg base CX0 1 T.f_digits_of T.d_digits_of ["prime", "number"] (spF K 2 den_digits_of) := by
  refine fn_ok T.F_digits_of sc_digits_of fun cdv A outer s H E hr => ?_
  have nd := sc_digits_of.nd
  exact pxs_cons (px_set 2 nd (px_lst (pxa_nil))) (pxs_cons (px_while fuel PassesOwn.never (pxt_cmp op_gt vop_gt (px_name 1) (px_int)) (pxs_cons (px_expr (px_meth 2 PySem.F.slot_list_append PySem.F.type_list_append mt_append vm_app (pxa_cons (px_op op_mod vop_mod (px_callTy call_int1 vop_int rfl T.z_int rfl (pxa_cons (px_name 1) (pxa_nil))) (px_name 0)) (pxa_nil)))) (pxs_one (px_fix 1 nd (px_op op_fdivW vop_div (px_name 1) (px_name 0)))))) (pxs_one (px_ret (px_name 2))))
theorem ok_both_digits (T : Top K mg) : FnG P w K mg base CX0 2 T.f_both_digits T.d_both_digits ["prime", "top", "bottom"] (spF K 3 den_both_digits) := by
  refine fn_ok T.F_both_digits sc_both_digits fun cdv A outer s H E hr => ?_
  have nd := sc_both_digits.nd
  exact pxs_cons (px_par2 4 5 rfl nd (pxa_cons (px_call [false, false] (ok_digits_of T) hr T.m_digits_of T.F_digits_of.kp T.b_digits_of (pxa_cons (px_name 0) (pxa_cons (px_name 1) (pxa_nil)))) (pxa_cons (px_call [false, false] (ok_digits_of T) hr T.m_digits_of T.F_digits_of.kp T.b_digits_of (pxa_cons (px_name 0) (pxa_cons (px_name 2) (pxa_nil)))) (pxa_nil)))) (pxs_frz 5 (pxs_frz 4 (pxs_cons (px_fix 3 nd (px_callB (cr_maxB rfl) vop_max rfl T.z_max rfl (pxa_cons (px_callB call_len vop_len rfl T.z_len rfl (pxa_cons (px_name 4) (pxa_nil))) (pxa_cons (px_callB call_len vop_len rfl T.z_len rfl (pxa_cons (px_name 5) (pxa_nil))) (pxa_nil))))) (pxs_one (px_ret (px_lzip rfl rfl T.z_list rfl T.z_zip (pxa_cons (px_op op_addB vop_addB (px_name 4) (px_op op_mulA vop_mulB (px_lst (pxa_cons (px_int) (pxa_nil))) (px_op op_sub vop_sub (px_name 3) (px_callB call_len vop_len rfl T.z_len rfl (pxa_cons (px_name 4) (pxa_nil)))))) (pxa_cons (px_op op_addB vop_addB (px_name 5) (px_op op_mulA vop_mulB (px_lst (pxa_cons (px_int) (pxa_nil))) (px_op op_sub vop_sub (px_name 3) (px_callB call_len vop_len rfl T.z_len rfl (pxa_cons (px_name 5) (pxa_nil)))))) (pxa_nil)))))))))
theorem ok_carried (T : Top K mg) : FnG P w K mg base CX0 3 T.f_carried T.d_carried ["prime", "number", "other"] (spF K 3 den_carried) := by
  refine fn_ok T.F_carried sc_carried fun cdv A outer s H E hr => ?_
  have nd := sc_carried.nd
  exact pxs_cons (px_par2 3 4 rfl nd (pxa_cons (px_lst (pxa_nil)) (pxa_cons (px_int) (pxa_nil)))) (pxs_cons (px_for PassesOwn.never rfl (pxi_enu T.z_enumerate (pxa_cons (px_call [false, false, false] (ok_both_digits T) hr T.m_both_digits T.F_both_digits.kp T.b_both_digits (pxa_cons (px_name 0) (pxa_cons (px_name 1) (pxa_cons (px_name 2) (pxa_nil))))) (pxa_nil))) (pxg_tup rfl (pxgs_cons (pxg_fix 5 nd) (pxgs_cons (pxg_tup rfl (pxgs_cons (pxg_fix 6 nd) (pxgs_cons (pxg_fix 7 nd) (pxgs_nil)))) (pxgs_nil)))) (pxs_cons (px_fix 4 nd (px_op op_fdivW vop_div (px_op op_addB vop_addB (px_op op_addB vop_addB (px_name 6) (px_name 7)) (px_name 4)) (px_name 0))) (pxs_one (px_expr (px_meth 3 PySem.F.slot_list_extend PySem.F.type_list_extend mt_extend vm_ext (pxa_cons (px_ifExp (pxt_cmp op_gt vop_gt (px_name 4) (px_int)) (px_lst (pxa_cons (px_name 5) (pxa_nil))) (px_lst (pxa_nil))) (pxa_nil))))))) (pxs_one (px_ret (px_name 3))))
theorem ok_choice_times (T : Top K mg) : FnG P w K mg base CX0 5 T.f_choice_times T.d_choice_times ["prime", "top", "bottom"] (spF K 3 den_choice_times) := by
  refine fn_ok T.F_choice_times sc_choice_times fun cdv A outer s H E hr => ?_
  have nd := sc_choice_times.nd
  exact pxs_cons (px_expr (px_call [false, false, false] (ok_want_choice T) hr T.m_want_choice T.F_want_choice.kp T.b_want_choice (pxa_cons (px_name 0) (pxa_cons (px_name 1) (pxa_cons (px_name 2) (pxa_nil)))))) (pxs_one (px_ret (px_ifExp (pxt_cmp op_le vop_le (px_name 2) (px_name 1)) (px_callB call_len vop_len rfl T.z_len rfl (pxa_cons (px_call [false, false, false] ((ok_carried T).mono (by decide)) hr T.m_carried T.F_carried.kp T.b_carried (pxa_cons (px_name 0) (pxa_cons (px_name 2) (pxa_cons (px_op op_sub vop_sub (px_name 1) (px_name 2)) (pxa_nil))))) (pxa_nil))) (px_non))))
theorem ok__law_often (T : Top K mg) : FnG P w K mg base CX0 1 T.f__law_often T.d__law_often ["prime", "number"] (spF K 2 den__law_often) := by
  refine fn_ok T.F__law_often sc__law_often fun cdv A outer s H E hr => ?_
  have nd := sc__law_often.nd
  exact pxs_cons (px_par2 3 4 rfl nd (pxa_cons (px_int) (pxa_cons (px_name 1) (pxa_nil)))) (pxs_frz 4 (pxs_cons (px_for PassesOwn.never rfl (pxi_range1 T.z_range (pxa_cons (px_int) (pxa_nil))) (pxg_fix 2 nd) (pxs_one (px_if (PXW.t (pxw_and (pxt_cmp (op_neB hr.hu64) vop_ne (px_name 4) (px_int)) (pxw_and1 (pxt_cmp (op_eqB hr.hu64) vop_eq (px_op op_mod vop_mod (px_callTy call_int1 vop_int rfl T.z_int rfl (pxa_cons (px_name 4) (pxa_nil))) (px_name 0)) (px_int))))) (pxs_cons (px_par2 3 4 rfl nd (pxa_cons (px_op op_addB vop_addB (px_name 3) (px_int)) (pxa_cons (px_op op_fdivW vop_div (px_name 4) (px_name 0)) (pxa_nil)))) (pxs_frz 3 (pxs_nil))) (pxs_nil)))) (pxs_one (px_ret (px_name 3)))))
theorem ok_rest_of (T : Top K mg) : FnG P w K mg base CX0 3 T.f_rest_of T.d_rest_of ["prime", "top", "bottom"] (spF K 3 den_rest_of) := by
  refine fn_ok T.F_rest_of sc_rest_of fun cdv A outer s H E hr => ?_
  have nd := sc_rest_of.nd
  exact pxs_cons (px_fix 3 nd (px_int)) (pxs_cons (px_for PassesOwn.never rfl (pxi_seq (px_call [false, false, false] (ok_both_digits T) hr T.m_both_digits T.F_both_digits.kp T.b_both_digits (pxa_cons (px_name 0) (pxa_cons (px_name 1) (pxa_cons (px_name 2) (pxa_nil)))))) (pxg_tup rfl (pxgs_cons (pxg_fix 4 nd) (pxgs_cons (pxg_fix 5 nd) (pxgs_nil)))) (pxs_one (px_fix 3 nd (px_op op_mod vop_mod (px_callTy call_int1 vop_int rfl T.z_int rfl (pxa_cons (px_op op_mulA vop_mulB (px_name 3) (px_call [false, false] ((ok_choose_of T).mono (by decide)) hr T.m_choose_of T.F_choose_of.kp T.b_choose_of (pxa_cons (px_name 4) (pxa_cons (px_name 5) (pxa_nil))))) (pxa_nil))) (px_name 0))))) (pxs_one (px_ret (px_name 3))))
theorem ok_row_rests (T : Top K mg) : FnG P w K mg base CX0 4 T.f_row_rests T.d_row_rests ["prime", "many"] (spF K 2 den_row_rests) := by
  refine fn_ok T.F_row_rests sc_row_rests fun cdv A outer s H E hr => ?_
  have nd := sc_row_rests.nd
  exact pxs_cons (px_expr (px_call [false] (ok_want_prime T) hr T.m_want_prime T.F_want_prime.kp T.b_want_prime (pxa_cons (px_name 0) (pxa_nil)))) (pxs_cons (px_expr (px_call [false] (ok_want_many T) hr T.m_want_many T.F_want_many.kp T.b_want_many (pxa_cons (px_name 1) (pxa_nil)))) (pxs_one (px_ret (px_lc rfl nd (own := [("some", 2)]) (pxi_range1 T.z_range (pxa_cons (px_op op_addB vop_addB (px_name 1) (px_int)) (pxa_nil))) (blk_ok rfl) (fun _ _ _ _ _ => pxg_fix 2 nd) (fun _ _ _ _ _ => pxts_nil) (fun _ _ _ _ _ => px_call [false, false, false] (ok_rest_of T) hr T.m_rest_of T.F_rest_of.kp T.b_rest_of (pxa_cons (px_name 0) (pxa_cons (px_name 1) (pxa_cons (px_name 2) (pxa_nil)))))))))
theorem ok_row_left (T : Top K mg) : FnG P w K mg base CX0 4 T.f_row_left T.d_row_left ["prime", "top"] (spF K 2 den_row_left) := by
  refine fn_ok T.F_row_left sc_row_left fun cdv A outer s H E hr => ?_
  have nd := sc_row_left.nd
  exact pxs_cons (px_expr (px_call [false] (ok_want_prime T) hr T.m_want_prime T.F_want_prime.kp T.b_want_prime (pxa_cons (px_name 0) (pxa_nil)))) (pxs_cons (px_expr (px_call [false] (ok_want_great T) hr T.m_want_great T.F_want_great.kp T.b_want_great (pxa_cons (px_name 1) (pxa_nil)))) (pxs_cons (px_fix 2 nd (px_int)) (pxs_cons (px_for PassesOwn.never rfl (pxi_seq (px_call [false, false] ((ok_digits_of T).mono (by decide)) hr T.m_digits_of T.F_digits_of.kp T.b_digits_of (pxa_cons (px_name 0) (pxa_cons (px_name 1) (pxa_nil))))) (pxg_fix 3 nd) (pxs_one (px_fix 2 nd (px_op op_mulA vop_mulB (px_name 2) (px_op op_addB vop_addB (px_name 3) (px_int)))))) (pxs_one (px_ret (px_name 2))))))
theorem ok_want_some (T : Top K mg) : FnG P w K mg base CX0 3 T.f_want_some T.d_want_some ["some"] (spF K 1 den_want_some) := by
  refine fn_ok T.F_want_some sc_want_some fun cdv A outer s H E hr => ?_
  have nd := sc_want_some.nd
  exact pxs_one (px_if (pxt_not (pxt_val (px_call [false, false, false] (ok_is_within T) hr T.m_is_within T.F_is_within.kp T.b_is_within (pxa_cons (px_name 0) (pxa_cons (px_int) (pxa_cons (px_glob (v := .int 200) rfl T.c_MOST_MANY ⟨_, rfl⟩ (.int _)) (pxa_nil))))))) (pxs_one (px_never)) (pxs_nil))
theorem ok_choose (T : Top K mg) : FnG P w K mg base CX0 4 T.f_choose T.d_choose ["many", "some"] (spF K 2 den_choose) := by
  refine fn_ok T.F_choose sc_choose fun cdv A outer s H E hr => ?_
  have nd := sc_choose.nd
  exact pxs_cons (px_expr (px_call [false] (ok_want_many T) hr T.m_want_many T.F_want_many.kp T.b_want_many (pxa_cons (px_name 0) (pxa_nil)))) (pxs_cons (px_expr (px_call [false] (ok_want_some T) hr T.m_want_some T.F_want_some.kp T.b_want_some (pxa_cons (px_name 1) (pxa_nil)))) (pxs_one (px_ret (px_call [false, false] ((ok_choose_of T).mono (by decide)) hr T.m_choose_of T.F_choose_of.kp T.b_choose_of (pxa_cons (px_name 0) (pxa_cons (px_name 1) (pxa_nil)))))))
theorem ok_choice_rest (T : Top K mg) : FnG P w K mg base CX0 5 T.f_choice_rest T.d_choice_rest ["prime", "top", "bottom"] (spF K 3 den_choice_rest) := by
  refine fn_ok T.F_choice_rest sc_choice_rest fun cdv A outer s H E hr => ?_
  have nd := sc_choice_rest.nd
  exact pxs_cons (px_expr (px_call [false, false, false] (ok_want_choice T) hr T.m_want_choice T.F_want_choice.kp T.b_want_choice (pxa_cons (px_name 0) (pxa_cons (px_name 1) (pxa_cons (px_name 2) (pxa_nil)))))) (pxs_one (px_ret (px_call [false, false, false] ((ok_rest_of T).mono (by decide)) hr T.m_rest_of T.F_rest_of.kp T.b_rest_of (pxa_cons (px_name 0) (pxa_cons (px_name 1) (pxa_cons (px_name 2) (pxa_nil)))))))
theorem ok_bags_counted (T : Top K mg) : FnG P w K mg base CX0 2 T.f_bags_counted T.d_bags_counted ["many", "some"] (spF K 2 den_bags_counted) := by
  refine fn_ok T.F_bags_counted sc_bags_counted fun cdv A outer s H E hr => ?_
  have nd := sc_bags_counted.nd
  exact pxs_one (px_ret (px_ifExp (pxt_cmp op_gt vop_gt (px_name 0) (px_int)) (px_call [false, false] (ok_choose_of T) hr T.m_choose_of T.F_choose_of.kp T.b_choose_of (pxa_cons (px_op op_sub vop_sub (px_op op_addB vop_addB (px_name 0) (px_name 1)) (px_int)) (pxa_cons (px_name 1) (pxa_nil)))) (px_callTy call_int1 vop_int rfl T.z_int rfl (pxa_cons (px_cmp (op_eqB hr.hu64) vop_eq (px_name 1) (px_int)) (pxa_nil)))))
theorem ok_many_bags (T : Top K mg) : FnG P w K mg base CX0 4 T.f_many_bags T.d_many_bags ["many", "some"] (spF K 2 den_many_bags) := by
  refine fn_ok T.F_many_bags sc_many_bags fun cdv A outer s H E hr => ?_
  have nd := sc_many_bags.nd
  exact pxs_cons (px_expr (px_call [false] (ok_want_many T) hr T.m_want_many T.F_want_many.kp T.b_want_many (pxa_cons (px_name 0) (pxa_nil)))) (pxs_cons (px_expr (px_call [false] (ok_want_some T) hr T.m_want_some T.F_want_some.kp T.b_want_some (pxa_cons (px_name 1) (pxa_nil)))) (pxs_one (px_ret (px_call [false, false] ((ok_bags_counted T).mono (by decide)) hr T.m_bags_counted T.F_bags_counted.kp T.b_bags_counted (pxa_cons (px_name 0) (pxa_cons (px_name 1) (pxa_nil)))))))
theorem ok_want_steps (T : Top K mg) : FnG P w K mg base CX0 3 T.f_want_steps T.d_want_steps ["rights", "ups"] (spF K 2 den_want_steps) := by
  refine fn_ok T.F_want_steps sc_want_steps fun cdv A outer s H E hr => ?_
  have nd := sc_want_steps.nd
  exact pxs_cons (px_if (pxt_not (pxt_val (px_call [false, false, false] (ok_is_within T) hr T.m_is_within T.F_is_within.kp T.b_is_within (pxa_cons (px_name 0) (pxa_cons (px_int) (pxa_cons (px_glob (v := .int 200) rfl T.c_MOST_MANY ⟨_, rfl⟩ (.int _)) (pxa_nil))))))) (pxs_one (px_never)) (pxs_nil)) (pxs_one (px_if (pxt_not (pxt_val (px_call [false, false, false] (ok_is_within T) hr T.m_is_within T.F_is_within.kp T.b_is_within (pxa_cons (px_name 1) (pxa_cons (px_int) (pxa_cons (px_op op_sub vop_sub (px_glob (v := .int 200) rfl T.c_MOST_MANY ⟨_, rfl⟩ (.int _)) (px_name 0)) (pxa_nil))))))) (pxs_one (px_never)) (pxs_nil)))
theorem ok_many_paths (T : Top K mg) : FnG P w K mg base CX0 4 T.f_many_paths T.d_many_paths ["rights", "ups"] (spF K 2 den_many_paths) := by
  refine fn_ok T.F_many_paths sc_many_paths fun cdv A outer s H E hr => ?_
  have nd := sc_many_paths.nd
  exact pxs_cons (px_expr (px_call [false, false] (ok_want_steps T) hr T.m_want_steps T.F_want_steps.kp T.b_want_steps (pxa_cons (px_name 0) (pxa_cons (px_name 1) (pxa_nil))))) (pxs_one (px_ret (px_call [false, false] ((ok_choose_of T).mono (by decide)) hr T.m_choose_of T.F_choose_of.kp T.b_choose_of (pxa_cons (px_op op_addB vop_addB (px_name 0) (px_name 1)) (pxa_cons (px_name 1) (pxa_nil))))))
theorem ok__law_choices_right (T : Top K mg) : FnG P w K mg base CX0 6 T.f__law_choices_right T.d__law_choices_right ["pot", "prime"] (spF K 2 den__law_choices_right) := by
  refine fn_ok T.F__law_choices_right sc__law_choices_right fun cdv A outer s H E hr => ?_
  have nd := sc__law_choices_right.nd
  exact pxs_cons (px_fix 2 nd (px_call [true, false] ((ok__law_draw T).mono (by decide)) hr T.m__law_draw T.F__law_draw.kp T.b__law_draw (pxa_cons (px_name 0) (pxa_cons (px_int) (pxa_nil))))) (pxs_cons (px_fix 3 nd (px_call [true, false] ((ok__law_draw T).mono (by decide)) hr T.m__law_draw T.F__law_draw.kp T.b__law_draw (pxa_cons (px_name 0) (pxa_cons (px_op op_addB vop_addB (px_name 2) (px_int)) (pxa_nil))))) (pxs_cons (px_fix 4 nd (px_call [false] ((ok_choose_row T).mono (by decide)) hr T.m_choose_row T.F_choose_row.kp T.b_choose_row (pxa_cons (px_name 2) (pxa_nil)))) (pxs_cons (px_if (PXW.t (pxw_or (pxt_cmp (op_neB hr.hu64) vop_ne (px_call [false, false] ((ok_row_rests T).mono (by decide)) hr T.m_row_rests T.F_row_rests.kp T.b_row_rests (pxa_cons (px_name 1) (pxa_cons (px_name 2) (pxa_nil)))) (px_lc rfl nd (own := [("one", 9)]) (pxi_seq (px_name 4)) (blk_ok rfl) (fun _ _ _ _ _ => pxg_fix 9 nd) (fun _ _ _ _ _ => pxts_nil) (fun _ _ _ _ _ => px_op op_mod vop_mod (px_callTy call_int1 vop_int rfl T.z_int rfl (pxa_cons (px_name 9) (pxa_nil))) (px_name 1)))) (pxw_or1 (pxt_cmp (op_neB hr.hu64) vop_ne (px_callP0 [false, false] ((ok_row_left T).mono (by decide)) hr T.m_row_left T.F_row_left.kp (Fun.kbd (ps := ["prime", "top"]) (ks := ["top", "prime"]) (n := 0) (pm := [1, 0]) T.F_row_left (fun _ _ _ _ _ _ us ws h1 h2 => match us, ws, h1, h2 with | [], [_, _], _, _ => rfl)) (pxk_cons (px_name 2) (pxk_cons (px_name 1) (pxk_nil)))) (px_callB call_len vop_len rfl T.z_len rfl (pxa_cons (px_lc rfl nd (own := [("one", 9)]) (pxi_seq (px_name 4)) (blk_ok rfl) (fun _ _ _ _ _ => pxg_fix 9 nd) (fun _ _ _ _ _ => pxts_one (pxt_cmp (op_neB hr.hu64) vop_ne (px_op op_mod vop_mod (px_callTy call_int1 vop_int rfl T.z_int rfl (pxa_cons (px_name 9) (pxa_nil))) (px_name 1)) (px_int))) (fun _ _ _ _ _ => px_name 9)) (pxa_nil))))))) (pxs_one (px_ret (px_bl))) (pxs_nil)) (pxs_cons (px_if (pxt_cmp (op_neB hr.hu64) vop_ne (px_call [false, false, false] (ok_choice_times T) hr T.m_choice_times T.F_choice_times.kp T.b_choice_times (pxa_cons (px_name 1) (pxa_cons (px_name 2) (pxa_cons (px_name 3) (pxa_nil))))) (px_call [false, false] ((ok__law_often T).mono (by decide)) hr T.m__law_often T.F__law_often.kp T.b__law_often (pxa_cons (px_name 1) (pxa_cons (px_callP0 [false, false] ((ok_choose T).mono (by decide)) hr T.m_choose T.F_choose.kp (Fun.kbd (ps := ["many", "some"]) (ks := ["many", "some"]) (n := 0) (pm := [0, 1]) T.F_choose (fun _ _ _ _ _ _ us ws h1 h2 => match us, ws, h1, h2 with | [], [_, _], _, _ => rfl)) (pxk_cons (px_name 2) (pxk_cons (px_name 3) (pxk_nil)))) (pxa_nil))))) (pxs_one (px_ret (px_bl))) (pxs_nil)) (pxs_cons (px_par2 5 6 rfl nd (pxa_cons (px_op op_addB vop_addB (px_int) (px_call [true, false] ((ok__law_draw T).mono (by decide)) hr T.m__law_draw T.F__law_draw.kp T.b__law_draw (pxa_cons (px_name 0) (pxa_cons (px_int) (pxa_nil))))) (pxa_cons (px_call [true, false] ((ok__law_draw T).mono (by decide)) hr T.m__law_draw T.F__law_draw.kp T.b__law_draw (pxa_cons (px_name 0) (pxa_cons (px_int) (pxa_nil)))) (pxa_nil)))) (pxs_frz 6 (pxs_frz 5 (pxs_cons (px_if (PXW.t (pxw_or (pxt_cmp (op_neB hr.hu64) vop_ne (px_op op_mod vop_mod (px_callTy call_int1 vop_int rfl T.z_int rfl (pxa_cons (px_call [false, false] ((ok_many_bags T).mono (by decide)) hr T.m_many_bags T.F_many_bags.kp T.b_many_bags (pxa_cons (px_name 5) (pxa_cons (px_name 6) (pxa_nil)))) (pxa_nil))) (px_name 1)) (px_call [false, false, false] (ok_choice_rest T) hr T.m_choice_rest T.F_choice_rest.kp T.b_choice_rest (pxa_cons (px_name 1) (pxa_cons (px_op op_sub vop_sub (px_op op_addB vop_addB (px_name 5) (px_name 6)) (px_int)) (pxa_cons (px_name 6) (pxa_nil)))))) (pxw_or1 (pxt_cmp (op_neB hr.hu64) vop_ne (px_call [false, false] ((ok__law_often T).mono (by decide)) hr T.m__law_often T.F__law_often.kp T.b__law_often (pxa_cons (px_name 1) (pxa_cons (px_call [false, false] ((ok_many_bags T).mono (by decide)) hr T.m_many_bags T.F_many_bags.kp T.b_many_bags (pxa_cons (px_name 5) (pxa_cons (px_name 6) (pxa_nil)))) (pxa_nil)))) (px_call [false, false, false] (ok_choice_times T) hr T.m_choice_times T.F_choice_times.kp T.b_choice_times (pxa_cons (px_name 1) (pxa_cons (px_op op_sub vop_sub (px_op op_addB vop_addB (px_name 5) (px_name 6)) (px_int)) (pxa_cons (px_name 6) (pxa_nil))))))))) (pxs_one (px_ret (px_bl))) (pxs_nil)) (pxs_cons (px_par2 7 8 rfl nd (pxa_cons (px_call [true, false] ((ok__law_draw T).mono (by decide)) hr T.m__law_draw T.F__law_draw.kp T.b__law_draw (pxa_cons (px_name 0) (pxa_cons (px_int) (pxa_nil)))) (pxa_cons (px_call [true, false] ((ok__law_draw T).mono (by decide)) hr T.m__law_draw T.F__law_draw.kp T.b__law_draw (pxa_cons (px_name 0) (pxa_cons (px_int) (pxa_nil)))) (pxa_nil)))) (pxs_frz 8 (pxs_frz 7 (pxs_one (px_ret (px_and (px_cmp (op_eqB hr.hu64) vop_eq (px_op op_mod vop_mod (px_callTy call_int1 vop_int rfl T.z_int rfl (pxa_cons (px_call [false, false] ((ok_many_paths T).mono (by decide)) hr T.m_many_paths T.F_many_paths.kp T.b_many_paths (pxa_cons (px_name 7) (pxa_cons (px_name 8) (pxa_nil)))) (pxa_nil))) (px_name 1)) (px_call [false, false, false] (ok_choice_rest T) hr T.m_choice_rest T.F_choice_rest.kp T.b_choice_rest (pxa_cons (px_name 1) (pxa_cons (px_op op_addB vop_addB (px_name 7) (px_name 8)) (pxa_cons (px_name 8) (pxa_nil)))))) (px_tB (px_one (px_cmp (op_eqB hr.hu64) vop_eq (px_call [false, false] ((ok__law_often T).mono (by decide)) hr T.m__law_often T.F__law_often.kp T.b__law_often (pxa_cons (px_name 1) (pxa_cons (px_call [false, false] ((ok_many_paths T).mono (by decide)) hr T.m_many_paths T.F_many_paths.kp T.b_many_paths (pxa_cons (px_name 7) (pxa_cons (px_name 8) (pxa_nil)))) (pxa_nil)))) (px_call [false, false, false] (ok_choice_times T) hr T.m_choice_times T.F_choice_times.kp T.b_choice_times (pxa_cons (px_name 1) (pxa_cons (px_op op_addB vop_addB (px_name 7) (px_name 8)) (pxa_cons (px_name 7) (pxa_nil))))))))))))))))))))))
theorem ok_orders_counted (T : Top K mg) : FnG P w K mg base CX0 1 T.f_orders_counted T.d_orders_counted ["many"] (spF K 1 den_orders_counted) := by
  refine fn_ok T.F_orders_counted sc_orders_counted fun cdv A outer s H E hr => ?_
  have nd := sc_orders_counted.nd
  exact pxs_cons (px_fix 1 nd (px_int)) (pxs_cons (px_for PassesOwn.never rfl (pxi_range2 T.z_range (pxa_cons (px_int) (pxa_cons (px_op op_addB vop_addB (px_name 0) (px_int)) (pxa_nil)))) (pxg_fix 2 nd) (pxs_one (px_fix 1 nd (px_op op_mulA vop_mulB (px_name 1) (px_name 2))))) (pxs_one (px_ret (px_name 1))))
theorem ok_many_orders (T : Top K mg) : FnG P w K mg base CX0 4 T.f_many_orders T.d_many_orders ["many"] (spF K 1 den_many_orders) := by
  refine fn_ok T.F_many_orders sc_many_orders fun cdv A outer s H E hr => ?_
  have nd := sc_many_orders.nd
  exact pxs_cons (px_expr (px_call [false] (ok_want_many T) hr T.m_want_many T.F_want_many.kp T.b_want_many (pxa_cons (px_name 0) (pxa_nil)))) (pxs_one (px_ret (px_call [false] ((ok_orders_counted T).mono (by decide)) hr T.m_orders_counted T.F_orders_counted.kp T.b_orders_counted (pxa_cons (px_name 0) (pxa_nil)))))
theorem ok_times_in_product (T : Top K mg) : FnG P w K mg base CX0 1 T.f_times_in_product T.d_times_in_product ["prime", "number"] (spF K 2 den_times_in_product) := by
  refine fn_ok T.F_times_in_product sc_times_in_product fun cdv A outer s H E hr => ?_
  have nd := sc_times_in_product.nd
  exact pxs_cons (px_fix 2 nd (px_int)) (pxs_cons (px_while fuel PassesOwn.never (pxt_cmp op_gt vop_gt (px_name 1) (px_int)) (pxs_cons (px_fix 1 nd (px_op op_fdivW vop_div (px_name 1) (px_name 0))) (pxs_one (px_fix 2 nd (px_op op_addB vop_addB (px_name 2) (px_name 1)))))) (pxs_one (px_ret (px_name 2))))
theorem ok_product_times (T : Top K mg) : FnG P w K mg base CX0 4 T.f_product_times T.d_product_times ["prime", "number"] (spF K 2 den_product_times) := by
  refine fn_ok T.F_product_times sc_product_times fun cdv A outer s H E hr => ?_
  have nd := sc_product_times.nd
  exact pxs_cons (px_expr (px_call [false] (ok_want_prime T) hr T.m_want_prime T.F_want_prime.kp T.b_want_prime (pxa_cons (px_name 0) (pxa_nil)))) (pxs_cons (px_expr (px_call [false] (ok_want_great T) hr T.m_want_great T.F_want_great.kp T.b_want_great (pxa_cons (px_name 1) (pxa_nil)))) (pxs_one (px_ret (px_call [false, false] ((ok_times_in_product T).mono (by decide)) hr T.m_times_in_product T.F_times_in_product.kp T.b_times_in_product (pxa_cons (px_name 0) (pxa_cons (px_name 1) (pxa_nil)))))))
theorem ok_bare_product (T : Top K mg) : FnG P w K mg base CX0 1 T.f_bare_product T.d_bare_product ["prime", "number"] (spF K 2 den_bare_product) := by
  refine fn_ok T.F_bare_product sc_bare_product fun cdv A outer s H E hr => ?_
  have nd := sc_bare_product.nd
  exact pxs_cons (px_fix 2 nd (px_int)) (pxs_cons (px_while fuel PassesOwn.never (pxt_cmp op_gt vop_gt (px_name 1) (px_int)) (pxs_cons (px_for PassesOwn.never rfl (pxi_range2 T.z_range (pxa_cons (px_int) (pxa_cons (px_op op_addB vop_addB (px_op op_mod vop_mod (px_callTy call_int1 vop_int rfl T.z_int rfl (pxa_cons (px_name 1) (pxa_nil))) (px_name 0)) (px_int)) (pxa_nil)))) (pxg_fix 3 nd) (pxs_one (px_fix 2 nd (px_op op_mod vop_mod (px_callTy call_int1 vop_int rfl T.z_int rfl (pxa_cons (px_op op_mulA vop_mulB (px_name 2) (px_name 3)) (pxa_nil))) (px_name 0))))) (pxs_cons (px_fix 1 nd (px_op op_fdivW vop_div (px_name 1) (px_name 0))) (pxs_one (px_fix 2 nd (px_ifExp (pxt_cmp (op_eqB hr.hu64) vop_eq (px_op op_mod vop_mod (px_callTy call_int1 vop_int rfl T.z_int rfl (pxa_cons (px_name 1) (pxa_nil))) (px_int)) (px_int)) (px_op op_mod vop_mod (px_callTy call_int1 vop_int rfl T.z_int rfl (pxa_cons (px_op op_sub vop_sub (px_int) (px_name 2)) (pxa_nil))) (px_name 0)) (px_name 2))))))) (pxs_one (px_ret (px_name 2))))
theorem ok_product_rest (T : Top K mg) : FnG P w K mg base CX0 4 T.f_product_rest T.d_product_rest ["prime", "number"] (spF K 2 den_product_rest) := by
  refine fn_ok T.F_product_rest sc_product_rest fun cdv A outer s H E hr => ?_
  have nd := sc_product_rest.nd
  exact pxs_cons (px_expr (px_call [false] (ok_want_prime T) hr T.m_want_prime T.F_want_prime.kp T.b_want_prime (pxa_cons (px_name 0) (pxa_nil)))) (pxs_cons (px_expr (px_call [false] (ok_want_great T) hr T.m_want_great T.F_want_great.kp T.b_want_great (pxa_cons (px_name 1) (pxa_nil)))) (pxs_one (px_ret (px_call [false, false] ((ok_bare_product T).mono (by decide)) hr T.m_bare_product T.F_bare_product.kp T.b_bare_product (pxa_cons (px_name 0) (pxa_cons (px_name 1) (pxa_nil)))))))
theorem ok_is_list (T : Top K mg) : FnG P w K mg base CX0 1 T.f_is_list T.d_is_list ["value"] (spF K 1 den_is_list) := by
  refine fn_ok T.F_is_list sc_is_list fun cdv A outer s H E hr => ?_
  have nd := sc_is_list.nd
  exact pxs_one (px_ret (px_is2 .list .tuple T.z_isinstance T.z_list T.z_tuple (px_name 0) rfl rfl rfl))
theorem ok_are_letters_value (T : Top K mg) : FnG P w K mg base CX0 3 T.f_are_letters_value T.d_are_letters_value ["value"] (spF K 1 den_are_letters_value) := by
  refine fn_ok T.F_are_letters_value sc_are_letters_value fun cdv A outer s H E hr => ?_
  have nd := sc_are_letters_value.nd
  exact pxs_cons (px_if (PXW.t (pxw_or (pxt_not (pxt_val (px_call [false] ((ok_is_list T).mono (by decide)) hr T.m_is_list T.F_is_list.kp T.b_is_list (pxa_cons (px_name 0) (pxa_nil))))) (pxw_or (pxt_cmp op_gt vop_gt (px_callB call_len vop_len rfl T.z_len rfl (pxa_cons (px_name 0) (pxa_nil))) (px_glob (v := .int 20) rfl T.c_MOST_KINDS ⟨_, rfl⟩ (.int _))) (pxw_or1 (pxt_not (pxt_val (px_callB (cr_all rfl) vop_all rfl T.z_all rfl (pxa_cons (px_lc rfl nd (own := [("one", 1)]) (pxi_seq (px_name 0)) (blk_ok rfl) (fun _ _ _ _ _ => pxg_fix 1 nd) (fun _ _ _ _ _ => pxts_nil) (fun _ _ _ _ _ => px_call [false, false, false] (ok_is_within T) hr T.m_is_within T.F_is_within.kp T.b_is_within (pxa_cons (px_name 1) (pxa_cons (px_int) (pxa_cons (px_glob (v := .int 100) rfl T.c_MOST_LETTERS ⟨_, rfl⟩ (.int _)) (pxa_nil)))))) (pxa_nil))))))))) (pxs_one (px_ret (px_bl))) (pxs_nil)) (pxs_one (px_ret (px_cmp op_le vop_le (px_callB (cr_sum rfl) vop_sum rfl T.z_sum rfl (pxa_cons (px_name 0) (pxa_nil))) (px_glob (v := .int 100) rfl T.c_MOST_LETTERS ⟨_, rfl⟩ (.int _)))))
theorem ok_want_letters (T : Top K mg) : FnG P w K mg base CX0 4 T.f_want_letters T.d_want_letters ["letters"] (spF K 1 den_want_letters) := by
  refine fn_ok T.F_want_letters sc_want_letters fun cdv A outer s H E hr => ?_
  have nd := sc_want_letters.nd
  exact pxs_one (px_if (pxt_not (pxt_val (px_call [false] (ok_are_letters_value T) hr T.m_are_letters_value T.F_are_letters_value.kp T.b_are_letters_value (pxa_cons (px_name 0) (pxa_nil))))) (pxs_one (px_never)) (pxs_nil))
theorem ok_words_counted (T : Top K mg) : FnG P w K mg base CX0 2 T.f_words_counted T.d_words_counted ["letters"] (spF K 1 den_words_counted) := by
  refine fn_ok T.F_words_counted sc_words_counted fun cdv A outer s H E hr => ?_
  have nd := sc_words_counted.nd
  exact pxs_cons (px_asg (px_tup (pxa_cons (px_int) (pxa_cons (px_int) (pxa_nil)))) (pxg_tup rfl (pxgs_cons (pxg_fix 2 nd) (pxgs_cons (pxg_fix 3 nd) (pxgs_nil))))) (pxs_cons (px_for PassesOwn.never rfl (pxi_seq (px_name 0)) (pxg_fix 1 nd) (pxs_cons (px_fix 3 nd (px_op op_addB vop_addB (px_name 3) (px_name 1))) (pxs_one (px_fix 2 nd (px_op op_mulA vop_mulB (px_name 2) (px_call [false, false] (ok_choose_of T) hr T.m_choose_of T.F_choose_of.kp T.b_choose_of (pxa_cons (px_name 3) (pxa_cons (px_name 1) (pxa_nil))))))))) (pxs_one (px_ret (px_name 2))))
theorem ok_many_words (T : Top K mg) : FnG P w K mg base CX0 5 T.f_many_words T.d_many_words ["letters"] (spF K 1 den_many_words) := by
  refine fn_ok T.F_many_words sc_many_words fun cdv A outer s H E hr => ?_
  have nd := sc_many_words.nd
  exact pxs_cons (px_expr (px_call [false] (ok_want_letters T) hr T.m_want_letters T.F_want_letters.kp T.b_want_letters (pxa_cons (px_name 0) (pxa_nil)))) (pxs_one (px_ret (px_call [false] ((ok_words_counted T).mono (by decide)) hr T.m_words_counted T.F_words_counted.kp T.b_words_counted (pxa_cons (px_name 0) (pxa_nil)))))
theorem ok_want_many_to (T : Top K mg) : FnG P w K mg base CX0 3 T.f_want_many_to T.d_want_many_to ["many", "most"] (spF K 2 den_want_many_to) := by
  refine fn_ok T.F_want_many_to sc_want_many_to fun cdv A outer s H E hr => ?_
  have nd := sc_want_many_to.nd
  exact pxs_one (px_if (pxt_not (pxt_val (px_call [false, false, false] (ok_is_within T) hr T.m_is_within T.F_is_within.kp T.b_is_within (pxa_cons (px_name 0) (pxa_cons (px_int) (pxa_cons (px_name 1) (pxa_nil))))))) (pxs_one (px_never)) (pxs_nil))
theorem ok_catalan_of (T : Top K mg) : FnG P w K mg base CX0 2 T.f_catalan_of T.d_catalan_of ["many"] (spF K 1 den_catalan_of) := by
  refine fn_ok T.F_catalan_of sc_catalan_of fun cdv A outer s H E hr => ?_
  have nd := sc_catalan_of.nd
  exact pxs_one (px_ret (px_op op_fdivW vop_div (px_call [false, false] (ok_choose_of T) hr T.m_choose_of T.F_choose_of.kp T.b_choose_of (pxa_cons (px_op op_mulA vop_mulB (px_int) (px_name 0)) (pxa_cons (px_name 0) (pxa_nil)))) (px_op op_addB vop_addB (px_name 0) (px_int))))
theorem ok_many_brackets (T : Top K mg) : FnG P w K mg base CX0 4 T.f_many_brackets T.d_many_brackets ["many"] (spF K 1 den_many_brackets) := by
  refine fn_ok T.F_many_brackets sc_many_brackets fun cdv A outer s H E hr => ?_
  have nd := sc_many_brackets.nd
  exact pxs_cons (px_expr (px_call [false, false] (ok_want_many_to T) hr T.m_want_many_to T.F_want_many_to.kp T.b_want_many_to (pxa_cons (px_name 0) (pxa_cons (px_glob (v := .int 200) rfl T.c_MOST_MANY ⟨_, rfl⟩ (.int _)) (pxa_nil))))) (pxs_one (px_ret (px_call [false] ((ok_catalan_of T).mono (by decide)) hr T.m_catalan_of T.F_catalan_of.kp T.b_catalan_of (pxa_cons (px_name 0) (pxa_nil)))))
theorem ok_want_line (T : Top K mg) : FnG P w K mg base CX0 3 T.f_want_line T.d_want_line ["line"] (spF K 1 den_want_line) := by
  refine fn_ok T.F_want_line sc_want_line fun cdv A outer s H E hr => ?_
  have nd := sc_want_line.nd
  exact pxs_one (px_if (pxt_not (pxt_val (px_call [false, false, false] (ok_is_within T) hr T.m_is_within T.F_is_within.kp T.b_is_within (pxa_cons (px_name 0) (pxa_cons (px_int) (pxa_cons (px_glob (v := .int 200) rfl T.c_MOST_MANY ⟨_, rfl⟩ (.int _)) (pxa_nil))))))) (pxs_one (px_never)) (pxs_nil))
theorem ok_below_of (T : Top K mg) : FnG P w K mg base CX0 2 T.f_below_of T.d_below_of ["rights", "ups", "line"] (spF K 3 den_below_of) := by
  refine fn_ok T.F_below_of sc_below_of fun cdv A outer s H E hr => ?_
  have nd := sc_below_of.nd
  exact pxs_cons (px_if (PXW.t (pxw_or (pxt_cmp op_lt vop_lt (px_name 2) (px_int)) (pxw_or (pxt_cmp op_lt vop_lt (px_name 0) (px_int)) (pxw_or (pxt_cmp op_lt vop_lt (px_name 1) (px_int)) (pxw_or1 (pxt_cmp op_gt vop_gt (px_op op_sub vop_sub (px_name 1) (px_name 0)) (px_name 2))))))) (pxs_one (px_ret (px_int))) (pxs_nil)) (pxs_cons (px_fix 3 nd (px_call [false, false] (ok_choose_of T) hr T.m_choose_of T.F_choose_of.kp T.b_choose_of (pxa_cons (px_op op_addB vop_addB (px_name 0) (px_name 1)) (pxa_cons (px_name 1) (pxa_nil))))) (pxs_one (px_ret (px_ifExp (pxt_cmp op_gt vop_gt (px_name 1) (px_name 2)) (px_op op_sub vop_sub (px_name 3) (px_call [false, false] (ok_choose_of T) hr T.m_choose_of T.F_choose_of.kp T.b_choose_of (pxa_cons (px_op op_addB vop_addB (px_name 0) (px_name 1)) (pxa_cons (px_op op_sub vop_sub (px_op op_sub vop_sub (px_name 1) (px_name 2)) (px_int)) (pxa_nil))))) (px_name 3)))))
theorem ok_many_below (T : Top K mg) : FnG P w K mg base CX0 4 T.f_many_below T.d_many_below ["rights", "ups", "line"] (spF K 3 den_many_below) := by
  refine fn_ok T.F_many_below sc_many_below fun cdv A outer s H E hr => ?_
  have nd := sc_many_below.nd
  exact pxs_cons (px_expr (px_call [false, false] (ok_want_steps T) hr T.m_want_steps T.F_want_steps.kp T.b_want_steps (pxa_cons (px_name 0) (pxa_cons (px_name 1) (pxa_nil))))) (pxs_cons (px_expr (px_call [false] (ok_want_line T) hr T.m_want_line T.F_want_line.kp T.b_want_line (pxa_cons (px_name 2) (pxa_nil)))) (pxs_one (px_ret (px_call [false, false, false] ((ok_below_of T).mono (by decide)) hr T.m_below_of T.F_below_of.kp T.b_below_of (pxa_cons (px_name 0) (pxa_cons (px_name 1) (pxa_cons (px_name 2) (pxa_nil))))))))
theorem ok_digit_sum (T : Top K mg) : FnG P w K mg base CX0 4 T.f_digit_sum T.d_digit_sum ["prime", "number"] (spF K 2 den_digit_sum) := by
  refine fn_ok T.F_digit_sum sc_digit_sum fun cdv A outer s H E hr => ?_
  have nd := sc_digit_sum.nd
  exact pxs_cons (px_expr (px_call [false] (ok_want_prime T) hr T.m_want_prime T.F_want_prime.kp T.b_want_prime (pxa_cons (px_name 0) (pxa_nil)))) (pxs_cons (px_expr (px_call [false] (ok_want_great T) hr T.m_want_great T.F_want_great.kp T.b_want_great (pxa_cons (px_name 1) (pxa_nil)))) (pxs_one (px_ret (px_callB (cr_sum rfl) vop_sum rfl T.z_sum rfl (pxa_cons (px_call [false, false] ((ok_digits_of T).mono (by decide)) hr T.m_digits_of T.F_digits_of.kp T.b_digits_of (pxa_cons (px_name 0) (pxa_cons (px_name 1) (pxa_nil)))) (pxa_nil))))))
theorem ok__law_products_right (T : Top K mg) : FnG P w K mg base CX0 6 T.f__law_products_right T.d__law_products_right ["pot", "prime"] (spF K 2 den__law_products_right) := by
  refine fn_ok T.F__law_products_right sc__law_products_right fun cdv A outer s H E hr => ?_
  have nd := sc__law_products_right.nd
  exact pxs_cons (px_fix 2 nd (px_call [true, false] ((ok__law_draw T).mono (by decide)) hr T.m__law_draw T.F__law_draw.kp T.b__law_draw (pxa_cons (px_name 0) (pxa_cons (px_int) (pxa_nil))))) (pxs_cons (px_fix 3 nd (px_call [false] ((ok_many_orders T).mono (by decide)) hr T.m_many_orders T.F_many_orders.kp T.b_many_orders (pxa_cons (px_name 2) (pxa_nil)))) (pxs_cons (px_par2 9 10 rfl nd (pxa_cons (px_name 3) (pxa_cons (px_call [false, false] ((ok__law_often T).mono (by decide)) hr T.m__law_often T.F__law_often.kp T.b__law_often (pxa_cons (px_name 1) (pxa_cons (px_name 3) (pxa_nil)))) (pxa_nil)))) (pxs_frz 10 (pxs_frz 9 (pxs_cons (px_for PassesOwn.never rfl (pxi_range1 T.z_range (pxa_cons (px_name 10) (pxa_nil))) (pxg_fix 4 nd) (pxs_one (px_fix 9 nd (px_op op_fdivW vop_div (px_name 9) (px_name 1))))) (pxs_cons (px_if (PXW.t (pxw_or (pxt_cmp (op_neB hr.hu64) vop_ne (px_callP0 [false, false] ((ok_product_times T).mono (by decide)) hr T.m_product_times T.F_product_times.kp (Fun.kbd (ps := ["prime", "number"]) (ks := ["number", "prime"]) (n := 0) (pm := [1, 0]) T.F_product_times (fun _ _ _ _ _ _ us ws h1 h2 => match us, ws, h1, h2 with | [], [_, _], _, _ => rfl)) (pxk_cons (px_name 2) (pxk_cons (px_name 1) (pxk_nil)))) (px_name 10)) (pxw_or (pxt_cmp (op_neB hr.hu64) vop_ne (px_call [false, false] ((ok_product_rest T).mono (by decide)) hr T.m_product_rest T.F_product_rest.kp T.b_product_rest (pxa_cons (px_name 1) (pxa_cons (px_name 2) (pxa_nil)))) (px_op op_mod vop_mod (px_callTy call_int1 vop_int rfl T.z_int rfl (pxa_cons (px_name 9) (pxa_nil))) (px_name 1))) (pxw_or1 (pxt_cmp (op_neB hr.hu64) vop_ne (px_op op_mulA vop_mulB (px_name 10) (px_op op_sub vop_sub (px_name 1) (px_int))) (px_op op_sub vop_sub (px_name 2) (px_call [false, false] ((ok_digit_sum T).mono (by decide)) hr T.m_digit_sum T.F_digit_sum.kp T.b_digit_sum (pxa_cons (px_name 1) (pxa_cons (px_name 2) (pxa_nil)))))))))) (pxs_one (px_ret (px_bl))) (pxs_nil)) (pxs_cons (px_fixLc 5 rfl nd (own := [("turn", 4)]) (pxi_range1 T.z_range (pxa_cons (px_call [true, false] ((ok__law_draw T).mono (by decide)) hr T.m__law_draw T.F__law_draw.kp T.b__law_draw (pxa_cons (px_name 0) (pxa_cons (px_int) (pxa_nil)))) (pxa_nil))) (blk_ok rfl) (fun _ _ _ _ _ => pxg_fix 4 nd) (fun _ _ _ _ _ => pxts_nil) (fun _ _ _ _ _ => px_call [true, false] ((ok__law_draw T).mono (by decide)) hr T.m__law_draw T.F__law_draw.kp T.b__law_draw (pxa_cons (px_name 0) (pxa_cons (px_int) (pxa_nil))))) (pxs_cons (px_fix 6 nd (px_op op_sub vop_sub (px_call [false, false] ((ok_product_times T).mono (by decide)) hr T.m_product_times T.F_product_times.kp T.b_product_times (pxa_cons (px_name 1) (pxa_cons (px_callB (cr_sum rfl) vop_sum rfl T.z_sum rfl (pxa_cons (px_name 5) (pxa_nil))) (pxa_nil)))) (px_callB (cr_sum rfl) vop_sum rfl T.z_sum rfl (pxa_cons (px_lc rfl nd (own := [("one", 11)]) (pxi_seq (px_name 5)) (blk_ok rfl) (fun _ _ _ _ _ => pxg_fix 11 nd) (fun _ _ _ _ _ => pxts_nil) (fun _ _ _ _ _ => px_call [false, false] ((ok_product_times T).mono (by decide)) hr T.m_product_times T.F_product_times.kp T.b_product_times (pxa_cons (px_name 1) (pxa_cons (px_name 11) (pxa_nil))))) (pxa_nil))))) (pxs_cons (px_if (pxt_cmp (op_neB hr.hu64) vop_ne (px_call [false, false] ((ok__law_often T).mono (by decide)) hr T.m__law_often T.F__law_often.kp T.b__law_often (pxa_cons (px_name 1) (pxa_cons (px_call [false] (ok_many_words T) hr T.m_many_words T.F_many_words.kp T.b_many_words (pxa_cons (px_name 5) (pxa_nil))) (pxa_nil)))) (px_name 6)) (pxs_one (px_ret (px_bl))) (pxs_nil)) (pxs_cons (px_fix 7 nd (px_call [true, false] ((ok__law_draw T).mono (by decide)) hr T.m__law_draw T.F__law_draw.kp T.b__law_draw (pxa_cons (px_name 0) (pxa_cons (px_int) (pxa_nil))))) (pxs_cons (px_if (pxt_cmp (op_neB hr.hu64) vop_ne (px_call [false, false] ((ok__law_often T).mono (by decide)) hr T.m__law_often T.F__law_often.kp T.b__law_often (pxa_cons (px_name 1) (pxa_cons (px_call [false] ((ok_many_brackets T).mono (by decide)) hr T.m_many_brackets T.F_many_brackets.kp T.b_many_brackets (pxa_cons (px_name 7) (pxa_nil))) (pxa_nil)))) (px_op op_sub vop_sub (px_call [false, false, false] (ok_choice_times T) hr T.m_choice_times T.F_choice_times.kp T.b_choice_times (pxa_cons (px_name 1) (pxa_cons (px_op op_mulA vop_mulB (px_int) (px_name 7)) (pxa_cons (px_name 7) (pxa_nil))))) (px_call [false, false] ((ok__law_often T).mono (by decide)) hr T.m__law_often T.F__law_often.kp T.b__law_often (pxa_cons (px_name 1) (pxa_cons (px_op op_addB vop_addB (px_name 7) (px_int)) (pxa_nil)))))) (pxs_one (px_ret (px_bl))) (pxs_nil)) (pxs_cons (px_fix 8 nd (px_call [true, false] ((ok__law_draw T).mono (by decide)) hr T.m__law_draw T.F__law_draw.kp T.b__law_draw (pxa_cons (px_name 0) (pxa_cons (px_int) (pxa_nil))))) (pxs_one (px_ret (px_cmp (op_eqB hr.hu64) vop_eq (px_call [false, false] ((ok__law_often T).mono (by decide)) hr T.m__law_often T.F__law_often.kp T.b__law_often (pxa_cons (px_name 1) (pxa_cons (px_call [false, false, false] ((ok_many_below T).mono (by decide)) hr T.m_many_below T.F_many_below.kp T.b_many_below (pxa_cons (px_name 8) (pxa_cons (px_name 8) (pxa_cons (px_int) (pxa_nil))))) (pxa_nil)))) (px_op op_sub vop_sub (px_call [false, false, false] (ok_choice_times T) hr T.m_choice_times T.F_choice_times.kp T.b_choice_times (pxa_cons (px_name 1) (pxa_cons (px_op op_mulA vop_mulB (px_int) (px_name 8)) (pxa_cons (px_name 8) (pxa_nil))))) (px_call [false, false] ((ok__law_often T).mono (by decide)) hr T.m__law_often T.F__law_often.kp T.b__law_often (pxa_cons (px_name 1) (pxa_cons (px_op op_addB vop_addB (px_name 8) (px_int)) (pxa_nil))))))))))))))))))))
theorem ok_row_common (T : Top K mg) : FnG P w K mg base CX0 3 T.f_row_common T.d_row_common ["many"] (spF K 1 den_row_common) := by
  refine fn_ok T.F_row_common sc_row_common fun cdv A outer s H E hr => ?_
  have nd := sc_row_common.nd
  exact pxs_cons (px_if (pxt_not (pxt_val (px_call [false, false, false] (ok_is_within T) hr T.m_is_within T.F_is_within.kp T.b_is_within (pxa_cons (px_name 0) (pxa_cons (px_int) (pxa_cons (px_glob (v := .int 200) rfl T.c_MOST_MANY ⟨_, rfl⟩ (.int _)) (pxa_nil))))))) (pxs_one (px_never)) (pxs_nil)) (pxs_cons (px_fix 1 nd (px_name 0)) (pxs_cons (px_for PassesOwn.never rfl (pxi_range2 T.z_range (pxa_cons (px_int) (pxa_cons (px_name 0) (pxa_nil)))) (pxg_fix 2 nd) (pxs_cons (px_fix 3 nd (px_call [false, false] ((ok_choose_of T).mono (by decide)) hr T.m_choose_of T.F_choose_of.kp T.b_choose_of (pxa_cons (px_name 0) (pxa_cons (px_name 2) (pxa_nil))))) (pxs_one (px_while fuel PassesOwn.never (pxt_cmp op_gt vop_gt (px_name 3) (px_int)) (pxs_cons (px_par2 1 3 rfl nd (pxa_cons (px_name 3) (pxa_cons (px_op op_mod vop_mod (px_callTy call_int1 vop_int rfl T.z_int rfl (pxa_cons (px_name 1) (pxa_nil))) (px_name 3)) (pxa_nil)))) (pxs_frz 1 (pxs_nil))))))) (pxs_one (px_ret (px_name 1)))))
theorem ok__law_prime_right (T : Top K mg) : FnG P w K mg base CX0 6 T.f__law_prime_right T.d__law_prime_right ["prime"] (spF K 1 den__law_prime_right) := by
  refine fn_ok T.F__law_prime_right sc__law_prime_right fun cdv A outer s H E hr => ?_
  have nd := sc__law_prime_right.nd
  exact pxs_cons (px_if (PXW.t (pxw_or (pxt_cmp (op_neB hr.hu64) vop_ne (px_call [false, false] ((ok_row_rests T).mono (by decide)) hr T.m_row_rests T.F_row_rests.kp T.b_row_rests (pxa_cons (px_name 0) (pxa_cons (px_name 0) (pxa_nil)))) (px_op op_addB vop_addB (px_op op_addB vop_addB (px_lst (pxa_cons (px_int) (pxa_nil))) (px_op op_mulA vop_mulB (px_lst (pxa_cons (px_int) (pxa_nil))) (px_op op_sub vop_sub (px_name 0) (px_int)))) (px_lst (pxa_cons (px_int) (pxa_nil))))) (pxw_or1 (pxt_cmp (op_neB hr.hu64) vop_ne (px_call [false] ((ok_row_common T).mono (by decide)) hr T.m_row_common T.F_row_common.kp T.b_row_common (pxa_cons (px_name 0) (pxa_nil))) (px_name 0))))) (pxs_one (px_ret (px_bl))) (pxs_nil)) (pxs_cons (px_if (PXW.t (pxw_or (pxt_cmp (op_neB hr.hu64) vop_ne (px_call [false, false] ((ok_product_rest T).mono (by decide)) hr T.m_product_rest T.F_product_rest.kp T.b_product_rest (pxa_cons (px_name 0) (pxa_cons (px_op op_sub vop_sub (px_name 0) (px_int)) (pxa_nil)))) (px_op op_sub vop_sub (px_name 0) (px_int))) (pxw_or1 (pxt_cmp (op_neB hr.hu64) vop_ne (px_call [false, false] ((ok_row_rests T).mono (by decide)) hr T.m_row_rests T.F_row_rests.kp T.b_row_rests (pxa_cons (px_name 0) (pxa_cons (px_op op_sub vop_sub (px_name 0) (px_int)) (pxa_nil)))) (px_lc rfl nd (own := [("at", 1)]) (pxi_range1 T.z_range (pxa_cons (px_name 0) (pxa_nil))) (blk_ok rfl) (fun _ _ _ _ _ => pxg_fix 1 nd) (fun _ _ _ _ _ => pxts_nil) (fun _ _ _ _ _ => px_ifExp (pxt_cmp (op_eqB hr.hu64) vop_eq (px_op op_mod vop_mod (px_name 1) (px_int)) (px_int)) (px_int) (px_op op_mod vop_mod (px_callTy call_int1 vop_int rfl T.z_int rfl (pxa_cons (px_op op_sub vop_sub (px_int) (px_int)) (pxa_nil))) (px_name 0)))))))) (pxs_one (px_ret (px_bl))) (pxs_nil)) (pxs_one (px_ret (px_and (px_cmp (op_eqB hr.hu64) vop_eq (px_call [false, false] ((ok_row_left T).mono (by decide)) hr T.m_row_left T.F_row_left.kp T.b_row_left (pxa_cons (px_name 0) (pxa_cons (px_op op_sub vop_sub (px_name 0) (px_int)) (pxa_nil)))) (px_name 0)) (px_tB (px_one (px_cmp (op_eqB hr.hu64) vop_eq (px_call [false, false, false] (ok_choice_times T) hr T.m_choice_times T.F_choice_times.kp T.b_choice_times (pxa_cons (px_name 0) (pxa_cons (px_op op_mulA vop_mulB (px_name 0) (px_name 0)) (pxa_cons (px_int) (pxa_nil))))) (px_int))))))))
theorem ok_want_count (T : Top K mg) : FnG P w K mg base CX0 3 T.f_want_count T.d_want_count ["count"] (spF K 1 den_want_count) := by
  refine fn_ok T.F_want_count sc_want_count fun cdv A outer s H E hr => ?_
  have nd := sc_want_count.nd
  exact pxs_one (px_if (pxt_not (pxt_val (px_call [false, false, false] (ok_is_within T) hr T.m_is_within T.F_is_within.kp T.b_is_within (pxa_cons (px_name 0) (pxa_cons (px_int) (pxa_cons (px_glob (v := .int 200) rfl T.c_MOST_PLACE ⟨_, rfl⟩ (.int _)) (pxa_nil))))))) (pxs_one (px_never)) (pxs_nil))
theorem ok_fib_of (T : Top K mg) : FnG P w K mg base CX0 1 T.f_fib_of T.d_fib_of ["count"] (spF K 1 den_fib_of) := by
  refine fn_ok T.F_fib_of sc_fib_of fun cdv A outer s H E hr => ?_
  have nd := sc_fib_of.nd
  exact pxs_cons (px_asg (px_tup (pxa_cons (px_int) (pxa_cons (px_int) (pxa_nil)))) (pxg_tup rfl (pxgs_cons (pxg_fix 2 nd) (pxgs_cons (pxg_fix 3 nd) (pxgs_nil))))) (pxs_cons (px_for PassesOwn.never rfl (pxi_range1 T.z_range (pxa_cons (px_name 0) (pxa_nil))) (pxg_fix 1 nd) (pxs_cons (px_par2 2 3 rfl nd (pxa_cons (px_name 3) (pxa_cons (px_op op_addB vop_addB (px_name 2) (px_name 3)) (pxa_nil)))) (pxs_frz 3 (pxs_frz 2 (pxs_nil))))) (pxs_one (px_ret (px_name 2))))
theorem ok_fib (T : Top K mg) : FnG P w K mg base CX0 4 T.f_fib T.d_fib ["count"] (spF K 1 den_fib) := by
  refine fn_ok T.F_fib sc_fib fun cdv A outer s H E hr => ?_
  have nd := sc_fib.nd
  exact pxs_cons (px_expr (px_call [false] (ok_want_count T) hr T.m_want_count T.F_want_count.kp T.b_want_count (pxa_cons (px_name 0) (pxa_nil)))) (pxs_one (px_ret (px_call [false] ((ok_fib_of T).mono (by decide)) hr T.m_fib_of T.F_fib_of.kp T.b_fib_of (pxa_cons (px_name 0) (pxa_nil)))))
theorem ok_want_numbers (T : Top K mg) : FnG P w K mg base CX0 3 T.f_want_numbers T.d_want_numbers ["numbers"] (spF K 1 den_want_numbers) := by
  refine fn_ok T.F_want_numbers sc_want_numbers fun cdv A outer s H E hr => ?_
  have nd := sc_want_numbers.nd
  exact pxs_cons (px_if (PXW.t (pxw_or (pxt_not (pxt_val (px_call [false] ((ok_is_list T).mono (by decide)) hr T.m_is_list T.F_is_list.kp T.b_is_list (pxa_cons (px_name 0) (pxa_nil))))) (pxw_or1 (pxt_cmp op_gt vop_gt (px_callB call_len vop_len rfl T.z_len rfl (pxa_cons (px_name 0) (pxa_nil))) (px_glob (v := .int 60) rfl T.c_MOST_NUMBERS ⟨_, rfl⟩ (.int _)))))) (pxs_one (px_never)) (pxs_nil)) (pxs_one (px_if (pxt_not (pxt_val (px_callB (cr_all rfl) vop_all rfl T.z_all rfl (pxa_cons (px_lc rfl nd (own := [("one", 1)]) (pxi_seq (px_name 0)) (blk_ok rfl) (fun _ _ _ _ _ => pxg_fix 1 nd) (fun _ _ _ _ _ => pxts_nil) (fun _ _ _ _ _ => px_call [false, false, false] (ok_is_within T) hr T.m_is_within T.F_is_within.kp T.b_is_within (pxa_cons (px_name 1) (pxa_cons (px_op op_sub vop_sub (px_int) (px_glob (v := .int 1000000000000) rfl T.c_MOST_SIZE ⟨_, rfl⟩ (.int _))) (pxa_cons (px_glob (v := .int 1000000000000) rfl T.c_MOST_SIZE ⟨_, rfl⟩ (.int _)) (pxa_nil)))))) (pxa_nil))))) (pxs_one (px_never)) (pxs_nil)))
theorem ok_row_below (T : Top K mg) : FnG P w K mg base CX0 1 T.f_row_below T.d_row_below ["numbers"] (spF K 1 den_row_below) := by
  refine fn_ok T.F_row_below sc_row_below fun cdv A outer s H E hr => ?_
  have nd := sc_row_below.nd
  exact pxs_one (px_ret (px_lc rfl nd (own := [("near", 1), ("far", 2)]) (pxi_zip T.z_zip (pxa_cons (px_name 0) (pxa_cons (px_slice (px_name 0) (pxo_some (px_int)) (pxo_none)) (pxa_nil)))) (blk_ok rfl) (fun _ _ _ _ _ => pxg_tup rfl (pxgs_cons (pxg_fix 1 nd) (pxgs_cons (pxg_fix 2 nd) (pxgs_nil)))) (fun _ _ _ _ _ => pxts_nil) (fun _ _ _ _ _ => px_op op_sub vop_sub (px_name 2) (px_name 1))))
theorem ok_difference_row (T : Top K mg) : FnG P w K mg base CX0 4 T.f_difference_row T.d_difference_row ["numbers"] (spF K 1 den_difference_row) := by
  refine fn_ok T.F_difference_row sc_difference_row fun cdv A outer s H E hr => ?_
  have nd := sc_difference_row.nd
  exact pxs_cons (px_expr (px_call [false] (ok_want_numbers T) hr T.m_want_numbers T.F_want_numbers.kp T.b_want_numbers (pxa_cons (px_name 0) (pxa_nil)))) (pxs_one (px_ret (px_call [false] ((ok_row_below T).mono (by decide)) hr T.m_row_below T.F_row_below.kp T.b_row_below (pxa_cons (px_name 0) (pxa_nil)))))
theorem ok_summed_at (T : Top K mg) : FnG P w K mg base CX0 2 T.f_summed_at T.d_summed_at ["numbers", "place"] (spF K 2 den_summed_at) := by
  refine fn_ok T.F_summed_at sc_summed_at fun cdv A outer s H E hr => ?_
  have nd := sc_summed_at.nd
  exact pxs_one (px_ret (px_callB (cr_sum rfl) vop_sum rfl T.z_sum rfl (pxa_cons (px_lc rfl nd (own := [("at", 2), ("one", 3)]) (pxi_enu T.z_enumerate (pxa_cons (px_slice (px_name 0) (pxo_none) (pxo_some (px_op op_addB vop_addB (px_name 1) (px_int)))) (pxa_nil))) (blk_ok rfl) (fun _ _ _ _ _ => pxg_tup rfl (pxgs_cons (pxg_fix 2 nd) (pxgs_cons (pxg_fix 3 nd) (pxgs_nil)))) (fun _ _ _ _ _ => pxts_nil) (fun _ _ _ _ _ => px_op op_mulA vop_mulB (px_call [false, false] (ok_choose_of T) hr T.m_choose_of T.F_choose_of.kp T.b_choose_of (pxa_cons (px_name 1) (pxa_cons (px_name 2) (pxa_nil)))) (px_name 3))) (pxa_nil))))
theorem ok_sums_of (T : Top K mg) : FnG P w K mg base CX0 3 T.f_sums_of T.d_sums_of ["numbers"] (spF K 1 den_sums_of) := by
  refine fn_ok T.F_sums_of sc_sums_of fun cdv A outer s H E hr => ?_
  have nd := sc_sums_of.nd
  exact pxs_one (px_ret (px_lc rfl nd (own := [("place", 1)]) (pxi_range1 T.z_range (pxa_cons (px_callB call_len vop_len rfl T.z_len rfl (pxa_cons (px_name 0) (pxa_nil))) (pxa_nil))) (blk_ok rfl) (fun _ _ _ _ _ => pxg_fix 1 nd) (fun _ _ _ _ _ => pxts_nil) (fun _ _ _ _ _ => px_call [false, false] (ok_summed_at T) hr T.m_summed_at T.F_summed_at.kp T.b_summed_at (pxa_cons (px_name 0) (pxa_cons (px_name 1) (pxa_nil))))))
theorem ok_choice_sums (T : Top K mg) : FnG P w K mg base CX0 4 T.f_choice_sums T.d_choice_sums ["numbers"] (spF K 1 den_choice_sums) := by
  refine fn_ok T.F_choice_sums sc_choice_sums fun cdv A outer s H E hr => ?_
  have nd := sc_choice_sums.nd
  exact pxs_cons (px_expr (px_call [false] (ok_want_numbers T) hr T.m_want_numbers T.F_want_numbers.kp T.b_want_numbers (pxa_cons (px_name 0) (pxa_nil)))) (pxs_one (px_ret (px_call [false] (ok_sums_of T) hr T.m_sums_of T.F_sums_of.kp T.b_sums_of (pxa_cons (px_name 0) (pxa_nil)))))
theorem ok_signed (T : Top K mg) : FnG P w K mg base CX0 1 T.f_signed T.d_signed ["numbers"] (spF K 1 den_signed) := by
  refine fn_ok T.F_signed sc_signed fun cdv A outer s H E hr => ?_
  have nd := sc_signed.nd
  exact pxs_one (px_ret (px_lc rfl nd (own := [("at", 1), ("one", 2)]) (pxi_enu T.z_enumerate (pxa_cons (px_name 0) (pxa_nil))) (blk_ok rfl) (fun _ _ _ _ _ => pxg_tup rfl (pxgs_cons (pxg_fix 1 nd) (pxgs_cons (pxg_fix 2 nd) (pxgs_nil)))) (fun _ _ _ _ _ => pxts_nil) (fun _ _ _ _ _ => px_ifExp (pxt_cmp (op_eqB hr.hu64) vop_eq (px_op op_mod vop_mod (px_callTy call_int1 vop_int rfl T.z_int rfl (pxa_cons (px_name 1) (pxa_nil))) (px_int)) (px_int)) (px_name 2) (px_op op_sub vop_sub (px_int) (px_name 2)))))
theorem ok_back_of (T : Top K mg) : FnG P w K mg base CX0 4 T.f_back_of T.d_back_of ["numbers"] (spF K 1 den_back_of) := by
  refine fn_ok T.F_back_of sc_back_of fun cdv A outer s H E hr => ?_
  have nd := sc_back_of.nd
  exact pxs_one (px_ret (px_call [false] ((ok_signed T).mono (by decide)) hr T.m_signed T.F_signed.kp T.b_signed (pxa_cons (px_call [false] (ok_sums_of T) hr T.m_sums_of T.F_sums_of.kp T.b_sums_of (pxa_cons (px_call [false] ((ok_signed T).mono (by decide)) hr T.m_signed T.F_signed.kp T.b_signed (pxa_cons (px_name 0) (pxa_nil))) (pxa_nil))) (pxa_nil))))
theorem ok_taken_back (T : Top K mg) : FnG P w K mg base CX0 5 T.f_taken_back T.d_taken_back ["numbers"] (spF K 1 den_taken_back) := by
  refine fn_ok T.F_taken_back sc_taken_back fun cdv A outer s H E hr => ?_
  have nd := sc_taken_back.nd
  exact pxs_cons (px_expr (px_call [false] ((ok_want_numbers T).mono (by decide)) hr T.m_want_numbers T.F_want_numbers.kp T.b_want_numbers (pxa_cons (px_name 0) (pxa_nil)))) (pxs_one (px_ret (px_call [false] (ok_back_of T) hr T.m_back_of T.F_back_of.kp T.b_back_of (pxa_cons (px_name 0) (pxa_nil)))))
theorem ok__law_fibonacci_right (T : Top K mg) : FnG P w K mg base CX0 6 T.f__law_fibonacci_right T.d__law_fibonacci_right ["pot"] (spF K 1 den__law_fibonacci_right) := by
  refine fn_ok T.F__law_fibonacci_right sc__law_fibonacci_right fun cdv A outer s H E hr => ?_
  have nd := sc__law_fibonacci_right.nd
  exact pxs_cons (px_fix 1 nd (px_op op_addB vop_addB (px_int) (px_call [true, false] ((ok__law_draw T).mono (by decide)) hr T.m__law_draw T.F__law_draw.kp T.b__law_draw (pxa_cons (px_name 0) (pxa_cons (px_int) (pxa_nil)))))) (pxs_cons (px_fixLc 2 rfl nd (own := [("at", 3)]) (pxi_range1 T.z_range (pxa_cons (px_name 1) (pxa_nil))) (blk_ok rfl) (fun _ _ _ _ _ => pxg_fix 3 nd) (fun _ _ _ _ _ => pxts_nil) (fun _ _ _ _ _ => px_call [false] ((ok_fib T).mono (by decide)) hr T.m_fib T.F_fib.kp T.b_fib (pxa_cons (px_name 3) (pxa_nil)))) (pxs_cons (px_if (PXW.t (pxw_or (pxt_cmp (op_neB hr.hu64) vop_ne (px_call [false] ((ok_choice_sums T).mono (by decide)) hr T.m_choice_sums T.F_choice_sums.kp T.b_choice_sums (pxa_cons (px_name 2) (pxa_nil))) (px_lc rfl nd (own := [("at", 3)]) (pxi_range1 T.z_range (pxa_cons (px_name 1) (pxa_nil))) (blk_ok rfl) (fun _ _ _ _ _ => pxg_fix 3 nd) (fun _ _ _ _ _ => pxts_nil) (fun _ _ _ _ _ => px_call [false] ((ok_fib T).mono (by decide)) hr T.m_fib T.F_fib.kp T.b_fib (pxa_cons (px_op op_mulA vop_mulB (px_int) (px_name 3)) (pxa_nil))))) (pxw_or1 (pxt_cmp (op_neB hr.hu64) vop_ne (px_call [false] (ok_taken_back T) hr T.m_taken_back T.F_taken_back.kp T.b_taken_back (pxa_cons (px_lc rfl nd (own := [("at", 3)]) (pxi_range1 T.z_range (pxa_cons (px_name 1) (pxa_nil))) (blk_ok rfl) (fun _ _ _ _ _ => pxg_fix 3 nd) (fun _ _ _ _ _ => pxts_nil) (fun _ _ _ _ _ => px_call [false] ((ok_fib T).mono (by decide)) hr T.m_fib T.F_fib.kp T.b_fib (pxa_cons (px_op op_mulA vop_mulB (px_int) (px_name 3)) (pxa_nil)))) (pxa_nil))) (px_name 2))))) (pxs_one (px_ret (px_bl))) (pxs_nil)) (pxs_one (px_ret (px_cmp (op_eqB hr.hu64) vop_eq (px_call [false] ((ok_difference_row T).mono (by decide)) hr T.m_difference_row T.F_difference_row.kp T.b_difference_row (pxa_cons (px_lc rfl nd (own := [("at", 3)]) (pxi_range1 T.z_range (pxa_cons (px_name 1) (pxa_nil))) (blk_ok rfl) (fun _ _ _ _ _ => pxg_fix 3 nd) (fun _ _ _ _ _ => pxts_nil) (fun _ _ _ _ _ => px_call [false] ((ok_fib T).mono (by decide)) hr T.m_fib T.F_fib.kp T.b_fib (pxa_cons (px_op op_addB vop_addB (px_name 3) (px_int)) (pxa_nil)))) (pxa_nil))) (px_slice (px_name 2) (pxo_none) (pxo_some (px_op op_sub vop_sub (px_name 1) (px_int)))))))))
theorem ok__law_right (T : Top K mg) : FnG P w K mg base CX0 7 T.f__law_right T.d__law_right ["pot"] (spF K 1 den__law_right) := by
  refine fn_ok T.F__law_right sc__law_right fun cdv A outer s H E hr => ?_
  have nd := sc__law_right.nd
  exact pxs_cons (px_fix 1 nd (px_call [true] ((ok__law_prime T).mono (by decide)) hr T.m__law_prime T.F__law_prime.kp T.b__law_prime (pxa_cons (px_name 0) (pxa_nil)))) (pxs_one (px_ret (px_and (px_call [true, false] (ok__law_choices_right T) hr T.m__law_choices_right T.F__law_choices_right.kp T.b__law_choices_right (pxa_cons (px_name 0) (pxa_cons (px_name 1) (pxa_nil)))) (px_and (px_call [true, false] (ok__law_products_right T) hr T.m__law_products_right T.F__law_products_right.kp T.b__law_products_right (pxa_cons (px_name 0) (pxa_cons (px_name 1) (pxa_nil)))) (px_and (px_call [false] (ok__law_prime_right T) hr T.m__law_prime_right T.F__law_prime_right.kp T.b__law_prime_right (pxa_cons (px_name 1) (pxa_nil))) (px_tB (px_one (px_call [true] (ok__law_fibonacci_right T) hr T.m__law_fibonacci_right T.F__law_fibonacci_right.kp T.b__law_fibonacci_right (pxa_cons (px_name 0) (pxa_nil))))))))))
theorem ok__law_pot (T : Top K mg) : FnG P w K mg base CX0 1 T.f__law_pot T.d__law_pot ["script", "k"] (spF K 2 den__law_pot) := by
  refine fn_ok T.F__law_pot sc__law_pot fun cdv A outer s H E hr => ?_
  have nd := sc__law_pot.nd
  exact pxs_cons (px_fix 2 nd (px_op op_addB vop_addB (px_op op_mulA vop_mulB (px_int) (px_name 1)) (px_int))) (pxs_cons (px_if (pxt_cmp op_lt vop_lt (px_name 1) (px_callB call_len vop_len rfl T.z_len rfl (pxa_cons (px_name 0) (pxa_nil)))) (pxs_one (px_fix 2 nd (px_callB call_abs vop_abs rfl T.z_abs rfl (pxa_cons (px_ix ix_seq vop_ix (px_name 0) (px_name 1)) (pxa_nil))))) (pxs_nil)) (pxs_one (px_ret (px_lst (pxa_cons (px_callB (cr_maxB rfl) vop_max rfl T.z_max rfl (pxa_cons (px_int) (pxa_cons (px_op op_sub vop_sub (px_name 2) (px_op op_pow vop_pow (px_int) (px_int))) (pxa_nil)))) (pxa_cons (px_op op_addB vop_addB (px_op op_mod vop_mod (px_callTy call_int1 vop_int rfl T.z_int rfl (pxa_cons (px_op op_addB vop_addB (px_op op_addB vop_addB (px_op op_mulA vop_mulB (px_op op_mod vop_mod (px_callTy call_int1 vop_int rfl T.z_int rfl (pxa_cons (px_name 2) (pxa_nil))) (px_int)) (px_int)) (px_op op_mulA vop_mulB (px_int) (px_name 1))) (px_int)) (pxa_nil))) (px_int)) (px_int)) (pxa_nil)))))))
theorem ok_law (T : Top K mg) : FnG P w K mg base CX0 8 T.f_law T.d_law ["script"] (spF K 1 den_law) := by
  refine fn_ok T.F_law sc_law fun cdv A outer s H E hr => ?_
  have nd := sc_law.nd
  exact pxs_one (px_ret (px_callB (cr_all rfl) vop_all rfl T.z_all rfl (pxa_cons (px_lc rfl nd (own := [("k", 1)]) (pxi_range1 T.z_range (pxa_cons (px_callB (cr_maxB rfl) vop_max rfl T.z_max rfl (pxa_cons (px_int) (pxa_cons (px_callB (cr_minB rfl) vop_min rfl T.z_min rfl (pxa_cons (px_int) (pxa_cons (px_callB call_len vop_len rfl T.z_len rfl (pxa_cons (px_name 0) (pxa_nil))) (pxa_nil)))) (pxa_nil)))) (pxa_nil))) (blk_ok rfl) (fun _ _ _ _ _ => pxg_fix 1 nd) (fun _ _ _ _ _ => pxts_nil) (fun _ _ _ _ _ => px_call [true] (ok__law_right T) hr T.m__law_right T.F__law_right.kp T.b__law_right (pxa_cons (px_call [false, false] ((ok__law_pot T).mono (by decide)) hr T.m__law_pot T.F__law_pot.kp T.b__law_pot (pxa_cons (px_name 0) (pxa_cons (px_name 1) (pxa_nil)))) (pxa_nil)))) (pxa_nil))))
end
theorem all_mk {l : PySem.W.OpenLaw} {w : World} {K : PySem.W.Frag} {h : Heap} {mg : Str → Option Value} {fa f__law_draw f__law_pick f__law_prime f_is_integer f_is_within f_want_many f_choose_of f_choose_row f_want_prime f_want_great f_want_choice f_digits_of f_both_digits f_carried f_choice_times f__law_often f_rest_of f_row_rests f_row_left f_want_some f_choose f_choice_rest f_bags_counted f_many_bags f_want_steps f_many_paths f__law_choices_right f_orders_counted f_many_orders f_times_in_product f_product_times f_bare_product f_product_rest f_is_list f_are_letters_value f_want_letters f_words_counted f_many_words f_want_many_to f_catalan_of f_many_brackets f_want_line f_below_of f_many_below f_digit_sum f__law_products_right f_row_common f__law_prime_right f_want_count f_fib_of f_fib f_want_numbers f_row_below f_difference_row f_summed_at f_sums_of f_choice_sums f_signed f_back_of f_taken_back f__law_fibonacci_right f__law_right f__law_pot f_law : Addr} (X : K.In h) (G : h.Ns mainGlobals mg) (hfa : mg "law" = some (.ref fa))
    {od__law_draw an__law_draw : Option Addr} {sl__law_draw : Array (Option Value)} {oc__law_draw kV__law_draw dc__law_draw pm__law_draw cd__law_draw ct__law_draw : Value}
    {od__law_pick an__law_pick : Option Addr} {sl__law_pick : Array (Option Value)} {oc__law_pick kV__law_pick dc__law_pick pm__law_pick cd__law_pick ct__law_pick : Value}
    {od__law_prime an__law_prime : Option Addr} {sl__law_prime : Array (Option Value)} {oc__law_prime kV__law_prime dc__law_prime pm__law_prime cd__law_prime ct__law_prime : Value}
    {od_is_integer an_is_integer : Option Addr} {sl_is_integer : Array (Option Value)} {oc_is_integer kV_is_integer dc_is_integer pm_is_integer cd_is_integer ct_is_integer : Value}
    {od_is_within an_is_within : Option Addr} {sl_is_within : Array (Option Value)} {oc_is_within kV_is_within dc_is_within pm_is_within cd_is_within ct_is_within : Value}
    {od_want_many an_want_many : Option Addr} {sl_want_many : Array (Option Value)} {oc_want_many kV_want_many dc_want_many pm_want_many cd_want_many ct_want_many : Value}
    {od_choose_of an_choose_of : Option Addr} {sl_choose_of : Array (Option Value)} {oc_choose_of kV_choose_of dc_choose_of pm_choose_of cd_choose_of ct_choose_of : Value}
    {od_choose_row an_choose_row : Option Addr} {sl_choose_row : Array (Option Value)} {oc_choose_row kV_choose_row dc_choose_row pm_choose_row cd_choose_row ct_choose_row : Value}
    {od_want_prime an_want_prime : Option Addr} {sl_want_prime : Array (Option Value)} {oc_want_prime kV_want_prime dc_want_prime pm_want_prime cd_want_prime ct_want_prime : Value}
    {od_want_great an_want_great : Option Addr} {sl_want_great : Array (Option Value)} {oc_want_great kV_want_great dc_want_great pm_want_great cd_want_great ct_want_great : Value}
    {od_want_choice an_want_choice : Option Addr} {sl_want_choice : Array (Option Value)} {oc_want_choice kV_want_choice dc_want_choice pm_want_choice cd_want_choice ct_want_choice : Value}
    {od_digits_of an_digits_of : Option Addr} {sl_digits_of : Array (Option Value)} {oc_digits_of kV_digits_of dc_digits_of pm_digits_of cd_digits_of ct_digits_of : Value}
    {od_both_digits an_both_digits : Option Addr} {sl_both_digits : Array (Option Value)} {oc_both_digits kV_both_digits dc_both_digits pm_both_digits cd_both_digits ct_both_digits : Value}
    {od_carried an_carried : Option Addr} {sl_carried : Array (Option Value)} {oc_carried kV_carried dc_carried pm_carried cd_carried ct_carried : Value}
    {od_choice_times an_choice_times : Option Addr} {sl_choice_times : Array (Option Value)} {oc_choice_times kV_choice_times dc_choice_times pm_choice_times cd_choice_times ct_choice_times : Value}
    {od__law_often an__law_often : Option Addr} {sl__law_often : Array (Option Value)} {oc__law_often kV__law_often dc__law_often pm__law_often cd__law_often ct__law_often : Value}
    {od_rest_of an_rest_of : Option Addr} {sl_rest_of : Array (Option Value)} {oc_rest_of kV_rest_of dc_rest_of pm_rest_of cd_rest_of ct_rest_of : Value}
    {od_row_rests an_row_rests : Option Addr} {sl_row_rests : Array (Option Value)} {oc_row_rests kV_row_rests dc_row_rests pm_row_rests cd_row_rests ct_row_rests : Value}
    {od_row_left an_row_left : Option Addr} {sl_row_left : Array (Option Value)} {oc_row_left kV_row_left dc_row_left pm_row_left cd_row_left ct_row_left : Value}
    {od_want_some an_want_some : Option Addr} {sl_want_some : Array (Option Value)} {oc_want_some kV_want_some dc_want_some pm_want_some cd_want_some ct_want_some : Value}
    {od_choose an_choose : Option Addr} {sl_choose : Array (Option Value)} {oc_choose kV_choose dc_choose pm_choose cd_choose ct_choose : Value}
    {od_choice_rest an_choice_rest : Option Addr} {sl_choice_rest : Array (Option Value)} {oc_choice_rest kV_choice_rest dc_choice_rest pm_choice_rest cd_choice_rest ct_choice_rest : Value}
    {od_bags_counted an_bags_counted : Option Addr} {sl_bags_counted : Array (Option Value)} {oc_bags_counted kV_bags_counted dc_bags_counted pm_bags_counted cd_bags_counted ct_bags_counted : Value}
    {od_many_bags an_many_bags : Option Addr} {sl_many_bags : Array (Option Value)} {oc_many_bags kV_many_bags dc_many_bags pm_many_bags cd_many_bags ct_many_bags : Value}
    {od_want_steps an_want_steps : Option Addr} {sl_want_steps : Array (Option Value)} {oc_want_steps kV_want_steps dc_want_steps pm_want_steps cd_want_steps ct_want_steps : Value}
    {od_many_paths an_many_paths : Option Addr} {sl_many_paths : Array (Option Value)} {oc_many_paths kV_many_paths dc_many_paths pm_many_paths cd_many_paths ct_many_paths : Value}
    {od__law_choices_right an__law_choices_right : Option Addr} {sl__law_choices_right : Array (Option Value)} {oc__law_choices_right kV__law_choices_right dc__law_choices_right pm__law_choices_right cd__law_choices_right ct__law_choices_right : Value}
    {od_orders_counted an_orders_counted : Option Addr} {sl_orders_counted : Array (Option Value)} {oc_orders_counted kV_orders_counted dc_orders_counted pm_orders_counted cd_orders_counted ct_orders_counted : Value}
    {od_many_orders an_many_orders : Option Addr} {sl_many_orders : Array (Option Value)} {oc_many_orders kV_many_orders dc_many_orders pm_many_orders cd_many_orders ct_many_orders : Value}
    {od_times_in_product an_times_in_product : Option Addr} {sl_times_in_product : Array (Option Value)} {oc_times_in_product kV_times_in_product dc_times_in_product pm_times_in_product cd_times_in_product ct_times_in_product : Value}
    {od_product_times an_product_times : Option Addr} {sl_product_times : Array (Option Value)} {oc_product_times kV_product_times dc_product_times pm_product_times cd_product_times ct_product_times : Value}
    {od_bare_product an_bare_product : Option Addr} {sl_bare_product : Array (Option Value)} {oc_bare_product kV_bare_product dc_bare_product pm_bare_product cd_bare_product ct_bare_product : Value}
    {od_product_rest an_product_rest : Option Addr} {sl_product_rest : Array (Option Value)} {oc_product_rest kV_product_rest dc_product_rest pm_product_rest cd_product_rest ct_product_rest : Value}
    {od_is_list an_is_list : Option Addr} {sl_is_list : Array (Option Value)} {oc_is_list kV_is_list dc_is_list pm_is_list cd_is_list ct_is_list : Value}
    {od_are_letters_value an_are_letters_value : Option Addr} {sl_are_letters_value : Array (Option Value)} {oc_are_letters_value kV_are_letters_value dc_are_letters_value pm_are_letters_value cd_are_letters_value ct_are_letters_value : Value}
    {od_want_letters an_want_letters : Option Addr} {sl_want_letters : Array (Option Value)} {oc_want_letters kV_want_letters dc_want_letters pm_want_letters cd_want_letters ct_want_letters : Value}
    {od_words_counted an_words_counted : Option Addr} {sl_words_counted : Array (Option Value)} {oc_words_counted kV_words_counted dc_words_counted pm_words_counted cd_words_counted ct_words_counted : Value}
    {od_many_words an_many_words : Option Addr} {sl_many_words : Array (Option Value)} {oc_many_words kV_many_words dc_many_words pm_many_words cd_many_words ct_many_words : Value}
    {od_want_many_to an_want_many_to : Option Addr} {sl_want_many_to : Array (Option Value)} {oc_want_many_to kV_want_many_to dc_want_many_to pm_want_many_to cd_want_many_to ct_want_many_to : Value}
    {od_catalan_of an_catalan_of : Option Addr} {sl_catalan_of : Array (Option Value)} {oc_catalan_of kV_catalan_of dc_catalan_of pm_catalan_of cd_catalan_of ct_catalan_of : Value}
    {od_many_brackets an_many_brackets : Option Addr} {sl_many_brackets : Array (Option Value)} {oc_many_brackets kV_many_brackets dc_many_brackets pm_many_brackets cd_many_brackets ct_many_brackets : Value}
    {od_want_line an_want_line : Option Addr} {sl_want_line : Array (Option Value)} {oc_want_line kV_want_line dc_want_line pm_want_line cd_want_line ct_want_line : Value}
    {od_below_of an_below_of : Option Addr} {sl_below_of : Array (Option Value)} {oc_below_of kV_below_of dc_below_of pm_below_of cd_below_of ct_below_of : Value}
    {od_many_below an_many_below : Option Addr} {sl_many_below : Array (Option Value)} {oc_many_below kV_many_below dc_many_below pm_many_below cd_many_below ct_many_below : Value}
    {od_digit_sum an_digit_sum : Option Addr} {sl_digit_sum : Array (Option Value)} {oc_digit_sum kV_digit_sum dc_digit_sum pm_digit_sum cd_digit_sum ct_digit_sum : Value}
    {od__law_products_right an__law_products_right : Option Addr} {sl__law_products_right : Array (Option Value)} {oc__law_products_right kV__law_products_right dc__law_products_right pm__law_products_right cd__law_products_right ct__law_products_right : Value}
    {od_row_common an_row_common : Option Addr} {sl_row_common : Array (Option Value)} {oc_row_common kV_row_common dc_row_common pm_row_common cd_row_common ct_row_common : Value}
    {od__law_prime_right an__law_prime_right : Option Addr} {sl__law_prime_right : Array (Option Value)} {oc__law_prime_right kV__law_prime_right dc__law_prime_right pm__law_prime_right cd__law_prime_right ct__law_prime_right : Value}
    {od_want_count an_want_count : Option Addr} {sl_want_count : Array (Option Value)} {oc_want_count kV_want_count dc_want_count pm_want_count cd_want_count ct_want_count : Value}
    {od_fib_of an_fib_of : Option Addr} {sl_fib_of : Array (Option Value)} {oc_fib_of kV_fib_of dc_fib_of pm_fib_of cd_fib_of ct_fib_of : Value}
    {od_fib an_fib : Option Addr} {sl_fib : Array (Option Value)} {oc_fib kV_fib dc_fib pm_fib cd_fib ct_fib : Value}
    {od_want_numbers an_want_numbers : Option Addr} {sl_want_numbers : Array (Option Value)} {oc_want_numbers kV_want_numbers dc_want_numbers pm_want_numbers cd_want_numbers ct_want_numbers : Value}
    {od_row_below an_row_below : Option Addr} {sl_row_below : Array (Option Value)} {oc_row_below kV_row_below dc_row_below pm_row_below cd_row_below ct_row_below : Value}
    {od_difference_row an_difference_row : Option Addr} {sl_difference_row : Array (Option Value)} {oc_difference_row kV_difference_row dc_difference_row pm_difference_row cd_difference_row ct_difference_row : Value}
    {od_summed_at an_summed_at : Option Addr} {sl_summed_at : Array (Option Value)} {oc_summed_at kV_summed_at dc_summed_at pm_summed_at cd_summed_at ct_summed_at : Value}
    {od_sums_of an_sums_of : Option Addr} {sl_sums_of : Array (Option Value)} {oc_sums_of kV_sums_of dc_sums_of pm_sums_of cd_sums_of ct_sums_of : Value}
    {od_choice_sums an_choice_sums : Option Addr} {sl_choice_sums : Array (Option Value)} {oc_choice_sums kV_choice_sums dc_choice_sums pm_choice_sums cd_choice_sums ct_choice_sums : Value}
    {od_signed an_signed : Option Addr} {sl_signed : Array (Option Value)} {oc_signed kV_signed dc_signed pm_signed cd_signed ct_signed : Value}
    {od_back_of an_back_of : Option Addr} {sl_back_of : Array (Option Value)} {oc_back_of kV_back_of dc_back_of pm_back_of cd_back_of ct_back_of : Value}
    {od_taken_back an_taken_back : Option Addr} {sl_taken_back : Array (Option Value)} {oc_taken_back kV_taken_back dc_taken_back pm_taken_back cd_taken_back ct_taken_back : Value}
    {od__law_fibonacci_right an__law_fibonacci_right : Option Addr} {sl__law_fibonacci_right : Array (Option Value)} {oc__law_fibonacci_right kV__law_fibonacci_right dc__law_fibonacci_right pm__law_fibonacci_right cd__law_fibonacci_right ct__law_fibonacci_right : Value}
    {od__law_right an__law_right : Option Addr} {sl__law_right : Array (Option Value)} {oc__law_right kV__law_right dc__law_right pm__law_right cd__law_right ct__law_right : Value}
    {od__law_pot an__law_pot : Option Addr} {sl__law_pot : Array (Option Value)} {oc__law_pot kV__law_pot dc__law_pot pm__law_pot cd__law_pot ct__law_pot : Value}
    {od_law an_law : Option Addr} {sl_law : Array (Option Value)} {oc_law kV_law dc_law pm_law cd_law ct_law : Value}
    (a__law_draw : PySem.W.nsIn K mainGlobals "_law_draw" = some (some (.ref f__law_draw)))
    (l__law_draw : K.lookup f__law_draw = some ⟨oc__law_draw, od__law_draw, .func (PySem.W.fnOf "_law_draw" "_law_draw" (defArgs s__law_draw) (defBody s__law_draw) (defScope s__law_draw) .none kV__law_draw dc__law_draw pm__law_draw an__law_draw cd__law_draw ct__law_draw), sl__law_draw⟩)
    (e__law_draw : PySem.W.codeIn K cd__law_draw "_law_draw" = true) (k__law_draw : PySem.W.keepIn K (.ref f__law_draw) = true)
    (a__law_pick : PySem.W.nsIn K mainGlobals "_law_pick" = some (some (.ref f__law_pick)))
    (l__law_pick : K.lookup f__law_pick = some ⟨oc__law_pick, od__law_pick, .func (PySem.W.fnOf "_law_pick" "_law_pick" (defArgs s__law_pick) (defBody s__law_pick) (defScope s__law_pick) .none kV__law_pick dc__law_pick pm__law_pick an__law_pick cd__law_pick ct__law_pick), sl__law_pick⟩)
    (e__law_pick : PySem.W.codeIn K cd__law_pick "_law_pick" = true) (k__law_pick : PySem.W.keepIn K (.ref f__law_pick) = true)
    (a__law_prime : PySem.W.nsIn K mainGlobals "_law_prime" = some (some (.ref f__law_prime)))
    (l__law_prime : K.lookup f__law_prime = some ⟨oc__law_prime, od__law_prime, .func (PySem.W.fnOf "_law_prime" "_law_prime" (defArgs s__law_prime) (defBody s__law_prime) (defScope s__law_prime) .none kV__law_prime dc__law_prime pm__law_prime an__law_prime cd__law_prime ct__law_prime), sl__law_prime⟩)
    (e__law_prime : PySem.W.codeIn K cd__law_prime "_law_prime" = true) (k__law_prime : PySem.W.keepIn K (.ref f__law_prime) = true)
    (a_is_integer : PySem.W.nsIn K mainGlobals "is_integer" = some (some (.ref f_is_integer)))
    (l_is_integer : K.lookup f_is_integer = some ⟨oc_is_integer, od_is_integer, .func (PySem.W.fnOf "is_integer" "is_integer" (defArgs s_is_integer) (defBody s_is_integer) (defScope s_is_integer) .none kV_is_integer dc_is_integer pm_is_integer an_is_integer cd_is_integer ct_is_integer), sl_is_integer⟩)
    (e_is_integer : PySem.W.codeIn K cd_is_integer "is_integer" = true) (k_is_integer : PySem.W.keepIn K (.ref f_is_integer) = true)
    (a_is_within : PySem.W.nsIn K mainGlobals "is_within" = some (some (.ref f_is_within)))
    (l_is_within : K.lookup f_is_within = some ⟨oc_is_within, od_is_within, .func (PySem.W.fnOf "is_within" "is_within" (defArgs s_is_within) (defBody s_is_within) (defScope s_is_within) .none kV_is_within dc_is_within pm_is_within an_is_within cd_is_within ct_is_within), sl_is_within⟩)
    (e_is_within : PySem.W.codeIn K cd_is_within "is_within" = true) (k_is_within : PySem.W.keepIn K (.ref f_is_within) = true)
    (a_want_many : PySem.W.nsIn K mainGlobals "want_many" = some (some (.ref f_want_many)))
    (l_want_many : K.lookup f_want_many = some ⟨oc_want_many, od_want_many, .func (PySem.W.fnOf "want_many" "want_many" (defArgs s_want_many) (defBody s_want_many) (defScope s_want_many) .none kV_want_many dc_want_many pm_want_many an_want_many cd_want_many ct_want_many), sl_want_many⟩)
    (e_want_many : PySem.W.codeIn K cd_want_many "want_many" = true) (k_want_many : PySem.W.keepIn K (.ref f_want_many) = true)
    (a_choose_of : PySem.W.nsIn K mainGlobals "choose_of" = some (some (.ref f_choose_of)))
    (l_choose_of : K.lookup f_choose_of = some ⟨oc_choose_of, od_choose_of, .func (PySem.W.fnOf "choose_of" "choose_of" (defArgs s_choose_of) (defBody s_choose_of) (defScope s_choose_of) .none kV_choose_of dc_choose_of pm_choose_of an_choose_of cd_choose_of ct_choose_of), sl_choose_of⟩)
    (e_choose_of : PySem.W.codeIn K cd_choose_of "choose_of" = true) (k_choose_of : PySem.W.keepIn K (.ref f_choose_of) = true)
    (a_choose_row : PySem.W.nsIn K mainGlobals "choose_row" = some (some (.ref f_choose_row)))
    (l_choose_row : K.lookup f_choose_row = some ⟨oc_choose_row, od_choose_row, .func (PySem.W.fnOf "choose_row" "choose_row" (defArgs s_choose_row) (defBody s_choose_row) (defScope s_choose_row) .none kV_choose_row dc_choose_row pm_choose_row an_choose_row cd_choose_row ct_choose_row), sl_choose_row⟩)
    (e_choose_row : PySem.W.codeIn K cd_choose_row "choose_row" = true) (k_choose_row : PySem.W.keepIn K (.ref f_choose_row) = true)
    (a_want_prime : PySem.W.nsIn K mainGlobals "want_prime" = some (some (.ref f_want_prime)))
    (l_want_prime : K.lookup f_want_prime = some ⟨oc_want_prime, od_want_prime, .func (PySem.W.fnOf "want_prime" "want_prime" (defArgs s_want_prime) (defBody s_want_prime) (defScope s_want_prime) .none kV_want_prime dc_want_prime pm_want_prime an_want_prime cd_want_prime ct_want_prime), sl_want_prime⟩)
    (e_want_prime : PySem.W.codeIn K cd_want_prime "want_prime" = true) (k_want_prime : PySem.W.keepIn K (.ref f_want_prime) = true)
    (a_want_great : PySem.W.nsIn K mainGlobals "want_great" = some (some (.ref f_want_great)))
    (l_want_great : K.lookup f_want_great = some ⟨oc_want_great, od_want_great, .func (PySem.W.fnOf "want_great" "want_great" (defArgs s_want_great) (defBody s_want_great) (defScope s_want_great) .none kV_want_great dc_want_great pm_want_great an_want_great cd_want_great ct_want_great), sl_want_great⟩)
    (e_want_great : PySem.W.codeIn K cd_want_great "want_great" = true) (k_want_great : PySem.W.keepIn K (.ref f_want_great) = true)
    (a_want_choice : PySem.W.nsIn K mainGlobals "want_choice" = some (some (.ref f_want_choice)))
    (l_want_choice : K.lookup f_want_choice = some ⟨oc_want_choice, od_want_choice, .func (PySem.W.fnOf "want_choice" "want_choice" (defArgs s_want_choice) (defBody s_want_choice) (defScope s_want_choice) .none kV_want_choice dc_want_choice pm_want_choice an_want_choice cd_want_choice ct_want_choice), sl_want_choice⟩)
    (e_want_choice : PySem.W.codeIn K cd_want_choice "want_choice" = true) (k_want_choice : PySem.W.keepIn K (.ref f_want_choice) = true)
    (a_digits_of : PySem.W.nsIn K mainGlobals "digits_of" = some (some (.ref f_digits_of)))
    (l_digits_of : K.lookup f_digits_of = some ⟨oc_digits_of, od_digits_of, .func (PySem.W.fnOf "digits_of" "digits_of" (defArgs s_digits_of) (defBody s_digits_of) (defScope s_digits_of) .none kV_digits_of dc_digits_of pm_digits_of an_digits_of cd_digits_of ct_digits_of), sl_digits_of⟩)
    (e_digits_of : PySem.W.codeIn K cd_digits_of "digits_of" = true) (k_digits_of : PySem.W.keepIn K (.ref f_digits_of) = true)
    (a_both_digits : PySem.W.nsIn K mainGlobals "both_digits" = some (some (.ref f_both_digits)))
    (l_both_digits : K.lookup f_both_digits = some ⟨oc_both_digits, od_both_digits, .func (PySem.W.fnOf "both_digits" "both_digits" (defArgs s_both_digits) (defBody s_both_digits) (defScope s_both_digits) .none kV_both_digits dc_both_digits pm_both_digits an_both_digits cd_both_digits ct_both_digits), sl_both_digits⟩)
    (e_both_digits : PySem.W.codeIn K cd_both_digits "both_digits" = true) (k_both_digits : PySem.W.keepIn K (.ref f_both_digits) = true)
    (a_carried : PySem.W.nsIn K mainGlobals "carried" = some (some (.ref f_carried)))
    (l_carried : K.lookup f_carried = some ⟨oc_carried, od_carried, .func (PySem.W.fnOf "carried" "carried" (defArgs s_carried) (defBody s_carried) (defScope s_carried) .none kV_carried dc_carried pm_carried an_carried cd_carried ct_carried), sl_carried⟩)
    (e_carried : PySem.W.codeIn K cd_carried "carried" = true) (k_carried : PySem.W.keepIn K (.ref f_carried) = true)
    (a_choice_times : PySem.W.nsIn K mainGlobals "choice_times" = some (some (.ref f_choice_times)))
    (l_choice_times : K.lookup f_choice_times = some ⟨oc_choice_times, od_choice_times, .func (PySem.W.fnOf "choice_times" "choice_times" (defArgs s_choice_times) (defBody s_choice_times) (defScope s_choice_times) .none kV_choice_times dc_choice_times pm_choice_times an_choice_times cd_choice_times ct_choice_times), sl_choice_times⟩)
    (e_choice_times : PySem.W.codeIn K cd_choice_times "choice_times" = true) (k_choice_times : PySem.W.keepIn K (.ref f_choice_times) = true)
    (a__law_often : PySem.W.nsIn K mainGlobals "_law_often" = some (some (.ref f__law_often)))
    (l__law_often : K.lookup f__law_often = some ⟨oc__law_often, od__law_often, .func (PySem.W.fnOf "_law_often" "_law_often" (defArgs s__law_often) (defBody s__law_often) (defScope s__law_often) .none kV__law_often dc__law_often pm__law_often an__law_often cd__law_often ct__law_often), sl__law_often⟩)
    (e__law_often : PySem.W.codeIn K cd__law_often "_law_often" = true) (k__law_often : PySem.W.keepIn K (.ref f__law_often) = true)
    (a_rest_of : PySem.W.nsIn K mainGlobals "rest_of" = some (some (.ref f_rest_of)))
    (l_rest_of : K.lookup f_rest_of = some ⟨oc_rest_of, od_rest_of, .func (PySem.W.fnOf "rest_of" "rest_of" (defArgs s_rest_of) (defBody s_rest_of) (defScope s_rest_of) .none kV_rest_of dc_rest_of pm_rest_of an_rest_of cd_rest_of ct_rest_of), sl_rest_of⟩)
    (e_rest_of : PySem.W.codeIn K cd_rest_of "rest_of" = true) (k_rest_of : PySem.W.keepIn K (.ref f_rest_of) = true)
    (a_row_rests : PySem.W.nsIn K mainGlobals "row_rests" = some (some (.ref f_row_rests)))
    (l_row_rests : K.lookup f_row_rests = some ⟨oc_row_rests, od_row_rests, .func (PySem.W.fnOf "row_rests" "row_rests" (defArgs s_row_rests) (defBody s_row_rests) (defScope s_row_rests) .none kV_row_rests dc_row_rests pm_row_rests an_row_rests cd_row_rests ct_row_rests), sl_row_rests⟩)
    (e_row_rests : PySem.W.codeIn K cd_row_rests "row_rests" = true) (k_row_rests : PySem.W.keepIn K (.ref f_row_rests) = true)
    (a_row_left : PySem.W.nsIn K mainGlobals "row_left" = some (some (.ref f_row_left)))
    (l_row_left : K.lookup f_row_left = some ⟨oc_row_left, od_row_left, .func (PySem.W.fnOf "row_left" "row_left" (defArgs s_row_left) (defBody s_row_left) (defScope s_row_left) .none kV_row_left dc_row_left pm_row_left an_row_left cd_row_left ct_row_left), sl_row_left⟩)
    (e_row_left : PySem.W.codeIn K cd_row_left "row_left" = true) (k_row_left : PySem.W.keepIn K (.ref f_row_left) = true)
    (a_want_some : PySem.W.nsIn K mainGlobals "want_some" = some (some (.ref f_want_some)))
    (l_want_some : K.lookup f_want_some = some ⟨oc_want_some, od_want_some, .func (PySem.W.fnOf "want_some" "want_some" (defArgs s_want_some) (defBody s_want_some) (defScope s_want_some) .none kV_want_some dc_want_some pm_want_some an_want_some cd_want_some ct_want_some), sl_want_some⟩)
    (e_want_some : PySem.W.codeIn K cd_want_some "want_some" = true) (k_want_some : PySem.W.keepIn K (.ref f_want_some) = true)
    (a_choose : PySem.W.nsIn K mainGlobals "choose" = some (some (.ref f_choose)))
    (l_choose : K.lookup f_choose = some ⟨oc_choose, od_choose, .func (PySem.W.fnOf "choose" "choose" (defArgs s_choose) (defBody s_choose) (defScope s_choose) .none kV_choose dc_choose pm_choose an_choose cd_choose ct_choose), sl_choose⟩)
    (e_choose : PySem.W.codeIn K cd_choose "choose" = true) (k_choose : PySem.W.keepIn K (.ref f_choose) = true)
    (a_choice_rest : PySem.W.nsIn K mainGlobals "choice_rest" = some (some (.ref f_choice_rest)))
    (l_choice_rest : K.lookup f_choice_rest = some ⟨oc_choice_rest, od_choice_rest, .func (PySem.W.fnOf "choice_rest" "choice_rest" (defArgs s_choice_rest) (defBody s_choice_rest) (defScope s_choice_rest) .none kV_choice_rest dc_choice_rest pm_choice_rest an_choice_rest cd_choice_rest ct_choice_rest), sl_choice_rest⟩)
    (e_choice_rest : PySem.W.codeIn K cd_choice_rest "choice_rest" = true) (k_choice_rest : PySem.W.keepIn K (.ref f_choice_rest) = true)
    (a_bags_counted : PySem.W.nsIn K mainGlobals "bags_counted" = some (some (.ref f_bags_counted)))
    (l_bags_counted : K.lookup f_bags_counted = some ⟨oc_bags_counted, od_bags_counted, .func (PySem.W.fnOf "bags_counted" "bags_counted" (defArgs s_bags_counted) (defBody s_bags_counted) (defScope s_bags_counted) .none kV_bags_counted dc_bags_counted pm_bags_counted an_bags_counted cd_bags_counted ct_bags_counted), sl_bags_counted⟩)
    (e_bags_counted : PySem.W.codeIn K cd_bags_counted "bags_counted" = true) (k_bags_counted : PySem.W.keepIn K (.ref f_bags_counted) = true)
    (a_many_bags : PySem.W.nsIn K mainGlobals "many_bags" = some (some (.ref f_many_bags)))
    (l_many_bags : K.lookup f_many_bags = some ⟨oc_many_bags, od_many_bags, .func (PySem.W.fnOf "many_bags" "many_bags" (defArgs s_many_bags) (defBody s_many_bags) (defScope s_many_bags) .none kV_many_bags dc_many_bags pm_many_bags an_many_bags cd_many_bags ct_many_bags), sl_many_bags⟩)
    (e_many_bags : PySem.W.codeIn K cd_many_bags "many_bags" = true) (k_many_bags : PySem.W.keepIn K (.ref f_many_bags) = true)
    (a_want_steps : PySem.W.nsIn K mainGlobals "want_steps" = some (some (.ref f_want_steps)))
    (l_want_steps : K.lookup f_want_steps = some ⟨oc_want_steps, od_want_steps, .func (PySem.W.fnOf "want_steps" "want_steps" (defArgs s_want_steps) (defBody s_want_steps) (defScope s_want_steps) .none kV_want_steps dc_want_steps pm_want_steps an_want_steps cd_want_steps ct_want_steps), sl_want_steps⟩)
    (e_want_steps : PySem.W.codeIn K cd_want_steps "want_steps" = true) (k_want_steps : PySem.W.keepIn K (.ref f_want_steps) = true)
    (a_many_paths : PySem.W.nsIn K mainGlobals "many_paths" = some (some (.ref f_many_paths)))
    (l_many_paths : K.lookup f_many_paths = some ⟨oc_many_paths, od_many_paths, .func (PySem.W.fnOf "many_paths" "many_paths" (defArgs s_many_paths) (defBody s_many_paths) (defScope s_many_paths) .none kV_many_paths dc_many_paths pm_many_paths an_many_paths cd_many_paths ct_many_paths), sl_many_paths⟩)
    (e_many_paths : PySem.W.codeIn K cd_many_paths "many_paths" = true) (k_many_paths : PySem.W.keepIn K (.ref f_many_paths) = true)
    (a__law_choices_right : PySem.W.nsIn K mainGlobals "_law_choices_right" = some (some (.ref f__law_choices_right)))
    (l__law_choices_right : K.lookup f__law_choices_right = some ⟨oc__law_choices_right, od__law_choices_right, .func (PySem.W.fnOf "_law_choices_right" "_law_choices_right" (defArgs s__law_choices_right) (defBody s__law_choices_right) (defScope s__law_choices_right) .none kV__law_choices_right dc__law_choices_right pm__law_choices_right an__law_choices_right cd__law_choices_right ct__law_choices_right), sl__law_choices_right⟩)
    (e__law_choices_right : PySem.W.codeIn K cd__law_choices_right "_law_choices_right" = true) (k__law_choices_right : PySem.W.keepIn K (.ref f__law_choices_right) = true)
    (a_orders_counted : PySem.W.nsIn K mainGlobals "orders_counted" = some (some (.ref f_orders_counted)))
    (l_orders_counted : K.lookup f_orders_counted = some ⟨oc_orders_counted, od_orders_counted, .func (PySem.W.fnOf "orders_counted" "orders_counted" (defArgs s_orders_counted) (defBody s_orders_counted) (defScope s_orders_counted) .none kV_orders_counted dc_orders_counted pm_orders_counted an_orders_counted cd_orders_counted ct_orders_counted), sl_orders_counted⟩)
    (e_orders_counted : PySem.W.codeIn K cd_orders_counted "orders_counted" = true) (k_orders_counted : PySem.W.keepIn K (.ref f_orders_counted) = true)
    (a_many_orders : PySem.W.nsIn K mainGlobals "many_orders" = some (some (.ref f_many_orders)))
    (l_many_orders : K.lookup f_many_orders = some ⟨oc_many_orders, od_many_orders, .func (PySem.W.fnOf "many_orders" "many_orders" (defArgs s_many_orders) (defBody s_many_orders) (defScope s_many_orders) .none kV_many_orders dc_many_orders pm_many_orders an_many_orders cd_many_orders ct_many_orders), sl_many_orders⟩)
    (e_many_orders : PySem.W.codeIn K cd_many_orders "many_orders" = true) (k_many_orders : PySem.W.keepIn K (.ref f_many_orders) = true)
    (a_times_in_product : PySem.W.nsIn K mainGlobals "times_in_product" = some (some (.ref f_times_in_product)))
    (l_times_in_product : K.lookup f_times_in_product = some ⟨oc_times_in_product, od_times_in_product, .func (PySem.W.fnOf "times_in_product" "times_in_product" (defArgs s_times_in_product) (defBody s_times_in_product) (defScope s_times_in_product) .none kV_times_in_product dc_times_in_product pm_times_in_product an_times_in_product cd_times_in_product ct_times_in_product), sl_times_in_product⟩)
    (e_times_in_product : PySem.W.codeIn K cd_times_in_product "times_in_product" = true) (k_times_in_product : PySem.W.keepIn K (.ref f_times_in_product) = true)
    (a_product_times : PySem.W.nsIn K mainGlobals "product_times" = some (some (.ref f_product_times)))
    (l_product_times : K.lookup f_product_times = some ⟨oc_product_times, od_product_times, .func (PySem.W.fnOf "product_times" "product_times" (defArgs s_product_times) (defBody s_product_times) (defScope s_product_times) .none kV_product_times dc_product_times pm_product_times an_product_times cd_product_times ct_product_times), sl_product_times⟩)
    (e_product_times : PySem.W.codeIn K cd_product_times "product_times" = true) (k_product_times : PySem.W.keepIn K (.ref f_product_times) = true)
    (a_bare_product : PySem.W.nsIn K mainGlobals "bare_product" = some (some (.ref f_bare_product)))
    (l_bare_product : K.lookup f_bare_product = some ⟨oc_bare_product, od_bare_product, .func (PySem.W.fnOf "bare_product" "bare_product" (defArgs s_bare_product) (defBody s_bare_product) (defScope s_bare_product) .none kV_bare_product dc_bare_product pm_bare_product an_bare_product cd_bare_product ct_bare_product), sl_bare_product⟩)
    (e_bare_product : PySem.W.codeIn K cd_bare_product "bare_product" = true) (k_bare_product : PySem.W.keepIn K (.ref f_bare_product) = true)
    (a_product_rest : PySem.W.nsIn K mainGlobals "product_rest" = some (some (.ref f_product_rest)))
    (l_product_rest : K.lookup f_product_rest = some ⟨oc_product_rest, od_product_rest, .func (PySem.W.fnOf "product_rest" "product_rest" (defArgs s_product_rest) (defBody s_product_rest) (defScope s_product_rest) .none kV_product_rest dc_product_rest pm_product_rest an_product_rest cd_product_rest ct_product_rest), sl_product_rest⟩)
    (e_product_rest : PySem.W.codeIn K cd_product_rest "product_rest" = true) (k_product_rest : PySem.W.keepIn K (.ref f_product_rest) = true)
    (a_is_list : PySem.W.nsIn K mainGlobals "is_list" = some (some (.ref f_is_list)))
    (l_is_list : K.lookup f_is_list = some ⟨oc_is_list, od_is_list, .func (PySem.W.fnOf "is_list" "is_list" (defArgs s_is_list) (defBody s_is_list) (defScope s_is_list) .none kV_is_list dc_is_list pm_is_list an_is_list cd_is_list ct_is_list), sl_is_list⟩)
    (e_is_list : PySem.W.codeIn K cd_is_list "is_list" = true) (k_is_list : PySem.W.keepIn K (.ref f_is_list) = true)
    (a_are_letters_value : PySem.W.nsIn K mainGlobals "are_letters_value" = some (some (.ref f_are_letters_value)))
    (l_are_letters_value : K.lookup f_are_letters_value = some ⟨oc_are_letters_value, od_are_letters_value, .func (PySem.W.fnOf "are_letters_value" "are_letters_value" (defArgs s_are_letters_value) (defBody s_are_letters_value) (defScope s_are_letters_value) .none kV_are_letters_value dc_are_letters_value pm_are_letters_value an_are_letters_value cd_are_letters_value ct_are_letters_value), sl_are_letters_value⟩)
    (e_are_letters_value : PySem.W.codeIn K cd_are_letters_value "are_letters_value" = true) (k_are_letters_value : PySem.W.keepIn K (.ref f_are_letters_value) = true)
    (a_want_letters : PySem.W.nsIn K mainGlobals "want_letters" = some (some (.ref f_want_letters)))
    (l_want_letters : K.lookup f_want_letters = some ⟨oc_want_letters, od_want_letters, .func (PySem.W.fnOf "want_letters" "want_letters" (defArgs s_want_letters) (defBody s_want_letters) (defScope s_want_letters) .none kV_want_letters dc_want_letters pm_want_letters an_want_letters cd_want_letters ct_want_letters), sl_want_letters⟩)
    (e_want_letters : PySem.W.codeIn K cd_want_letters "want_letters" = true) (k_want_letters : PySem.W.keepIn K (.ref f_want_letters) = true)
    (a_words_counted : PySem.W.nsIn K mainGlobals "words_counted" = some (some (.ref f_words_counted)))
    (l_words_counted : K.lookup f_words_counted = some ⟨oc_words_counted, od_words_counted, .func (PySem.W.fnOf "words_counted" "words_counted" (defArgs s_words_counted) (defBody s_words_counted) (defScope s_words_counted) .none kV_words_counted dc_words_counted pm_words_counted an_words_counted cd_words_counted ct_words_counted), sl_words_counted⟩)
    (e_words_counted : PySem.W.codeIn K cd_words_counted "words_counted" = true) (k_words_counted : PySem.W.keepIn K (.ref f_words_counted) = true)
    (a_many_words : PySem.W.nsIn K mainGlobals "many_words" = some (some (.ref f_many_words)))
    (l_many_words : K.lookup f_many_words = some ⟨oc_many_words, od_many_words, .func (PySem.W.fnOf "many_words" "many_words" (defArgs s_many_words) (defBody s_many_words) (defScope s_many_words) .none kV_many_words dc_many_words pm_many_words an_many_words cd_many_words ct_many_words), sl_many_words⟩)
    (e_many_words : PySem.W.codeIn K cd_many_words "many_words" = true) (k_many_words : PySem.W.keepIn K (.ref f_many_words) = true)
    (a_want_many_to : PySem.W.nsIn K mainGlobals "want_many_to" = some (some (.ref f_want_many_to)))
    (l_want_many_to : K.lookup f_want_many_to = some ⟨oc_want_many_to, od_want_many_to, .func (PySem.W.fnOf "want_many_to" "want_many_to" (defArgs s_want_many_to) (defBody s_want_many_to) (defScope s_want_many_to) .none kV_want_many_to dc_want_many_to pm_want_many_to an_want_many_to cd_want_many_to ct_want_many_to), sl_want_many_to⟩)
    (e_want_many_to : PySem.W.codeIn K cd_want_many_to "want_many_to" = true) (k_want_many_to : PySem.W.keepIn K (.ref f_want_many_to) = true)
    (a_catalan_of : PySem.W.nsIn K mainGlobals "catalan_of" = some (some (.ref f_catalan_of)))
    (l_catalan_of : K.lookup f_catalan_of = some ⟨oc_catalan_of, od_catalan_of, .func (PySem.W.fnOf "catalan_of" "catalan_of" (defArgs s_catalan_of) (defBody s_catalan_of) (defScope s_catalan_of) .none kV_catalan_of dc_catalan_of pm_catalan_of an_catalan_of cd_catalan_of ct_catalan_of), sl_catalan_of⟩)
    (e_catalan_of : PySem.W.codeIn K cd_catalan_of "catalan_of" = true) (k_catalan_of : PySem.W.keepIn K (.ref f_catalan_of) = true)
    (a_many_brackets : PySem.W.nsIn K mainGlobals "many_brackets" = some (some (.ref f_many_brackets)))
    (l_many_brackets : K.lookup f_many_brackets = some ⟨oc_many_brackets, od_many_brackets, .func (PySem.W.fnOf "many_brackets" "many_brackets" (defArgs s_many_brackets) (defBody s_many_brackets) (defScope s_many_brackets) .none kV_many_brackets dc_many_brackets pm_many_brackets an_many_brackets cd_many_brackets ct_many_brackets), sl_many_brackets⟩)
    (e_many_brackets : PySem.W.codeIn K cd_many_brackets "many_brackets" = true) (k_many_brackets : PySem.W.keepIn K (.ref f_many_brackets) = true)
    (a_want_line : PySem.W.nsIn K mainGlobals "want_line" = some (some (.ref f_want_line)))
    (l_want_line : K.lookup f_want_line = some ⟨oc_want_line, od_want_line, .func (PySem.W.fnOf "want_line" "want_line" (defArgs s_want_line) (defBody s_want_line) (defScope s_want_line) .none kV_want_line dc_want_line pm_want_line an_want_line cd_want_line ct_want_line), sl_want_line⟩)
    (e_want_line : PySem.W.codeIn K cd_want_line "want_line" = true) (k_want_line : PySem.W.keepIn K (.ref f_want_line) = true)
    (a_below_of : PySem.W.nsIn K mainGlobals "below_of" = some (some (.ref f_below_of)))
    (l_below_of : K.lookup f_below_of = some ⟨oc_below_of, od_below_of, .func (PySem.W.fnOf "below_of" "below_of" (defArgs s_below_of) (defBody s_below_of) (defScope s_below_of) .none kV_below_of dc_below_of pm_below_of an_below_of cd_below_of ct_below_of), sl_below_of⟩)
    (e_below_of : PySem.W.codeIn K cd_below_of "below_of" = true) (k_below_of : PySem.W.keepIn K (.ref f_below_of) = true)
    (a_many_below : PySem.W.nsIn K mainGlobals "many_below" = some (some (.ref f_many_below)))
    (l_many_below : K.lookup f_many_below = some ⟨oc_many_below, od_many_below, .func (PySem.W.fnOf "many_below" "many_below" (defArgs s_many_below) (defBody s_many_below) (defScope s_many_below) .none kV_many_below dc_many_below pm_many_below an_many_below cd_many_below ct_many_below), sl_many_below⟩)
    (e_many_below : PySem.W.codeIn K cd_many_below "many_below" = true) (k_many_below : PySem.W.keepIn K (.ref f_many_below) = true)
    (a_digit_sum : PySem.W.nsIn K mainGlobals "digit_sum" = some (some (.ref f_digit_sum)))
    (l_digit_sum : K.lookup f_digit_sum = some ⟨oc_digit_sum, od_digit_sum, .func (PySem.W.fnOf "digit_sum" "digit_sum" (defArgs s_digit_sum) (defBody s_digit_sum) (defScope s_digit_sum) .none kV_digit_sum dc_digit_sum pm_digit_sum an_digit_sum cd_digit_sum ct_digit_sum), sl_digit_sum⟩)
    (e_digit_sum : PySem.W.codeIn K cd_digit_sum "digit_sum" = true) (k_digit_sum : PySem.W.keepIn K (.ref f_digit_sum) = true)
    (a__law_products_right : PySem.W.nsIn K mainGlobals "_law_products_right" = some (some (.ref f__law_products_right)))
    (l__law_products_right : K.lookup f__law_products_right = some ⟨oc__law_products_right, od__law_products_right, .func (PySem.W.fnOf "_law_products_right" "_law_products_right" (defArgs s__law_products_right) (defBody s__law_products_right) (defScope s__law_products_right) .none kV__law_products_right dc__law_products_right pm__law_products_right an__law_products_right cd__law_products_right ct__law_products_right), sl__law_products_right⟩)
    (e__law_products_right : PySem.W.codeIn K cd__law_products_right "_law_products_right" = true) (k__law_products_right : PySem.W.keepIn K (.ref f__law_products_right) = true)
    (a_row_common : PySem.W.nsIn K mainGlobals "row_common" = some (some (.ref f_row_common)))
    (l_row_common : K.lookup f_row_common = some ⟨oc_row_common, od_row_common, .func (PySem.W.fnOf "row_common" "row_common" (defArgs s_row_common) (defBody s_row_common) (defScope s_row_common) .none kV_row_common dc_row_common pm_row_common an_row_common cd_row_common ct_row_common), sl_row_common⟩)
    (e_row_common : PySem.W.codeIn K cd_row_common "row_common" = true) (k_row_common : PySem.W.keepIn K (.ref f_row_common) = true)
    (a__law_prime_right : PySem.W.nsIn K mainGlobals "_law_prime_right" = some (some (.ref f__law_prime_right)))
    (l__law_prime_right : K.lookup f__law_prime_right = some ⟨oc__law_prime_right, od__law_prime_right, .func (PySem.W.fnOf "_law_prime_right" "_law_prime_right" (defArgs s__law_prime_right) (defBody s__law_prime_right) (defScope s__law_prime_right) .none kV__law_prime_right dc__law_prime_right pm__law_prime_right an__law_prime_right cd__law_prime_right ct__law_prime_right), sl__law_prime_right⟩)
    (e__law_prime_right : PySem.W.codeIn K cd__law_prime_right "_law_prime_right" = true) (k__law_prime_right : PySem.W.keepIn K (.ref f__law_prime_right) = true)
    (a_want_count : PySem.W.nsIn K mainGlobals "want_count" = some (some (.ref f_want_count)))
    (l_want_count : K.lookup f_want_count = some ⟨oc_want_count, od_want_count, .func (PySem.W.fnOf "want_count" "want_count" (defArgs s_want_count) (defBody s_want_count) (defScope s_want_count) .none kV_want_count dc_want_count pm_want_count an_want_count cd_want_count ct_want_count), sl_want_count⟩)
    (e_want_count : PySem.W.codeIn K cd_want_count "want_count" = true) (k_want_count : PySem.W.keepIn K (.ref f_want_count) = true)
    (a_fib_of : PySem.W.nsIn K mainGlobals "fib_of" = some (some (.ref f_fib_of)))
    (l_fib_of : K.lookup f_fib_of = some ⟨oc_fib_of, od_fib_of, .func (PySem.W.fnOf "fib_of" "fib_of" (defArgs s_fib_of) (defBody s_fib_of) (defScope s_fib_of) .none kV_fib_of dc_fib_of pm_fib_of an_fib_of cd_fib_of ct_fib_of), sl_fib_of⟩)
    (e_fib_of : PySem.W.codeIn K cd_fib_of "fib_of" = true) (k_fib_of : PySem.W.keepIn K (.ref f_fib_of) = true)
    (a_fib : PySem.W.nsIn K mainGlobals "fib" = some (some (.ref f_fib)))
    (l_fib : K.lookup f_fib = some ⟨oc_fib, od_fib, .func (PySem.W.fnOf "fib" "fib" (defArgs s_fib) (defBody s_fib) (defScope s_fib) .none kV_fib dc_fib pm_fib an_fib cd_fib ct_fib), sl_fib⟩)
    (e_fib : PySem.W.codeIn K cd_fib "fib" = true) (k_fib : PySem.W.keepIn K (.ref f_fib) = true)
    (a_want_numbers : PySem.W.nsIn K mainGlobals "want_numbers" = some (some (.ref f_want_numbers)))
    (l_want_numbers : K.lookup f_want_numbers = some ⟨oc_want_numbers, od_want_numbers, .func (PySem.W.fnOf "want_numbers" "want_numbers" (defArgs s_want_numbers) (defBody s_want_numbers) (defScope s_want_numbers) .none kV_want_numbers dc_want_numbers pm_want_numbers an_want_numbers cd_want_numbers ct_want_numbers), sl_want_numbers⟩)
    (e_want_numbers : PySem.W.codeIn K cd_want_numbers "want_numbers" = true) (k_want_numbers : PySem.W.keepIn K (.ref f_want_numbers) = true)
    (a_row_below : PySem.W.nsIn K mainGlobals "row_below" = some (some (.ref f_row_below)))
    (l_row_below : K.lookup f_row_below = some ⟨oc_row_below, od_row_below, .func (PySem.W.fnOf "row_below" "row_below" (defArgs s_row_below) (defBody s_row_below) (defScope s_row_below) .none kV_row_below dc_row_below pm_row_below an_row_below cd_row_below ct_row_below), sl_row_below⟩)
    (e_row_below : PySem.W.codeIn K cd_row_below "row_below" = true) (k_row_below : PySem.W.keepIn K (.ref f_row_below) = true)
    (a_difference_row : PySem.W.nsIn K mainGlobals "difference_row" = some (some (.ref f_difference_row)))
    (l_difference_row : K.lookup f_difference_row = some ⟨oc_difference_row, od_difference_row, .func (PySem.W.fnOf "difference_row" "difference_row" (defArgs s_difference_row) (defBody s_difference_row) (defScope s_difference_row) .none kV_difference_row dc_difference_row pm_difference_row an_difference_row cd_difference_row ct_difference_row), sl_difference_row⟩)
    (e_difference_row : PySem.W.codeIn K cd_difference_row "difference_row" = true) (k_difference_row : PySem.W.keepIn K (.ref f_difference_row) = true)
    (a_summed_at : PySem.W.nsIn K mainGlobals "summed_at" = some (some (.ref f_summed_at)))
    (l_summed_at : K.lookup f_summed_at = some ⟨oc_summed_at, od_summed_at, .func (PySem.W.fnOf "summed_at" "summed_at" (defArgs s_summed_at) (defBody s_summed_at) (defScope s_summed_at) .none kV_summed_at dc_summed_at pm_summed_at an_summed_at cd_summed_at ct_summed_at), sl_summed_at⟩)
    (e_summed_at : PySem.W.codeIn K cd_summed_at "summed_at" = true) (k_summed_at : PySem.W.keepIn K (.ref f_summed_at) = true)
    (a_sums_of : PySem.W.nsIn K mainGlobals "sums_of" = some (some (.ref f_sums_of)))
    (l_sums_of : K.lookup f_sums_of = some ⟨oc_sums_of, od_sums_of, .func (PySem.W.fnOf "sums_of" "sums_of" (defArgs s_sums_of) (defBody s_sums_of) (defScope s_sums_of) .none kV_sums_of dc_sums_of pm_sums_of an_sums_of cd_sums_of ct_sums_of), sl_sums_of⟩)
    (e_sums_of : PySem.W.codeIn K cd_sums_of "sums_of" = true) (k_sums_of : PySem.W.keepIn K (.ref f_sums_of) = true)
    (a_choice_sums : PySem.W.nsIn K mainGlobals "choice_sums" = some (some (.ref f_choice_sums)))
    (l_choice_sums : K.lookup f_choice_sums = some ⟨oc_choice_sums, od_choice_sums, .func (PySem.W.fnOf "choice_sums" "choice_sums" (defArgs s_choice_sums) (defBody s_choice_sums) (defScope s_choice_sums) .none kV_choice_sums dc_choice_sums pm_choice_sums an_choice_sums cd_choice_sums ct_choice_sums), sl_choice_sums⟩)
    (e_choice_sums : PySem.W.codeIn K cd_choice_sums "choice_sums" = true) (k_choice_sums : PySem.W.keepIn K (.ref f_choice_sums) = true)
    (a_signed : PySem.W.nsIn K mainGlobals "signed" = some (some (.ref f_signed)))
    (l_signed : K.lookup f_signed = some ⟨oc_signed, od_signed, .func (PySem.W.fnOf "signed" "signed" (defArgs s_signed) (defBody s_signed) (defScope s_signed) .none kV_signed dc_signed pm_signed an_signed cd_signed ct_signed), sl_signed⟩)
    (e_signed : PySem.W.codeIn K cd_signed "signed" = true) (k_signed : PySem.W.keepIn K (.ref f_signed) = true)
    (a_back_of : PySem.W.nsIn K mainGlobals "back_of" = some (some (.ref f_back_of)))
    (l_back_of : K.lookup f_back_of = some ⟨oc_back_of, od_back_of, .func (PySem.W.fnOf "back_of" "back_of" (defArgs s_back_of) (defBody s_back_of) (defScope s_back_of) .none kV_back_of dc_back_of pm_back_of an_back_of cd_back_of ct_back_of), sl_back_of⟩)
    (e_back_of : PySem.W.codeIn K cd_back_of "back_of" = true) (k_back_of : PySem.W.keepIn K (.ref f_back_of) = true)
    (a_taken_back : PySem.W.nsIn K mainGlobals "taken_back" = some (some (.ref f_taken_back)))
    (l_taken_back : K.lookup f_taken_back = some ⟨oc_taken_back, od_taken_back, .func (PySem.W.fnOf "taken_back" "taken_back" (defArgs s_taken_back) (defBody s_taken_back) (defScope s_taken_back) .none kV_taken_back dc_taken_back pm_taken_back an_taken_back cd_taken_back ct_taken_back), sl_taken_back⟩)
    (e_taken_back : PySem.W.codeIn K cd_taken_back "taken_back" = true) (k_taken_back : PySem.W.keepIn K (.ref f_taken_back) = true)
    (a__law_fibonacci_right : PySem.W.nsIn K mainGlobals "_law_fibonacci_right" = some (some (.ref f__law_fibonacci_right)))
    (l__law_fibonacci_right : K.lookup f__law_fibonacci_right = some ⟨oc__law_fibonacci_right, od__law_fibonacci_right, .func (PySem.W.fnOf "_law_fibonacci_right" "_law_fibonacci_right" (defArgs s__law_fibonacci_right) (defBody s__law_fibonacci_right) (defScope s__law_fibonacci_right) .none kV__law_fibonacci_right dc__law_fibonacci_right pm__law_fibonacci_right an__law_fibonacci_right cd__law_fibonacci_right ct__law_fibonacci_right), sl__law_fibonacci_right⟩)
    (e__law_fibonacci_right : PySem.W.codeIn K cd__law_fibonacci_right "_law_fibonacci_right" = true) (k__law_fibonacci_right : PySem.W.keepIn K (.ref f__law_fibonacci_right) = true)
    (a__law_right : PySem.W.nsIn K mainGlobals "_law_right" = some (some (.ref f__law_right)))
    (l__law_right : K.lookup f__law_right = some ⟨oc__law_right, od__law_right, .func (PySem.W.fnOf "_law_right" "_law_right" (defArgs s__law_right) (defBody s__law_right) (defScope s__law_right) .none kV__law_right dc__law_right pm__law_right an__law_right cd__law_right ct__law_right), sl__law_right⟩)
    (e__law_right : PySem.W.codeIn K cd__law_right "_law_right" = true) (k__law_right : PySem.W.keepIn K (.ref f__law_right) = true)
    (a__law_pot : PySem.W.nsIn K mainGlobals "_law_pot" = some (some (.ref f__law_pot)))
    (l__law_pot : K.lookup f__law_pot = some ⟨oc__law_pot, od__law_pot, .func (PySem.W.fnOf "_law_pot" "_law_pot" (defArgs s__law_pot) (defBody s__law_pot) (defScope s__law_pot) .none kV__law_pot dc__law_pot pm__law_pot an__law_pot cd__law_pot ct__law_pot), sl__law_pot⟩)
    (e__law_pot : PySem.W.codeIn K cd__law_pot "_law_pot" = true) (k__law_pot : PySem.W.keepIn K (.ref f__law_pot) = true)
    (a_law : PySem.W.nsIn K mainGlobals "law" = some (some (.ref f_law)))
    (l_law : K.lookup f_law = some ⟨oc_law, od_law, .func (PySem.W.fnOf "law" "law" (defArgs s_law) (defBody s_law) (defScope s_law) .none kV_law dc_law pm_law an_law cd_law ct_law), sl_law⟩)
    (e_law : PySem.W.codeIn K cd_law "law" = true) (k_law : PySem.W.keepIn K (.ref f_law) = true)
    (z_abs : PySem.W.nsIn K mainGlobals "abs" = some none)
    (z_all : PySem.W.nsIn K mainGlobals "all" = some none)
    (z_bool : PySem.W.nsIn K mainGlobals "bool" = some none)
    (z_divmod : PySem.W.nsIn K mainGlobals "divmod" = some none)
    (z_enumerate : PySem.W.nsIn K mainGlobals "enumerate" = some none)
    (z_int : PySem.W.nsIn K mainGlobals "int" = some none)
    (z_isinstance : PySem.W.nsIn K mainGlobals "isinstance" = some none)
    (z_len : PySem.W.nsIn K mainGlobals "len" = some none)
    (z_list : PySem.W.nsIn K mainGlobals "list" = some none)
    (z_max : PySem.W.nsIn K mainGlobals "max" = some none)
    (z_min : PySem.W.nsIn K mainGlobals "min" = some none)
    (z_range : PySem.W.nsIn K mainGlobals "range" = some none)
    (z_sum : PySem.W.nsIn K mainGlobals "sum" = some none)
    (z_tuple : PySem.W.nsIn K mainGlobals "tuple" = some none)
    (z_zip : PySem.W.nsIn K mainGlobals "zip" = some none)
    {t_MOST_KINDS : Tok} (c_MOST_KINDS : PySem.W.nsIn K mainGlobals "MOST_KINDS" = some (some (.int 20 t_MOST_KINDS)))
    {t_MOST_LETTERS : Tok} (c_MOST_LETTERS : PySem.W.nsIn K mainGlobals "MOST_LETTERS" = some (some (.int 100 t_MOST_LETTERS)))
    {t_MOST_MANY : Tok} (c_MOST_MANY : PySem.W.nsIn K mainGlobals "MOST_MANY" = some (some (.int 200 t_MOST_MANY)))
    {t_MOST_NUMBER : Tok} (c_MOST_NUMBER : PySem.W.nsIn K mainGlobals "MOST_NUMBER" = some (some (.int 1000000000000000000 t_MOST_NUMBER)))
    {t_MOST_NUMBERS : Tok} (c_MOST_NUMBERS : PySem.W.nsIn K mainGlobals "MOST_NUMBERS" = some (some (.int 60 t_MOST_NUMBERS)))
    {t_MOST_PLACE : Tok} (c_MOST_PLACE : PySem.W.nsIn K mainGlobals "MOST_PLACE" = some (some (.int 200 t_MOST_PLACE)))
    {t_MOST_PRIME : Tok} (c_MOST_PRIME : PySem.W.nsIn K mainGlobals "MOST_PRIME" = some (some (.int 97 t_MOST_PRIME)))
    {t_MOST_SIZE : Tok} (c_MOST_SIZE : PySem.W.nsIn K mainGlobals "MOST_SIZE" = some (some (.int 1000000000000 t_MOST_SIZE)))
    : ∃ fd : FuncData, (∀ (s : Shared) (v : Value), BindsTo s fd ⟨[v], []⟩ [("script", v)]) ∧ ∀ base : Heap, K.In base → base.Ns mainGlobals mg → FnG l.prog w K mg base CX0 8 fa fd ["script"] (spF K 1 den_law) := by
  have e := hfa.symm.trans (PySem.W.mg_of X G a_law)
  cases e
  have F__law_draw := fun_mk (st := s__law_draw) l__law_draw e__law_draw k__law_draw
  have b__law_draw := F__law_draw.binds (ps := ["pot", "many"]) fun _ _ _ _ _ _ us hl => match us, hl with | [_, _], _ => rfl
  have F__law_pick := fun_mk (st := s__law_pick) l__law_pick e__law_pick k__law_pick
  have b__law_pick := F__law_pick.binds (ps := ["pot", "some"]) fun _ _ _ _ _ _ us hl => match us, hl with | [_, _], _ => rfl
  have F__law_prime := fun_mk (st := s__law_prime) l__law_prime e__law_prime k__law_prime
  have b__law_prime := F__law_prime.binds (ps := ["pot"]) fun _ _ _ _ _ _ us hl => match us, hl with | [_], _ => rfl
  have F_is_integer := fun_mk (st := s_is_integer) l_is_integer e_is_integer k_is_integer
  have b_is_integer := F_is_integer.binds (ps := ["value"]) fun _ _ _ _ _ _ us hl => match us, hl with | [_], _ => rfl
  have F_is_within := fun_mk (st := s_is_within) l_is_within e_is_within k_is_within
  have b_is_within := F_is_within.binds (ps := ["value", "least", "most"]) fun _ _ _ _ _ _ us hl => match us, hl with | [_, _, _], _ => rfl
  have F_want_many := fun_mk (st := s_want_many) l_want_many e_want_many k_want_many
  have b_want_many := F_want_many.binds (ps := ["many"]) fun _ _ _ _ _ _ us hl => match us, hl with | [_], _ => rfl
  have F_choose_of := fun_mk (st := s_choose_of) l_choose_of e_choose_of k_choose_of
  have b_choose_of := F_choose_of.binds (ps := ["many", "some"]) fun _ _ _ _ _ _ us hl => match us, hl with | [_, _], _ => rfl
  have F_choose_row := fun_mk (st := s_choose_row) l_choose_row e_choose_row k_choose_row
  have b_choose_row := F_choose_row.binds (ps := ["many"]) fun _ _ _ _ _ _ us hl => match us, hl with | [_], _ => rfl
  have F_want_prime := fun_mk (st := s_want_prime) l_want_prime e_want_prime k_want_prime
  have b_want_prime := F_want_prime.binds (ps := ["prime"]) fun _ _ _ _ _ _ us hl => match us, hl with | [_], _ => rfl
  have F_want_great := fun_mk (st := s_want_great) l_want_great e_want_great k_want_great
  have b_want_great := F_want_great.binds (ps := ["number"]) fun _ _ _ _ _ _ us hl => match us, hl with | [_], _ => rfl
  have F_want_choice := fun_mk (st := s_want_choice) l_want_choice e_want_choice k_want_choice
  have b_want_choice := F_want_choice.binds (ps := ["prime", "top", "bottom"]) fun _ _ _ _ _ _ us hl => match us, hl with | [_, _, _], _ => rfl
  have F_digits_of := fun_mk (st := s_digits_of) l_digits_of e_digits_of k_digits_of
  have b_digits_of := F_digits_of.binds (ps := ["prime", "number"]) fun _ _ _ _ _ _ us hl => match us, hl with | [_, _], _ => rfl
  have F_both_digits := fun_mk (st := s_both_digits) l_both_digits e_both_digits k_both_digits
  have b_both_digits := F_both_digits.binds (ps := ["prime", "top", "bottom"]) fun _ _ _ _ _ _ us hl => match us, hl with | [_, _, _], _ => rfl
  have F_carried := fun_mk (st := s_carried) l_carried e_carried k_carried
  have b_carried := F_carried.binds (ps := ["prime", "number", "other"]) fun _ _ _ _ _ _ us hl => match us, hl with | [_, _, _], _ => rfl
  have F_choice_times := fun_mk (st := s_choice_times) l_choice_times e_choice_times k_choice_times
  have b_choice_times := F_choice_times.binds (ps := ["prime", "top", "bottom"]) fun _ _ _ _ _ _ us hl => match us, hl with | [_, _, _], _ => rfl
  have F__law_often := fun_mk (st := s__law_often) l__law_often e__law_often k__law_often
  have b__law_often := F__law_often.binds (ps := ["prime", "number"]) fun _ _ _ _ _ _ us hl => match us, hl with | [_, _], _ => rfl
  have F_rest_of := fun_mk (st := s_rest_of) l_rest_of e_rest_of k_rest_of
  have b_rest_of := F_rest_of.binds (ps := ["prime", "top", "bottom"]) fun _ _ _ _ _ _ us hl => match us, hl with | [_, _, _], _ => rfl
  have F_row_rests := fun_mk (st := s_row_rests) l_row_rests e_row_rests k_row_rests
  have b_row_rests := F_row_rests.binds (ps := ["prime", "many"]) fun _ _ _ _ _ _ us hl => match us, hl with | [_, _], _ => rfl
  have F_row_left := fun_mk (st := s_row_left) l_row_left e_row_left k_row_left
  have b_row_left := F_row_left.binds (ps := ["prime", "top"]) fun _ _ _ _ _ _ us hl => match us, hl with | [_, _], _ => rfl
  have F_want_some := fun_mk (st := s_want_some) l_want_some e_want_some k_want_some
  have b_want_some := F_want_some.binds (ps := ["some"]) fun _ _ _ _ _ _ us hl => match us, hl with | [_], _ => rfl
  have F_choose := fun_mk (st := s_choose) l_choose e_choose k_choose
  have b_choose := F_choose.binds (ps := ["many", "some"]) fun _ _ _ _ _ _ us hl => match us, hl with | [_, _], _ => rfl
  have F_choice_rest := fun_mk (st := s_choice_rest) l_choice_rest e_choice_rest k_choice_rest
  have b_choice_rest := F_choice_rest.binds (ps := ["prime", "top", "bottom"]) fun _ _ _ _ _ _ us hl => match us, hl with | [_, _, _], _ => rfl
  have F_bags_counted := fun_mk (st := s_bags_counted) l_bags_counted e_bags_counted k_bags_counted
  have b_bags_counted := F_bags_counted.binds (ps := ["many", "some"]) fun _ _ _ _ _ _ us hl => match us, hl with | [_, _], _ => rfl
  have F_many_bags := fun_mk (st := s_many_bags) l_many_bags e_many_bags k_many_bags
  have b_many_bags := F_many_bags.binds (ps := ["many", "some"]) fun _ _ _ _ _ _ us hl => match us, hl with | [_, _], _ => rfl
  have F_want_steps := fun_mk (st := s_want_steps) l_want_steps e_want_steps k_want_steps
  have b_want_steps := F_want_steps.binds (ps := ["rights", "ups"]) fun _ _ _ _ _ _ us hl => match us, hl with | [_, _], _ => rfl
  have F_many_paths := fun_mk (st := s_many_paths) l_many_paths e_many_paths k_many_paths
  have b_many_paths := F_many_paths.binds (ps := ["rights", "ups"]) fun _ _ _ _ _ _ us hl => match us, hl with | [_, _], _ => rfl
  have F__law_choices_right := fun_mk (st := s__law_choices_right) l__law_choices_right e__law_choices_right k__law_choices_right
  have b__law_choices_right := F__law_choices_right.binds (ps := ["pot", "prime"]) fun _ _ _ _ _ _ us hl => match us, hl with | [_, _], _ => rfl
  have F_orders_counted := fun_mk (st := s_orders_counted) l_orders_counted e_orders_counted k_orders_counted
  have b_orders_counted := F_orders_counted.binds (ps := ["many"]) fun _ _ _ _ _ _ us hl => match us, hl with | [_], _ => rfl
  have F_many_orders := fun_mk (st := s_many_orders) l_many_orders e_many_orders k_many_orders
  have b_many_orders := F_many_orders.binds (ps := ["many"]) fun _ _ _ _ _ _ us hl => match us, hl with | [_], _ => rfl
  have F_times_in_product := fun_mk (st := s_times_in_product) l_times_in_product e_times_in_product k_times_in_product
  have b_times_in_product := F_times_in_product.binds (ps := ["prime", "number"]) fun _ _ _ _ _ _ us hl => match us, hl with | [_, _], _ => rfl
  have F_product_times := fun_mk (st := s_product_times) l_product_times e_product_times k_product_times
  have b_product_times := F_product_times.binds (ps := ["prime", "number"]) fun _ _ _ _ _ _ us hl => match us, hl with | [_, _], _ => rfl
  have F_bare_product := fun_mk (st := s_bare_product) l_bare_product e_bare_product k_bare_product
  have b_bare_product := F_bare_product.binds (ps := ["prime", "number"]) fun _ _ _ _ _ _ us hl => match us, hl with | [_, _], _ => rfl
  have F_product_rest := fun_mk (st := s_product_rest) l_product_rest e_product_rest k_product_rest
  have b_product_rest := F_product_rest.binds (ps := ["prime", "number"]) fun _ _ _ _ _ _ us hl => match us, hl with | [_, _], _ => rfl
  have F_is_list := fun_mk (st := s_is_list) l_is_list e_is_list k_is_list
  have b_is_list := F_is_list.binds (ps := ["value"]) fun _ _ _ _ _ _ us hl => match us, hl with | [_], _ => rfl
  have F_are_letters_value := fun_mk (st := s_are_letters_value) l_are_letters_value e_are_letters_value k_are_letters_value
  have b_are_letters_value := F_are_letters_value.binds (ps := ["value"]) fun _ _ _ _ _ _ us hl => match us, hl with | [_], _ => rfl
  have F_want_letters := fun_mk (st := s_want_letters) l_want_letters e_want_letters k_want_letters
  have b_want_letters := F_want_letters.binds (ps := ["letters"]) fun _ _ _ _ _ _ us hl => match us, hl with | [_], _ => rfl
  have F_words_counted := fun_mk (st := s_words_counted) l_words_counted e_words_counted k_words_counted
  have b_words_counted := F_words_counted.binds (ps := ["letters"]) fun _ _ _ _ _ _ us hl => match us, hl with | [_], _ => rfl
  have F_many_words := fun_mk (st := s_many_words) l_many_words e_many_words k_many_words
  have b_many_words := F_many_words.binds (ps := ["letters"]) fun _ _ _ _ _ _ us hl => match us, hl with | [_], _ => rfl
  have F_want_many_to := fun_mk (st := s_want_many_to) l_want_many_to e_want_many_to k_want_many_to
  have b_want_many_to := F_want_many_to.binds (ps := ["many", "most"]) fun _ _ _ _ _ _ us hl => match us, hl with | [_, _], _ => rfl
  have F_catalan_of := fun_mk (st := s_catalan_of) l_catalan_of e_catalan_of k_catalan_of
  have b_catalan_of := F_catalan_of.binds (ps := ["many"]) fun _ _ _ _ _ _ us hl => match us, hl with | [_], _ => rfl
  have F_many_brackets := fun_mk (st := s_many_brackets) l_many_brackets e_many_brackets k_many_brackets
  have b_many_brackets := F_many_brackets.binds (ps := ["many"]) fun _ _ _ _ _ _ us hl => match us, hl with | [_], _ => rfl
  have F_want_line := fun_mk (st := s_want_line) l_want_line e_want_line k_want_line
  have b_want_line := F_want_line.binds (ps := ["line"]) fun _ _ _ _ _ _ us hl => match us, hl with | [_], _ => rfl
  have F_below_of := fun_mk (st := s_below_of) l_below_of e_below_of k_below_of
  have b_below_of := F_below_of.binds (ps := ["rights", "ups", "line"]) fun _ _ _ _ _ _ us hl => match us, hl with | [_, _, _], _ => rfl
  have F_many_below := fun_mk (st := s_many_below) l_many_below e_many_below k_many_below
  have b_many_below := F_many_below.binds (ps := ["rights", "ups", "line"]) fun _ _ _ _ _ _ us hl => match us, hl with | [_, _, _], _ => rfl
  have F_digit_sum := fun_mk (st := s_digit_sum) l_digit_sum e_digit_sum k_digit_sum
  have b_digit_sum := F_digit_sum.binds (ps := ["prime", "number"]) fun _ _ _ _ _ _ us hl => match us, hl with | [_, _], _ => rfl
  have F__law_products_right := fun_mk (st := s__law_products_right) l__law_products_right e__law_products_right k__law_products_right
  have b__law_products_right := F__law_products_right.binds (ps := ["pot", "prime"]) fun _ _ _ _ _ _ us hl => match us, hl with | [_, _], _ => rfl
  have F_row_common := fun_mk (st := s_row_common) l_row_common e_row_common k_row_common
  have b_row_common := F_row_common.binds (ps := ["many"]) fun _ _ _ _ _ _ us hl => match us, hl with | [_], _ => rfl
  have F__law_prime_right := fun_mk (st := s__law_prime_right) l__law_prime_right e__law_prime_right k__law_prime_right
  have b__law_prime_right := F__law_prime_right.binds (ps := ["prime"]) fun _ _ _ _ _ _ us hl => match us, hl with | [_], _ => rfl
  have F_want_count := fun_mk (st := s_want_count) l_want_count e_want_count k_want_count
  have b_want_count := F_want_count.binds (ps := ["count"]) fun _ _ _ _ _ _ us hl => match us, hl with | [_], _ => rfl
  have F_fib_of := fun_mk (st := s_fib_of) l_fib_of e_fib_of k_fib_of
  have b_fib_of := F_fib_of.binds (ps := ["count"]) fun _ _ _ _ _ _ us hl => match us, hl with | [_], _ => rfl
  have F_fib := fun_mk (st := s_fib) l_fib e_fib k_fib
  have b_fib := F_fib.binds (ps := ["count"]) fun _ _ _ _ _ _ us hl => match us, hl with | [_], _ => rfl
  have F_want_numbers := fun_mk (st := s_want_numbers) l_want_numbers e_want_numbers k_want_numbers
  have b_want_numbers := F_want_numbers.binds (ps := ["numbers"]) fun _ _ _ _ _ _ us hl => match us, hl with | [_], _ => rfl
  have F_row_below := fun_mk (st := s_row_below) l_row_below e_row_below k_row_below
  have b_row_below := F_row_below.binds (ps := ["numbers"]) fun _ _ _ _ _ _ us hl => match us, hl with | [_], _ => rfl
  have F_difference_row := fun_mk (st := s_difference_row) l_difference_row e_difference_row k_difference_row
  have b_difference_row := F_difference_row.binds (ps := ["numbers"]) fun _ _ _ _ _ _ us hl => match us, hl with | [_], _ => rfl
  have F_summed_at := fun_mk (st := s_summed_at) l_summed_at e_summed_at k_summed_at
  have b_summed_at := F_summed_at.binds (ps := ["numbers", "place"]) fun _ _ _ _ _ _ us hl => match us, hl with | [_, _], _ => rfl
  have F_sums_of := fun_mk (st := s_sums_of) l_sums_of e_sums_of k_sums_of
  have b_sums_of := F_sums_of.binds (ps := ["numbers"]) fun _ _ _ _ _ _ us hl => match us, hl with | [_], _ => rfl
  have F_choice_sums := fun_mk (st := s_choice_sums) l_choice_sums e_choice_sums k_choice_sums
  have b_choice_sums := F_choice_sums.binds (ps := ["numbers"]) fun _ _ _ _ _ _ us hl => match us, hl with | [_], _ => rfl
  have F_signed := fun_mk (st := s_signed) l_signed e_signed k_signed
  have b_signed := F_signed.binds (ps := ["numbers"]) fun _ _ _ _ _ _ us hl => match us, hl with | [_], _ => rfl
  have F_back_of := fun_mk (st := s_back_of) l_back_of e_back_of k_back_of
  have b_back_of := F_back_of.binds (ps := ["numbers"]) fun _ _ _ _ _ _ us hl => match us, hl with | [_], _ => rfl
  have F_taken_back := fun_mk (st := s_taken_back) l_taken_back e_taken_back k_taken_back
  have b_taken_back := F_taken_back.binds (ps := ["numbers"]) fun _ _ _ _ _ _ us hl => match us, hl with | [_], _ => rfl
  have F__law_fibonacci_right := fun_mk (st := s__law_fibonacci_right) l__law_fibonacci_right e__law_fibonacci_right k__law_fibonacci_right
  have b__law_fibonacci_right := F__law_fibonacci_right.binds (ps := ["pot"]) fun _ _ _ _ _ _ us hl => match us, hl with | [_], _ => rfl
  have F__law_right := fun_mk (st := s__law_right) l__law_right e__law_right k__law_right
  have b__law_right := F__law_right.binds (ps := ["pot"]) fun _ _ _ _ _ _ us hl => match us, hl with | [_], _ => rfl
  have F__law_pot := fun_mk (st := s__law_pot) l__law_pot e__law_pot k__law_pot
  have b__law_pot := F__law_pot.binds (ps := ["script", "k"]) fun _ _ _ _ _ _ us hl => match us, hl with | [_, _], _ => rfl
  have F_law := fun_mk (st := s_law) l_law e_law k_law
  have b_law := F_law.binds (ps := ["script"]) fun _ _ _ _ _ _ us hl => match us, hl with | [_], _ => rfl
  let T : Top K mg := {
    f__law_draw := _, d__law_draw := _, F__law_draw := F__law_draw, m__law_draw := PySem.W.mg_of X G a__law_draw, b__law_draw := b__law_draw
    f__law_pick := _, d__law_pick := _, F__law_pick := F__law_pick, m__law_pick := PySem.W.mg_of X G a__law_pick, b__law_pick := b__law_pick
    f__law_prime := _, d__law_prime := _, F__law_prime := F__law_prime, m__law_prime := PySem.W.mg_of X G a__law_prime, b__law_prime := b__law_prime
    f_is_integer := _, d_is_integer := _, F_is_integer := F_is_integer, m_is_integer := PySem.W.mg_of X G a_is_integer, b_is_integer := b_is_integer
    f_is_within := _, d_is_within := _, F_is_within := F_is_within, m_is_within := PySem.W.mg_of X G a_is_within, b_is_within := b_is_within
    f_want_many := _, d_want_many := _, F_want_many := F_want_many, m_want_many := PySem.W.mg_of X G a_want_many, b_want_many := b_want_many
    f_choose_of := _, d_choose_of := _, F_choose_of := F_choose_of, m_choose_of := PySem.W.mg_of X G a_choose_of, b_choose_of := b_choose_of
    f_choose_row := _, d_choose_row := _, F_choose_row := F_choose_row, m_choose_row := PySem.W.mg_of X G a_choose_row, b_choose_row := b_choose_row
    f_want_prime := _, d_want_prime := _, F_want_prime := F_want_prime, m_want_prime := PySem.W.mg_of X G a_want_prime, b_want_prime := b_want_prime
    f_want_great := _, d_want_great := _, F_want_great := F_want_great, m_want_great := PySem.W.mg_of X G a_want_great, b_want_great := b_want_great
    f_want_choice := _, d_want_choice := _, F_want_choice := F_want_choice, m_want_choice := PySem.W.mg_of X G a_want_choice, b_want_choice := b_want_choice
    f_digits_of := _, d_digits_of := _, F_digits_of := F_digits_of, m_digits_of := PySem.W.mg_of X G a_digits_of, b_digits_of := b_digits_of
    f_both_digits := _, d_both_digits := _, F_both_digits := F_both_digits, m_both_digits := PySem.W.mg_of X G a_both_digits, b_both_digits := b_both_digits
    f_carried := _, d_carried := _, F_carried := F_carried, m_carried := PySem.W.mg_of X G a_carried, b_carried := b_carried
    f_choice_times := _, d_choice_times := _, F_choice_times := F_choice_times, m_choice_times := PySem.W.mg_of X G a_choice_times, b_choice_times := b_choice_times
    f__law_often := _, d__law_often := _, F__law_often := F__law_often, m__law_often := PySem.W.mg_of X G a__law_often, b__law_often := b__law_often
    f_rest_of := _, d_rest_of := _, F_rest_of := F_rest_of, m_rest_of := PySem.W.mg_of X G a_rest_of, b_rest_of := b_rest_of
    f_row_rests := _, d_row_rests := _, F_row_rests := F_row_rests, m_row_rests := PySem.W.mg_of X G a_row_rests, b_row_rests := b_row_rests
    f_row_left := _, d_row_left := _, F_row_left := F_row_left, m_row_left := PySem.W.mg_of X G a_row_left, b_row_left := b_row_left
    f_want_some := _, d_want_some := _, F_want_some := F_want_some, m_want_some := PySem.W.mg_of X G a_want_some, b_want_some := b_want_some
    f_choose := _, d_choose := _, F_choose := F_choose, m_choose := PySem.W.mg_of X G a_choose, b_choose := b_choose
    f_choice_rest := _, d_choice_rest := _, F_choice_rest := F_choice_rest, m_choice_rest := PySem.W.mg_of X G a_choice_rest, b_choice_rest := b_choice_rest
    f_bags_counted := _, d_bags_counted := _, F_bags_counted := F_bags_counted, m_bags_counted := PySem.W.mg_of X G a_bags_counted, b_bags_counted := b_bags_counted
    f_many_bags := _, d_many_bags := _, F_many_bags := F_many_bags, m_many_bags := PySem.W.mg_of X G a_many_bags, b_many_bags := b_many_bags
    f_want_steps := _, d_want_steps := _, F_want_steps := F_want_steps, m_want_steps := PySem.W.mg_of X G a_want_steps, b_want_steps := b_want_steps
    f_many_paths := _, d_many_paths := _, F_many_paths := F_many_paths, m_many_paths := PySem.W.mg_of X G a_many_paths, b_many_paths := b_many_paths
    f__law_choices_right := _, d__law_choices_right := _, F__law_choices_right := F__law_choices_right, m__law_choices_right := PySem.W.mg_of X G a__law_choices_right, b__law_choices_right := b__law_choices_right
    f_orders_counted := _, d_orders_counted := _, F_orders_counted := F_orders_counted, m_orders_counted := PySem.W.mg_of X G a_orders_counted, b_orders_counted := b_orders_counted
    f_many_orders := _, d_many_orders := _, F_many_orders := F_many_orders, m_many_orders := PySem.W.mg_of X G a_many_orders, b_many_orders := b_many_orders
    f_times_in_product := _, d_times_in_product := _, F_times_in_product := F_times_in_product, m_times_in_product := PySem.W.mg_of X G a_times_in_product, b_times_in_product := b_times_in_product
    f_product_times := _, d_product_times := _, F_product_times := F_product_times, m_product_times := PySem.W.mg_of X G a_product_times, b_product_times := b_product_times
    f_bare_product := _, d_bare_product := _, F_bare_product := F_bare_product, m_bare_product := PySem.W.mg_of X G a_bare_product, b_bare_product := b_bare_product
    f_product_rest := _, d_product_rest := _, F_product_rest := F_product_rest, m_product_rest := PySem.W.mg_of X G a_product_rest, b_product_rest := b_product_rest
    f_is_list := _, d_is_list := _, F_is_list := F_is_list, m_is_list := PySem.W.mg_of X G a_is_list, b_is_list := b_is_list
    f_are_letters_value := _, d_are_letters_value := _, F_are_letters_value := F_are_letters_value, m_are_letters_value := PySem.W.mg_of X G a_are_letters_value, b_are_letters_value := b_are_letters_value
    f_want_letters := _, d_want_letters := _, F_want_letters := F_want_letters, m_want_letters := PySem.W.mg_of X G a_want_letters, b_want_letters := b_want_letters
    f_words_counted := _, d_words_counted := _, F_words_counted := F_words_counted, m_words_counted := PySem.W.mg_of X G a_words_counted, b_words_counted := b_words_counted
    f_many_words := _, d_many_words := _, F_many_words := F_many_words, m_many_words := PySem.W.mg_of X G a_many_words, b_many_words := b_many_words
    f_want_many_to := _, d_want_many_to := _, F_want_many_to := F_want_many_to, m_want_many_to := PySem.W.mg_of X G a_want_many_to, b_want_many_to := b_want_many_to
    f_catalan_of := _, d_catalan_of := _, F_catalan_of := F_catalan_of, m_catalan_of := PySem.W.mg_of X G a_catalan_of, b_catalan_of := b_catalan_of
    f_many_brackets := _, d_many_brackets := _, F_many_brackets := F_many_brackets, m_many_brackets := PySem.W.mg_of X G a_many_brackets, b_many_brackets := b_many_brackets
    f_want_line := _, d_want_line := _, F_want_line := F_want_line, m_want_line := PySem.W.mg_of X G a_want_line, b_want_line := b_want_line
    f_below_of := _, d_below_of := _, F_below_of := F_below_of, m_below_of := PySem.W.mg_of X G a_below_of, b_below_of := b_below_of
    f_many_below := _, d_many_below := _, F_many_below := F_many_below, m_many_below := PySem.W.mg_of X G a_many_below, b_many_below := b_many_below
    f_digit_sum := _, d_digit_sum := _, F_digit_sum := F_digit_sum, m_digit_sum := PySem.W.mg_of X G a_digit_sum, b_digit_sum := b_digit_sum
    f__law_products_right := _, d__law_products_right := _, F__law_products_right := F__law_products_right, m__law_products_right := PySem.W.mg_of X G a__law_products_right, b__law_products_right := b__law_products_right
    f_row_common := _, d_row_common := _, F_row_common := F_row_common, m_row_common := PySem.W.mg_of X G a_row_common, b_row_common := b_row_common
    f__law_prime_right := _, d__law_prime_right := _, F__law_prime_right := F__law_prime_right, m__law_prime_right := PySem.W.mg_of X G a__law_prime_right, b__law_prime_right := b__law_prime_right
    f_want_count := _, d_want_count := _, F_want_count := F_want_count, m_want_count := PySem.W.mg_of X G a_want_count, b_want_count := b_want_count
    f_fib_of := _, d_fib_of := _, F_fib_of := F_fib_of, m_fib_of := PySem.W.mg_of X G a_fib_of, b_fib_of := b_fib_of
    f_fib := _, d_fib := _, F_fib := F_fib, m_fib := PySem.W.mg_of X G a_fib, b_fib := b_fib
    f_want_numbers := _, d_want_numbers := _, F_want_numbers := F_want_numbers, m_want_numbers := PySem.W.mg_of X G a_want_numbers, b_want_numbers := b_want_numbers
    f_row_below := _, d_row_below := _, F_row_below := F_row_below, m_row_below := PySem.W.mg_of X G a_row_below, b_row_below := b_row_below
    f_difference_row := _, d_difference_row := _, F_difference_row := F_difference_row, m_difference_row := PySem.W.mg_of X G a_difference_row, b_difference_row := b_difference_row
    f_summed_at := _, d_summed_at := _, F_summed_at := F_summed_at, m_summed_at := PySem.W.mg_of X G a_summed_at, b_summed_at := b_summed_at
    f_sums_of := _, d_sums_of := _, F_sums_of := F_sums_of, m_sums_of := PySem.W.mg_of X G a_sums_of, b_sums_of := b_sums_of
    f_choice_sums := _, d_choice_sums := _, F_choice_sums := F_choice_sums, m_choice_sums := PySem.W.mg_of X G a_choice_sums, b_choice_sums := b_choice_sums
    f_signed := _, d_signed := _, F_signed := F_signed, m_signed := PySem.W.mg_of X G a_signed, b_signed := b_signed
    f_back_of := _, d_back_of := _, F_back_of := F_back_of, m_back_of := PySem.W.mg_of X G a_back_of, b_back_of := b_back_of
    f_taken_back := _, d_taken_back := _, F_taken_back := F_taken_back, m_taken_back := PySem.W.mg_of X G a_taken_back, b_taken_back := b_taken_back
    f__law_fibonacci_right := _, d__law_fibonacci_right := _, F__law_fibonacci_right := F__law_fibonacci_right, m__law_fibonacci_right := PySem.W.mg_of X G a__law_fibonacci_right, b__law_fibonacci_right := b__law_fibonacci_right
    f__law_right := _, d__law_right := _, F__law_right := F__law_right, m__law_right := PySem.W.mg_of X G a__law_right, b__law_right := b__law_right
    f__law_pot := _, d__law_pot := _, F__law_pot := F__law_pot, m__law_pot := PySem.W.mg_of X G a__law_pot, b__law_pot := b__law_pot
    f_law := _, d_law := _, F_law := F_law, m_law := PySem.W.mg_of X G a_law, b_law := b_law
    z_abs := PySem.W.mg_none_of X G z_abs
    z_all := PySem.W.mg_none_of X G z_all
    z_bool := PySem.W.mg_none_of X G z_bool
    z_divmod := PySem.W.mg_none_of X G z_divmod
    z_enumerate := PySem.W.mg_none_of X G z_enumerate
    z_int := PySem.W.mg_none_of X G z_int
    z_isinstance := PySem.W.mg_none_of X G z_isinstance
    z_len := PySem.W.mg_none_of X G z_len
    z_list := PySem.W.mg_none_of X G z_list
    z_max := PySem.W.mg_none_of X G z_max
    z_min := PySem.W.mg_none_of X G z_min
    z_range := PySem.W.mg_none_of X G z_range
    z_sum := PySem.W.mg_none_of X G z_sum
    z_tuple := PySem.W.mg_none_of X G z_tuple
    z_zip := PySem.W.mg_none_of X G z_zip
    t_MOST_KINDS := t_MOST_KINDS, c_MOST_KINDS := PySem.W.mg_of X G c_MOST_KINDS
    t_MOST_LETTERS := t_MOST_LETTERS, c_MOST_LETTERS := PySem.W.mg_of X G c_MOST_LETTERS
    t_MOST_MANY := t_MOST_MANY, c_MOST_MANY := PySem.W.mg_of X G c_MOST_MANY
    t_MOST_NUMBER := t_MOST_NUMBER, c_MOST_NUMBER := PySem.W.mg_of X G c_MOST_NUMBER
    t_MOST_NUMBERS := t_MOST_NUMBERS, c_MOST_NUMBERS := PySem.W.mg_of X G c_MOST_NUMBERS
    t_MOST_PLACE := t_MOST_PLACE, c_MOST_PLACE := PySem.W.mg_of X G c_MOST_PLACE
    t_MOST_PRIME := t_MOST_PRIME, c_MOST_PRIME := PySem.W.mg_of X G c_MOST_PRIME
    t_MOST_SIZE := t_MOST_SIZE, c_MOST_SIZE := PySem.W.mg_of X G c_MOST_SIZE
  }
  exact ⟨_, fun s v => .of_eq rfl, fun base _ _ => ok_law T⟩
end
end DL

namespace DL
open PySem PySem.Spec PyProof.Rows L2
/-- the pot: what is left of the cell, the rolling number -/
def IsPot (p : Vl) : Prop := ∃ a b : Int, p = .ow [.int a, .int b] ∧ 0 ≤ a ∧ 0 ≤ b ∧ b < 2147483648
theorem draw_ok {p : Vl} {n : Int} (hp : IsPot p) (hn : 0 < n) (hn2 : n < 115792089237316195423570985008687907853269984665640564039457584007913129639936) : ∃ d p', den__law_draw [some p, some (.fz (.int n))] = some (.fz (.int d), [some p', none]) ∧ 0 ≤ d ∧ d < n ∧ IsPot p' := by
  obtain ⟨a, b, rfl, ha, hb, hb2⟩ := hp
  by_cases h : 0 < a
  · refine ⟨a % n, .ow [.int (a / n), .int b], ?_, Int.emod_nonneg _ (by omega), Int.emod_lt_of_pos _ hn, _, _, rfl, Int.ediv_nonneg ha (by omega), hb, hb2⟩
    have h2 : divOk a n = true := divOk_of hn hn2
    simp [den__law_draw, h, h2, maskR_2]
  · have hb' := Int.emod_lt_of_pos (b * 39373 + 3049) (by decide : (0 : Int) < 2147483587)
    have hb0 := Int.emod_nonneg (b * 39373 + 3049) (by decide : (2147483587 : Int) ≠ 0)
    have h1 : mulOk b 39373 = true := mulOk_r (by decide) (by decide)
    have h2 : ∀ c, mulOk ((b * 39373 + 3049) % 2147483587) c = true := fun c => mulOk_l (by omega) (by omega)
    have h3 : ∀ c, divOk c 19 = true := fun c => divOk_of (by decide) (by decide)
    have e : den__law_draw [some (.ow [.int a, .int b]), some (.fz (.int n))] = some (.fz (.int ((b * 39373 + 3049) % 2147483587 * ((b * 39373 + 3049) % 2147483587) % 2147483563 / 19 % n)), [some (.ow [.int a, .int ((b * 39373 + 3049) % 2147483587)]), none]) := by
      simp [den__law_draw, h, h1, h2, h3, hn, maskR_2]
    exact ⟨_, _, e, Int.emod_nonneg _ (by omega), Int.emod_lt_of_pos _ hn, _, _, rfl, ha, hb0, by omega⟩
theorem pot_ok (ns : List Int) (k : Int) (hk : 0 ≤ k) (hk2 : k < 1000) : ∃ p, den__law_pot [some (.lk (ns.map .int)), some (.fz (.int k))] = some (p, [none, none]) ∧ IsPot p := by
  have go : ∀ c : Int, IsPot (.ow [.int (if 0 < c - 1000000000000000000 then c - 1000000000000000000 else 0), .int ((c % 2147483549 * 40014 + 11807 * k + 61) % 2147483563 + 1)]) := fun c => by
    refine ⟨_, _, rfl, ?_, ?_, ?_⟩
    · split <;> omega
    · omega
    · omega
  have h1 : ∀ c : Int, mulOk (c % 2147483549) 40014 = true := fun c => mulOk_r (by decide) (by decide)
  have h2 : mulOk 11807 k = true := mulOk_l (by decide) (by decide)
  have h3 : mulOk 3041 k = true := mulOk_l (by decide) (by decide)
  have hp18 : powOk 10 18 = true := powOk_of (by decide) (by decide) (by decide) (by decide)
  by_cases h : k < ns.length
  · obtain ⟨j, rfl⟩ := Int.eq_ofNat_of_zero_le hk
    have hj : (ns.map PyData.int)[j]? = some (.int ns[j]) := by rw [List.getElem?_map, List.getElem?_eq_getElem (by omega)]; rfl
    refine ⟨_, ?_, go (if ns[j] < 0 then -ns[j] else ns[j])⟩
    simp [den__law_pot, h, h1, h2, h3, hp18, ixL_nat hj, maskR_2]
  · refine ⟨_, ?_, go (3041 * k + 11807)⟩
    simp [den__law_pot, h, h1, h2, h3, hp18, maskR_2]
/-! numbers, choices -/
theorem isint_ok (i : Int) : den_is_integer [some (.fz (.int i))] = some (.fz (.bool true), [none]) := by
  simp [den_is_integer, maskR_1, tyC, isC]
theorem within_ok {i lo hi : Int} (h : lo ≤ i) (h2 : i ≤ hi) : den_is_within [some (.fz (.int i)), some (.fz (.int lo)), some (.fz (.int hi))] = some (.fz (.bool true), [none, none, none]) := by
  have h1 := isint_ok i
  simp [den_is_within, h1, h, h2, maskR_3]
theorem choose_ok {n k : Nat} (hn : n < 1000000000) (hk : k < 1000000000) : den_choose_of [some (.fz (.int n)), some (.fz (.int k))] = some (.fz (.int (ch n k)), [none, none]) := by
  by_cases hk : k ≤ n
  rotate_left
  · have h0 : (n : Int) < k := by omega
    rw [ch_big (by omega)]
    simp [den_choose_of, h0, maskR_2]
  obtain ⟨m, hm⟩ : ∃ m, m = min k (n - k) := ⟨_, rfl⟩
  have e0 : ch n m = ch n k := by
    by_cases h : k ≤ n - k
    · rw [hm, Nat.min_eq_left h]
    · rw [hm, Nat.min_eq_right (by omega), ← ch_sym hk]
  have loop : ∃ ρ1, fo_choose_of_3 [some (.fz (.int n)), some (.fz (.int k)), some (.fz (.int 1)), none] = some (.nx ρ1) ∧ ∃ x, ρ1 = [some (.fz (.int n)), some (.fz (.int k)), some (.fz (.int (ch n m))), x] := by
    have := forL_inv (P := fun j ρ => ∃ x, ρ = [some (.fz (.int n)), some (.fz (.int k)), some (.fz (.int (ch n j))), x]) (st := nameF 3) (s := fb_choose_of_1) (rngD 0 m) 0 [some (.fz (.int n)), some (.fz (.int k)), some (.fz (.int 1)), none] ⟨none, by simp⟩ ?_
    · obtain ⟨ρ1, e, x, q⟩ := this
      refine ⟨ρ1, ?_, x, by simpa using q⟩
      refine forS_of (ds := rngD 0 m) (ρ1 := [some (.fz (.int n)), some (.fz (.int k)), some (.fz (.int 1)), none]) ?_ e
      have e1 : (if (n : Int) - k < k then (n : Int) - k else k) = (m : Int) := by split <;> omega
      have := smallI_of (a := (m : Int)) (by omega) (by omega)
      simp [fi_choose_of_2, e1, this]
    · rintro j d ρ hd ⟨x, rfl⟩
      obtain ⟨hj, rfl⟩ := rngD_get hd
      refine ⟨[some (.fz (.int n)), some (.fz (.int k)), some (.fz (.int (ch n (j + 1)))), some (.fz (.int j))], .inl ?_, some (.fz (.int j)), by simp⟩
      have h1 : mulOk (ch n j) (n - j) = true := mulOk_r (by omega) (by omega)
      have h2 : divOk (ch n j * (n - j)) (j + 1) = true := divOk_of (by omega) (by omega)
      simp [fb_choose_of_1, h1, h2, ch_div (show j ≤ n by omega)]
  obtain ⟨ρ1, e, x, rfl⟩ := loop
  have h0 : ¬ (n : Int) < k := by omega
  simp [den_choose_of, h0, e, e0, maskR_2]
noncomputable section
theorem pick_ok {p : Vl} {ns : List Int} (hp : IsPot p) (h0 : 0 < ns.length) (h1 : ns.length < 1000) : ∃ i p', den__law_pick [some p, some (.fz (.list (ns.map .int)))] = some (.fz (.int i), [some p', none]) ∧ i ∈ ns ∧ IsPot p' := by
  obtain ⟨d, p', e, d0, d1, hp'⟩ := draw_ok hp (n := ns.length) (by omega) (by omega)
  obtain ⟨k, rfl⟩ := Int.eq_ofNat_of_zero_le d0
  have hk : k < ns.length := by omega
  have g : (ns.map PyData.int)[k]? = some (.int ns[k]) := by rw [List.getElem?_map, List.getElem?_eq_getElem hk]; rfl
  refine ⟨ns[k], p', ?_, List.getElem_mem hk, hp'⟩
  have hpk : ∃ q, p = .ow q := by obtain ⟨a, b, rfl, _⟩ := hp; exact ⟨_, rfl⟩
  obtain ⟨q, rfl⟩ := hpk
  obtain ⟨q', rfl⟩ : ∃ q, p' = .ow q := by obtain ⟨a, b, rfl, _⟩ := hp'; exact ⟨_, rfl⟩
  simp [den__law_pick, e, ixL_nat g, maskR_2]
end
end DL

namespace DL
open PySem PySem.Spec PyProof.Rows L2
noncomputable section
/-! primes, numbers, digits -/
theorem pr_rests : [2, 3, 5, 7, 11, 13, 89, 97].all (fun p => (List.range (p - 2)).all fun j => p % (2 + j) != 0) = true := by decide +kernel
theorem wprime {p : Nat} (hp : IsP p) : den_want_prime [some (.fz (.int (p : Int)))] = some (.fz .none, [none]) := by
  have h2 := hp.two
  have e : lc_want_prime_3 [some (.fz (.int (p : Int))), none] = some (.ow ((List.replicate (p - 2) true).map .bool), [some (.fz (.int (p : Int))), none]) := by
    have e0 : (List.replicate (p - 2) true).map PyData.bool = (List.range (p - 2)).map fun _ => PyData.bool true := by
      rw [List.map_replicate, List.map_const', List.length_range]
    rw [e0]
    refine lcE_tab (n := p - 2) (F := fun j => .int (2 + (j : Int))) (G := fun _ => .bool true) (ρ1 := [some (.fz (.int (p : Int))), none]) ?_ (by omega) fun j hj => ⟨_, .fz (.bool true), rfl, rfl, ?_, rfl, rfl⟩
    · rw [← rngD_tab]
      have s1 := smallI_of (a := (p : Int)) (by omega) (by omega)
      have s2 : smallI 2 = true := smallI_of (by omega) (by omega)
      have s3 : ((p : Int) - 2).toNat = p - 2 := by omega
      simp [li_want_prime_1, s1, s2, s3]
    · have t := List.all_eq_true.mp (List.all_eq_true.mp pr_rests p hp) j (List.mem_range.mpr hj)
      have t2 : ((p : Int) % (2 + (j : Int)) = 0) = False := by
        rw [bne_iff_ne] at t
        refine eq_false fun h => t ?_
        have h3 : ((p % (2 + j) : Nat) : Int) = 0 := by rw [Int.natCast_emod, Int.natCast_add]; exact h
        exact Int.ofNat.inj h3
      have t3 : (0 : Int) < (2 : Int) + (j : Int) := by omega
      simp [le_want_prime_2, t2, t3]
  have w := within_ok (i := (p : Int)) (lo := 2) (hi := 97) (by omega) (by omega)
  simp [den_want_prime, w, e, allTrue, maskR_1, -List.map_replicate]
theorem wgreat {n : Nat} (h : n ≤ 1000000000000000000) : den_want_great [some (.fz (.int (n : Int)))] = some (.fz .none, [none]) := by
  have h1 := within_ok (i := (n : Int)) (lo := 0) (hi := 1000000000000000000) (by omega) (by omega)
  simp [den_want_great, h1, maskR_1]
theorem wchoice {p a b : Nat} (hp : IsP p) (ha : a ≤ 1000000000000000000) (hb : b ≤ 1000000000000000000) : den_want_choice [some (.fz (.int (p : Int))), some (.fz (.int (a : Int))), some (.fz (.int (b : Int)))] = some (.fz .none, [none, none, none]) := by
  have h1 := wprime hp
  have h2 := wgreat ha
  have h3 := wgreat hb
  simp [den_want_choice, h1, h2, h3, maskR_3]
/-- the digits -/
def DGV (p n m : Nat) : List Int := vec m fun j => ((dig p n j : Nat) : Int)
theorem DGV_len {p n m : Nat} : (DGV p n m).length = m := vec_len
theorem DGV_s {p n m : Nat} : (DGV p n (m + 1)).map PyData.int = (DGV p n m).map .int ++ [.int ((dig p n m : Nat) : Int)] := vec_succ
theorem dg_mod {p n j : Nat} : ((n / p ^ j : Nat) : Int) % (p : Int) = ((dig p n j : Nat) : Int) := rfl
theorem dg_div {p n j : Nat} : ((n / p ^ j : Nat) : Int) / (p : Int) = ((n / p ^ (j + 1) : Nat) : Int) := by
  rw [← pow_sd]; rfl
theorem divOk_p {p : Nat} (hp : IsP p) (c : Int) : divOk c (p : Int) = true := divOk_of (by have := hp.two; omega) (by have := hp.two; omega)
theorem digitsof_ok {p n : Nat} (hp : IsP p) (hn : n ≤ 1000000000000000000) : den_digits_of [some (.fz (.int (p : Int))), some (.fz (.int (n : Int)))] = some (.ow ((DGV p n (dl p n)).map .int), [none, none]) := by
  have h2 := hp.two
  have hm := dl_le h2.1 hn
  have loop := whileL_p (c := wt_digits_of_1) (s := wb_digits_of_2) (P := fun k ρ => k ≤ dl p n ∧ ρ = [some (.fz (.int (p : Int))), some (.fz (.int ((n / p ^ (dl p n - k) : Nat) : Int))), some (.ow ((DGV p n (dl p n - k)).map .int))])
    (Q := fun ρ => ∃ x, ρ = [some (.fz (.int (p : Int))), x, some (.ow ((DGV p n (dl p n)).map .int))]) ?_ ?_ fuel (dl p n) [some (.fz (.int (p : Int))), some (.fz (.int (n : Int))), some (.ow [])] (fuel_big (by omega)) ⟨Nat.le_refl _, by
      rw [Nat.sub_self, Nat.pow_zero, Nat.div_one]; rfl⟩
  · obtain ⟨ρ1, e, x, rfl⟩ := loop
    have e2 : wh_digits_of_3 [some (.fz (.int (p : Int))), some (.fz (.int (n : Int))), some (.ow [])] = _ := e
    generalize (DGV p n (dl p n)).map PyData.int = L at *
    simp [den_digits_of, e2, maskR_2]
  · rintro k ρ ⟨hk, rfl⟩
    obtain ⟨j, hj⟩ : ∃ j, j = dl p n - (k + 1) := ⟨_, rfl⟩
    have hj2 : dl p n - k = j + 1 := by omega
    rw [← hj]
    have pos := (dl_pos h2.1 hn (j := j)).mpr (by omega)
    have pos' : (0 : Int) < ((n / p ^ j : Nat) : Int) := by omega
    have e1 := dg_mod (p := p) (n := n) (j := j)
    have e2 := dg_div (p := p) (n := n) (j := j)
    have d1 := divOk_p hp
    have ap := appG_ok (ds := (DGV p n j).map .int) (d := .int ((dig p n j : Nat) : Int)) (by rw [List.length_map, DGV_len]; omega)
    rw [← DGV_s] at ap
    have nz : 0 < p := by omega
    rw [hj2]
    generalize ((n / p ^ (j + 1) : Nat) : Int) = Y at *
    generalize ((n / p ^ j : Nat) : Int) = X at *
    generalize ((dig p n j : Nat) : Int) = Z at *
    generalize (DGV p n (j + 1)).map PyData.int = L2 at *
    generalize (DGV p n j).map PyData.int = L at *
    refine ⟨by simp [wt_digits_of_1, pos'], [some (.fz (.int (p : Int))), some (.fz (.int Y)), some (.ow L2)], .inl ?_, by omega, rfl⟩
    simp [wb_digits_of_2, e1, e2, d1, ap, nz]
  · rintro ρ ⟨_, rfl⟩
    rw [Nat.sub_zero]
    have z : n / p ^ dl p n = 0 := Nat.div_eq_of_lt (dl_lt h2.1 hn)
    rw [z]
    exact ⟨by simp [wt_digits_of_1], _, rfl⟩
/-- both rows of digits -/
def BD (p a b : Nat) : Nat := max (dl p a) (dl p b)
theorem pad_ok {p n m : Nat} (hp : IsP p) (hn : n ≤ 1000000000000000000) (h : dl p n ≤ m) (hm : m ≤ 64) : catL ((DGV p n (dl p n)).map .int) (List.replicate (m - dl p n) (.int 0)) = some (.ow ((DGV p n m).map .int)) := by
  have h2 := hp.two
  have go : ∀ d, (DGV p n (dl p n)).map PyData.int ++ List.replicate d (.int 0) = (DGV p n (dl p n + d)).map .int := fun d => by
    induction d with
    | zero => exact List.append_nil _
    | succ d ih =>
      rw [← Nat.add_assoc, DGV_s, ← ih, List.replicate_succ', List.append_assoc, dig_big (Nat.lt_of_lt_of_le (dl_lt h2.1 hn) (Nat.pow_le_pow_right (by omega) (by omega)))]
      rfl
  rw [catL_ok (by rw [List.length_map, DGV_len, List.length_replicate]; omega), go, Nat.add_sub_cancel' h]
def PL (p a b m : Nat) : List D := (List.range m).map fun i => .tuple [.int ((dig p a i : Nat) : Int), .int ((dig p b i : Nat) : Int)]
theorem PL_zip {p a b m : Nat} : zipD ((DGV p a m).map .int) ((DGV p b m).map .int) = PL p a b m := by
  rw [zip_ints _ _ (by rw [DGV_len, DGV_len]), DGV_len]
  refine List.map_congr_left fun i hi => ?_
  have := List.mem_range.mp hi
  unfold DGV
  rw [xat_vec this, xat_vec this]
theorem BD_le {p a b : Nat} (hp : IsP p) (ha : a ≤ 1000000000000000000) (hb : b ≤ 1000000000000000000) : BD p a b ≤ 64 := Nat.max_le.mpr ⟨dl_le hp.two.1 ha, dl_le hp.two.1 hb⟩
theorem BD_a {p a b : Nat} (hp : IsP p) (ha : a ≤ 1000000000000000000) : a < p ^ BD p a b := Nat.lt_of_lt_of_le (dl_lt hp.two.1 ha) (Nat.pow_le_pow_right (by have := hp.two; omega) (Nat.le_max_left _ _))
theorem BD_b {p a b : Nat} (hp : IsP p) (hb : b ≤ 1000000000000000000) : b < p ^ BD p a b := Nat.lt_of_lt_of_le (dl_lt hp.two.1 hb) (Nat.pow_le_pow_right (by have := hp.two; omega) (Nat.le_max_right _ _))
theorem both_ok {p a b : Nat} (hp : IsP p) (ha : a ≤ 1000000000000000000) (hb : b ≤ 1000000000000000000) : den_both_digits [some (.fz (.int (p : Int))), some (.fz (.int (a : Int))), some (.fz (.int (b : Int)))] = some (.ow (PL p a b (BD p a b)), [none, none, none]) := by
  have d1 := digitsof_ok hp ha
  have d2 := digitsof_ok hp hb
  have hm := BD_le hp ha hb
  have la := DGV_len (p := p) (n := a) (m := dl p a)
  have lb := DGV_len (p := p) (n := b) (m := dl p b)
  have q1 := pad_ok hp ha (m := BD p a b) (Nat.le_max_left _ _) hm
  have q2 := pad_ok hp hb (m := BD p a b) (Nat.le_max_right _ _) hm
  have z : ∀ ρ, lzK ([.list ((DGV p a (BD p a b)).map .int), .list ((DGV p b (BD p a b)).map .int)], ρ) = some (.ow (PL p a b (BD p a b)), ρ) := fun ρ => by
    rw [← PL_zip]
    exact lzK_ok (by rw [DGV_len]; omega) (by rw [DGV_len]; omega)
  have mx : ∀ ρ, maxF ρ [.fz (.int ((dl p a : Nat) : Int)), .fz (.int ((dl p b : Nat) : Int))] = some (.fz (.int ((BD p a b : Nat) : Int))) := fun ρ => by
    unfold BD
    simp
    omega
  have r1 := repL1 (d := .int 0) (k := ((BD p a b : Nat) : Int) - ((dl p a : Nat) : Int)) (by omega) (by have := dl_le hp.two.1 ha; omega)
  have r2 := repL1 (d := .int 0) (k := ((BD p a b : Nat) : Int) - ((dl p b : Nat) : Int)) (by omega) (by have := dl_le hp.two.1 hb; omega)
  have t1 : (((BD p a b : Nat) : Int) - ((dl p a : Nat) : Int)).toNat = BD p a b - dl p a := by omega
  have t2 : (((BD p a b : Nat) : Int) - ((dl p b : Nat) : Int)).toNat = BD p a b - dl p b := by omega
  rw [t1] at r1
  rw [t2] at r2
  have l1 : ((DGV p a (dl p a)).map PyData.int).length = dl p a := by rw [List.length_map, la]
  have l2 : ((DGV p b (dl p b)).map PyData.int).length = dl p b := by rw [List.length_map, lb]
  generalize List.replicate (BD p a b - dl p a) (PyData.int 0) = R1 at *
  generalize List.replicate (BD p a b - dl p b) (PyData.int 0) = R2 at *
  generalize PL p a b (BD p a b) = Z at *
  generalize (DGV p a (BD p a b)).map PyData.int = B1 at *
  generalize (DGV p b (BD p a b)).map PyData.int = B2 at *
  generalize (DGV p a (dl p a)).map PyData.int = A1 at *
  generalize (DGV p b (dl p b)).map PyData.int = A2 at *
  simp [den_both_digits, d1, d2, l1, l2, mx, r1, r2, q1, q2, z, maskR_3]
/-! the rest -/
theorem LPm_s {p a b j : Nat} : ((LP p a b j % p : Nat) : Int) * (ch (dig p a j) (dig p b j) : Nat) % (p : Int) = ((LP p a b (j + 1) % p : Nat) : Int) := by
  have e : LP p a b (j + 1) = LP p a b j * ch (dig p a j) (dig p b j) := rfl
  rw [e]
  show (((LP p a b j % p) * ch (dig p a j) (dig p b j) % p : Nat) : Int) = _
  rw [Nat.mod_mul_mod]
theorem LPm_mul {p a b j : Nat} (hp : IsP p) (c : Int) : mulOk ((LP p a b j % p : Nat) : Int) c = true := mulOk_l (by omega) (by
  have := Nat.mod_lt (LP p a b j) (show 0 < p by have := hp.two; omega)
  have := hp.two
  omega)
theorem PL_get {p a b m j : Nat} {d : D} (h : (PL p a b m)[j]? = some d) : j < m ∧ d = .tuple [.int ((dig p a j : Nat) : Int), .int ((dig p b j : Nat) : Int)] := by
  unfold PL at h
  rw [List.getElem?_map] at h
  obtain ⟨i, hi, rfl⟩ := Option.map_eq_some_iff.mp h
  obtain ⟨hl, rfl⟩ := List.getElem?_eq_some_iff.mp hi
  rw [List.length_range] at hl
  rw [List.getElem_range]
  exact ⟨hl, rfl⟩
theorem rest_ok {p a b : Nat} (hp : IsP p) (ha : a ≤ 1000000000000000000) (hb : b ≤ 1000000000000000000) : den_rest_of [some (.fz (.int (p : Int))), some (.fz (.int (a : Int))), some (.fz (.int (b : Int)))] = some (.fz (.int ((ch a b % p : Nat) : Int)), [none, none, none]) := by
  have h2 := hp.two
  have loop := forL_inv (P := fun j ρ => ∃ x y, ρ = [some (.fz (.int (p : Int))), some (.fz (.int (a : Int))), some (.fz (.int (b : Int))), some (.fz (.int ((LP p a b j % p : Nat) : Int))), x, y]) (st := tupT [nameF 4, nameF 5]) (s := fb_rest_of_1) (PL p a b (BD p a b)) 0 [some (.fz (.int (p : Int))), some (.fz (.int (a : Int))), some (.fz (.int (b : Int))), some (.fz (.int 1)), none, none] ⟨none, none, by
      have e : LP p a b 0 % p = 1 := hp.one
      rw [e]; rfl⟩ ?_
  · obtain ⟨ρ1, e, x, y, rfl⟩ := loop
    have hl : (PL p a b (BD p a b)).length = BD p a b := by unfold PL; rw [List.length_map, List.length_range]
    rw [Nat.zero_add, hl, lucas hp (BD_a hp ha) (BD_b hp hb)] at e
    have bo := both_ok hp ha hb
    have e2 : fo_rest_of_3 [some (.fz (.int (p : Int))), some (.fz (.int (a : Int))), some (.fz (.int (b : Int))), some (.fz (.int 1)), none, none] = _ := forS_of (ds := PL p a b (BD p a b)) (ρ1 := [some (.fz (.int (p : Int))), some (.fz (.int (a : Int))), some (.fz (.int (b : Int))), some (.fz (.int 1)), none, none]) (by
      simp [fi_rest_of_2, bo]) e
    generalize ((ch a b % p : Nat) : Int) = R at *
    simp [den_rest_of, e2, maskR_3]
  · rintro j d ρ hd ⟨x, y, rfl⟩
    obtain ⟨hj, rfl⟩ := PL_get hd
    rw [Nat.zero_add]
    refine ⟨[some (.fz (.int (p : Int))), some (.fz (.int (a : Int))), some (.fz (.int (b : Int))), some (.fz (.int ((LP p a b (j + 1) % p : Nat) : Int))), some (.fz (.int ((dig p a j : Nat) : Int))), some (.fz (.int ((dig p b j : Nat) : Int)))], .inl ?_, _, _, rfl⟩
    have la := dig_lt (p := p) (n := a) (i := j) (by omega)
    have lb := dig_lt (p := p) (n := b) (i := j) (by omega)
    have c := choose_ok (n := dig p a j) (k := dig p b j) (by omega) (by omega)
    have mo := LPm_mul (a := a) (b := b) (j := j) hp
    have st := LPm_s (p := p) (a := a) (b := b) (j := j)
    have nz : 0 < p := by omega
    generalize ((LP p a b (j + 1) % p : Nat) : Int) = Y at *
    generalize ((LP p a b j % p : Nat) : Int) = X at *
    generalize ((ch (dig p a j) (dig p b j) : Nat) : Int) = C at *
    generalize ((dig p a j : Nat) : Int) = A at *
    generalize ((dig p b j : Nat) : Int) = B at *
    simp [fb_rest_of_1, c, mo, st, nz]
theorem crest_ok {p a b : Nat} (hp : IsP p) (ha : a ≤ 1000000000000000000) (hb : b ≤ 1000000000000000000) : den_choice_rest [some (.fz (.int (p : Int))), some (.fz (.int (a : Int))), some (.fz (.int (b : Int)))] = some (.fz (.int ((ch a b % p : Nat) : Int)), [none, none, none]) := by
  have w := wchoice hp ha hb
  have e := rest_ok hp ha hb
  generalize ((ch a b % p : Nat) : Int) = R at *
  simp [den_choice_rest, w, e, maskR_3]
/-! draws -/
theorem prime_ok {q : Vl} (hq : IsPot q) : ∃ (p : Nat) (q' : Vl), den__law_prime [some q] = some (.fz (.int (p : Int)), [some q']) ∧ IsP p ∧ IsPot q' := by
  obtain ⟨i, q', e, hi, hq'⟩ := pick_ok (ns := [2, 2, 3, 3, 5, 7, 11, 13, 89, 97]) hq (by decide) (by decide)
  obtain ⟨k, rfl⟩ : ∃ k : Nat, i = k := by
    simp at hi
    exact ⟨i.toNat, by omega⟩
  obtain ⟨r, rfl⟩ : ∃ r, q = .ow r := by obtain ⟨a, b, rfl, _⟩ := hq; exact ⟨_, rfl⟩
  obtain ⟨r', rfl⟩ : ∃ r, q' = .ow r := by obtain ⟨a, b, rfl, _⟩ := hq'; exact ⟨_, rfl⟩
  refine ⟨k, .ow r', ?_, ?_, hq'⟩
  · simp at e
    simp [den__law_prime, e, maskR_1]
  · simp at hi
    simp [IsP]
    omega
end
end DL

namespace DL
open PySem PySem.Spec PyProof.Rows L2
noncomputable section
theorem seq_nx {s t : DS} {ρ ρ1 : Rho} (h : s ρ = some (.nx ρ1)) : seqS s t ρ = t ρ1 := by rw [ap_seqS, h]; rfl
theorem fn_body {n N : Nat} {fx : List Nat} {s : DS} {ρ ρ' : Rho} {r : D} (h : ρ.length = n) (hb : s (ρ ++ List.replicate (N - n) none) = some (.rt (.fz r) ρ')) : fnE n fx N s ρ = some (.fz r, maskR fx n ρ') := by
  rw [ap_fnE, if_pos h, hb]
  rfl
theorem frz_id {i : Nat} {s : DS} {ρ : Rho} {d : D} (h : ρ[i]? = some (some (.fz d))) : frzS i s ρ = s ρ := by
  rw [ap_frzS, h, frzK_fz]
theorem vec_tab {n : Nat} {f : Nat → Int} : (vec n f).map PyData.int = (List.range n).map fun j => .int (f j) := by unfold vec; rw [List.map_map]; rfl
theorem zip_next : ∀ xs : List Int, zipD (xs.map .int) ((xs.drop 1).map .int) = (List.range (xs.length - 1)).map fun j => .tuple [.int (xat xs j), .int (xat xs (j + 1))]
  | [] => rfl
  | [x] => rfl
  | x :: y :: r => by
    have ih := zip_next (y :: r)
    rw [List.drop_succ_cons, List.drop_zero] at ih ⊢
    rw [List.map_cons, List.map_cons, zipD, ← List.map_cons, ih]
    rw [show (x :: y :: r).length - 1 = ((y :: r).length - 1) + 1 by simp, List.range_succ_eq_map, List.map_cons, List.map_map]
    rfl
theorem drop_map (xs : List Int) (k : Nat) : (xs.map PyData.int).drop k = (xs.drop k).map .int := List.map_drop.symm
theorem wmany {n : Nat} (h : n ≤ 200) : den_want_many [some (.fz (.int (n : Int)))] = some (.fz .none, [none]) := by
  have h1 := within_ok (i := (n : Int)) (lo := 0) (hi := 200) (by omega) (by omega)
  simp [den_want_many, h1, maskR_1]
theorem wsome {n : Nat} (h : n ≤ 200) : den_want_some [some (.fz (.int (n : Int)))] = some (.fz .none, [none]) := by
  have h1 := within_ok (i := (n : Int)) (lo := 0) (hi := 200) (by omega) (by omega)
  simp [den_want_some, h1, maskR_1]
theorem choose2_ok {n k : Nat} (hn : n ≤ 200) (hk : k ≤ 200) : den_choose [some (.fz (.int (n : Int))), some (.fz (.int (k : Int)))] = some (.fz (.int (ch n k)), [none, none]) := by
  have w1 := wmany hn
  have w2 := wsome hk
  have e := choose_ok (n := n) (k := k) (by omega) (by omega)
  generalize ((ch n k : Nat) : Int) = C at *
  simp [den_choose, w1, w2, e, maskR_2]
def RW9 (p n : Nat) : List Int := vec (n + 1) fun k => ((ch n k % p : Nat) : Int)
theorem RW9_len {p n : Nat} : (RW9 p n).length = n + 1 := vec_len
theorem RW9_at {p n k : Nat} (h : k ≤ n) : ixL ((RW9 p n).map PyData.int) (k : Int) = some (.fz (.int ((ch n k % p : Nat) : Int))) := ixL_nat (vec_at (by omega))
theorem rowrests_ok {p n : Nat} (hp : IsP p) (hn : n ≤ 200) : den_row_rests [some (.fz (.int (p : Int))), some (.fz (.int (n : Int)))] = some (.ow ((RW9 p n).map .int), [none, none]) := by
  have w1 := wprime hp
  have w2 := wmany hn
  have e : lc_row_rests_3 [some (.fz (.int (p : Int))), some (.fz (.int (n : Int))), none] = some (.ow ((RW9 p n).map .int), [some (.fz (.int (p : Int))), some (.fz (.int (n : Int))), none]) := by
    unfold RW9
    rw [vec_tab]
    refine lcE_tab (n := n + 1) (F := fun j => .int (0 + (j : Int))) (G := fun j => .int ((ch n j % p : Nat) : Int)) (ρ1 := [some (.fz (.int (p : Int))), some (.fz (.int (n : Int))), none]) ?_ (by omega) fun j hj => ⟨_, .fz (.int ((ch n j % p : Nat) : Int)), rfl, rfl, ?_, rfl, rfl⟩
    · rw [← rngD_tab]
      have h2 := smallI_of (a := (n : Int) + 1) (by omega) (by omega)
      have h3 : ((n : Int) + 1).toNat = n + 1 := by omega
      simp [li_row_rests_1, h2, h3]
    · rw [Int.zero_add]
      have r := rest_ok hp (a := n) (b := j) (by omega) (by omega)
      generalize ((ch n j % p : Nat) : Int) = R at *
      simp [le_row_rests_2, r]
  generalize (RW9 p n).map PyData.int = L at *
  simp [den_row_rests, w1, w2, e, maskR_2]
theorem rowleft_ok {p n : Nat} (hp : IsP p) (hn : n ≤ 1000000000000000000) : den_row_left [some (.fz (.int (p : Int))), some (.fz (.int (n : Int)))] = some (.fz (.int ((pr (fun i => dig p n i + 1) (dl p n) : Nat) : Int)), [none, none]) := by
  have h2 := hp.two
  have w1 := wprime hp
  have w2 := wgreat hn
  have d1 := digitsof_ok hp hn
  have loop := forL_inv (P := fun j ρ => ∃ x, ρ = [some (.fz (.int (p : Int))), some (.fz (.int (n : Int))), some (.fz (.int ((pr (fun i => dig p n i + 1) j : Nat) : Int))), x]) (st := nameF 3) (s := fb_row_left_1) ((DGV p n (dl p n)).map PyData.int) 0 [some (.fz (.int (p : Int))), some (.fz (.int (n : Int))), some (.fz (.int 1)), none] ⟨none, rfl⟩ ?_
  · obtain ⟨ρ1, e, x, rfl⟩ := loop
    rw [List.length_map, DGV_len, Nat.zero_add] at e
    have e2 : fo_row_left_3 [some (.fz (.int (p : Int))), some (.fz (.int (n : Int))), some (.fz (.int 1)), none] = _ := forS_of (ds := (DGV p n (dl p n)).map PyData.int) (ρ1 := [some (.fz (.int (p : Int))), some (.fz (.int (n : Int))), some (.fz (.int 1)), none]) (by
      generalize (DGV p n (dl p n)).map PyData.int = L at *
      simp [fi_row_left_2, d1]) e
    generalize ((pr (fun i => dig p n i + 1) (dl p n) : Nat) : Int) = R at *
    simp [den_row_left, w1, w2, e2, maskR_2]
  · rintro j d ρ hd ⟨x, rfl⟩
    have hj : j < dl p n := by
      have := (List.getElem?_eq_some_iff.mp hd).1
      rw [List.length_map, DGV_len] at this
      exact this
    have hd2 : d = .int ((dig p n j : Nat) : Int) := by
      have t := vec_at (n := dl p n) (i := j) (f := fun j => ((dig p n j : Nat) : Int)) hj
      unfold DGV at hd
      rw [t] at hd
      exact (Option.some.inj hd).symm
    subst hd2
    rw [Nat.zero_add]
    refine ⟨[some (.fz (.int (p : Int))), some (.fz (.int (n : Int))), some (.fz (.int ((pr (fun i => dig p n i + 1) (j + 1) : Nat) : Int))), some (.fz (.int ((dig p n j : Nat) : Int)))], .inl ?_, _, rfl⟩
    have e : ((pr (fun i => dig p n i + 1) (j + 1) : Nat) : Int) = ((pr (fun i => dig p n i + 1) j : Nat) : Int) * (((dig p n j : Nat) : Int) + 1) := by
      rw [pr, Int.natCast_mul]; rfl
    have lt := dig_lt (p := p) (n := n) (i := j) (by omega)
    have mo : ∀ c, mulOk c (((dig p n j : Nat) : Int) + 1) = true := fun c => mulOk_r (by omega) (by omega)
    rw [e]
    generalize ((pr (fun i => dig p n i + 1) j : Nat) : Int) = X at *
    generalize ((dig p n j : Nat) : Int) = Z at *
    simp [fb_row_left_1, mo]
theorem cz_n {P : Nat → Bool} : ∀ n, cz P n ≤ n
  | 0 => Nat.le_refl _
  | n + 1 => by
    have := cz_n (P := P) n
    rw [cz]
    split <;> omega
theorem enumD_len : ∀ (ds : List D) (k : Nat), enumD k ds = (List.range ds.length).map fun t => .tuple [.int ((k + t : Nat) : Int), ds.getD t .none]
  | [], k => rfl
  | d :: r, k => by
    rw [enumD, enumD_len r (k + 1), List.length_cons, List.range_succ_eq_map, List.map_cons, List.map_map]
    congr 1
    refine List.map_congr_left fun t _ => ?_
    show PyData.tuple [.int ((k + 1 + t : Nat) : Int), r.getD t .none] = .tuple [.int ((k + (t + 1) : Nat) : Int), (d :: r).getD (t + 1) .none]
    rw [show k + 1 + t = k + (t + 1) by omega]
    rfl
theorem PL_len {p a b m : Nat} : (PL p a b m).length = m := by unfold PL; rw [List.length_map, List.length_range]
theorem PL_enum {p a b m : Nat} : enumD 0 (PL p a b m) = (List.range m).map fun i => .tuple [.int ((i : Nat) : Int), .tuple [.int ((dig p a i : Nat) : Int), .int ((dig p b i : Nat) : Int)]] := by
  rw [enumD_len, PL_len]
  refine List.map_congr_left fun i hi => ?_
  have := List.mem_range.mp hi
  rw [Nat.zero_add]
  unfold PL
  rw [List.getD_eq_getElem?_getD, List.getElem?_map, List.getElem?_range this]
  rfl
theorem PLe_get {p a b m j : Nat} {d : D} (h : (enumD 0 (PL p a b m))[j]? = some d) : j < m ∧ d = .tuple [.int ((j : Nat) : Int), .tuple [.int ((dig p a j : Nat) : Int), .int ((dig p b j : Nat) : Int)]] := by
  rw [PL_enum, List.getElem?_map] at h
  obtain ⟨i, hi, rfl⟩ := Option.map_eq_some_iff.mp h
  obtain ⟨hl, rfl⟩ := List.getElem?_eq_some_iff.mp hi
  rw [List.length_range] at hl
  rw [List.getElem_range]
  exact ⟨hl, rfl⟩
theorem PLe_len {p a b m : Nat} : (enumD 0 (PL p a b m)).length = m := by rw [PL_enum, List.length_map, List.length_range]
def CJ (p a b m : Nat) : List Int := ((List.range m).filter fun i => decide (0 < cr p a b (i + 1))).map fun i => ((i : Nat) : Int)
theorem CJ_s {p a b m : Nat} : (CJ p a b (m + 1)).map PyData.int = (CJ p a b m).map .int ++ if 0 < cr p a b (m + 1) then [.int ((m : Nat) : Int)] else [] := by
  unfold CJ
  rw [List.range_succ, List.filter_append, List.map_append, List.map_append]
  congr 1
  by_cases h : 0 < cr p a b (m + 1)
  · simp [h]
  · simp [h]
theorem CJ_len {p a b m : Nat} (hp : IsP p) : (CJ p a b m).length = NC p a b m := by
  unfold CJ
  rw [List.length_map, cz_filter, ← NC_cz hp.two.1]
theorem CJ_len_le {p a b m : Nat} : (CJ p a b m).length ≤ m := by
  unfold CJ
  rw [List.length_map]
  exact Nat.le_trans (List.length_filter_le _ _) (by rw [List.length_range]; exact Nat.le_refl _)
theorem NC_64 {p a b : Nat} (hp : IsP p) (ha : a ≤ 1000000000000000000) (hb : b ≤ 1000000000000000000) : NC p a b (BD p a b) = NC p a b 64 := by
  have h := NC_more hp.two.1 (BD_a (b := b) hp ha) (BD_b (a := a) hp hb) (64 - BD p a b)
  rw [Nat.add_sub_cancel' (BD_le hp ha hb)] at h
  exact h.symm
theorem carried_ok {p a b : Nat} (hp : IsP p) (ha : a ≤ 1000000000000000000) (hb : b ≤ 1000000000000000000) : den_carried [some (.fz (.int (p : Int))), some (.fz (.int (a : Int))), some (.fz (.int (b : Int)))] = some (.ow ((CJ p a b (BD p a b)).map .int), [none, none, none]) := by
  have h2 := hp.two
  have hm := BD_le hp ha hb
  have bo := both_ok hp ha hb
  have loop := forL_inv (P := fun j ρ => ∃ x y z, ρ = [some (.fz (.int (p : Int))), some (.fz (.int (a : Int))), some (.fz (.int (b : Int))), some (.ow ((CJ p a b j).map .int)), some (.fz (.int ((cr p a b j : Nat) : Int))), x, y, z]) (st := tupT [nameF 5, tupT [nameF 6, nameF 7]]) (s := fb_carried_1) (enumD 0 (PL p a b (BD p a b))) 0 [some (.fz (.int (p : Int))), some (.fz (.int (a : Int))), some (.fz (.int (b : Int))), some (.ow []), some (.fz (.int 0)), none, none, none] ⟨none, none, none, rfl⟩ ?_
  · obtain ⟨ρ1, e, x, y, z, rfl⟩ := loop
    rw [PLe_len, Nat.zero_add] at e
    have e2 : fo_carried_3 [some (.fz (.int (p : Int))), some (.fz (.int (a : Int))), some (.fz (.int (b : Int))), some (.ow []), some (.fz (.int 0)), none, none, none] = _ := forS_of (ds := enumD 0 (PL p a b (BD p a b))) (ρ1 := [some (.fz (.int (p : Int))), some (.fz (.int (a : Int))), some (.fz (.int (b : Int))), some (.ow []), some (.fz (.int 0)), none, none, none]) (by
      generalize PL p a b (BD p a b) = L at *
      simp [fi_carried_2, bo]) e
    generalize (CJ p a b (BD p a b)).map PyData.int = L at *
    simp [den_carried, e2, maskR_3]
  · rintro j d ρ hd ⟨x, y, z, rfl⟩
    obtain ⟨hj, rfl⟩ := PLe_get hd
    rw [Nat.zero_add]
    refine ⟨[some (.fz (.int (p : Int))), some (.fz (.int (a : Int))), some (.fz (.int (b : Int))), some (.ow ((CJ p a b (j + 1)).map .int)), some (.fz (.int ((cr p a b (j + 1) : Nat) : Int))), some (.fz (.int (j : Int))), some (.fz (.int ((dig p a j : Nat) : Int))), some (.fz (.int ((dig p b j : Nat) : Int)))], .inl ?_, _, _, _, rfl⟩
    have dv := divOk_p hp
    have e : (((dig p a j : Nat) : Int) + ((dig p b j : Nat) : Int) + ((cr p a b j : Nat) : Int)) / (p : Int) = ((cr p a b (j + 1) : Nat) : Int) := rfl
    have nz : 0 < p := by omega
    have cs := CJ_s (p := p) (a := a) (b := b) (m := j)
    have hl : ((CJ p a b j).map PyData.int).length ≤ 64 := by rw [List.length_map]; exact Nat.le_trans CJ_len_le (by omega)
    by_cases h : 0 < cr p a b (j + 1)
    · have h1 : (0 : Int) < ((cr p a b (j + 1) : Nat) : Int) := by omega
      rw [if_pos h] at cs
      have ex := extG_ok (ds := (CJ p a b j).map PyData.int) (zs := [.int ((j : Nat) : Int)]) (by show _ + 1 ≤ _; omega)
      rw [← cs] at ex
      generalize ((cr p a b (j + 1) : Nat) : Int) = C2 at *
      generalize ((cr p a b j : Nat) : Int) = C at *
      generalize ((dig p a j : Nat) : Int) = A at *
      generalize ((dig p b j : Nat) : Int) = B at *
      generalize (CJ p a b (j + 1)).map PyData.int = L2 at *
      generalize (CJ p a b j).map PyData.int = L at *
      simp [fb_carried_1, e, dv, nz, h1, ex]
    · have h1 : ¬ (0 : Int) < ((cr p a b (j + 1) : Nat) : Int) := by omega
      rw [if_neg h] at cs
      have ex := extG_ok (ds := (CJ p a b j).map PyData.int) (zs := []) (by show _ + 0 ≤ _; omega)
      rw [← cs] at ex
      generalize ((cr p a b (j + 1) : Nat) : Int) = C2 at *
      generalize ((cr p a b j : Nat) : Int) = C at *
      generalize ((dig p a j : Nat) : Int) = A at *
      generalize ((dig p b j : Nat) : Int) = B at *
      generalize (CJ p a b (j + 1)).map PyData.int = L2 at *
      generalize (CJ p a b j).map PyData.int = L at *
      simp [fb_carried_1, e, dv, nz, h1, ex]
theorem ctimes_ok {p a b : Nat} (hp : IsP p) (h : a + b ≤ 1000000000000000000) : den_choice_times [some (.fz (.int (p : Int))), some (.fz (.int ((a + b : Nat) : Int))), some (.fz (.int (a : Int)))] = some (.fz (.int ((NC p a b 64 : Nat) : Int)), [none, none, none]) := by
  have w := wchoice hp h (b := a) (by omega)
  have e := carried_ok hp (a := a) (b := b) (by omega) (by omega)
  have l : ((CJ p a b (BD p a b)).map PyData.int).length = NC p a b 64 := by rw [List.length_map, CJ_len hp, NC_64 hp (by omega) (by omega)]
  have s : ((a + b : Nat) : Int) - (a : Int) = (b : Int) := by omega
  have le : (a : Int) ≤ ((a + b : Nat) : Int) := by omega
  generalize ((a + b : Nat) : Int) = T at *
  generalize (CJ p a b (BD p a b)).map PyData.int = L at *
  simp [den_choice_times, w, e, l, s, le, maskR_3]
theorem EN_64 {p n : Nat} (hp : IsP p) (hn : n ≤ 1000000000000000000) : EN p n (dl p n) = EN p n 64 := by
  have h := EN_more hp.two.1 (dl_lt hp.two.1 hn) (64 - dl p n)
  rw [Nat.add_sub_cancel' (dl_le hp.two.1 hn)] at h
  exact h.symm
theorem SD_64 {p n : Nat} (hp : IsP p) (hn : n ≤ 1000000000000000000) : SD p n (dl p n) = SD p n 64 := by
  have h := SD_more hp.two.1 (dl_lt hp.two.1 hn) (64 - dl p n)
  rw [Nat.add_sub_cancel' (dl_le hp.two.1 hn)] at h
  exact h.symm
theorem DGV_SD {p n : Nat} : ∀ m, (DGV p n m).sum = ((SD p n m : Nat) : Int) := fun m => by
  unfold DGV
  rw [sum_vec]
  induction m with
  | zero => rfl
  | succ m ih => rw [sm, ih, SD, Int.natCast_add]
theorem digsum_ok {p n : Nat} (hp : IsP p) (hn : n ≤ 1000000000000000000) : den_digit_sum [some (.fz (.int (p : Int))), some (.fz (.int (n : Int)))] = some (.fz (.int ((SD p n 64 : Nat) : Int)), [none, none]) := by
  have w1 := wprime hp
  have w2 := wgreat hn
  have e := digitsof_ok hp hn
  have s : sumD ((DGV p n (dl p n)).map PyData.int) = some (.fz (.int ((SD p n 64 : Nat) : Int))) := by rw [sumD_map, DGV_SD, SD_64 hp hn]
  generalize ((SD p n 64 : Nat) : Int) = S at *
  generalize (DGV p n (dl p n)).map PyData.int = L at *
  simp [den_digit_sum, w1, w2, e, s, maskR_2]
theorem times_ok {p n : Nat} (hp : IsP p) (hn : n ≤ 1000000000000000000) : den_times_in_product [some (.fz (.int (p : Int))), some (.fz (.int (n : Int)))] = some (.fz (.int ((EN p n 64 : Nat) : Int)), [none, none]) := by
  have h2 := hp.two
  have hm := dl_le h2.1 hn
  have loop := whileL_p (c := wt_times_in_product_1) (s := wb_times_in_product_2) (P := fun k ρ => k ≤ dl p n ∧ ρ = [some (.fz (.int (p : Int))), some (.fz (.int ((n / p ^ (dl p n - k) : Nat) : Int))), some (.fz (.int ((EN p n (dl p n - k) : Nat) : Int)))])
    (Q := fun ρ => ∃ x, ρ = [some (.fz (.int (p : Int))), x, some (.fz (.int ((EN p n (dl p n) : Nat) : Int)))]) ?_ ?_ fuel (dl p n) [some (.fz (.int (p : Int))), some (.fz (.int (n : Int))), some (.fz (.int 0))] (fuel_big (by omega)) ⟨Nat.le_refl _, by
      rw [Nat.sub_self, Nat.pow_zero, Nat.div_one]; rfl⟩
  · obtain ⟨ρ1, e, x, rfl⟩ := loop
    have e2 : wh_times_in_product_3 [some (.fz (.int (p : Int))), some (.fz (.int (n : Int))), some (.fz (.int 0))] = _ := e
    rw [EN_64 hp hn] at e2
    generalize ((EN p n 64 : Nat) : Int) = L at *
    simp [den_times_in_product, e2, maskR_2]
  · rintro k ρ ⟨hk, rfl⟩
    obtain ⟨j, hj⟩ : ∃ j, j = dl p n - (k + 1) := ⟨_, rfl⟩
    have hj2 : dl p n - k = j + 1 := by omega
    rw [← hj, hj2]
    have pos := (dl_pos h2.1 hn (j := j)).mpr (by omega)
    have pos' : (0 : Int) < ((n / p ^ j : Nat) : Int) := by omega
    have e2 := dg_div (p := p) (n := n) (j := j)
    have e3 : ((EN p n (j + 1) : Nat) : Int) = ((EN p n j : Nat) : Int) + ((n / p ^ (j + 1) : Nat) : Int) := by rw [EN, Int.natCast_add]
    have d1 := divOk_p hp
    have nz : 0 < p := by omega
    rw [e3]
    generalize ((n / p ^ (j + 1) : Nat) : Int) = Y at *
    generalize ((n / p ^ j : Nat) : Int) = X at *
    generalize ((EN p n j : Nat) : Int) = Z at *
    refine ⟨by simp [wt_times_in_product_1, pos'], [some (.fz (.int (p : Int))), some (.fz (.int Y)), some (.fz (.int (Z + Y)))], .inl ?_, by omega, rfl⟩
    simp [wb_times_in_product_2, e2, d1, nz]
  · rintro ρ ⟨_, rfl⟩
    rw [Nat.sub_zero]
    have z : n / p ^ dl p n = 0 := Nat.div_eq_of_lt (dl_lt h2.1 hn)
    rw [z]
    exact ⟨by simp [wt_times_in_product_1], _, rfl⟩
theorem ptimes_ok {p n : Nat} (hp : IsP p) (hn : n ≤ 1000000000000000000) : den_product_times [some (.fz (.int (p : Int))), some (.fz (.int (n : Int)))] = some (.fz (.int ((EN p n 64 : Nat) : Int)), [none, none]) := by
  have w1 := wprime hp
  have w2 := wgreat hn
  have e := times_ok hp hn
  generalize ((EN p n 64 : Nat) : Int) = L at *
  simp [den_product_times, w1, w2, e, maskR_2]
theorem NC_le {p a b : Nat} (hp : 2 ≤ p) : ∀ m, NC p a b m ≤ m
  | 0 => Nat.le_refl _
  | m + 1 => by
    have := NC_le (a := a) (b := b) hp m
    have := cr_le (a := a) (b := b) hp (m + 1)
    rw [NC]
    omega
theorem NC_0 {p a : Nat} (hp : 2 ≤ p) : ∀ m, NC p a 0 m = 0
  | 0 => rfl
  | m + 1 => by
    have e : ∀ i, cr p a 0 i = 0 := fun i => by
      induction i with
      | zero => rfl
      | succ i ih =>
        rw [cr, ih, dig_z]
        exact Nat.div_eq_of_lt (dig_lt (by omega))
    rw [NC, NC_0 hp m, e]
theorem EN_le {p n m : Nat} (hp : 2 ≤ p) (h : n < p ^ m) : EN p n m ≤ n := by
  have h1 := legendre hp h
  have h2 : EN p n m * 1 ≤ EN p n m * (p - 1) := Nat.mul_le_mul_left _ (by omega)
  omega
theorem IsV.at {p n v : Nat} (hp : IsP p) (h : IsV p n v) : ∀ {i : Nat}, i ≤ v → IsV p (n / p ^ i) (v - i)
  | 0, _ => by rw [Nat.pow_zero, Nat.div_one]; exact h
  | i + 1, hi => by
    have ih := h.at hp (i := i) (by omega)
    rw [show v - i = (v - (i + 1)) + 1 by omega] at ih
    rw [← pow_sd]
    exact (ih.succ hp).2
theorem often_ok {p n v : Nat} (hp : IsP p) (h : IsV p n v) (hv : v < 400) : den__law_often [some (.fz (.int (p : Int))), some (.fz (.int (n : Int)))] = some (.fz (.int (v : Int)), [none, none]) := by
  have h2 := hp.two
  have loop := forL_inv (P := fun j ρ => ∃ x, ρ = [some (.fz (.int (p : Int))), some (.fz (.int (n : Int))), x, some (.fz (.int ((min j v : Nat) : Int))), some (.fz (.int ((n / p ^ (min j v) : Nat) : Int)))]) (st := nameF 2) (s := fb_law_often_1) (rngD 0 400) 0 [some (.fz (.int (p : Int))), some (.fz (.int (n : Int))), none, some (.fz (.int 0)), some (.fz (.int (n : Int)))] ⟨none, by
      rw [Nat.zero_min, Nat.pow_zero, Nat.div_one]; rfl⟩ ?_
  · obtain ⟨ρ1, e, x, rfl⟩ := loop
    have e3 : fo_law_often_3 [some (.fz (.int (p : Int))), some (.fz (.int (n : Int))), none, some (.fz (.int 0)), some (.fz (.int (n : Int)))] = _ := forS_of (ds := rngD 0 400) (ρ1 := [some (.fz (.int (p : Int))), some (.fz (.int (n : Int))), none, some (.fz (.int 0)), some (.fz (.int (n : Int)))]) (by
      have s2 := smallI_of (a := (400 : Int)) (by decide) (by decide)
      simp [fi_law_often_2, s2]) e
    rw [rngD_length, Nat.zero_add, Nat.min_eq_right (by omega)] at e3
    generalize ((n / p ^ v : Nat) : Int) = Y at *
    simp [den__law_often, e3, maskR_2]
  · rintro j d ρ hd ⟨x, rfl⟩
    obtain ⟨hj, rfl⟩ := rngD_get hd
    rw [Nat.zero_add, Int.zero_add]
    have nz : 0 < p := by omega
    have d1 := divOk_p hp
    by_cases q : j < v
    · rw [Nat.min_eq_left (by omega), Nat.min_eq_left (by omega)]
      have t := h.at hp (i := j) (by omega)
      have pos := t.pos hp
      rw [show v - j = (v - j - 1) + 1 by omega] at t
      have z := (t.succ hp).1
      have e2 := dg_div (p := p) (n := n) (j := j)
      have z2 : ((n / p ^ j : Nat) : Int) % (p : Int) = 0 := by
        show ((n / p ^ j % p : Nat) : Int) = 0
        rw [z]; rfl
      have ne : ((n / p ^ j : Nat) : Int) ≠ 0 := by omega
      refine ⟨[some (.fz (.int (p : Int))), some (.fz (.int (n : Int))), some (.fz (.int (j : Int))), some (.fz (.int ((j + 1 : Nat) : Int))), some (.fz (.int ((n / p ^ (j + 1) : Nat) : Int)))], .inl ?_, _, rfl⟩
      generalize ((n / p ^ (j + 1) : Nat) : Int) = Y at *
      generalize ((n / p ^ j : Nat) : Int) = X at *
      simp [fb_law_often_1, e2, z2, ne, d1, nz]
    · rw [Nat.min_eq_right (by omega), Nat.min_eq_right (by omega)]
      have t := h.at hp (i := v) (by omega)
      rw [Nat.sub_self] at t
      have z := t.zero
      have z2 : ¬ ((n / p ^ v : Nat) : Int) % (p : Int) = 0 := by
        show ¬ ((n / p ^ v % p : Nat) : Int) = 0
        omega
      refine ⟨[some (.fz (.int (p : Int))), some (.fz (.int (n : Int))), some (.fz (.int (j : Int))), some (.fz (.int ((v : Nat) : Int))), some (.fz (.int ((n / p ^ v : Nat) : Int)))], .inl ?_, _, rfl⟩
      generalize ((n / p ^ v : Nat) : Int) = X at *
      simp [fb_law_often_1, z2, nz]
theorem fm_s {p F j : Nat} : ((F * fac j % p : Nat) : Int) * (1 + (j : Int)) % (p : Int) = ((F * fac (j + 1) % p : Nat) : Int) := by
  rw [show (1 : Int) + (j : Int) = ((j + 1 : Nat) : Int) by omega]
  show (((F * fac j % p) * (j + 1) % p : Nat) : Int) = _
  rw [Nat.mod_mul_mod, fac, Nat.mul_assoc]
theorem neg_mod {p X : Nat} (h : X ≤ p) : (0 - (X : Int)) % (p : Int) = (((p - X) % p : Nat) : Int) := by
  have e : (0 - (X : Int)) = ((p - X : Nat) : Int) + (p : Int) * (-1) := by omega
  rw [e, Int.add_mul_emod_self_left]
  rfl
theorem mod_lt97 {p x : Nat} (hp : IsP p) (c : Int) : mulOk ((x % p : Nat) : Int) c = true := mulOk_l (by omega) (by
  have := Nat.mod_lt x (show 0 < p by have := hp.two; omega)
  have := hp.two
  omega)
theorem bp_in {p F d : Nat} {a x : Option Vl} {N : Int} (hp : IsP p) (hF : F < p) (hd : d < p) (hN : N % (p : Int) = (d : Int)) : ∃ y, fo_bare_product_3 [some (.fz (.int (p : Int))), some (.fz (.int N)), some (.fz (.int (F : Int))), x] = some (.nx [some (.fz (.int (p : Int))), some (.fz (.int N)), some (.fz (.int ((F * fac d % p : Nat) : Int))), y]) := by
  have h2 := hp.two
  have loop := forL_inv (P := fun j ρ => ∃ y, ρ = [some (.fz (.int (p : Int))), some (.fz (.int N)), some (.fz (.int ((F * fac j % p : Nat) : Int))), y]) (st := nameF 3) (s := fb_bare_product_1) (rngD 1 d) 0 [some (.fz (.int (p : Int))), some (.fz (.int N)), some (.fz (.int (F : Int))), x] ⟨x, by
    rw [fac, Nat.mul_one, Nat.mod_eq_of_lt hF]⟩ ?_
  · obtain ⟨ρ1, e, y, rfl⟩ := loop
    rw [rngD_length, Nat.zero_add] at e
    refine ⟨y, forS_of (ds := rngD 1 d) (ρ1 := [some (.fz (.int (p : Int))), some (.fz (.int N)), some (.fz (.int (F : Int))), x]) ?_ e⟩
    have s2 := smallI_of (a := (d : Int) + 1) (by omega) (by omega)
    have s1 : smallI 1 = true := smallI_of (by decide) (by decide)
    have s3 : ((d : Int) + 1 - 1).toNat = d := by omega
    have nz : 0 < p := by omega
    simp [fi_bare_product_2, hN, s2, s1, s3, nz]
  · rintro j e ρ he ⟨y, rfl⟩
    obtain ⟨hj, rfl⟩ := rngD_get he
    rw [Nat.zero_add]
    refine ⟨[some (.fz (.int (p : Int))), some (.fz (.int N)), some (.fz (.int ((F * fac (j + 1) % p : Nat) : Int))), some (.fz (.int (1 + (j : Int))))], .inl ?_, _, rfl⟩
    have s := fm_s (p := p) (F := F) (j := j)
    have mo := mod_lt97 (x := F * fac j) hp
    have nz : 0 < p := by omega
    generalize ((F * fac (j + 1) % p : Nat) : Int) = Y at *
    generalize ((F * fac j % p : Nat) : Int) = X at *
    simp [fb_bare_product_1, s, mo, nz]
theorem BP_1 {p n j : Nat} (hp : IsP p) : BP p n (j + 1) % p = if n / p ^ (j + 1) % 2 = 1 then (p - BP p n j % p * fac (dig p n j) % p) % p else BP p n j % p * fac (dig p n j) % p := by
  have s := sign_ok (x := BP p n j % p * fac (dig p n j) % p) hp (Nat.mod_lt _ (by have := hp.two; omega)) (n / p ^ (j + 1))
  rw [← s]
  show BP p n j * (fac (dig p n j) * (p - 1) ^ (n / p ^ (j + 1))) % p = _
  rw [← Nat.mul_assoc]
  refine mulm ?_ rfl
  rw [Nat.mod_mod, Nat.mod_mul_mod]
theorem pr_more {f : Nat → Nat} {m : Nat} (h : ∀ i, m ≤ i → f i = 1) : ∀ d, pr f (m + d) = pr f m
  | 0 => rfl
  | d + 1 => by rw [← Nat.add_assoc, pr, pr_more h d, h _ (by omega), Nat.mul_one]
theorem BP_64 {p n : Nat} (hp : IsP p) (hn : n ≤ 1000000000000000000) : BP p n (dl p n) % p = BR p n := by
  unfold BR
  have h := pr_more (f := bf p n) (m := dl p n) (fun i hi => by
    unfold bf
    have h1 : n < p ^ i := Nat.lt_of_lt_of_le (dl_lt hp.two.1 hn) (Nat.pow_le_pow_right (by have := hp.two; omega) hi)
    rw [dig_big h1, Nat.div_eq_of_lt (Nat.lt_of_lt_of_le h1 (Nat.pow_le_pow_right (by have := hp.two; omega) (by omega)))]
    rfl) (64 - dl p n)
  rw [Nat.add_sub_cancel' (dl_le hp.two.1 hn)] at h
  unfold BP
  rw [h]
theorem bp_ok {p n : Nat} (hp : IsP p) (hn : n ≤ 1000000000000000000) : den_bare_product [some (.fz (.int (p : Int))), some (.fz (.int (n : Int)))] = some (.fz (.int ((BR p n : Nat) : Int)), [none, none]) := by
  have h2 := hp.two
  have hm := dl_le h2.1 hn
  have loop := whileL_p (c := wt_bare_product_4) (s := wb_bare_product_5) (P := fun k ρ => k ≤ dl p n ∧ ∃ x, ρ = [some (.fz (.int (p : Int))), some (.fz (.int ((n / p ^ (dl p n - k) : Nat) : Int))), some (.fz (.int ((BP p n (dl p n - k) % p : Nat) : Int))), x])
    (Q := fun ρ => ∃ x y, ρ = [some (.fz (.int (p : Int))), x, some (.fz (.int ((BP p n (dl p n) % p : Nat) : Int))), y]) ?_ ?_ fuel (dl p n) [some (.fz (.int (p : Int))), some (.fz (.int (n : Int))), some (.fz (.int 1)), none] (fuel_big (by omega)) ⟨Nat.le_refl _, none, by
      rw [Nat.sub_self, Nat.pow_zero, Nat.div_one, show BP p n 0 = 1 from rfl, hp.one]; rfl⟩
  · obtain ⟨ρ1, e, x, y, rfl⟩ := loop
    have e2 : wh_bare_product_6 [some (.fz (.int (p : Int))), some (.fz (.int (n : Int))), some (.fz (.int 1)), none] = _ := e
    rw [BP_64 hp hn] at e2
    generalize ((BR p n : Nat) : Int) = L at *
    simp [den_bare_product, e2, maskR_2]
  · rintro k ρ ⟨hk, x, rfl⟩
    obtain ⟨j, hj⟩ : ∃ j, j = dl p n - (k + 1) := ⟨_, rfl⟩
    have hj2 : dl p n - k = j + 1 := by omega
    rw [← hj, hj2]
    have pos := (dl_pos h2.1 hn (j := j)).mpr (by omega)
    have pos' : (0 : Int) < ((n / p ^ j : Nat) : Int) := by omega
    have e1 := dg_mod (p := p) (n := n) (j := j)
    have e2 := dg_div (p := p) (n := n) (j := j)
    obtain ⟨y, w⟩ := bp_in (F := BP p n j % p) (d := dig p n j) (x := x) (N := ((n / p ^ j : Nat) : Int)) (a := none) hp (Nat.mod_lt _ (by omega)) (dig_lt (by omega)) e1
    have b1 := BP_1 (n := n) (j := j) hp
    have d1 := divOk_p hp
    have nz : 0 < p := by omega
    have ng := neg_mod (p := p) (X := BP p n j % p * fac (dig p n j) % p) (Nat.le_of_lt (Nat.mod_lt _ (by omega)))
    refine ⟨?_, [some (.fz (.int (p : Int))), some (.fz (.int ((n / p ^ (j + 1) : Nat) : Int))), some (.fz (.int ((BP p n (j + 1) % p : Nat) : Int))), y], .inl ?_, by omega, y, rfl⟩
    · generalize ((n / p ^ j : Nat) : Int) = X at *
      simp [wt_bare_product_4, pos']
    · rw [b1]
      clear b1
      generalize BP p n j % p * fac (dig p n j) % p = Z at *
      generalize ((BP p n j % p : Nat) : Int) = U at *
      by_cases q : n / p ^ (j + 1) % 2 = 1
      · rw [if_pos q]
        have q2 : ((n / p ^ (j + 1) : Nat) : Int) % 2 = 1 := by omega
        generalize ((n / p ^ (j + 1) : Nat) : Int) = Y at *
        generalize ((n / p ^ j : Nat) : Int) = X at *
        generalize (((p - Z) % p : Nat) : Int) = Z2 at *
        have ng2 : -(Z : Int) % (p : Int) = Z2 := by rw [← ng, Int.zero_sub]
        simp [wb_bare_product_5, w, e2, d1, nz, q2, ng2]
      · rw [if_neg q]
        have q2 : ¬ ((n / p ^ (j + 1) : Nat) : Int) % 2 = 1 := by omega
        generalize ((n / p ^ (j + 1) : Nat) : Int) = Y at *
        generalize ((n / p ^ j : Nat) : Int) = X at *
        simp [wb_bare_product_5, w, e2, d1, nz, q2]
  · rintro ρ ⟨_, x, rfl⟩
    rw [Nat.sub_zero]
    have z : n / p ^ dl p n = 0 := Nat.div_eq_of_lt (dl_lt h2.1 hn)
    rw [z]
    exact ⟨by simp [wt_bare_product_4], _, _, rfl⟩
theorem prest_ok {p n : Nat} (hp : IsP p) (hn : n ≤ 1000000000000000000) : den_product_rest [some (.fz (.int (p : Int))), some (.fz (.int (n : Int)))] = some (.fz (.int ((BR p n : Nat) : Int)), [none, none]) := by
  have w1 := wprime hp
  have w2 := wgreat hn
  have e := bp_ok hp hn
  generalize ((BR p n : Nat) : Int) = L at *
  simp [den_product_rest, w1, w2, e, maskR_2]
theorem BR_W {p n : Nat} (hp : IsP p) (h : n < 400) : BR p n = WN p n % p := BP_W hp (big64 hp.two.1 (by omega)) h
theorem es_pos {f x y k : Nat} (h : es f x y = k + 1) (hy : y ≤ f) : 0 < y ∧ ∃ g, x % y ≤ g ∧ es g y (x % y) = k := by
  cases f with
  | zero => cases h
  | succ f =>
    rw [es] at h
    split at h
    · cases h
    · next q =>
      have := Nat.mod_lt x (show 0 < y by omega)
      exact ⟨by omega, f, by omega, by omega⟩
theorem es_zero {f x y : Nat} (h : es f x y = 0) (hy : y ≤ f) : y = 0 := by
  cases f with
  | zero => omega
  | succ f =>
    rw [es] at h
    split at h
    · assumption
    · omega
theorem gcd_step (x y : Nat) : Nat.gcd y (x % y) = Nat.gcd x y := by
  rw [Nat.gcd_comm y, ← Nat.gcd_rec, Nat.gcd_comm]
theorem rc_in {n x y : Nat} {s : Option Vl} (h : x ≤ 1000000) : ∃ z, wh_row_common_3 [some (.fz (.int (n : Int))), some (.fz (.int (x : Int))), s, some (.fz (.int (y : Int)))] = some (.nx [some (.fz (.int (n : Int))), some (.fz (.int ((Nat.gcd x y : Nat) : Int))), s, z]) := by
  have loop := whileL_p (c := wt_row_common_1) (s := wb_row_common_2) (P := fun k ρ => ∃ a b f : Nat, b ≤ f ∧ es f a b = k ∧ Nat.gcd a b = Nat.gcd x y ∧ ρ = [some (.fz (.int (n : Int))), some (.fz (.int (a : Int))), s, some (.fz (.int (b : Int)))])
    (Q := fun ρ => ∃ z, ρ = [some (.fz (.int (n : Int))), some (.fz (.int ((Nat.gcd x y : Nat) : Int))), s, z]) ?_ ?_ fuel (es y x y) [some (.fz (.int (n : Int))), some (.fz (.int (x : Int))), s, some (.fz (.int (y : Int)))] (fuel_big (by have := es_le_x (f := y) (x := x) (y := y); omega)) ⟨x, y, y, Nat.le_refl _, rfl, rfl, rfl⟩
  · obtain ⟨ρ1, e, z, rfl⟩ := loop
    exact ⟨z, e⟩
  · rintro k ρ ⟨a, b, f, hf, hk, hg, rfl⟩
    obtain ⟨pos, g, hg1, hg2⟩ := es_pos hk hf
    have m : (a : Int) % (b : Int) = ((a % b : Nat) : Int) := rfl
    have pos' : 0 < b := pos
    refine ⟨by simp [wt_row_common_1, pos], [some (.fz (.int (n : Int))), some (.fz (.int (b : Int))), s, some (.fz (.int ((a % b : Nat) : Int)))], .inl ?_, b, a % b, g, hg1, hg2, by rw [gcd_step]; exact hg, rfl⟩
    generalize ((a % b : Nat) : Int) = M at *
    simp [wb_row_common_2, m, pos']
  · rintro ρ ⟨a, b, f, hf, hk, hg, rfl⟩
    have z := es_zero hk hf
    subst z
    rw [Nat.gcd_zero_right] at hg
    subst hg
    exact ⟨by simp [wt_row_common_1], _, rfl⟩
theorem rcommon_ok {n : Nat} (h : 2 ≤ n) (h2 : n ≤ 200) : den_row_common [some (.fz (.int (n : Int)))] = some (.fz (.int ((PDv n : Nat) : Int)), [none]) := by
  have w := within_ok (i := (n : Int)) (lo := 2) (hi := 200) (by omega) (by omega)
  have loop := forL_inv (P := fun j ρ => ∃ x y, ρ = [some (.fz (.int (n : Int))), some (.fz (.int ((Nat.gcd n (GR n j) : Nat) : Int))), x, y]) (st := nameF 2) (s := fb_row_common_4) (rngD 1 (n - 1)) 0 [some (.fz (.int (n : Int))), some (.fz (.int (n : Int))), none, none] ⟨none, none, by rw [GR, Nat.gcd_zero_right]⟩ ?_
  · obtain ⟨ρ1, e, x, y, rfl⟩ := loop
    obtain ⟨g1, g2⟩ := GR_ok h h2
    rw [rngD_length, Nat.zero_add, g2, g1] at e
    have e2 : fo_row_common_6 [some (.fz (.int (n : Int))), some (.fz (.int (n : Int))), none, none] = _ := forS_of (ds := rngD 1 (n - 1)) (ρ1 := [some (.fz (.int (n : Int))), some (.fz (.int (n : Int))), none, none]) (by
      have s2 := smallI_of (a := (n : Int)) (by omega) (by omega)
      have s1 : smallI 1 = true := smallI_of (by decide) (by decide)
      have s3 : ((n : Int) - 1).toNat = n - 1 := by omega
      simp [fi_row_common_5, s2, s1, s3]) e
    generalize ((PDv n : Nat) : Int) = R at *
    simp [den_row_common, w, e2, maskR_1]
  · rintro j d ρ hd ⟨x, y, rfl⟩
    obtain ⟨hj, rfl⟩ := rngD_get hd
    rw [Nat.zero_add]
    have le : Nat.gcd n (GR n j) ≤ n := Nat.le_of_dvd (by omega) (Nat.gcd_dvd_left _ _)
    obtain ⟨z, wz⟩ := rc_in (n := n) (x := Nat.gcd n (GR n j)) (y := ch n (j + 1)) (s := some (.fz (.int (1 + (j : Int))))) (by omega)
    rw [Nat.gcd_assoc, show Nat.gcd (GR n j) (ch n (j + 1)) = GR n (j + 1) from rfl] at wz
    have c := choose_ok (n := n) (k := j + 1) (by omega) (by omega)
    rw [show ((j + 1 : Nat) : Int) = 1 + (j : Int) by omega] at c
    refine ⟨[some (.fz (.int (n : Int))), some (.fz (.int ((Nat.gcd n (GR n (j + 1)) : Nat) : Int))), some (.fz (.int (1 + (j : Int)))), z], .inl ?_, _, z, rfl⟩
    generalize ((Nat.gcd n (GR n (j + 1)) : Nat) : Int) = G2 at *
    generalize ((Nat.gcd n (GR n j) : Nat) : Int) = G at *
    generalize ((ch n (j + 1) : Nat) : Int) = C at *
    simp [fb_row_common_4, c, wz]
theorem crow_ok {n : Nat} (h : n ≤ 200) : den_choose_row [some (.fz (.int (n : Int)))] = some (.ow ((List.range (n + 1)).map fun j => .int ((ch n j : Nat) : Int)), [none]) := by
  have w := wmany h
  have e : lc_choose_row_3 [some (.fz (.int (n : Int))), none] = some (.ow ((List.range (n + 1)).map fun j => .int ((ch n j : Nat) : Int)), [some (.fz (.int (n : Int))), none]) := by
    refine lcE_tab (n := n + 1) (F := fun j => .int (0 + (j : Int))) (G := fun j => .int ((ch n j : Nat) : Int)) (ρ1 := [some (.fz (.int (n : Int))), none]) ?_ (by omega) fun j hj => ⟨_, .fz (.int ((ch n j : Nat) : Int)), rfl, rfl, ?_, rfl, rfl⟩
    · rw [← rngD_tab]
      have h2 := smallI_of (a := (n : Int) + 1) (by omega) (by omega)
      have h3 : ((n : Int) + 1).toNat = n + 1 := by omega
      simp [li_choose_row_1, h2, h3]
    · rw [Int.zero_add]
      have c := choose_ok (n := n) (k := j) (by omega) (by omega)
      generalize ((ch n j : Nat) : Int) = C at *
      simp [le_choose_row_2, c]
  generalize (List.range (n + 1)).map (fun j => PyData.int ((ch n j : Nat) : Int)) = L at *
  simp [den_choose_row, w, e, maskR_1]
end
end DL

namespace DL
open PySem PySem.Spec PyProof.Rows L2
noncomputable section
theorem ch2 {n k : Nat} (h : n < 60) : -18446744073709551616 < (ch n k : Int) ∧ (ch n k : Int) < 18446744073709551616 := by
  have h1 := ch_le2 n k
  have h2 : 2 ^ n ≤ 2 ^ 60 := Nat.pow_le_pow_right (by decide) (by omega)
  have h3 : (2 : Nat) ^ 60 = 1152921504606846976 := by decide
  omega
theorem enum_tab (xs : List Int) : enumD 0 (xs.map .int) = (List.range xs.length).map fun j : Nat => .tuple [.int (j : Int), .int (xat xs j)] := by
  rw [enum_ints]
  refine List.map_congr_left fun b _ => ?_
  rw [Nat.zero_add]
def Ok12 (xs : List Int) : Prop := ∀ x ∈ xs, -1000000000000 ≤ x ∧ x ≤ 1000000000000
theorem islist_ok (c : Bool) {ds : List D} : den_is_list [some (.fz (sq c ds))] = some (.fz (.bool true), [none]) := by
  cases c <;> simp [den_is_list, maskR_1, tyC, isC]
theorem want_ok (c : Bool) {xs : List Int} (h : xs.length ≤ 60) (hb : Ok12 xs) : den_want_numbers [some (.fz (sq c (xs.map .int)))] = some (.fz .none, [none]) := by
  have e : lc_want_numbers_3 [some (.fz (sq c (xs.map .int))), none] = some (.ow ((List.replicate xs.length true).map .bool), [some (.fz (sq c (xs.map .int))), none]) := by
    have e0 : (List.replicate xs.length true).map PyData.bool = xs.map fun _ => PyData.bool true := by
      rw [List.map_replicate]
      exact (List.map_const' ..).symm
    rw [e0]
    refine lcE_tabL (L := xs) (F := fun i => .int i) (G := fun _ => .bool true) (ρ1 := [some (.fz (sq c (xs.map .int))), none]) ?_ (by omega) fun i hi => ⟨_, .fz (.bool true), rfl, rfl, rfl, ?_, rfl⟩
    · cases c <;> simp [li_want_numbers_1]
    · obtain ⟨b1, b2⟩ := hb i hi
      have h1 := within_ok (i := i) (lo := -1000000000000) (hi := 1000000000000) b1 b2
      simp [le_want_numbers_2, h1]
  have e3 := islist_ok c (ds := xs.map .int)
  have e4 : ∀ ρ, lenF ρ [.fz (sq c (xs.map .int))] = some (.fz (.int xs.length)) := fun ρ => by cases c <;> simp
  have h1 : ¬ (60 : Int) < xs.length := by omega
  simp [den_want_numbers, e3, e, e4, h1, maskR_1, -List.map_replicate, allTrue]
theorem signed_ok (c : Bool) {xs : List Int} (h : xs.length ≤ 1000) : den_signed [some (.fz (sq c (xs.map .int)))] = some (.ow ((vec xs.length fun j => sg j * xat xs j).map .int), [none]) := by
  have e : lc_signed_3 [some (.fz (sq c (xs.map .int))), none, none] = some (.ow ((vec xs.length fun j => sg j * xat xs j).map .int), [some (.fz (sq c (xs.map .int))), none, none]) := by
    rw [vec_tab]
    refine lcE_tab (n := xs.length) (F := fun j => .tuple [.int (j : Int), .int (xat xs j)]) (G := fun j => .int (sg j * xat xs j)) (ρ1 := [some (.fz (sq c (xs.map .int))), none, none]) ?_ (by omega) fun j hj => ⟨_, .fz (.int (sg j * xat xs j)), rfl, rfl, ?_, rfl, rfl⟩
    · rw [← enum_tab]
      cases c <;> simp [li_signed_1]
    · by_cases q : j % 2 = 0
      · have q1 : (j : Int) % 2 = 0 := by omega
        have s : sg j = 1 := if_pos q
        simp [le_signed_2, q1, s]
      · have q1 : ¬ (j : Int) % 2 = 0 := by omega
        have s : sg j = -1 := if_neg q
        simp [le_signed_2, q1, s]
  simp [den_signed, e, maskR_1]
theorem head_tab (xs : List Int) (m : Nat) : (xs.map PyData.int).take m = (xs.take m).map .int := List.map_take.symm
theorem xat_take {xs : List Int} {m j : Nat} (h : j < m) : xat (xs.take m) j = xat xs j := by
  unfold xat
  rw [List.getD_eq_getElem?_getD, List.getD_eq_getElem?_getD, List.getElem?_take_of_lt h]
theorem summed_ok (c : Bool) {xs : List Int} {p : Nat} (h : xs.length ≤ 60) (hp : p < xs.length) : den_summed_at [some (.fz (sq c (xs.map .int))), some (.fz (.int (p : Int)))] = some (.fz (.int (ss (xat xs) p)), [none, none]) := by
  have e : lc_summed_at_3 [some (.fz (sq c (xs.map .int))), some (.fz (.int (p : Int))), none, none] = some (.ow ((vec (p + 1) fun i => ch p i * xat xs i).map .int), [some (.fz (sq c (xs.map .int))), some (.fz (.int (p : Int))), none, none]) := by
    rw [vec_tab]
    refine lcE_tab (n := p + 1) (F := fun j => .tuple [.int (j : Int), .int (xat (xs.take (p + 1)) j)]) (G := fun j => .int (ch p j * xat xs j)) (ρ1 := [some (.fz (sq c (xs.map .int))), some (.fz (.int (p : Int))), none, none]) ?_ (by omega) fun j hj => ⟨_, .fz (.int (ch p j * xat xs j)), rfl, rfl, ?_, rfl, rfl⟩
    · have e1 := enum_tab (xs.take (p + 1))
      rw [List.length_take, Nat.min_eq_left (by omega)] at e1
      rw [← e1, ← head_tab]
      have e2 := cutD_head (ds := xs.map PyData.int) (p + 1)
      have e3 : (p : Int) + 1 = ((p + 1 : Nat) : Int) := by omega
      cases c <;> simp [li_summed_at_1, e3, e2, -Int.natCast_add]
    · have h1 := choose_ok (n := p) (k := j) (by omega) (by omega)
      have h2 : mulOk (ch p j) (xat xs j) = true := mulOk_l (ch2 (by omega)).1 (ch2 (by omega)).2
      rw [xat_take hj]
      simp [le_summed_at_2, h1, h2]
  have e2 : (vec (p + 1) fun i => (ch p i : Int) * xat xs i).sum = ss (xat xs) p := sum_vec
  generalize (vec (p + 1) fun i => (ch p i : Int) * xat xs i) = V at *
  simp [den_summed_at, e, e2, maskR_2]
theorem sums_ok (c : Bool) {xs : List Int} (h : xs.length ≤ 60) : den_sums_of [some (.fz (sq c (xs.map .int)))] = some (.ow ((vec xs.length (ss (xat xs))).map .int), [none]) := by
  have e : lc_sums_of_3 [some (.fz (sq c (xs.map .int))), none] = some (.ow ((vec xs.length (ss (xat xs))).map .int), [some (.fz (sq c (xs.map .int))), none]) := by
    rw [vec_tab]
    refine lcE_tab (n := xs.length) (F := fun j => .int (0 + (j : Int))) (G := fun j => .int (ss (xat xs) j)) (ρ1 := [some (.fz (sq c (xs.map .int))), none]) ?_ (by omega) fun j hj => ⟨_, .fz (.int (ss (xat xs) j)), rfl, rfl, ?_, rfl, rfl⟩
    · rw [← rngD_tab]
      have h2 := smallI_of (a := (xs.length : Int)) (by omega) (by omega)
      cases c <;> simp [li_sums_of_1, h2]
    · rw [Int.zero_add]
      have h1 := summed_ok c h hj
      simp [le_sums_of_2, h1]
  simp [den_sums_of, e, maskR_1]
theorem back_vecS (xs : List Int) : vec xs.length (fun j => sg j * xat (vec xs.length (ss (xat (vec xs.length fun j => sg j * xat xs j)))) j) = vec xs.length (bk (xat xs)) := vec_congr fun a ha => by
  rw [xat_vec ha]
  unfold ss bk
  rw [← sm_mul]
  refine sm_congr fun i hi => ?_
  rw [xat_vec (by omega), sg_add]
  simp only [Int.mul_assoc, Int.mul_left_comm, Int.mul_comm]
theorem back_ok (c : Bool) {xs : List Int} (h : xs.length ≤ 60) : den_back_of [some (.fz (sq c (xs.map .int)))] = some (.ow ((vec xs.length (bk (xat xs))).map .int), [none]) := by
  have e1 := signed_ok c (xs := xs) (by omega)
  have e2 := sums_ok true (xs := vec xs.length fun j => sg j * xat xs j) (by rw [vec_len]; exact h)
  rw [vec_len, sq_t] at e2
  have e3 := signed_ok true (xs := vec xs.length (ss (xat (vec xs.length fun j => sg j * xat xs j)))) (by rw [vec_len]; omega)
  rw [vec_len, back_vecS, sq_t] at e3
  generalize (vec xs.length (ss (xat (vec xs.length fun j => sg j * xat xs j)))) = A at *
  generalize (vec xs.length fun j => sg j * xat xs j) = B at *
  simp [den_back_of, e1, e2, e3, maskR_1]
def below (xs : List Int) : List Int := vec (xs.length - 1) fun j => xat xs (j + 1) - xat xs j
theorem below_ok (c : Bool) {xs : List Int} (hl : xs.length ≤ 1000) : den_row_below [some (.fz (sq c (xs.map .int)))] = some (.ow ((below xs).map .int), [none]) := by
  have e : lc_row_below_3 [some (.fz (sq c (xs.map .int))), none, none] = some (.ow ((below xs).map .int), [some (.fz (sq c (xs.map .int))), none, none]) := by
    unfold below
    rw [vec_tab]
    refine lcE_tab (n := xs.length - 1) (F := fun i => .tuple [.int (xat xs i), .int (xat xs (i + 1))]) (G := fun i => .int (xat xs (i + 1) - xat xs i)) (ρ1 := [some (.fz (sq c (xs.map .int))), none, none]) ?_ (by omega) fun i hi => ⟨_, .fz (.int (xat xs (i + 1) - xat xs i)), rfl, rfl, ?_, rfl, rfl⟩
    · rw [← zip_next, ← drop_map]
      have e1 : cutD (xs.map PyData.int) (some 1) none = _ := cutD_tail (ds := xs.map PyData.int) 1
      generalize xs.map PyData.int = V at *
      cases c <;> simp [li_row_below_1, e1]
    · simp [le_row_below_2]
  simp [den_row_below, e, maskR_1]
theorem drow_ok (c : Bool) {xs : List Int} (hl : xs.length ≤ 60) (hb : Ok12 xs) : den_difference_row [some (.fz (sq c (xs.map .int)))] = some (.ow ((below xs).map .int), [none]) := by
  have h1 := want_ok c hl hb
  have h2 := below_ok c (xs := xs) (by omega)
  simp [den_difference_row, h1, h2, maskR_1]
theorem taken_ok (c : Bool) {xs : List Int} (hl : xs.length ≤ 60) (hb : Ok12 xs) : den_taken_back [some (.fz (sq c (xs.map .int)))] = some (.ow ((vec xs.length (bk (xat xs))).map .int), [none]) := by
  have h1 := want_ok c hl hb
  have h2 := back_ok c hl
  simp [den_taken_back, h1, h2, maskR_1]
theorem csums_ok (c : Bool) {xs : List Int} (hl : xs.length ≤ 60) (hb : Ok12 xs) : den_choice_sums [some (.fz (sq c (xs.map .int)))] = some (.ow ((vec xs.length (ss (xat xs))).map .int), [none]) := by
  have h1 := want_ok c hl hb
  have h2 := sums_ok c hl
  simp [den_choice_sums, h1, h2, maskR_1]
/-! the numbers of Fibonacci -/
def fbp : Nat → Nat × Nat
  | 0 => (0, 1)
  | n + 1 => ((fbp n).2, (fbp n).1 + (fbp n).2)
def fb (n : Nat) : Nat := (fbp n).1
theorem fb_s (n : Nat) : fb (n + 2) = fb n + fb (n + 1) := rfl
theorem fb_2 (n : Nat) : (fbp n).2 = fb (n + 1) := rfl
theorem fb_small : (List.range 60).all (fun n => decide (fb n ≤ 1000000000000)) = true := by decide +kernel
theorem fb_le {n : Nat} (h : n < 60) : fb n ≤ 1000000000000 := of_decide_eq_true (List.all_eq_true.mp fb_small n (List.mem_range.mpr h))
theorem ss_up (f : Nat → Int) (p : Nat) : ss f (p + 1) = ss f p + ss (fun k => f (k + 1)) p := by
  have h : dv (ss f) 1 p = ss (fun k => f (k + 1)) p := dv_ss (f := f) 1 p
  have h2 : dv (ss f) 1 p = ss f (p + 1) - ss f p := rfl
  omega
theorem ss_sum2 (f g : Nat → Int) (p : Nat) : ss (fun k => f k + g k) p = ss f p + ss g p := by
  unfold ss
  rw [← sm_add]
  refine sm_congr fun i _ => ?_
  rw [Int.mul_add]
theorem ss_fb : ∀ p : Nat, ss (fun k => (fb k : Int)) p = fb (2 * p) ∧ ss (fun k => (fb (k + 1) : Int)) p = fb (2 * p + 1)
  | 0 => by
    rw [ss_0, ss_0]
    exact ⟨rfl, rfl⟩
  | p + 1 => by
    obtain ⟨h1, h2⟩ := ss_fb p
    have e : ss (fun k => (fb (k + 2) : Int)) p = ss (fun k => (fb k : Int)) p + ss (fun k => (fb (k + 1) : Int)) p := by
      rw [← ss_sum2]
      exact ss_congr fun i _ => by rw [fb_s, Int.natCast_add]
    constructor
    · rw [ss_up, h1, h2, show 2 * (p + 1) = 2 * p + 2 by omega, fb_s, Int.natCast_add]
    · rw [ss_up, h2, show ss (fun k => (fb (k + 1 + 1) : Int)) p = _ from e, h1, h2, show 2 * (p + 1) + 1 = 2 * p + 1 + 2 by omega, fb_s, show 2 * p + 1 + 1 = 2 * p + 2 by omega, fb_s]
      omega
theorem fibof_ok {n : Nat} (h : n ≤ 200) : den_fib_of [some (.fz (.int (n : Int)))] = some (.fz (.int (fb n : Int)), [none]) := by
  have loop := forL_inv (P := fun j ρ => ∃ x, ρ = [some (.fz (.int (n : Int))), x, some (.fz (.int (fb j : Int))), some (.fz (.int (fb (j + 1) : Int)))]) (st := nameF 1) (s := fb_fib_of_1) (rngD 0 n) 0 [some (.fz (.int (n : Int))), none, some (.fz (.int 0)), some (.fz (.int 1))] ⟨none, rfl⟩ ?_
  · obtain ⟨ρ1, e, x, rfl⟩ := loop
    rw [rngD_length, Nat.zero_add] at e
    have e2 : fo_fib_of_3 [some (.fz (.int (n : Int))), none, some (.fz (.int 0)), some (.fz (.int 1))] = _ := forS_of (ds := rngD 0 n) (ρ1 := [some (.fz (.int (n : Int))), none, some (.fz (.int 0)), some (.fz (.int 1))]) (by
      have h2 := smallI_of (a := (n : Int)) (by omega) (by omega)
      simp [fi_fib_of_2, h2]) e
    generalize (fb n : Int) = A at *
    generalize (fb (n + 1) : Int) = B at *
    simp [den_fib_of, e2, maskR_1]
  · rintro j d ρ hd ⟨x, rfl⟩
    obtain ⟨hj, rfl⟩ := rngD_get hd
    rw [Nat.zero_add, Int.zero_add]
    refine ⟨[some (.fz (.int (n : Int))), some (.fz (.int (j : Int))), some (.fz (.int (fb (j + 1) : Int))), some (.fz (.int (fb (j + 1 + 1) : Int)))], .inl ?_, _, rfl⟩
    have e : (fb (j + 1 + 1) : Int) = (fb j : Int) + (fb (j + 1) : Int) := by rw [show j + 1 + 1 = j + 2 from rfl, fb_s, Int.natCast_add]
    rw [e]
    generalize (fb j : Int) = A at *
    generalize (fb (j + 1) : Int) = B at *
    simp [fb_fib_of_1]
theorem fib_ok {n : Nat} (h : n ≤ 200) : den_fib [some (.fz (.int (n : Int)))] = some (.fz (.int (fb n : Int)), [none]) := by
  have w := within_ok (i := (n : Int)) (lo := 0) (hi := 200) (by omega) (by omega)
  have e := fibof_ok h
  generalize (fb n : Int) = A at *
  simp [den_fib, den_want_count, w, e, maskR_1]
theorem ok12_fb {n : Nat} {g : Nat → Nat} (h : ∀ i, i < n → g i < 60) : Ok12 (vec n fun i => (fb (g i) : Int)) := fun x hx => by
  obtain ⟨i, hi, rfl⟩ := List.mem_map.mp hx
  have := fb_le (h i (List.mem_range.mp hi))
  omega
theorem fib_right {q : Vl} (hq : IsPot q) : ∃ q', den__law_fibonacci_right [some q] = some (.fz (.bool true), [some q']) ∧ IsPot q' := by
  obtain ⟨r, rfl⟩ : ∃ r, q = .ow r := by obtain ⟨a, b, rfl, _⟩ := hq; exact ⟨_, rfl⟩
  obtain ⟨d0, q1, e1, g0, g1, hq1⟩ := draw_ok hq (n := 25) (by decide) (by decide)
  obtain ⟨r1, rfl⟩ : ∃ r, q1 = .ow r := by obtain ⟨a, b, rfl, _⟩ := hq1; exact ⟨_, rfl⟩
  obtain ⟨m, hm⟩ : ∃ m : Nat, 1 + d0 = ((m + 1 : Nat) : Int) := ⟨d0.toNat, by omega⟩
  have m3 : m + 1 ≤ 25 := by omega
  refine ⟨.ow r1, ?_, hq1⟩
  have s1 := smallI_of (a := ((m + 1 : Nat) : Int)) (by omega) (by omega)
  have s2 : (((m + 1 : Nat) : Int)).toNat = m + 1 := by omega
  have l1 : ∀ s2 s3, lc_law_fibonacci_right_3 [some (.ow r1), some (.fz (.int ((m + 1 : Nat) : Int))), s2, s3] = some (.ow ((vec (m + 1) fun i => (fb i : Int)).map .int), [some (.ow r1), some (.fz (.int ((m + 1 : Nat) : Int))), s2, s3]) := fun t2 t3 => by
    rw [vec_tab]
    refine lcE_tab (n := m + 1) (F := fun j => .int (0 + (j : Int))) (G := fun j => .int (fb j : Int)) (ρ1 := [some (.ow r1), some (.fz (.int ((m + 1 : Nat) : Int))), t2, t3]) ?_ (by omega) fun j hj => ⟨_, .fz (.int (fb j : Int)), rfl, rfl, ?_, rfl, rfl⟩
    · rw [← rngD_tab]
      generalize ((m + 1 : Nat) : Int) = M at *
      simp [li_law_fibonacci_right_1, s1, s2]
    · rw [Int.zero_add]
      have f := fib_ok (n := j) (by omega)
      generalize (fb j : Int) = A at *
      simp [le_law_fibonacci_right_2, f]
  have l2 : ∀ s2 s3, lc_law_fibonacci_right_6 [some (.ow r1), some (.fz (.int ((m + 1 : Nat) : Int))), s2, s3] = some (.ow ((vec (m + 1) fun i => (fb (2 * i) : Int)).map .int), [some (.ow r1), some (.fz (.int ((m + 1 : Nat) : Int))), s2, s3]) := fun t2 t3 => by
    rw [vec_tab]
    refine lcE_tab (n := m + 1) (F := fun j => .int (0 + (j : Int))) (G := fun j => .int (fb (2 * j) : Int)) (ρ1 := [some (.ow r1), some (.fz (.int ((m + 1 : Nat) : Int))), t2, t3]) ?_ (by omega) fun j hj => ⟨_, .fz (.int (fb (2 * j) : Int)), rfl, rfl, ?_, rfl, rfl⟩
    · rw [← rngD_tab]
      generalize ((m + 1 : Nat) : Int) = M at *
      simp [li_law_fibonacci_right_4, s1, s2]
    · rw [Int.zero_add]
      have f := fib_ok (n := 2 * j) (by omega)
      rw [show ((2 * j : Nat) : Int) = 2 * (j : Int) by omega] at f
      have mo : mulOk 2 (j : Int) = true := mulOk_l (by decide) (by decide)
      generalize (fb (2 * j) : Int) = A at *
      simp [le_law_fibonacci_right_5, f, mo]
  have l3 : ∀ s2 s3, lc_law_fibonacci_right_9 [some (.ow r1), some (.fz (.int ((m + 1 : Nat) : Int))), s2, s3] = some (.ow ((vec (m + 1) fun i => (fb (2 * i) : Int)).map .int), [some (.ow r1), some (.fz (.int ((m + 1 : Nat) : Int))), s2, s3]) := l2
  have l4 : ∀ s2 s3, lc_law_fibonacci_right_12 [some (.ow r1), some (.fz (.int ((m + 1 : Nat) : Int))), s2, s3] = some (.ow ((vec (m + 1) fun i => (fb (i + 1) : Int)).map .int), [some (.ow r1), some (.fz (.int ((m + 1 : Nat) : Int))), s2, s3]) := fun t2 t3 => by
    rw [vec_tab]
    refine lcE_tab (n := m + 1) (F := fun j => .int (0 + (j : Int))) (G := fun j => .int (fb (j + 1) : Int)) (ρ1 := [some (.ow r1), some (.fz (.int ((m + 1 : Nat) : Int))), t2, t3]) ?_ (by omega) fun j hj => ⟨_, .fz (.int (fb (j + 1) : Int)), rfl, rfl, ?_, rfl, rfl⟩
    · rw [← rngD_tab]
      generalize ((m + 1 : Nat) : Int) = M at *
      simp [li_law_fibonacci_right_10, s1, s2]
    · rw [Int.zero_add]
      have f := fib_ok (n := j + 1) (by omega)
      rw [show ((j + 1 : Nat) : Int) = (j : Int) + 1 by omega] at f
      generalize (fb (j + 1) : Int) = A at *
      simp [le_law_fibonacci_right_11, f]
  have c1 := csums_ok true (xs := vec (m + 1) fun i => (fb i : Int)) (by rw [vec_len]; omega) (ok12_fb fun i hi => by omega)
  have c2 := taken_ok true (xs := vec (m + 1) fun i => (fb (2 * i) : Int)) (by rw [vec_len]; omega) (ok12_fb fun i hi => by omega)
  have c3 := drow_ok true (xs := vec (m + 1) fun i => (fb (i + 1) : Int)) (by rw [vec_len]; omega) (ok12_fb fun i hi => by omega)
  rw [vec_len, sq_t] at c1 c2
  rw [sq_t] at c3
  have v1 : vec (m + 1) (ss (xat (vec (m + 1) fun i => (fb i : Int)))) = vec (m + 1) fun i => (fb (2 * i) : Int) := vec_congr fun a ha => by
    rw [← (ss_fb a).1]
    exact ss_congr fun i hi => xat_vec (by omega)
  have v2 : vec (m + 1) (bk (xat (vec (m + 1) fun i => (fb (2 * i) : Int)))) = vec (m + 1) fun i => (fb i : Int) := vec_congr fun a ha => by
    rw [← bk_ss (f := fun k => (fb k : Int)) (a := a)]
    refine bk_congr fun i hi => ?_
    rw [xat_vec (by omega), (ss_fb i).1]
  have v3 : (below (vec (m + 1) fun i => (fb (i + 1) : Int))).map PyData.int = ((vec (m + 1) fun i => (fb i : Int)).map PyData.int).take m := by
    unfold below
    rw [vec_len, Nat.add_sub_cancel, vec_succ, List.take_left' (by rw [List.length_map, vec_len])]
    congr 1
    refine vec_congr fun i hi => ?_
    rw [xat_vec (by omega), xat_vec (by omega), fb_s]
    omega
  rw [v1] at c1
  rw [v2] at c2
  rw [v3] at c3
  have cu : cutD ((vec (m + 1) fun i => (fb i : Int)).map PyData.int) none (some (m : Int)) = _ := cutD_head (ds := (vec (m + 1) fun i => (fb i : Int)).map PyData.int) m
  have sb : ((m + 1 : Nat) : Int) - 1 = (m : Int) := by omega
  have q1 : ∀ ρ, neF ρ [.ow ((vec (m + 1) fun i => (fb (2 * i) : Int)).map .int), .ow ((vec (m + 1) fun i => (fb (2 * i) : Int)).map .int)] = some (.fz (.bool false)) := fun ρ => neF_vec
  have q2 : ∀ ρ, neF ρ [.ow ((vec (m + 1) fun i => (fb i : Int)).map .int), .fz (.list ((vec (m + 1) fun i => (fb i : Int)).map .int))] = some (.fz (.bool false)) := fun ρ => neF_vecA
  have q3 : ∀ ρ, eqF ρ [.ow (((vec (m + 1) fun i => (fb i : Int)).map .int).take m), .ow (((vec (m + 1) fun i => (fb i : Int)).map .int).take m)] = some (.fz (.bool true)) := fun ρ => by
    rw [← List.map_take]
    exact eqF_vec
  generalize ((vec (m + 1) fun i => (fb i : Int)).map PyData.int).take m = T at *
  generalize (vec (m + 1) fun i => (fb i : Int)).map PyData.int = F1 at *
  generalize (vec (m + 1) fun i => (fb (2 * i) : Int)).map PyData.int = F2 at *
  generalize (vec (m + 1) fun i => (fb (i + 1) : Int)).map PyData.int = F3 at *
  generalize ((m + 1 : Nat) : Int) = M at *
  simp [den__law_fibonacci_right, e1, hm, l1, l2, l3, l4, c1, c2, c3, cu, sb, q1, q2, q3, maskR_1]
end
end DL

namespace DL
open PySem PySem.Spec PyProof.Rows L2
noncomputable section
theorem bags_ok {f m : Nat} (hf : f + 1 ≤ 200) (hm : m ≤ 200) : den_many_bags [some (.fz (.int ((f + 1 : Nat) : Int))), some (.fz (.int (m : Int)))] = some (.fz (.int (ch (m + f) m : Nat)), [none, none]) := by
  have w1 := wmany hf
  have w2 := wsome hm
  have c := choose_ok (n := m + f) (k := m) (by omega) (by omega)
  have e : ((f + 1 : Nat) : Int) + (m : Int) - 1 = ((m + f : Nat) : Int) := by omega
  have pos : (0 : Int) < ((f + 1 : Nat) : Int) := by omega
  generalize ((m + f : Nat) : Int) = T at *
  generalize ((f + 1 : Nat) : Int) = F at *
  generalize ((ch (m + f) m : Nat) : Int) = C at *
  simp [den_many_bags, den_bags_counted, w1, w2, c, e, pos, maskR_2]
theorem steps_ok {r u : Nat} (h : r + u ≤ 200) : den_want_steps [some (.fz (.int (r : Int))), some (.fz (.int (u : Int)))] = some (.fz .none, [none, none]) := by
  have w1 := within_ok (i := (r : Int)) (lo := 0) (hi := 200) (by omega) (by omega)
  have w2 := within_ok (i := (u : Int)) (lo := 0) (hi := 200 - (r : Int)) (by omega) (by omega)
  simp [den_want_steps, w1, w2, maskR_2]
theorem paths_ok {r u : Nat} (h : r + u ≤ 200) : den_many_paths [some (.fz (.int (r : Int))), some (.fz (.int (u : Int)))] = some (.fz (.int (ch (r + u) u : Nat)), [none, none]) := by
  have w := steps_ok h
  have c := choose_ok (n := r + u) (k := u) (by omega) (by omega)
  rw [Int.natCast_add] at c
  generalize ((ch (r + u) u : Nat) : Int) = C at *
  simp [den_many_paths, w, c, maskR_2]
section
variable {s0 s1 s2 s3 s4 s5 s6 s7 s8 s9 : Option Vl} {p n : Nat}
theorem a_rests (hp : IsP p) (hn : n ≤ 200) : lc_law_choices_right_3 [s0, some (.fz (.int (p : Int))), s2, s3, some (.fz (.list ((List.range (n + 1)).map fun j => .int ((ch n j : Nat) : Int)))), s5, s6, s7, s8, s9] = some (.ow ((RW9 p n).map .int), [s0, some (.fz (.int (p : Int))), s2, s3, some (.fz (.list ((List.range (n + 1)).map fun j => .int ((ch n j : Nat) : Int)))), s5, s6, s7, s8, s9]) := by
  unfold RW9
  rw [vec_tab]
  refine lcE_tab (n := n + 1) (F := fun j => .int ((ch n j : Nat) : Int)) (G := fun j => .int ((ch n j % p : Nat) : Int)) (ρ1 := [s0, some (.fz (.int (p : Int))), s2, s3, some (.fz (.list ((List.range (n + 1)).map fun j => .int ((ch n j : Nat) : Int)))), s5, s6, s7, s8, s9]) ?_ (by omega) fun j hj => ⟨_, .fz (.int ((ch n j % p : Nat) : Int)), rfl, rfl, ?_, rfl, rfl⟩
  · generalize (List.range (n + 1)).map (fun j => PyData.int ((ch n j : Nat) : Int)) = L
    simp [li_law_choices_right_1]
  · have nz : 0 < p := by have := hp.two; omega
    have m : ((ch n j : Nat) : Int) % (p : Int) = ((ch n j % p : Nat) : Int) := rfl
    generalize (List.range (n + 1)).map (fun j => PyData.int ((ch n j : Nat) : Int)) = L
    generalize ((ch n j % p : Nat) : Int) = M at *
    generalize ((ch n j : Nat) : Int) = C at *
    simp [le_law_choices_right_2, m, nz]
theorem a_left (hp : IsP p) (hn : n ≤ 200) : lc_law_choices_right_7 [s0, some (.fz (.int (p : Int))), s2, s3, some (.fz (.list ((List.range (n + 1)).map fun j => .int ((ch n j : Nat) : Int)))), s5, s6, s7, s8, s9] = some (.ow (((List.range (n + 1)).filter fun k => decide (0 < ch n k % p)).map fun k => .int ((ch n k : Nat) : Int)), [s0, some (.fz (.int (p : Int))), s2, s3, some (.fz (.list ((List.range (n + 1)).map fun j => .int ((ch n j : Nat) : Int)))), s5, s6, s7, s8, s9]) := by
  refine lcE_tabF (L := List.range (n + 1)) (F := fun k => .int ((ch n k : Nat) : Int)) (G := fun k => .int ((ch n k : Nat) : Int)) (T := fun k => decide (0 < ch n k % p)) (ρ1 := [s0, some (.fz (.int (p : Int))), s2, s3, some (.fz (.list ((List.range (n + 1)).map fun j => .int ((ch n j : Nat) : Int)))), s5, s6, s7, s8, s9]) ?_ (by rw [List.length_range]; omega) fun i hi => ⟨[s0, some (.fz (.int (p : Int))), s2, s3, some (.fz (.list ((List.range (n + 1)).map fun j => .int ((ch n j : Nat) : Int)))), s5, s6, s7, s8, some (.fz (.int ((ch n i : Nat) : Int)))], .fz (.int ((ch n i : Nat) : Int)), rfl, ?_, rfl, fun _ => ⟨rfl, rfl⟩⟩
  · generalize (List.range (n + 1)).map (fun j => PyData.int ((ch n j : Nat) : Int)) = L
    simp [li_law_choices_right_4]
  · generalize (List.range (n + 1)).map (fun j => PyData.int ((ch n j : Nat) : Int)) = L
    have nz : 0 < p := by have := hp.two; omega
    have m : ((ch n i : Nat) : Int) % (p : Int) = ((ch n i % p : Nat) : Int) := rfl
    by_cases h : 0 < ch n i % p
    · have h2 : ¬ ((ch n i % p : Nat) : Int) = 0 := by omega
      rw [decide_eq_true h]
      rw [← m] at h2
      generalize ((ch n i : Nat) : Int) = A at *
      simp [lt_law_choices_right_6, h2, nz]
    · have h2 : ((ch n i % p : Nat) : Int) = 0 := by omega
      rw [decide_eq_false h]
      rw [h2] at m
      generalize ((ch n i : Nat) : Int) = A at *
      simp [lt_law_choices_right_6, m, nz]
end
theorem NC_lt {p a b : Nat} (hp : IsP p) : NC p a b 64 < 400 := by
  have := NC_le (a := a) (b := b) hp.two.1 64
  omega
theorem choices_right {q : Vl} {p : Nat} (hq : IsPot q) (hp : IsP p) : ∃ q', den__law_choices_right [some q, some (.fz (.int (p : Int)))] = some (.fz (.bool true), [some q', none]) ∧ IsPot q' := by
  obtain ⟨r, rfl⟩ : ∃ r, q = .ow r := by obtain ⟨a, b, rfl, _⟩ := hq; exact ⟨_, rfl⟩
  obtain ⟨d0, q1, e1, g0, g1, hq1⟩ := draw_ok hq (n := 201) (by decide) (by decide)
  obtain ⟨n, rfl⟩ := Int.eq_ofNat_of_zero_le g0
  obtain ⟨r1, rfl⟩ : ∃ r, q1 = .ow r := by obtain ⟨a, b, rfl, _⟩ := hq1; exact ⟨_, rfl⟩
  obtain ⟨d1, q2, e2, f0, f1, hq2⟩ := draw_ok hq1 (n := (n : Int) + 1) (by omega) (by omega)
  obtain ⟨s, rfl⟩ := Int.eq_ofNat_of_zero_le f0
  obtain ⟨r2, rfl⟩ : ∃ r, q2 = .ow r := by obtain ⟨a, b, rfl, _⟩ := hq2; exact ⟨_, rfl⟩
  obtain ⟨d2, q3, e3, j0, j1, hq3⟩ := draw_ok hq2 (n := 100) (by decide) (by decide)
  obtain ⟨f, hf⟩ : ∃ f : Nat, 1 + d2 = ((f + 1 : Nat) : Int) := ⟨d2.toNat, by omega⟩
  obtain ⟨r3, rfl⟩ : ∃ r, q3 = .ow r := by obtain ⟨a, b, rfl, _⟩ := hq3; exact ⟨_, rfl⟩
  obtain ⟨d3, q4, e4, i0, i1, hq4⟩ := draw_ok hq3 (n := 100) (by decide) (by decide)
  obtain ⟨m, rfl⟩ := Int.eq_ofNat_of_zero_le i0
  obtain ⟨r4, rfl⟩ : ∃ r, q4 = .ow r := by obtain ⟨a, b, rfl, _⟩ := hq4; exact ⟨_, rfl⟩
  obtain ⟨d4, q5, e5, x0, x1, hq5⟩ := draw_ok hq4 (n := 101) (by decide) (by decide)
  obtain ⟨a, rfl⟩ := Int.eq_ofNat_of_zero_le x0
  obtain ⟨r5, rfl⟩ : ∃ r, q5 = .ow r := by obtain ⟨a, b, rfl, _⟩ := hq5; exact ⟨_, rfl⟩
  obtain ⟨d5, q6, e6, y0, y1, hq6⟩ := draw_ok hq5 (n := 100) (by decide) (by decide)
  obtain ⟨u, rfl⟩ := Int.eq_ofNat_of_zero_le y0
  obtain ⟨r6, rfl⟩ : ∃ r, q6 = .ow r := by obtain ⟨a, b, rfl, _⟩ := hq6; exact ⟨_, rfl⟩
  refine ⟨.ow r6, ?_, hq6⟩
  have hn : n ≤ 200 := by omega
  have nz : 0 < p := by have := hp.two; omega
  have cr := crow_ok hn
  have rr := rowrests_ok hp hn
  have rl := rowleft_ok hp (n := n) (by omega)
  have l1 := a_rests (s0 := some (.ow r2)) (s2 := some (.fz (.int (n : Int)))) (s3 := some (.fz (.int (s : Int)))) (s5 := none) (s6 := none) (s7 := none) (s8 := none) (s9 := none) hp hn
  have l2 := a_left (s0 := some (.ow r2)) (s2 := some (.fz (.int (n : Int)))) (s3 := some (.fz (.int (s : Int)))) (s5 := none) (s6 := none) (s7 := none) (s8 := none) (s9 := none) hp hn
  have rc := row_count hp (dl_lt hp.two.1 (n := n) (by omega))
  have ll : ∀ ρ, lenF ρ [.ow (((List.range (n + 1)).filter fun k => decide (0 < ch n k % p)).map fun k => PyData.int ((ch n k : Nat) : Int))] = some (.fz (.int ((pr (fun i => dig p n i + 1) (dl p n) : Nat) : Int))) := fun ρ => by
    rw [lenF_ow, List.length_map, cz_filter, rc]
  have nv : ∀ ρ, neF ρ [.ow ((RW9 p n).map .int), .ow ((RW9 p n).map .int)] = some (.fz (.bool false)) := fun ρ => neF_vec
  obtain ⟨t, ht⟩ : ∃ t, n = s + t := ⟨n - s, by omega⟩
  have c1 := ctimes_ok (a := s) (b := t) hp (by omega)
  have c2 := choose2_ok (n := s + t) (k := s) (by omega) (by omega)
  have o1 := often_ok hp (ch_v hp (big64 hp.two.1 (show s + t ≤ 1000000000000000000 by omega))) (NC_lt hp)
  rw [← ht] at c1 c2 o1
  have b1 := bags_ok (f := f) (m := m) (by omega) (by omega)
  have b2 := crest_ok hp (a := m + f) (b := m) (by omega) (by omega)
  have b3 := ctimes_ok (a := m) (b := f) hp (by omega)
  have b4 := often_ok hp (ch_v (a := m) (b := f) hp (big64 hp.two.1 (by omega))) (NC_lt hp)
  have bm : ((ch (m + f) m : Nat) : Int) % (p : Int) = ((ch (m + f) m % p : Nat) : Int) := rfl
  have be : ((f + 1 : Nat) : Int) + (m : Int) - 1 = ((m + f : Nat) : Int) := by omega
  have p1 := paths_ok (r := a) (u := u) (by omega)
  have p2 := crest_ok hp (a := a + u) (b := u) (by omega) (by omega)
  have p3 := ctimes_ok (a := a) (b := u) hp (by omega)
  have p4 := often_ok hp (ch_v (a := a) (b := u) hp (big64 hp.two.1 (by omega))) (NC_lt hp)
  rw [show ch (a + u) a = ch (a + u) u by rw [ch_sym (show a ≤ a + u by omega), Nat.add_sub_cancel_left]] at p4
  have pm : ((ch (a + u) u : Nat) : Int) % (p : Int) = ((ch (a + u) u % p : Nat) : Int) := rfl
  have pe : (a : Int) + (u : Int) = ((a + u : Nat) : Int) := (Int.natCast_add a u).symm
  clear rc ht
  generalize ((f + 1 : Nat) : Int) = F at *
  generalize ((m + f : Nat) : Int) = MF at *
  generalize ((ch (m + f) m % p : Nat) : Int) = B2 at *
  generalize ((ch (m + f) m : Nat) : Int) = B1 at *
  generalize ((NC p m f 64 : Nat) : Int) = B3 at *
  generalize ((a + u : Nat) : Int) = AU at *
  generalize ((ch (a + u) u % p : Nat) : Int) = P2 at *
  generalize ((ch (a + u) u : Nat) : Int) = P1 at *
  generalize ((NC p a u 64 : Nat) : Int) = P3 at *
  generalize ((NC p s t 64 : Nat) : Int) = C3 at *
  generalize ((ch n s : Nat) : Int) = C2 at *
  generalize ((pr (fun i => dig p n i + 1) (dl p n) : Nat) : Int) = T at *
  generalize ((List.range (n + 1)).filter fun k => decide (0 < ch n k % p)).map (fun k => PyData.int ((ch n k : Nat) : Int)) = Z at *
  generalize (List.range (n + 1)).map (fun j => PyData.int ((ch n j : Nat) : Int)) = R at *
  generalize (RW9 p n).map PyData.int = V at *
  have k8 : sq_law_choices_right_8 [some (.ow r2), some (.fz (.int (p : Int))), some (.fz (.int (n : Int))), some (.fz (.int (s : Int))), some (.fz (.list R)), none, none, none, none, none] = some (.rt (.fz (.bool true)) [some (.ow r6), some (.fz (.int (p : Int))), some (.fz (.int (n : Int))), some (.fz (.int (s : Int))), some (.fz (.list R)), some (.fz (.int F)), some (.fz (.int (m : Int))), some (.fz (.int (a : Int))), some (.fz (.int (u : Int))), none]) := by
    refine (seq_nx (ρ1 := [some (.ow r4), some (.fz (.int (p : Int))), some (.fz (.int (n : Int))), some (.fz (.int (s : Int))), some (.fz (.list R)), some (.fz (.int F)), some (.fz (.int (m : Int))), none, none, none]) (by simp [e3, e4, hf])).trans ?_
    rw [frz_id rfl, frz_id rfl]
    refine (seq_nx (ρ1 := [some (.ow r4), some (.fz (.int (p : Int))), some (.fz (.int (n : Int))), some (.fz (.int (s : Int))), some (.fz (.list R)), some (.fz (.int F)), some (.fz (.int (m : Int))), none, none, none]) (by simp [b1, b2, b3, b4, bm, be, nz])).trans ?_
    refine (seq_nx (ρ1 := [some (.ow r6), some (.fz (.int (p : Int))), some (.fz (.int (n : Int))), some (.fz (.int (s : Int))), some (.fz (.list R)), some (.fz (.int F)), some (.fz (.int (m : Int))), some (.fz (.int (a : Int))), some (.fz (.int (u : Int))), none]) (by simp [e5, e6])).trans ?_
    rw [frz_id rfl, frz_id rfl]
    simp [p1, p2, p3, p4, pm, pe, nz]
  refine (show den__law_choices_right _ = _ from fn_body (n := 2) (N := 10) (r := .bool true) (ρ' := [some (.ow r6), some (.fz (.int (p : Int))), some (.fz (.int (n : Int))), some (.fz (.int (s : Int))), some (.fz (.list R)), some (.fz (.int F)), some (.fz (.int (m : Int))), some (.fz (.int (a : Int))), some (.fz (.int (u : Int))), none]) rfl ?_).trans (by rw [maskR_2]; rfl)
  refine (seq_nx (ρ1 := [some (.ow r1), some (.fz (.int (p : Int))), some (.fz (.int (n : Int))), none, none, none, none, none, none, none]) ?_).trans ?_
  · show asgS _ _ [some (.ow r), some (.fz (.int (p : Int))), none, none, none, none, none, none, none, none] = _
    simp [e1]
  refine (seq_nx (ρ1 := [some (.ow r2), some (.fz (.int (p : Int))), some (.fz (.int (n : Int))), some (.fz (.int (s : Int))), none, none, none, none, none, none]) (by simp [e2])).trans ?_
  refine (seq_nx (ρ1 := [some (.ow r2), some (.fz (.int (p : Int))), some (.fz (.int (n : Int))), some (.fz (.int (s : Int))), some (.fz (.list R)), none, none, none, none, none]) (by simp [cr])).trans ?_
  refine (seq_nx (ρ1 := [some (.ow r2), some (.fz (.int (p : Int))), some (.fz (.int (n : Int))), some (.fz (.int (s : Int))), some (.fz (.list R)), none, none, none, none, none]) (by simp [rr, rl, l1, l2, ll, nv, pick_10])).trans ?_
  refine (seq_nx (ρ1 := [some (.ow r2), some (.fz (.int (p : Int))), some (.fz (.int (n : Int))), some (.fz (.int (s : Int))), some (.fz (.list R)), none, none, none, none, none]) (by simp [c1, c2, o1, pick_01])).trans ?_
  exact k8
end
end DL

namespace DL
open PySem PySem.Spec PyProof.Rows L2
noncomputable section
/-! orders, words, brackets -/
theorem orders_ok {n : Nat} (hn : n ≤ 200) : den_many_orders [some (.fz (.int (n : Int)))] = some (.fz (.int (fac n : Nat)), [none]) := by
  have w := wmany hn
  have loop := forL_inv (P := fun j ρ => ∃ x, ρ = [some (.fz (.int (n : Int))), some (.fz (.int (fac (j + 1) : Nat))), x]) (st := nameF 2) (s := fb_orders_counted_1) (rngD 2 (n - 1)) 0 [some (.fz (.int (n : Int))), some (.fz (.int 1)), none] ⟨none, rfl⟩ ?_
  · obtain ⟨ρ1, e, x, rfl⟩ := loop
    rw [rngD_length, Nat.zero_add] at e
    have e3 : fac (n - 1 + 1) = fac n := by
      cases n with
      | zero => rfl
      | succ k => rfl
    rw [e3] at e
    have e2 : fo_orders_counted_3 [some (.fz (.int (n : Int))), some (.fz (.int 1)), none] = _ := forS_of (ds := rngD 2 (n - 1)) (ρ1 := [some (.fz (.int (n : Int))), some (.fz (.int 1)), none]) (by
      have s2 := smallI_of (a := (n : Int) + 1) (by omega) (by omega)
      have s1 : smallI 2 = true := smallI_of (by decide) (by decide)
      have s3 : ((n : Int) + 1 - 2).toNat = n - 1 := by omega
      simp [fi_orders_counted_2, s2, s1, s3]) e
    generalize ((fac n : Nat) : Int) = F at *
    simp [den_many_orders, den_orders_counted, w, e2, maskR_1]
  · rintro j d ρ hd ⟨x, rfl⟩
    obtain ⟨hj, rfl⟩ := rngD_get hd
    rw [Nat.zero_add]
    refine ⟨[some (.fz (.int (n : Int))), some (.fz (.int (fac (j + 1 + 1) : Nat))), some (.fz (.int (2 + (j : Int))))], .inl ?_, _, rfl⟩
    have e : ((fac (j + 1 + 1) : Nat) : Int) = ((fac (j + 1) : Nat) : Int) * (2 + (j : Int)) := by
      rw [fac, Int.natCast_mul]
      congr 1
      omega
    have mo : ∀ c, mulOk c (2 + (j : Int)) = true := fun c => mulOk_r (by omega) (by omega)
    rw [e]
    generalize ((fac (j + 1) : Nat) : Int) = A at *
    simp [fb_orders_counted_1, mo]
theorem fac_EN {p n : Nat} (hp : IsP p) (h : n < 400) : fac n / p ^ EN p n 64 % p = BR p n := by
  obtain ⟨e, h1, h2⟩ := WN_fac hp h
  have v1 : IsV p (fac n) e := ⟨_, h1, h2⟩
  have v2 := fac_v hp (big64 hp.two.1 (show n ≤ 1000000000000000000 by omega))
  rw [v2.uniq hp v1, h1, Nat.mul_div_cancel_left _ (Nat.pow_pos (by have := hp.two; omega)), BR_W hp h]
/-- words with these letters -/
def wf (s : Nat × Nat) (a : Nat) : Nat × Nat := (s.1 * ch (s.2 + a) a, s.2 + a)
def mw (l : List Nat) : Nat × Nat := l.foldl wf (1, 0)
def Pf : List Nat → Nat
  | [] => 1
  | a :: r => fac a * Pf r
def Se (p : Nat) : List Nat → Nat
  | [] => 0
  | a :: r => EN p a 64 + Se p r
theorem mw_gen : ∀ (l : List Nat) (f w F : Nat), f * F = fac w → (l.foldl wf (f, w)).1 * (F * Pf l) = fac (w + l.sum) ∧ (l.foldl wf (f, w)).2 = w + l.sum
  | [], f, w, F, h => by
    refine ⟨?_, rfl⟩
    show f * (F * 1) = fac (w + 0)
    rw [Nat.mul_one]; exact h
  | a :: r, f, w, F, h => by
    have ih := mw_gen r (f * ch (w + a) a) (w + a) (F * fac a) (by
      have c := ch_fac a w
      rw [← h, Nat.add_comm a w] at c
      rw [← c]
      simp only [Nat.mul_assoc, Nat.mul_left_comm, Nat.mul_comm])
    rw [List.foldl_cons, List.sum_cons, ← Nat.add_assoc]
    refine ⟨?_, ih.2⟩
    rw [← ih.1, Pf, Nat.mul_assoc]
    rfl
theorem mw_ok (l : List Nat) : (mw l).1 * Pf l = fac l.sum ∧ (mw l).2 = l.sum := by
  have h := mw_gen l 1 0 1 rfl
  rw [Nat.zero_add, Nat.one_mul] at h
  exact h
theorem mw_app (l : List Nat) (a : Nat) : mw (l ++ [a]) = wf (mw l) a := by
  unfold mw
  rw [List.foldl_append]
  rfl
theorem Pf_v {p : Nat} (hp : IsP p) : ∀ l : List Nat, (∀ a ∈ l, a ≤ 1000) → IsV p (Pf l) (Se p l)
  | [], _ => IsV.of_ne (by rw [Pf, hp.one]; decide)
  | a :: r, h => (fac_v hp (big64 hp.two.1 (by have := h a List.mem_cons_self; omega))).mul hp (Pf_v hp r fun b hb => h b (List.mem_cons_of_mem _ hb))
theorem mw_v {p : Nat} {l : List Nat} (hp : IsP p) (h : ∀ a ∈ l, a ≤ 1000) (hs : l.sum ≤ 1000000) : ∃ v, IsV p (mw l).1 v ∧ v + Se p l = EN p l.sum 64 := by
  have v1 := fac_v hp (big64 hp.two.1 (show l.sum ≤ 1000000000000000000 by omega))
  have v2 := Pf_v hp l h
  have e := (mw_ok l).1
  obtain ⟨v, hv⟩ := IsV.ex hp (n := (mw l).1) (Nat.le_refl _) (Nat.pos_of_ne_zero fun z => by
    rw [z, Nat.zero_mul] at e
    have := v1.pos hp
    omega)
  have v3 := hv.mul hp v2
  rw [e] at v3
  exact ⟨v, hv, v3.uniq hp v1⟩
theorem sum_cast : ∀ l : List Nat, (l.map fun x : Nat => (x : Int)).sum = ((l.sum : Nat) : Int)
  | [] => rfl
  | a :: r => by rw [List.map_cons, List.sum_cons, List.sum_cons, sum_cast r, Int.natCast_add]
theorem sum_le : ∀ (l : List Nat) (b : Nat), (∀ a ∈ l, a ≤ b) → l.sum ≤ l.length * b
  | [], b, _ => Nat.zero_le _
  | a :: r, b, h => by
    have h1 := sum_le r b fun c hc => h c (List.mem_cons_of_mem _ hc)
    have h2 := h a List.mem_cons_self
    rw [List.sum_cons, List.length_cons, Nat.succ_mul]
    omega
theorem words_ok {l : List Nat} (hl : l.length ≤ 5) (hb : ∀ a ∈ l, a ≤ 19) : den_many_words [some (.fz (.list ((l.map fun x : Nat => (x : Int)).map .int)))] = some (.fz (.int ((mw l).1 : Nat)), [none]) := by
  have hs := sum_le l 19 hb
  have hs2 : l.sum ≤ 95 := by have := Nat.mul_le_mul_right 19 hl; omega
  have su : sumD ((l.map fun x : Nat => (x : Int)).map PyData.int) = some (.fz (.int ((l.sum : Nat) : Int))) := by rw [sumD_map, sum_cast]
  have e : lc_are_letters_value_3 [some (.fz (.list ((l.map fun x : Nat => (x : Int)).map .int))), none] = some (.ow ((List.replicate l.length true).map .bool), [some (.fz (.list ((l.map fun x : Nat => (x : Int)).map .int))), none]) := by
    have e0 : (List.replicate l.length true).map PyData.bool = l.map fun _ => PyData.bool true := by
      rw [List.map_replicate]
      exact (List.map_const' ..).symm
    rw [e0, List.map_map]
    refine lcE_tabL (L := l) (F := fun i => .int ((i : Nat) : Int)) (G := fun _ => .bool true) (ρ1 := [some (.fz (.list (l.map fun x : Nat => .int (x : Int)))), none]) ?_ (by omega) fun i hi => ⟨_, .fz (.bool true), rfl, rfl, rfl, ?_, rfl⟩
    · show li_are_letters_value_1 [some (.fz (.list (l.map fun x : Nat => .int (x : Int)))), none] = _
      generalize l.map (fun x : Nat => PyData.int (x : Int)) = L
      simp [li_are_letters_value_1]
    · have b := hb i hi
      have h1 := within_ok (i := (i : Int)) (lo := 0) (hi := 100) (by omega) (by omega)
      simp [le_are_letters_value_2, h1]
  have len : (((l.map fun x : Nat => (x : Int)).map PyData.int).length : Int) = l.length := by rw [List.length_map, List.length_map]
  have il := islist_ok true (ds := (l.map fun x : Nat => (x : Int)).map PyData.int)
  rw [sq_t] at il
  have want : den_want_letters [some (.fz (.list ((l.map fun x : Nat => (x : Int)).map .int)))] = some (.fz .none, [none]) := by
    have n1 : ¬ (20 : Int) < (l.length : Int) := by omega
    have n2 : ((l.sum : Nat) : Int) ≤ 100 := by omega
    generalize (l.map fun x : Nat => (x : Int)).map PyData.int = L at *
    generalize ((l.sum : Nat) : Int) = S at *
    generalize ((l.length : Nat) : Int) = N at *
    simp [den_want_letters, den_are_letters_value, il, len, n1, e, su, n2, maskR_1, allTrue, -List.map_replicate]
  have loop := forL_parts (F := fun a : Nat => PyData.int (a : Int)) (W := l) (P := fun pre ρ => ∃ x, ρ = [some (.fz (.list (l.map fun x : Nat => .int (x : Int)))), x, some (.fz (.int ((mw pre).1 : Nat))), some (.fz (.int (pre.sum : Nat)))] ∧ (mw pre).1 < 2 ^ (101 * pre.length + 1)) (st := nameF 1) (s := fb_words_counted_1) ?_ (ρ := [some (.fz (.list (l.map fun x : Nat => .int (x : Int)))), none, some (.fz (.int 1)), some (.fz (.int 0))]) ⟨none, rfl, by decide⟩
  · obtain ⟨ρ1, e3, x, rfl, _⟩ := loop
    have e2 : fo_words_counted_3 [some (.fz (.list (l.map fun x : Nat => .int (x : Int)))), none, some (.fz (.int 1)), some (.fz (.int 0))] = _ := forS_of (ds := l.map fun a : Nat => PyData.int (a : Int)) (ρ1 := [some (.fz (.list (l.map fun x : Nat => .int (x : Int)))), none, some (.fz (.int 1)), some (.fz (.int 0))]) (by
      generalize l.map (fun x : Nat => PyData.int (x : Int)) = L
      simp [fi_words_counted_2]) e3
    rw [List.map_map] at want ⊢
    rw [show (PyData.int ∘ fun x : Nat => (x : Int)) = fun x : Nat => PyData.int (x : Int) from rfl] at want ⊢
    generalize l.map (fun x : Nat => PyData.int (x : Int)) = L at *
    generalize (((mw l).1 : Nat) : Int) = M at *
    generalize ((l.sum : Nat) : Int) = S at *
    simp [den_many_words, den_words_counted, want, e2, maskR_1]
  · rintro pre a suf ρ hW ⟨x, rfl, hbd⟩
    have ha : a ∈ l := by rw [hW]; exact List.mem_append_right _ List.mem_cons_self
    have h1 := hb a ha
    have hsum : pre.sum + a ≤ 95 := by
      have : l.sum = pre.sum + (a + suf.sum) := by rw [hW, List.sum_append, List.sum_cons]
      omega
    have e1 : (mw (pre ++ [a])).1 = (mw pre).1 * ch (pre.sum + a) a := by
      rw [mw_app, wf, (mw_ok pre).2]
    have e2 : (pre ++ [a]).sum = pre.sum + a := by rw [List.sum_append, List.sum_cons, List.sum_nil, Nat.add_zero]
    have hc : ch (pre.sum + a) a < 2 ^ 101 := Nat.lt_of_le_of_lt (ch_le2 _ _) (Nat.pow_lt_pow_right (by decide) (by omega))
    have hpl : pre.length ≤ 5 := by
      have : l.length = pre.length + (suf.length + 1) := by rw [hW, List.length_append, List.length_cons]
      omega
    have mo : mulOk (((mw pre).1 : Nat) : Int) ((ch (pre.sum + a) a : Nat) : Int) = true := mulOk_bigS (p := 101 * pre.length + 1) (q := 101) (by rw [Int.natAbs_natCast]; exact hbd) (by rw [Int.natAbs_natCast]; exact hc) (by omega)
    have c := choose_ok (n := pre.sum + a) (k := a) (by omega) (by omega)
    refine ⟨[some (.fz (.list (l.map fun x : Nat => .int (x : Int)))), some (.fz (.int (a : Int))), some (.fz (.int ((mw (pre ++ [a])).1 : Nat))), some (.fz (.int ((pre ++ [a]).sum : Nat)))], .inl ?_, _, rfl, ?_⟩
    · rw [e1, e2, Int.natCast_mul, Int.natCast_add]
      rw [Int.natCast_add] at c
      generalize l.map (fun x : Nat => PyData.int (x : Int)) = L at *
      generalize (((mw pre).1 : Nat) : Int) = M at *
      generalize ((ch (pre.sum + a) a : Nat) : Int) = C at *
      generalize ((pre.sum : Nat) : Int) = S at *
      simp [fb_words_counted_1, c, mo]
    · rw [e1, List.length_append, List.length_singleton, Nat.mul_add, show 101 * pre.length + 101 * 1 + 1 = (101 * pre.length + 1) + 101 by omega, Nat.pow_add]
      exact Nat.mul_lt_mul'' hbd hc
/-! Catalan's numbers -/
def cat (n : Nat) : Nat := ch (n + n) n - ch (n + n) (n + 1)
theorem cat_mul (n : Nat) : cat n * (n + 1) = ch (n + n) n := by
  have h := ch_step' (n := n + n) (k := n) (by omega)
  rw [Nat.add_sub_cancel] at h
  unfold cat
  rw [Nat.sub_mul, Nat.mul_comm (ch (n + n) (n + 1)), h, Nat.mul_comm n, ← Nat.mul_sub, Nat.add_sub_cancel_left, Nat.mul_one]
theorem cat_v {p n : Nat} (hp : IsP p) (h : n ≤ 1000) : ∃ v w, IsV p (cat n) v ∧ IsV p (n + 1) w ∧ v + w = NC p n n 64 := by
  have v1 := ch_v (a := n) (b := n) hp (big64 hp.two.1 (show n + n ≤ 1000000000000000000 by omega))
  obtain ⟨w, hw⟩ := IsV.ex hp (n := n + 1) (Nat.le_refl _) (by omega)
  have e := cat_mul n
  obtain ⟨v, hv⟩ := IsV.ex hp (n := cat n) (Nat.le_refl _) (Nat.pos_of_ne_zero fun z => by
    rw [z, Nat.zero_mul] at e
    have := v1.pos hp
    omega)
  have v3 := hv.mul hp hw
  rw [e] at v3
  exact ⟨v, w, hv, hw, v3.uniq hp v1⟩
theorem cat_div (n : Nat) : ((ch (n + n) n : Nat) : Int) / ((n : Int) + 1) = (cat n : Nat) := by
  rw [← cat_mul, Int.natCast_mul, show ((n : Int) + 1) = ((n + 1 : Nat) : Int) by omega]
  exact Int.mul_ediv_cancel _ (by omega)
theorem brackets_ok {n : Nat} (h : n ≤ 200) : den_many_brackets [some (.fz (.int (n : Int)))] = some (.fz (.int (cat n : Nat)), [none]) := by
  have w := within_ok (i := (n : Int)) (lo := 0) (hi := 200) (by omega) (by omega)
  have c := choose_ok (n := n + n) (k := n) (by omega) (by omega)
  rw [Int.natCast_add, ← Int.two_mul] at c
  have d := cat_div n
  have dv : ∀ c, divOk c ((n : Int) + 1) = true := fun c => divOk_of (by omega) (by omega)
  have mo : mulOk 2 (n : Int) = true := mulOk_l (by decide) (by decide)
  generalize ((ch (n + n) n : Nat) : Int) = C at *
  generalize ((cat n : Nat) : Int) = A at *
  simp [den_many_brackets, den_want_many_to, den_catalan_of, w, c, d, dv, mo, maskR_1, maskR_2]
theorem below_cat {n : Nat} (h : n ≤ 100) : den_many_below [some (.fz (.int (n : Int))), some (.fz (.int (n : Int))), some (.fz (.int 0))] = some (.fz (.int (cat n : Nat)), [none, none, none]) := by
  have w := steps_ok (r := n) (u := n) (by omega)
  have w2 := within_ok (i := 0) (lo := 0) (hi := 200) (by omega) (by omega)
  have c := choose_ok (n := n + n) (k := n) (by omega) (by omega)
  rw [Int.natCast_add] at c
  by_cases h0 : n = 0
  · subst h0
    rw [show ((0 : Nat) : Int) = 0 from rfl] at *
    rw [show ((cat 0 : Nat) : Int) = 1 from rfl]
    rw [show ((ch (0 + 0) 0 : Nat) : Int) = 1 from rfl] at c
    simp at c
    simp [den_many_below, den_below_of, den_want_line, w, w2, c, maskR_1, maskR_3]
  · have pos : (0 : Int) < (n : Int) := by omega
    have pos2 : 0 < n := by omega
    have c2 := choose_ok (n := n + n) (k := n - 1) (by omega) (by omega)
    rw [Int.natCast_add, show ((n - 1 : Nat) : Int) = (n : Int) - 1 by omega] at c2
    have e : ch (n + n) (n - 1) = ch (n + n) (n + 1) := by
      rw [ch_sym (show n - 1 ≤ n + n by omega)]
      congr 1
      omega
    rw [e] at c2
    have le : ch (n + n) (n + 1) ≤ ch (n + n) n := by
      have h := ch_step' (n := n + n) (k := n) (by omega)
      rw [Nat.add_sub_cancel] at h
      exact Nat.le_of_mul_le_mul_left (c := n + 1) (by rw [h, Nat.succ_mul]; omega) (by omega)
    have d : ((ch (n + n) n : Nat) : Int) - ((ch (n + n) (n + 1) : Nat) : Int) = (cat n : Nat) := by
      unfold cat
      omega
    have nn : ¬ (n : Int) < 0 := by omega
    generalize ((ch (n + n) n : Nat) : Int) = C at *
    generalize ((ch (n + n) (n + 1) : Nat) : Int) = C2 at *
    generalize ((cat n : Nat) : Int) = A at *
    simp [den_many_below, den_below_of, den_want_line, w, w2, c, c2, d, pos, pos2, nn, maskR_1, maskR_3]
end
end DL

namespace DL
open PySem PySem.Spec PyProof.Rows L2
noncomputable section
section
variable {s0 s1 s2 s3 s4 s5 s6 s7 s8 s9 s10 s11 : Option Vl} {p n : Nat} {l : List Nat}
theorem b_left (hp : IsP p) {N : Nat} {e : Nat} (he : e ≤ 1000) : ∃ x, fo_law_products_right_3 [s0, some (.fz (.int (p : Int))), s2, s3, s4, s5, s6, s7, s8, some (.fz (.int (N : Int))), some (.fz (.int (e : Int))), s11] = some (.nx [s0, some (.fz (.int (p : Int))), s2, s3, x, s5, s6, s7, s8, some (.fz (.int ((N / p ^ e : Nat) : Int))), some (.fz (.int (e : Int))), s11]) := by
  have loop := forL_inv (P := fun j ρ => ∃ x, ρ = [s0, some (.fz (.int (p : Int))), s2, s3, x, s5, s6, s7, s8, some (.fz (.int ((N / p ^ j : Nat) : Int))), some (.fz (.int (e : Int))), s11]) (st := nameF 4) (s := fb_law_products_right_1) (rngD 0 e) 0 [s0, some (.fz (.int (p : Int))), s2, s3, s4, s5, s6, s7, s8, some (.fz (.int (N : Int))), some (.fz (.int (e : Int))), s11] ⟨s4, by rw [Nat.pow_zero, Nat.div_one]⟩ ?_
  · obtain ⟨ρ1, e1, x, rfl⟩ := loop
    rw [rngD_length, Nat.zero_add] at e1
    refine ⟨x, forS_of (ds := rngD 0 e) (ρ1 := [s0, some (.fz (.int (p : Int))), s2, s3, s4, s5, s6, s7, s8, some (.fz (.int (N : Int))), some (.fz (.int (e : Int))), s11]) ?_ e1⟩
    have h2 := smallI_of (a := (e : Int)) (by omega) (by omega)
    simp [fi_law_products_right_2, h2]
  · rintro j d ρ hd ⟨x, rfl⟩
    obtain ⟨hj, rfl⟩ := rngD_get hd
    rw [Nat.zero_add, Int.zero_add]
    refine ⟨[s0, some (.fz (.int (p : Int))), s2, s3, some (.fz (.int (j : Int))), s5, s6, s7, s8, some (.fz (.int ((N / p ^ (j + 1) : Nat) : Int))), some (.fz (.int (e : Int))), s11], .inl ?_, _, rfl⟩
    have dv := divOk_p hp
    have nz : 0 < p := by have := hp.two; omega
    have d := dg_div (p := p) (n := N) (j := j)
    generalize ((N / p ^ (j + 1) : Nat) : Int) = Y at *
    generalize ((N / p ^ j : Nat) : Int) = X at *
    simp [fb_law_products_right_1, dv, nz, d]
theorem b_times (hp : IsP p) (hl : l.length ≤ 5) (hb : ∀ a ∈ l, a ≤ 19) : lc_law_products_right_9 [s0, some (.fz (.int (p : Int))), s2, s3, s4, some (.fz (.list ((l.map fun x : Nat => (x : Int)).map .int))), s6, s7, s8, s9, s10, s11] = some (.ow ((l.map fun x : Nat => (EN p x 64 : Int)).map .int), [s0, some (.fz (.int (p : Int))), s2, s3, s4, some (.fz (.list ((l.map fun x : Nat => (x : Int)).map .int))), s6, s7, s8, s9, s10, s11]) := by
  rw [List.map_map, List.map_map]
  refine lcE_tabL (L := l) (F := fun i : Nat => .int (i : Int)) (G := fun i : Nat => .int (EN p i 64 : Int)) (ρ1 := [s0, some (.fz (.int (p : Int))), s2, s3, s4, some (.fz (.list (l.map fun x : Nat => .int (x : Int)))), s6, s7, s8, s9, s10, s11]) ?_ (by omega) fun i hi => ⟨_, .fz (.int (EN p i 64 : Int)), rfl, rfl, rfl, ?_, rfl⟩
  · show li_law_products_right_7 [s0, some (.fz (.int (p : Int))), s2, s3, s4, some (.fz (.list (l.map fun x : Nat => .int (x : Int)))), s6, s7, s8, s9, s10, s11] = _
    generalize l.map (fun x : Nat => PyData.int (x : Int)) = L
    simp [li_law_products_right_7]
  · have e := ptimes_ok hp (n := i) (by have := hb i hi; omega)
    generalize (EN p i 64 : Int) = E at *
    generalize l.map (PyData.int ∘ fun x : Nat => (x : Int)) = L
    simp [le_law_products_right_8, e]
end
theorem b_letters {q : List D} {s1 s2 s3 s4 s5 s6 s7 s8 s9 s10 s11 : Option Vl} (hq : IsPot (.ow q)) : ∃ (xs : List Nat) (q' : List D), lc_law_products_right_6 [some (.ow q), s1, s2, s3, s4, s5, s6, s7, s8, s9, s10, s11] = some (.ow ((xs.map fun x : Nat => (x : Int)).map .int), [some (.ow q'), s1, s2, s3, s4, s5, s6, s7, s8, s9, s10, s11]) ∧ xs.length ≤ 5 ∧ (∀ a ∈ xs, a ≤ 19) ∧ IsPot (.ow q') := by
  obtain ⟨d0, p2, e2, g0, g1, hp2⟩ := draw_ok hq (n := 6) (by omega) (by omega)
  obtain ⟨many, rfl⟩ := Int.eq_ofNat_of_zero_le g0
  obtain ⟨q2, rfl⟩ : ∃ q, p2 = .ow q := by obtain ⟨a, b, rfl, _⟩ := hp2; exact ⟨_, rfl⟩
  have loop := lcE_go (fi := li_law_products_right_4) (st := nameF 4) (c := yesT) (f := le_law_products_right_5) (vs := [4]) (ds := rngD 0 many) (ρ := [some (.ow q), s1, s2, s3, s4, s5, s6, s7, s8, s9, s10, s11]) (ρ1 := [some (.ow q2), s1, s2, s3, s4, s5, s6, s7, s8, s9, s10, s11])
    (P := fun acc k ρ => ∃ (xs : List Nat) (q' : List D), acc = (xs.map fun x : Nat => (x : Int)).map PyData.int ∧ xs.length = k ∧ IsPot (.ow q') ∧ (∀ a ∈ xs, a ≤ 19) ∧ ρ = [some (.ow q'), s1, s2, s3, none, s5, s6, s7, s8, s9, s10, s11])
    ?_ (by rw [rngD_length]; omega) ⟨[], q2, rfl, rfl, hp2, (fun _ h => absurd h List.not_mem_nil), rfl⟩ ?_
  · obtain ⟨out, ρ2, e, xs, q3, rfl, hl, hp3, hb, rfl⟩ := loop
    rw [rngD_length] at hl
    exact ⟨xs, q3, e, by omega, hb, hp3⟩
  · have h3 := smallI_of (a := (many : Int)) (by omega) (by omega)
    simp [li_law_products_right_4, e2, h3]
  · rintro j d acc ρ hd ⟨xs, q3, rfl, hl, hp3, hb, rfl⟩
    obtain ⟨d1, p3, e6, g0, g1, hp4⟩ := draw_ok hp3 (n := 20) (by decide) (by decide)
    obtain ⟨x, rfl⟩ := Int.eq_ofNat_of_zero_le g0
    obtain ⟨q4, rfl⟩ : ∃ q, p3 = .ow q := by obtain ⟨a, b, rfl, _⟩ := hp4; exact ⟨_, rfl⟩
    refine ⟨[some (.ow q3), s1, s2, s3, some (.fz d), s5, s6, s7, s8, s9, s10, s11], [some (.ow q3), s1, s2, s3, some (.fz d), s5, s6, s7, s8, s9, s10, s11], .fz (.int (x : Int)), .int (x : Int), [some (.ow q4), s1, s2, s3, some (.fz d), s5, s6, s7, s8, s9, s10, s11], rfl, rfl, ?_, rfl, xs ++ [x], q4, by rw [List.map_append, List.map_append]; rfl, by rw [List.length_append, hl]; rfl, hp4, ?_, rfl⟩
    · simp [le_law_products_right_5, e6]
    · intro y hy
      rcases List.mem_append.mp hy with h | h
      · exact hb y h
      · obtain rfl := List.mem_singleton.mp h
        omega
theorem Se_sum {p : Nat} : ∀ l : List Nat, (l.map fun x : Nat => (EN p x 64 : Int)).sum = ((Se p l : Nat) : Int)
  | [] => rfl
  | a :: r => by rw [List.map_cons, List.sum_cons, Se_sum r, Se, Int.natCast_add]
theorem products_right {q : Vl} {p : Nat} (hq : IsPot q) (hp : IsP p) : ∃ q', den__law_products_right [some q, some (.fz (.int (p : Int)))] = some (.fz (.bool true), [some q', none]) ∧ IsPot q' := by
  obtain ⟨r, rfl⟩ : ∃ r, q = .ow r := by obtain ⟨a, b, rfl, _⟩ := hq; exact ⟨_, rfl⟩
  obtain ⟨d0, q1, e1, g0, g1, hq1⟩ := draw_ok hq (n := 201) (by decide) (by decide)
  obtain ⟨n, rfl⟩ := Int.eq_ofNat_of_zero_le g0
  obtain ⟨r1, rfl⟩ : ∃ r, q1 = .ow r := by obtain ⟨a, b, rfl, _⟩ := hq1; exact ⟨_, rfl⟩
  have hn : n ≤ 200 := by omega
  have h64 := big64 hp.two.1 (show n ≤ 1000000000000000000 by omega)
  have en := EN_le hp.two.1 h64
  obtain ⟨x, w⟩ := b_left (s0 := some (.ow r1)) (s2 := some (.fz (.int (n : Int)))) (s3 := some (.fz (.int (fac n : Nat)))) (s4 := none) (s5 := none) (s6 := none) (s7 := none) (s8 := none) (s11 := none) (N := fac n) (e := EN p n 64) hp (by omega)
  obtain ⟨l, r2, w2, hl, hb, hq2⟩ := b_letters (s1 := some (.fz (.int (p : Int)))) (s2 := some (.fz (.int (n : Int)))) (s3 := some (.fz (.int (fac n : Nat)))) (s4 := x) (s5 := none) (s6 := none) (s7 := none) (s8 := none) (s9 := some (.fz (.int ((fac n / p ^ EN p n 64 : Nat) : Int)))) (s10 := some (.fz (.int (EN p n 64 : Nat)))) (s11 := none) hq1
  obtain ⟨d1, q3, e3, f0, f1, hq3⟩ := draw_ok hq2 (n := 10) (by decide) (by decide)
  obtain ⟨c, rfl⟩ := Int.eq_ofNat_of_zero_le f0
  obtain ⟨r3, rfl⟩ : ∃ r, q3 = .ow r := by obtain ⟨a, b, rfl, _⟩ := hq3; exact ⟨_, rfl⟩
  obtain ⟨d2, q4, e4, x0, x1, hq4⟩ := draw_ok hq3 (n := 100) (by decide) (by decide)
  obtain ⟨u, rfl⟩ := Int.eq_ofNat_of_zero_le x0
  obtain ⟨r4, rfl⟩ : ∃ r, q4 = .ow r := by obtain ⟨a, b, rfl, _⟩ := hq4; exact ⟨_, rfl⟩
  refine ⟨.ow r4, ?_, hq4⟩
  have nz : 0 < p := by have := hp.two; omega
  have o1 := orders_ok hn
  have o2 := often_ok hp (fac_v hp h64) (by omega)
  have o3 := ptimes_ok hp (n := n) (by omega)
  have o4 := prest_ok hp (n := n) (by omega)
  have o5 := digsum_ok hp (n := n) (by omega)
  have lg := legendre hp.two.1 h64
  have oq : ((EN p n 64 : Nat) : Int) * ((p : Int) - 1) = (n : Int) - ((SD p n 64 : Nat) : Int) := by
    have h1 : ((p - 1 : Nat) : Int) = (p : Int) - 1 := by have := hp.two; omega
    rw [← h1, ← Int.natCast_mul]
    omega
  have om : ((fac n / p ^ EN p n 64 : Nat) : Int) % (p : Int) = ((BR p n : Nat) : Int) := by
    rw [← fac_EN hp (show n < 400 by omega)]
    rfl
  have mo : ∀ c, mulOk c ((p : Int) - 1) = true := fun c => mulOk_r (by have := hp.two; omega) (by have := hp.two; omega)
  have hs := sum_le l 19 hb
  have hs2 : l.sum ≤ 95 := by have := Nat.mul_le_mul_right 19 hl; omega
  have su : sumD ((l.map fun x : Nat => (x : Int)).map PyData.int) = some (.fz (.int ((l.sum : Nat) : Int))) := by rw [sumD_map, sum_cast]
  have se : sumD ((l.map fun x : Nat => (EN p x 64 : Int)).map PyData.int) = some (.fz (.int ((Se p l : Nat) : Int))) := by rw [sumD_map, Se_sum]
  have t1 := ptimes_ok hp (n := l.sum) (by omega)
  have bt := fun s0 s2 s3 s4 s6 s7 s8 s9 s10 s11 => b_times (s0 := s0) (s2 := s2) (s3 := s3) (s4 := s4) (s6 := s6) (s7 := s7) (s8 := s8) (s9 := s9) (s10 := s10) (s11 := s11) hp hl hb
  obtain ⟨v, hv, hve⟩ := mw_v (l := l) hp (fun a ha => by have := hb a ha; omega) (by omega)
  have vs : v < 400 := by
    have := EN_le hp.two.1 (big64 hp.two.1 (show l.sum ≤ 1000000000000000000 by omega))
    omega
  have wd := words_ok hl hb
  have wo := often_ok hp hv vs
  have due : ((EN p l.sum 64 : Nat) : Int) - ((Se p l : Nat) : Int) = (v : Int) := by omega
  have cc : ∀ k : Nat, k ≤ 200 → ∃ a b : Nat, den__law_often [some (.fz (.int (p : Int))), some (.fz (.int (cat k : Nat)))] = some (.fz (.int (a : Int)), [none, none]) ∧ den__law_often [some (.fz (.int (p : Int))), some (.fz (.int ((k : Int) + 1)))] = some (.fz (.int (b : Int)), [none, none]) ∧ den_choice_times [some (.fz (.int (p : Int))), some (.fz (.int (2 * (k : Int)))), some (.fz (.int (k : Int)))] = some (.fz (.int ((a : Int) + (b : Int))), [none, none, none]) := fun k hk => by
    obtain ⟨a, b, h1, h2, h3⟩ := cat_v (n := k) hp (by omega)
    have n64 := NC_lt (a := k) (b := k) hp
    have c1 := often_ok hp h1 (by omega)
    have c2 := often_ok hp h2 (by omega)
    have c3 := ctimes_ok (a := k) (b := k) hp (by omega)
    rw [← h3, Int.natCast_add, Int.natCast_add, ← Int.two_mul] at c3
    rw [Int.natCast_add] at c2
    exact ⟨a, b, c1, c2, c3⟩
  obtain ⟨a1, b1, y1, y2, y3⟩ := cc c (by omega)
  obtain ⟨a2, b2, z1, z2, z3⟩ := cc u (by omega)
  have br := brackets_ok (n := c) (by omega)
  have bl := below_cat (n := u) (by omega)
  have m1 : mulOk 2 (c : Int) = true := mulOk_l (by decide) (by decide)
  have m2 : mulOk 2 (u : Int) = true := mulOk_l (by decide) (by decide)
  clear lg cc hve hv vs hs2 hs en
  generalize ((fac n / p ^ EN p n 64 : Nat) : Int) = LF at *
  generalize ((EN p n 64 : Nat) : Int) = E at *
  generalize ((SD p n 64 : Nat) : Int) = S at *
  generalize ((BR p n : Nat) : Int) = B at *
  generalize ((fac n : Nat) : Int) = FN at *
  generalize ((EN p l.sum 64 : Nat) : Int) = ES at *
  generalize ((Se p l : Nat) : Int) = SE at *
  generalize ((l.sum : Nat) : Int) = SU at *
  generalize (((mw l).1 : Nat) : Int) = MW at *
  generalize (l.map fun x : Nat => (EN p x 64 : Int)).map PyData.int = L2 at *
  generalize (l.map fun x : Nat => (x : Int)).map PyData.int = L at *
  generalize ((cat c : Nat) : Int) = CC at *
  generalize ((cat u : Nat) : Int) = CU at *
  have k10 : sq_law_products_right_10 [some (.ow r3), some (.fz (.int (p : Int))), some (.fz (.int (n : Int))), some (.fz (.int FN)), x, some (.fz (.list L)), some (.fz (.int (v : Int))), some (.fz (.int (c : Int))), none, some (.fz (.int LF)), some (.fz (.int E)), none] = some (.rt (.fz (.bool true)) [some (.ow r4), some (.fz (.int (p : Int))), some (.fz (.int (n : Int))), some (.fz (.int FN)), x, some (.fz (.list L)), some (.fz (.int (v : Int))), some (.fz (.int (c : Int))), some (.fz (.int (u : Int))), some (.fz (.int LF)), some (.fz (.int E)), none]) := by
    simp [sq_law_products_right_10, e4, bl, z1, z2, z3, m2]
  have k11 : sq_law_products_right_11 [some (.ow r1), some (.fz (.int (p : Int))), some (.fz (.int (n : Int))), some (.fz (.int FN)), x, none, none, none, none, some (.fz (.int LF)), some (.fz (.int E)), none] = some (.rt (.fz (.bool true)) [some (.ow r4), some (.fz (.int (p : Int))), some (.fz (.int (n : Int))), some (.fz (.int FN)), x, some (.fz (.list L)), some (.fz (.int (v : Int))), some (.fz (.int (c : Int))), some (.fz (.int (u : Int))), some (.fz (.int LF)), some (.fz (.int E)), none]) := by
    refine (seq_nx (ρ1 := [some (.ow r2), some (.fz (.int (p : Int))), some (.fz (.int (n : Int))), some (.fz (.int FN)), x, some (.fz (.list L)), none, none, none, some (.fz (.int LF)), some (.fz (.int E)), none]) (by simp [w2])).trans ?_
    refine (seq_nx (ρ1 := [some (.ow r2), some (.fz (.int (p : Int))), some (.fz (.int (n : Int))), some (.fz (.int FN)), x, some (.fz (.list L)), some (.fz (.int (v : Int))), none, none, some (.fz (.int LF)), some (.fz (.int E)), none]) (by simp [su, t1, bt, se, due])).trans ?_
    refine (seq_nx (ρ1 := [some (.ow r2), some (.fz (.int (p : Int))), some (.fz (.int (n : Int))), some (.fz (.int FN)), x, some (.fz (.list L)), some (.fz (.int (v : Int))), none, none, some (.fz (.int LF)), some (.fz (.int E)), none]) (by simp [wd, wo])).trans ?_
    refine (seq_nx (ρ1 := [some (.ow r3), some (.fz (.int (p : Int))), some (.fz (.int (n : Int))), some (.fz (.int FN)), x, some (.fz (.list L)), some (.fz (.int (v : Int))), some (.fz (.int (c : Int))), none, some (.fz (.int LF)), some (.fz (.int E)), none]) (by simp [e3])).trans ?_
    refine (seq_nx (ρ1 := [some (.ow r3), some (.fz (.int (p : Int))), some (.fz (.int (n : Int))), some (.fz (.int FN)), x, some (.fz (.list L)), some (.fz (.int (v : Int))), some (.fz (.int (c : Int))), none, some (.fz (.int LF)), some (.fz (.int E)), none]) (by simp [br, y1, y2, y3, m1])).trans ?_
    exact k10
  refine (show den__law_products_right _ = _ from fn_body (n := 2) (N := 12) (r := .bool true) (ρ' := [some (.ow r4), some (.fz (.int (p : Int))), some (.fz (.int (n : Int))), some (.fz (.int FN)), x, some (.fz (.list L)), some (.fz (.int (v : Int))), some (.fz (.int (c : Int))), some (.fz (.int (u : Int))), some (.fz (.int LF)), some (.fz (.int E)), none]) rfl ?_).trans (by rw [maskR_2]; rfl)
  refine (seq_nx (ρ1 := [some (.ow r1), some (.fz (.int (p : Int))), some (.fz (.int (n : Int))), none, none, none, none, none, none, none, none, none]) ?_).trans ?_
  · show asgS _ _ [some (.ow r), some (.fz (.int (p : Int))), none, none, none, none, none, none, none, none, none, none] = _
    simp [e1]
  refine (seq_nx (ρ1 := [some (.ow r1), some (.fz (.int (p : Int))), some (.fz (.int (n : Int))), some (.fz (.int FN)), none, none, none, none, none, none, none, none]) (by simp [o1])).trans ?_
  refine (seq_nx (ρ1 := [some (.ow r1), some (.fz (.int (p : Int))), some (.fz (.int (n : Int))), some (.fz (.int FN)), none, none, none, none, none, some (.fz (.int FN)), some (.fz (.int E)), none]) (by simp [o2])).trans ?_
  rw [frz_id rfl, frz_id rfl]
  refine (seq_nx w).trans ?_
  refine (seq_nx (ρ1 := [some (.ow r1), some (.fz (.int (p : Int))), some (.fz (.int (n : Int))), some (.fz (.int FN)), x, none, none, none, none, some (.fz (.int LF)), some (.fz (.int E)), none]) (by simp [o3, o4, o5, om, oq, mo, nz, pick_10])).trans ?_
  exact k11
/-! of a prime itself -/
theorem own_all : [2, 3, 5, 7, 11, 13, 89, 97].all (fun p => decide (PDv p = p) && decide (BR p (p - 1) = p - 1) && decide (pr (fun i => dig p (p - 1) i + 1) (dl p (p - 1)) = p) && decide (NC p 1 (p * p - 1) 64 = 2)) = true := by decide +kernel
theorem own_ok {p : Nat} (hp : IsP p) : PDv p = p ∧ BR p (p - 1) = p - 1 ∧ pr (fun i => dig p (p - 1) i + 1) (dl p (p - 1)) = p ∧ NC p 1 (p * p - 1) 64 = 2 := by
  have t := List.all_eq_true.mp own_all p hp
  simp only [Bool.and_eq_true, decide_eq_true_eq] at t
  exact ⟨t.1.1.1, t.1.1.2, t.1.2, t.2⟩
theorem chm {p : Nat} (hp : IsP p) : ∀ {k : Nat}, k ≤ p - 1 → ch (p - 1) k % p = if k % 2 = 0 then 1 else p - 1
  | 0, _ => by rw [ch_0, hp.one]; rfl
  | k + 1, h => by
    have h2 := hp.two
    have ih := chm hp (k := k) (by omega)
    have s : ch (p - 1) k + ch (p - 1) (k + 1) = ch p (k + 1) := by
      rw [← ch_s, Nat.sub_add_cancel (by omega)]
    have z := ch_pp hp (c := k + 1) (by omega) (by omega)
    rw [← s, Nat.add_mod] at z
    have l1 := Nat.mod_lt (ch (p - 1) (k + 1)) (show 0 < p by omega)
    generalize ch (p - 1) (k + 1) % p = Y at *
    rw [ih] at z
    by_cases hk : k % 2 = 0
    · rw [if_pos hk] at z
      rw [if_neg (by omega)]
      by_cases q : 1 + Y < p
      · rw [Nat.mod_eq_of_lt q] at z; omega
      · omega
    · rw [if_neg hk] at z
      rw [if_pos (by omega)]
      by_cases q : p - 1 + Y < p
      · rw [Nat.mod_eq_of_lt q] at z; omega
      · rw [show p - 1 + Y = p + (Y - 1) by omega, Nat.add_mod_left, Nat.mod_eq_of_lt (by omega)] at z
        omega
theorem RW9_own {p : Nat} (hp : IsP p) : (RW9 p p).map PyData.int = [.int 1] ++ List.replicate (p - 1) (.int 0) ++ [.int 1] := by
  have h2 := hp.two
  obtain ⟨q, hq⟩ : ∃ q, p = q + 1 := ⟨p - 1, by omega⟩
  have e : ∀ n, n + 1 = p → (RW9 p (n + 1)).map PyData.int = [.int 1] ++ ((List.range n).map fun j => .int ((ch (n + 1) (j + 1) % p : Nat) : Int)) ++ [.int 1] := fun n _ => by
    unfold RW9
    rw [vec_tab, List.range_succ, List.map_append, List.range_succ_eq_map, List.map_cons, List.map_map]
    congr 1
    · congr 1
      rw [ch_0, hp.one]; rfl
    · rw [List.map_cons, List.map_nil, ch_self, hp.one]; rfl
  have e1 := e q hq.symm
  rw [← hq] at e1
  rw [e1, show q = p - 1 by omega]
  congr 2
  refine List.ext_getElem (by rw [List.length_map, List.length_range, List.length_replicate]) fun i h1 h2 => ?_
  rw [List.getElem_map, List.getElem_range, List.getElem_replicate]
  rw [List.length_replicate] at h2
  rw [ch_pp hp (by omega) (by omega)]
  rfl
theorem prime_right {p : Nat} (hp : IsP p) : den__law_prime_right [some (.fz (.int (p : Int)))] = some (.fz (.bool true), [none]) := by
  have h2 := hp.two
  have nz : 0 < p := by omega
  obtain ⟨w1, w2, w3, w4⟩ := own_ok hp
  have b1 := rowrests_ok hp (n := p) (by omega)
  have b2 := rcommon_ok (n := p) (by omega) (by omega)
  rw [w1] at b2
  have b3 := prest_ok hp (n := p - 1) (by omega)
  rw [w2] at b3
  have b4 := rowrests_ok hp (n := p - 1) (by omega)
  have b5 := rowleft_ok hp (n := p - 1) (by omega)
  rw [w3] at b5
  have pp : p * p ≤ 97 * 97 := Nat.mul_le_mul h2.2 h2.2
  have pp0 : 1 ≤ p * p := Nat.mul_pos nz nz
  have b6 := ctimes_ok (a := 1) (b := p * p - 1) hp (by omega)
  rw [w4, Nat.add_sub_cancel' pp0, Int.natCast_mul] at b6
  rw [show ((2 : Nat) : Int) = 2 from rfl, show ((1 : Nat) : Int) = 1 from rfl] at b6
  have sb : (p : Int) - 1 = ((p - 1 : Nat) : Int) := by omega
  have rl := repL1 (d := .int 0) (k := ((p - 1 : Nat) : Int)) (by omega) (by omega)
  rw [Int.toNat_natCast] at rl
  have c1 : catL [.int 1] (List.replicate (p - 1) (.int 0)) = some (.ow ([.int 1] ++ List.replicate (p - 1) (.int 0))) := catL_ok (by rw [List.length_replicate]; show 1 + _ ≤ _; omega)
  have c2 : catL ([.int 1] ++ List.replicate (p - 1) (.int 0)) [.int 1] = some (.ow ((RW9 p p).map .int)) := by
    rw [RW9_own hp]
    exact catL_ok (by rw [List.length_append, List.length_replicate]; show 1 + _ + 1 ≤ _; omega)
  have mo : mulOk (p : Int) (p : Int) = true := mulOk_l (by omega) (by omega)
  have q1 : ∀ ρ, neF ρ [.ow ((RW9 p p).map .int), .ow ((RW9 p p).map .int)] = some (.fz (.bool false)) := fun ρ => neF_vec
  have q2 : ∀ ρ, neF ρ [.ow ((RW9 p (p - 1)).map .int), .ow ((RW9 p (p - 1)).map .int)] = some (.fz (.bool false)) := fun ρ => neF_vec
  have l3 : lc_law_prime_right_3 [some (.fz (.int (p : Int))), none] = some (.ow ((RW9 p (p - 1)).map .int), [some (.fz (.int (p : Int))), none]) := by
    have e : RW9 p (p - 1) = vec p fun j => ((ch (p - 1) j % p : Nat) : Int) := by
      unfold RW9
      rw [Nat.sub_add_cancel (by omega)]
    rw [e, vec_tab]
    refine lcE_tab (n := p) (F := fun j => .int (0 + (j : Int))) (G := fun j => .int ((ch (p - 1) j % p : Nat) : Int)) (ρ1 := [some (.fz (.int (p : Int))), none]) ?_ (by omega) fun j hj => ⟨_, .fz (.int ((ch (p - 1) j % p : Nat) : Int)), rfl, rfl, ?_, rfl, rfl⟩
    · rw [← rngD_tab]
      have s1 := smallI_of (a := (p : Int)) (by omega) (by omega)
      simp [li_law_prime_right_1, s1]
    · rw [Int.zero_add, chm hp (by omega)]
      by_cases q : j % 2 = 0
      · have q2 : (j : Int) % 2 = 0 := by omega
        rw [if_pos q]
        simp [le_law_prime_right_2, q2]
      · have q2 : ¬ (j : Int) % 2 = 0 := by omega
        rw [if_neg q]
        have ng := neg_mod (p := p) (X := 1) (by omega)
        rw [Nat.mod_eq_of_lt (show p - 1 < p by omega)] at ng
        have ng2 : (-1 : Int) % (p : Int) = ((p - 1 : Nat) : Int) := ng
        generalize ((p - 1 : Nat) : Int) = P1 at *
        simp [le_law_prime_right_2, q2, ng2, nz]
  generalize [PyData.int 1] ++ List.replicate (p - 1) (PyData.int 0) = A1 at *
  generalize List.replicate (p - 1) (PyData.int 0) = A2 at *
  generalize (RW9 p p).map PyData.int = V1 at *
  generalize (RW9 p (p - 1)).map PyData.int = V2 at *
  generalize ((p - 1 : Nat) : Int) = P1 at *
  simp [den__law_prime_right, b1, b2, b3, b4, b5, b6, sb, rl, c1, c2, mo, q1, q2, l3, maskR_1]
theorem law_right {q : Vl} (hq : IsPot q) : ∃ q', den__law_right [some q] = some (.fz (.bool true), [some q']) ∧ IsPot q' := by
  obtain ⟨p, q1, e1, hp, hq1⟩ := prime_ok hq
  obtain ⟨q2, e2, hq2⟩ := choices_right hq1 hp
  obtain ⟨q3, e3, hq3⟩ := products_right hq2 hp
  obtain ⟨q4, e4, hq4⟩ := fib_right hq3
  obtain ⟨r, rfl⟩ : ∃ r, q = .ow r := by obtain ⟨a, b, rfl, _⟩ := hq; exact ⟨_, rfl⟩
  obtain ⟨r1, rfl⟩ : ∃ r, q1 = .ow r := by obtain ⟨a, b, rfl, _⟩ := hq1; exact ⟨_, rfl⟩
  obtain ⟨r2, rfl⟩ : ∃ r, q2 = .ow r := by obtain ⟨a, b, rfl, _⟩ := hq2; exact ⟨_, rfl⟩
  obtain ⟨r3, rfl⟩ : ∃ r, q3 = .ow r := by obtain ⟨a, b, rfl, _⟩ := hq3; exact ⟨_, rfl⟩
  obtain ⟨r4, rfl⟩ : ∃ r, q4 = .ow r := by obtain ⟨a, b, rfl, _⟩ := hq4; exact ⟨_, rfl⟩
  refine ⟨.ow r4, ?_, hq4⟩
  have pr := prime_right hp
  simp [den__law_right, e1, e2, e3, e4, pr, maskR_1]
theorem law_true (ns : List Int) (hn : ns.length ≤ 63) : ∃ ρ', den_law [some (.lk (ns.map .int))] = some (.fz (.bool true), ρ') := by
  obtain ⟨m, hm⟩ : ∃ m : Nat, m = max 1 (min 3 ns.length) := ⟨_, rfl⟩
  have hm3 : m ≤ 3 := by omega
  have e : lc_law_3 [some (.lk (ns.map .int)), none] = some (.ow ((List.replicate m true).map .bool), [some (.lk (ns.map .int)), none]) := by
    have e0 : (List.replicate m true).map PyData.bool = (List.range m).map fun _ => PyData.bool true := by
      rw [List.map_replicate, List.map_const', List.length_range]
    rw [e0]
    refine lcE_tab (n := m) (F := fun j => .int (0 + (j : Int))) (G := fun _ => .bool true) (ρ1 := [some (.lk (ns.map .int)), none]) ?_ (by omega) fun j hj => ⟨_, .fz (.bool true), rfl, rfl, ?_, rfl, rfl⟩
    · rw [← rngD_tab]
      have h2 := smallI_of (a := (m : Int)) (by omega) (by omega)
      have h3 : (if (ns.length : Int) < 3 then (ns.length : Int) else 3) = ((min 3 ns.length : Nat) : Int) := by split <;> omega
      have h4 : (if 1 < ((min 3 ns.length : Nat) : Int) then ((min 3 ns.length : Nat) : Int) else 1) = (m : Int) := by split <;> omega
      simp only [li_law_1, ap_rngI1, ap_consA, ap_nilA, ap_opE, ap_cE, ap_nmE, List.getElem?_cons_zero, nmK_lk, Option.bind_some, lenF_lk, List.length_map]
      simp [h3, h4, h2]
    · rw [Int.zero_add]
      obtain ⟨p, e1, hp⟩ := pot_ok ns j (by omega) (by omega)
      obtain ⟨p2, e2, hp2⟩ := law_right hp
      obtain ⟨w1, rfl⟩ : ∃ q, p = .ow q := by obtain ⟨a, b, rfl, _⟩ := hp; exact ⟨_, rfl⟩
      simp [le_law_2, e1, e2]
  exact ⟨[none], by simp [den_law, e, maskR_1, -List.map_replicate, allTrue]⟩
end
end DL

open PySem PySem.W PyProof.Rows
set_option maxHeartbeats 0 in
theorem PySem.Challenge.cw_twowaycounts_k08_whole_primes_beside_all_holds : PySem.Challenge.rw_twowaycounts_k08_whole_primes_beside_all.Holds := by
  w_on; o_law; k_head; (case hw => w_witness2)
  k_fill
  refine DL.walkG (l := PySem.Challenge.rw_twowaycounts_k08_whole_primes_beside_all) (n := 63) (k := 8) (x := "script") (sp := fun K => DL.spF K 1 DL.den_law) rfl (by decide) rfl ⟨rfl, by decide, by decide⟩ (fun w h Y => PySem.W.kIn_of Y) ?F ?hsp
  case hsp =>
    intro K H a ns hn hO hS
    exact DL.law_end hS (DL.law_true ns hn)
  case F =>
    intro w mg fa h KX G hmg
    refine' DL.all_mk KX G hmg ?a__law_draw ?l__law_draw ?e__law_draw ?k__law_draw ?a__law_pick ?l__law_pick ?e__law_pick ?k__law_pick ?a__law_prime ?l__law_prime ?e__law_prime ?k__law_prime ?a_is_integer ?l_is_integer ?e_is_integer ?k_is_integer ?a_is_within ?l_is_within ?e_is_within ?k_is_within ?a_want_many ?l_want_many ?e_want_many ?k_want_many ?a_choose_of ?l_choose_of ?e_choose_of ?k_choose_of ?a_choose_row ?l_choose_row ?e_choose_row ?k_choose_row ?a_want_prime ?l_want_prime ?e_want_prime ?k_want_prime ?a_want_great ?l_want_great ?e_want_great ?k_want_great ?a_want_choice ?l_want_choice ?e_want_choice ?k_want_choice ?a_digits_of ?l_digits_of ?e_digits_of ?k_digits_of ?a_both_digits ?l_both_digits ?e_both_digits ?k_both_digits ?a_carried ?l_carried ?e_carried ?k_carried ?a_choice_times ?l_choice_times ?e_choice_times ?k_choice_times ?a__law_often ?l__law_often ?e__law_often ?k__law_often ?a_rest_of ?l_rest_of ?e_rest_of ?k_rest_of ?a_row_rests ?l_row_rests ?e_row_rests ?k_row_rests ?a_row_left ?l_row_left ?e_row_left ?k_row_left ?a_want_some ?l_want_some ?e_want_some ?k_want_some ?a_choose ?l_choose ?e_choose ?k_choose ?a_choice_rest ?l_choice_rest ?e_choice_rest ?k_choice_rest ?a_bags_counted ?l_bags_counted ?e_bags_counted ?k_bags_counted ?a_many_bags ?l_many_bags ?e_many_bags ?k_many_bags ?a_want_steps ?l_want_steps ?e_want_steps ?k_want_steps ?a_many_paths ?l_many_paths ?e_many_paths ?k_many_paths ?a__law_choices_right ?l__law_choices_right ?e__law_choices_right ?k__law_choices_right ?a_orders_counted ?l_orders_counted ?e_orders_counted ?k_orders_counted ?a_many_orders ?l_many_orders ?e_many_orders ?k_many_orders ?a_times_in_product ?l_times_in_product ?e_times_in_product ?k_times_in_product ?a_product_times ?l_product_times ?e_product_times ?k_product_times ?a_bare_product ?l_bare_product ?e_bare_product ?k_bare_product ?a_product_rest ?l_product_rest ?e_product_rest ?k_product_rest ?a_is_list ?l_is_list ?e_is_list ?k_is_list ?a_are_letters_value ?l_are_letters_value ?e_are_letters_value ?k_are_letters_value ?a_want_letters ?l_want_letters ?e_want_letters ?k_want_letters ?a_words_counted ?l_words_counted ?e_words_counted ?k_words_counted ?a_many_words ?l_many_words ?e_many_words ?k_many_words ?a_want_many_to ?l_want_many_to ?e_want_many_to ?k_want_many_to ?a_catalan_of ?l_catalan_of ?e_catalan_of ?k_catalan_of ?a_many_brackets ?l_many_brackets ?e_many_brackets ?k_many_brackets ?a_want_line ?l_want_line ?e_want_line ?k_want_line ?a_below_of ?l_below_of ?e_below_of ?k_below_of ?a_many_below ?l_many_below ?e_many_below ?k_many_below ?a_digit_sum ?l_digit_sum ?e_digit_sum ?k_digit_sum ?a__law_products_right ?l__law_products_right ?e__law_products_right ?k__law_products_right ?a_row_common ?l_row_common ?e_row_common ?k_row_common ?a__law_prime_right ?l__law_prime_right ?e__law_prime_right ?k__law_prime_right ?a_want_count ?l_want_count ?e_want_count ?k_want_count ?a_fib_of ?l_fib_of ?e_fib_of ?k_fib_of ?a_fib ?l_fib ?e_fib ?k_fib ?a_want_numbers ?l_want_numbers ?e_want_numbers ?k_want_numbers ?a_row_below ?l_row_below ?e_row_below ?k_row_below ?a_difference_row ?l_difference_row ?e_difference_row ?k_difference_row ?a_summed_at ?l_summed_at ?e_summed_at ?k_summed_at ?a_sums_of ?l_sums_of ?e_sums_of ?k_sums_of ?a_choice_sums ?l_choice_sums ?e_choice_sums ?k_choice_sums ?a_signed ?l_signed ?e_signed ?k_signed ?a_back_of ?l_back_of ?e_back_of ?k_back_of ?a_taken_back ?l_taken_back ?e_taken_back ?k_taken_back ?a__law_fibonacci_right ?l__law_fibonacci_right ?e__law_fibonacci_right ?k__law_fibonacci_right ?a__law_right ?l__law_right ?e__law_right ?k__law_right ?a__law_pot ?l__law_pot ?e__law_pot ?k__law_pot ?a_law ?l_law ?e_law ?k_law ?z_abs ?z_all ?z_bool ?z_divmod ?z_enumerate ?z_int ?z_isinstance ?z_len ?z_list ?z_max ?z_min ?z_range ?z_sum ?z_tuple ?z_zip ?c_MOST_KINDS ?c_MOST_LETTERS ?c_MOST_MANY ?c_MOST_NUMBER ?c_MOST_NUMBERS ?c_MOST_PLACE ?c_MOST_PRIME ?c_MOST_SIZE
    (case a__law_draw => k_is); (case l__law_draw => k_is); (case e__law_draw => k_is); (case k__law_draw => k_is); (case a__law_pick => k_is); (case l__law_pick => k_is); (case e__law_pick => k_is); (case k__law_pick => k_is); (case a__law_prime => k_is); (case l__law_prime => k_is); (case e__law_prime => k_is); (case k__law_prime => k_is); (case a_is_integer => k_is); (case l_is_integer => k_is); (case e_is_integer => k_is); (case k_is_integer => k_is); (case a_is_within => k_is); (case l_is_within => k_is); (case e_is_within => k_is); (case k_is_within => k_is); (case a_want_many => k_is); (case l_want_many => k_is); (case e_want_many => k_is); (case k_want_many => k_is); (case a_choose_of => k_is); (case l_choose_of => k_is); (case e_choose_of => k_is); (case k_choose_of => k_is); (case a_choose_row => k_is); (case l_choose_row => k_is); (case e_choose_row => k_is); (case k_choose_row => k_is); (case a_want_prime => k_is); (case l_want_prime => k_is); (case e_want_prime => k_is); (case k_want_prime => k_is); (case a_want_great => k_is); (case l_want_great => k_is); (case e_want_great => k_is); (case k_want_great => k_is); (case a_want_choice => k_is); (case l_want_choice => k_is); (case e_want_choice => k_is); (case k_want_choice => k_is); (case a_digits_of => k_is); (case l_digits_of => k_is); (case e_digits_of => k_is); (case k_digits_of => k_is); (case a_both_digits => k_is); (case l_both_digits => k_is); (case e_both_digits => k_is); (case k_both_digits => k_is); (case a_carried => k_is); (case l_carried => k_is); (case e_carried => k_is); (case k_carried => k_is); (case a_choice_times => k_is); (case l_choice_times => k_is); (case e_choice_times => k_is); (case k_choice_times => k_is); (case a__law_often => k_is); (case l__law_often => k_is); (case e__law_often => k_is); (case k__law_often => k_is); (case a_rest_of => k_is); (case l_rest_of => k_is); (case e_rest_of => k_is); (case k_rest_of => k_is); (case a_row_rests => k_is); (case l_row_rests => k_is); (case e_row_rests => k_is); (case k_row_rests => k_is); (case a_row_left => k_is); (case l_row_left => k_is); (case e_row_left => k_is); (case k_row_left => k_is); (case a_want_some => k_is); (case l_want_some => k_is); (case e_want_some => k_is); (case k_want_some => k_is); (case a_choose => k_is); (case l_choose => k_is); (case e_choose => k_is); (case k_choose => k_is); (case a_choice_rest => k_is); (case l_choice_rest => k_is); (case e_choice_rest => k_is); (case k_choice_rest => k_is); (case a_bags_counted => k_is); (case l_bags_counted => k_is); (case e_bags_counted => k_is); (case k_bags_counted => k_is); (case a_many_bags => k_is); (case l_many_bags => k_is); (case e_many_bags => k_is); (case k_many_bags => k_is); (case a_want_steps => k_is); (case l_want_steps => k_is); (case e_want_steps => k_is); (case k_want_steps => k_is); (case a_many_paths => k_is); (case l_many_paths => k_is); (case e_many_paths => k_is); (case k_many_paths => k_is); (case a__law_choices_right => k_is); (case l__law_choices_right => k_is); (case e__law_choices_right => k_is); (case k__law_choices_right => k_is); (case a_orders_counted => k_is); (case l_orders_counted => k_is); (case e_orders_counted => k_is); (case k_orders_counted => k_is); (case a_many_orders => k_is); (case l_many_orders => k_is); (case e_many_orders => k_is); (case k_many_orders => k_is); (case a_times_in_product => k_is); (case l_times_in_product => k_is); (case e_times_in_product => k_is); (case k_times_in_product => k_is); (case a_product_times => k_is); (case l_product_times => k_is); (case e_product_times => k_is); (case k_product_times => k_is); (case a_bare_product => k_is); (case l_bare_product => k_is); (case e_bare_product => k_is); (case k_bare_product => k_is); (case a_product_rest => k_is); (case l_product_rest => k_is); (case e_product_rest => k_is); (case k_product_rest => k_is); (case a_is_list => k_is); (case l_is_list => k_is); (case e_is_list => k_is); (case k_is_list => k_is); (case a_are_letters_value => k_is); (case l_are_letters_value => k_is); (case e_are_letters_value => k_is); (case k_are_letters_value => k_is); (case a_want_letters => k_is); (case l_want_letters => k_is); (case e_want_letters => k_is); (case k_want_letters => k_is); (case a_words_counted => k_is); (case l_words_counted => k_is); (case e_words_counted => k_is); (case k_words_counted => k_is); (case a_many_words => k_is); (case l_many_words => k_is); (case e_many_words => k_is); (case k_many_words => k_is); (case a_want_many_to => k_is); (case l_want_many_to => k_is); (case e_want_many_to => k_is); (case k_want_many_to => k_is); (case a_catalan_of => k_is); (case l_catalan_of => k_is); (case e_catalan_of => k_is); (case k_catalan_of => k_is); (case a_many_brackets => k_is); (case l_many_brackets => k_is); (case e_many_brackets => k_is); (case k_many_brackets => k_is); (case a_want_line => k_is); (case l_want_line => k_is); (case e_want_line => k_is); (case k_want_line => k_is); (case a_below_of => k_is); (case l_below_of => k_is); (case e_below_of => k_is); (case k_below_of => k_is); (case a_many_below => k_is); (case l_many_below => k_is); (case e_many_below => k_is); (case k_many_below => k_is); (case a_digit_sum => k_is); (case l_digit_sum => k_is); (case e_digit_sum => k_is); (case k_digit_sum => k_is); (case a__law_products_right => k_is); (case l__law_products_right => k_is); (case e__law_products_right => k_is); (case k__law_products_right => k_is); (case a_row_common => k_is); (case l_row_common => k_is); (case e_row_common => k_is); (case k_row_common => k_is); (case a__law_prime_right => k_is); (case l__law_prime_right => k_is); (case e__law_prime_right => k_is); (case k__law_prime_right => k_is); (case a_want_count => k_is); (case l_want_count => k_is); (case e_want_count => k_is); (case k_want_count => k_is); (case a_fib_of => k_is); (case l_fib_of => k_is); (case e_fib_of => k_is); (case k_fib_of => k_is); (case a_fib => k_is); (case l_fib => k_is); (case e_fib => k_is); (case k_fib => k_is); (case a_want_numbers => k_is); (case l_want_numbers => k_is); (case e_want_numbers => k_is); (case k_want_numbers => k_is); (case a_row_below => k_is); (case l_row_below => k_is); (case e_row_below => k_is); (case k_row_below => k_is); (case a_difference_row => k_is); (case l_difference_row => k_is); (case e_difference_row => k_is); (case k_difference_row => k_is); (case a_summed_at => k_is); (case l_summed_at => k_is); (case e_summed_at => k_is); (case k_summed_at => k_is); (case a_sums_of => k_is); (case l_sums_of => k_is); (case e_sums_of => k_is); (case k_sums_of => k_is); (case a_choice_sums => k_is); (case l_choice_sums => k_is); (case e_choice_sums => k_is); (case k_choice_sums => k_is); (case a_signed => k_is); (case l_signed => k_is); (case e_signed => k_is); (case k_signed => k_is); (case a_back_of => k_is); (case l_back_of => k_is); (case e_back_of => k_is); (case k_back_of => k_is); (case a_taken_back => k_is); (case l_taken_back => k_is); (case e_taken_back => k_is); (case k_taken_back => k_is); (case a__law_fibonacci_right => k_is); (case l__law_fibonacci_right => k_is); (case e__law_fibonacci_right => k_is); (case k__law_fibonacci_right => k_is); (case a__law_right => k_is); (case l__law_right => k_is); (case e__law_right => k_is); (case k__law_right => k_is); (case a__law_pot => k_is); (case l__law_pot => k_is); (case e__law_pot => k_is); (case k__law_pot => k_is); (case a_law => k_is); (case l_law => k_is); (case e_law => k_is); (case k_law => k_is); (case z_abs => k_is); (case z_all => k_is); (case z_bool => k_is); (case z_divmod => k_is); (case z_enumerate => k_is); (case z_int => k_is); (case z_isinstance => k_is); (case z_len => k_is); (case z_list => k_is); (case z_max => k_is); (case z_min => k_is); (case z_range => k_is); (case z_sum => k_is); (case z_tuple => k_is); (case z_zip => k_is); (case c_MOST_KINDS => k_is); (case c_MOST_LETTERS => k_is); (case c_MOST_MANY => k_is); (case c_MOST_NUMBER => k_is); (case c_MOST_NUMBERS => k_is); (case c_MOST_PLACE => k_is); (case c_MOST_PRIME => k_is); (case c_MOST_SIZE => k_is)
