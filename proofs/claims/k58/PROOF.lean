import PyProof.Rows.All
import HandS.ForMost
import HandS.WideBits
import HandS.Wide
import HandS.TupAny
import HandS.SortInts
import HandS.Zip
import HandS.Rev
import HandS.Style
import HandS.RevRange
import HandS.IsInst
import HandS.TupMul
import HandS.Deep
import HandS.RaiseMore
import HandS.More
import KE.KSortedM
import HandS.Strs
import HandS.Conv
import KE.KRevSl
import KE.DataFind
import PyProof.SeqIndex
import KE.GoesMore
import KE.SortData
import HandS.SetFor
import KE.KDictZip
import PySem.Challenge.RW_twowaycounts_k58_whole_part_rows_counted
set_option Elab.async false
set_option linter.all false
set_option maxRecDepth 100000
namespace DL
open PySem PySem.Spec PyProof.Rows L2

/-! ### defs that are called where no repr is running -/
structure RmG (k : Nat) (A : Around) : Prop where
  room : Room k A
  gd : A.guards = some []
theorem RmG.mono {j k : Nat} {A : Around} (r : RmG k A) (h : j ≤ k) : RmG j A := ⟨r.room.mono h, r.gd⟩
structure FnG (P : Program) (w : World) (K : PySem.W.Frag) (mg : Str → Option Value) (base : Heap) (CX : CXT) (k : Nat) (f : Addr) (fd : FuncData) (ps : List Str) (sp : Sp) : Prop where
  len : ∀ vs H Q E, sp vs H Q E → vs.length = ps.length
  run : ∀ (A : Around) (outer : List Env) (s : Shared) (H : Hp) (args : Args) (us : List Value) (vs : List V) (Q : VK) (E : XK), RmG k A → Env0 P w K mg base A outer s H →
    BindsTo s fd args (ps.zip us) → Vals vs us → sp vs H Q E → codeAny (model P w) A (.call (.ref f) args) (CR CX outer P w H s Q E) s
section
variable {P : Program} {w : World} {K : PySem.W.Frag} {mg : Str → Option Value} {base : Heap} {CX : CXT} {j k : Nat} {f : Addr} {fd : FuncData} {ps : List Str} {sp : Sp}
theorem FnG.mono (F : FnG P w K mg base CX j f fd ps sp) (h : j ≤ k) : FnG P w K mg base CX k f fd ps sp :=
  ⟨F.len, fun A outer s H args us vs Q E hr => F.run A outer s H args us vs Q E (hr.mono h)⟩
theorem CE.of_inv {X : Cx} {pins σ H s v u} {Q : VK} {s' : Shared} {outer : List Env} {H' : Hp} (hs : X.s_0 = s) (hH : X.H_0 = H) (ho : X.outer = outer) (hx : X.ex = []) (J : Inv X pins σ H' s') (r : RelV v u) (q : Q v H') : CE outer X.prog X.w H s Q u s' := by
  subst hs hH ho
  refine ⟨v, H', J.os, J.bare, ?_, J.hok, r, q⟩
  have := J.base
  rw [hx] at this
  exact this
theorem fnG_of {name qual : Str} {params : Arguments} {body : List Stmt} {scope : Scope} {dV kV doc pm cdv ct oc : Value} {an od : Option Addr} {osl : Array (Option Value)} {N : List Str}
    (lk : K.lookup f = some ⟨oc, od, .func (PySem.W.fnOf name qual params body scope dV kV doc pm an cdv ct), osl⟩) (hcd : PySem.W.codeIn K cdv qual = true) (S : FnScope N ps scope) (len : ∀ vs H Q E, sp vs H Q E → vs.length = ps.length)
    (hb : ∀ (A : Around) (outer : List Env) (s : Shared) (H : Hp) (vs : List V) (Q : VK) (E : XK), RmG k (A.deeper (envOfC qual scope s.heap.objs.size f cdv)) → sp vs H Q E →
      ∃ t, PSs (cxOf CX P w K mg base N qual scope f cdv A outer s H E) body t ∧ t { nx := fun _ H' => Q .non H', rt := Q } (start N vs) H) :
    FnG P w K mg base CX (k + 1) f (PySem.W.fnOf name qual params body scope dV kV doc pm an cdv ct) ps sp := by
  constructor
  · exact len
  intro A outer s H args us vs Q E hr e0 hbd r hsp
  have KX : K.In s.heap := e0.mod.kin.keeps fun b o e => (e0.bs b o e).1
  have lim := e0.mod.nolimit.keeps (h' := s.heap) fun b o e => (e0.bs b o e).1
  refine codeAny_call_function hr.room.depth (KX _ _ lk) rfl S.co S.gen rfl (PySem.W.codeRec_of KX hcd) (hbd _ _ _ _ ?_)
  have hkind : ∀ y ∈ ps.zip us, scope.names.lookup y.1 = some .local ∨ (scope.names.lookup y.1 = some .cell ∧ ((cellsFrom (s.heap.objs.size + 1) scope.names []).lookup y.1).isSome = true) := by
    rintro ⟨n, v⟩ hy
    rcases S.par n (List.of_mem_zip hy).1 with q | q
    · exact Or.inl q
    · exact Or.inr ⟨q, PySem.W.cellsFrom_some _ _ _ (Or.inl q)⟩
  refine wpAny_newFunctionEnv_cells S.kind hkind ?_
  rintro env rfl s1 x
  refine ⟨lim.keeps x.toInCall.keep, codeAny_func ?_⟩
  obtain ⟨t, ht, hq⟩ := hb A outer s H vs Q E ⟨hr.room.deeper _, hr.gd⟩ hsp
  have I := inv_start (CX := CX) (E := E) (f := f) (cd := cdv) (qual := qual) S hr.room.hd e0 (len _ _ _ _ hsp) r x
  refine wpAny_mono (ht.run [] s1 (start N vs) H _ I hq) ?_ (fun e s' hs => hs)
  intro fl s' hs
  cases fl with
  | ret u =>
    obtain ⟨v, σ', H', J, rv, q⟩ := hs
    exact CE.of_inv rfl rfl rfl rfl J rv q
  | next =>
    obtain ⟨σ', H', J, q⟩ := hs
    exact CE.of_inv (v := V.non) (u := Value.none) rfl rfl rfl rfl J rfl q
  | brk => exact hs.elim fun _ h => h.elim fun _ h => h.2.elim
  | cont => exact hs.elim fun _ h => h.elim fun _ h => h.2.elim
theorem FunG.ok {x qual : Str} {st : Stmt} {N : List Str} (F : Fun K x qual st f fd) (S : FnScope N ps (defScope st)) (len : ∀ vs H Q E, sp vs H Q E → vs.length = ps.length)
    (hb : ∀ (cdv : Value) (A : Around) (outer : List Env) (s : Shared) (H : Hp) (vs : List V) (Q : VK) (E : XK), RmG k (A.deeper (envOfC qual (defScope st) s.heap.objs.size f cdv)) → sp vs H Q E →
      ∃ t, PSs (cxOf CX0 P w K mg base N qual (defScope st) f cdv A outer s H E).nox (defBody st) t ∧ t { nx := fun _ H' => Q .non H', rt := Q } (start N vs) H) :
    FnG P w K mg base CX0 (k + 1) f fd ps sp := by
  obtain ⟨oc, od, kV, doc, pm, an, cdv, ct, osl, rfl, lk, hcd⟩ := F.ex
  refine fnG_of lk hcd S len ?_
  intro A outer s H vs Q E hr hsp
  obtain ⟨t, h, q⟩ := hb cdv A outer s H vs Q E hr hsp
  exact ⟨t, h.nox, q⟩
end

/-! ### calls -/
section
variable {X : Cx} {k : Nat} {f : Addr} {fd : FuncData} {ps : List Str} {sp : Sp} {ds : List Value} {dvs : List V} {x : Str} {p pos : Pos} {e : Expr} {es : List Expr} {t tk : TA}
theorem runG {pins : List (Addr × Obj)} {σ : L2.St} {H : Hp} {s : Shared} {Q : VK} {us ws : List Value} {vs : List V} {args : Args} (F : FnG X.prog X.w X.K X.mg X.base CX0 k f fd ps sp) (hr : RmG k X.A)
    (hb : BindsTo s fd args (ps.zip ws)) (I : Inv X pins σ H s) (r : Vals vs ws) (h : sp vs H Q E0) (ha : args = ⟨us, args.kw⟩) : wpAny (model X.prog X.w) X.A (call (.ref f) us args.kw) (EP X pins σ Q) X.xe s := by
  have go := F.run X.A X.stack s H args ws vs Q E0 hr I.env0 hb r h
  rw [ha] at go
  refine wpAny_call (codeAny_mono go ?_)
  intro res s' hq
  cases res with
  | error e => exact hq.elim
  | ok fl =>
    cases fl with
    | ret u => exact I.after hq
    | next => exact hq.elim
    | brk => exact hq.elim
    | cont => exact hq.elim
/-- f(e, ..) -/
theorem pe_callG (F : FnG X.prog X.w X.K X.mg X.base CX0 k f fd ps sp) (hr : RmG k X.A) (hg : Gl X x) (hm : X.mg x = some (.ref f)) (hk : PySem.W.keepIn X.K (.ref f) = true) (hb : Binds X.K fd ps ds) (hd : Vals dvs ds)
    (ha : PA X (e :: es) t) (hdb : (x == ("__debug__" : Str)) = false := by decide) (he : starEach (e :: es) X.env = (false, eval e X.env) :: starEach es X.env := by rfl) (hpl : (backTo pos (starEach es X.env)).any (·.1) = false := by rfl) :
    PE X (.Call (.Name x p) (e :: es) [] pos) (tCall sp dvs E0 t) := by
  constructor
  intro pins s σ H Q I h
  refine wpAny_Call_Name_kw (ld_glob I hg hm ?_ hdb)
  refine PySem.W.callWith_K (h₀ := X.base) I.ok.mod.kin hk (thn (ha.run pos pins s σ H _ I h) ?_) he hpl
  rintro us s1 ⟨vs, H1, I1, r, q⟩
  have r2 : Vals (vs ++ dvs) (us ++ ds) := r.append hd
  have hl : (us ++ ds).length = ps.length := by rw [← r2.length]; exact F.len _ _ _ _ q
  exact ⟨I1.kIn, runG (args := ⟨us, []⟩) F hr (hb s1 us I1.kIn hl) I1 r2 q rfl⟩
theorem pe_call0G (F : FnG X.prog X.w X.K X.mg X.base CX0 k f fd ps sp) (hr : RmG k X.A) (hg : Gl X x) (hm : X.mg x = some (.ref f)) (hk : PySem.W.keepIn X.K (.ref f) = true) (hb : Binds X.K fd ps ds) (hd : Vals dvs ds)
    (hdb : (x == ("__debug__" : Str)) = false := by decide) : PE X (.Call (.Name x p) [] [] pos) (tCall sp dvs E0 tNil) := by
  constructor
  intro pins s σ H Q I h
  refine wpAny_Call_Name_kw (ld_glob I hg hm ?_ hdb)
  have hl : ([] ++ ds : List Value).length = ps.length := by
    have e := hd.length
    have e2 := F.len _ _ _ _ h
    simp only [List.nil_append] at e2 ⊢
    rw [← e]; exact e2
  exact PySem.W.callWith_K0 I.kIn hk (runG (args := ⟨[], []⟩) F hr (hb s [] I.kIn hl) I hd h rfl)
variable {ks : List Str} {g : List Value → List Value → List Value} {gV : List V → List V → List V} {kws : List Keyword}
/-- f(e, .., k = v, ..) -/
theorem pe_callKG (F : FnG X.prog X.w X.K X.mg X.base CX0 k f fd ps sp) (hr : RmG k X.A) (hg : Gl X x) (hm : X.mg x = some (.ref f)) (hk : PySem.W.keepIn X.K (.ref f) = true) (hb : KBinds X.K fd ps ks g gV)
    (ha : PA X (e :: es) t) (hkw : PK X kws tk) (hall : (backToKw pos (keywordEach kws X.env)).all (·.1.isSome) = true := by rfl) (hks : (backToKw pos (keywordEach kws X.env)).filterMap (·.1) = ks := by rfl)
    (hdb : (x == ("__debug__" : Str)) = false := by decide) (he : starEach (e :: es) X.env = (false, eval e X.env) :: starEach es X.env := by rfl)
    (hpl : ((backTo pos (starEach (e :: es) X.env)).any (·.1) || (backToKw pos (keywordEach kws X.env)).any (·.1.isNone)) = false := by rfl) :
    PE X (.Call (.Name x p) (e :: es) kws pos) (tCallK sp gV E0 t tk) := by
  constructor
  intro pins s σ H Q I h
  refine wpAny_Call_Name_kw (ld_glob I hg hm ?_ hdb)
  refine PySem.W.callWith_KW (h₀ := X.base) I.ok.mod.kin hk hall (thn (ha.run pos pins s σ H _ I h) ?_) hpl he
  rintro us s1 ⟨vs, H1, I1, r, q⟩
  refine thn (hkw.run pos pins s1 σ H1 _ I1 q) ?_
  rintro ws s2 ⟨zs, H2, I2, rz, q2⟩
  rw [hks]
  have r2 := hb.rel r rz
  have hl : (g us ws).length = ps.length := by rw [← r2.length]; exact F.len _ _ _ _ q2
  exact ⟨I2.kIn, runG (args := ⟨us, ks.zip ws⟩) F hr (hb.to s2 us ws I2.kIn hl) I2 r2 q2 rfl⟩
end

/-! ### the end of a law -/
theorem callG {P : Program} {w : World} {K : PySem.W.Frag} {mg mb : Str → Option Value} {k : Nat} {fa a : Addr} {fd : FuncData} {x : Str} {sp : Sp} {s₁ : Shared} {H : Hp} {hb0 : Heap} {o : Obj} {xs : List V}
    (F : FnG P w K mg hb0 CX0 k fa fd [x] sp) (hr : Room k callerA) (hbind : ∀ (s : Shared) (u : Value), BindsTo s fd ⟨[u], []⟩ [(x, u)]) (e0 : Env0 P w K mg hb0 callerA [] s₁ H)
    (hsp : sp [.ref a] H (fun v _ => v = .bl true) E0) (hO : Only H) :
    codeAny (model P w) callerA (.call (.ref fa) ⟨[.ref a], []⟩) (fun r s' => r = .ok (.ret (.bool true)) ∧ PySem.OldK s₁.heap s'.heap ∧ s'.os = s₁.os ∧ AllBare s'.gens) s₁ := by
  have go := F.run callerA [] s₁ H ⟨[.ref a], []⟩ [.ref a] [.ref a] _ _ ⟨hr, rfl⟩ e0 (hbind s₁ (.ref a)) (.cons rfl .nil) hsp
  refine codeAny_mono go ?_
  intro r s' h
  cases r with
  | error e => exact False.elim h
  | ok fl =>
    cases fl with
    | next => exact h.elim
    | brk => exact h.elim
    | cont => exact h.elim
    | ret u =>
      obtain ⟨v, H', os, bare, un, hok', r', rfl⟩ := h
      obtain rfl : u = Value.bool true := r'
      refine ⟨rfl, PySem.OldK.of_keep ?_, os, bare⟩
      intro b ob e
      have none_in : b ∉ frs [] := fun z => nomatch (show b ∈ ([] : List Addr) from z)
      cases q : H b with
      | none => exact un.keep b ob e q none_in (fun z => nomatch z)
      | some u =>
        rcases hO b with z | ⟨ob2, ys, z⟩
        · rw [q] at z; cases z
        · have e1 := (e0.hok b _ z).1
          have e2 := (hok' b _ (un.frzs b ob2 _ z)).1
          rw [e] at e1
          rw [e2, ← e1]
/-- the abstract heap at the law's entry: the script alone, read, not written -/
theorem enterG {P : Program} {w : World} {K : PySem.W.Frag} {mg mb : Str → Option Value} {k : Nat} {fa a : Addr} {fd : FuncData} {x : Str} {sp : Sp} {s₁ : Shared} {vs : List Value} {ns : List Int}
    (KX : K.In s₁.heap) (hns : s₁.heap.Ns mainGlobals mg) (hb : s₁.heap.Ns builtinsNs mb) (hbb : ∀ x : Str, x ≠ "__name__" → mb x = bootBuiltins x) (hlim : s₁.heap.NoLimit) (hg : s₁.gens = #[])
    (ha : s₁.heap.get? a = some { cls := .type "list", data := .seq vs.toArray }) (hi : PyProof.Rows.IntsAre vs ns) (hl : ns.length ≤ sizeLine) (hr : Room k callerA)
    (F : ∀ hb0 : Heap, K.In hb0 → hb0.Ns mainGlobals mg → FnG P w K mg hb0 CX0 k fa fd [x] sp) (hbind : ∀ (s : Shared) (u : Value), BindsTo s fd ⟨[u], []⟩ [(x, u)])
    (hsp : ∀ H : Hp, Only H → SqL K H a (ns.map V.int) → sp [.ref a] H (fun v _ => v = .bl true) E0) :
    codeAny (model P w) callerA (.call (.ref fa) ⟨[.ref a], []⟩) (fun r s' => r = .ok (.ret (.bool true)) ∧ PySem.OldK s₁.heap s'.heap ∧ s'.os = s₁.os ∧ AllBare s'.gens) s₁ := by
  have rv := vals_ints hi
  suffices go : ∀ H : Hp, (∀ b o, H b = some o → b = a ∧ K.lookup a = none) → Only H → SqL K H a (ns.map V.int) → HOk P w H s₁.heap →
      codeAny (model P w) callerA (.call (.ref fa) ⟨[.ref a], []⟩) (fun r s' => r = .ok (.ret (.bool true)) ∧ PySem.OldK s₁.heap s'.heap ∧ s'.os = s₁.os ∧ AllBare s'.gens) s₁ by
    cases hk : K.lookup a with
    | some o =>
      have e := KX a o hk
      rw [ha] at e
      obtain rfl := Option.some.inj e
      have sz : vs.toArray.size ≤ sizeLine := by rw [List.size_toArray, hi.length]; exact hl
      refine go (fun _ => none) (fun b o z => by cases z) (fun _ => .inl rfl) ?_ (fun b u z => by cases z)
      exact .inr ⟨_, _, _, hk, rfl, rfl, rfl, sz, rv⟩
    | none =>
      let ob : Obj := { cls := .type "list", data := .seq vs.toArray }
      let H0 : Hp := fun b => if b = a then some (.frz ob (.lst (ns.map V.int))) else none
      have at_a : H0 a = some (.frz ob (.lst (ns.map V.int))) := if_pos rfl
      have els : ∀ b, b ≠ a → H0 b = none := fun b h => if_neg h
      have dom : ∀ b o, H0 b = some o → b = a := fun b o z => Classical.byContradiction fun h => by rw [els b h] at z; cases z
      refine go H0 (fun b o z => ⟨dom b o z, hk⟩) ?_ (.inl (.inr ⟨ob, at_a⟩)) ?_
      · intro b
        by_cases h : b = a
        · subst h; exact .inr ⟨_, _, at_a⟩
        · exact .inl (els b h)
      · intro b u z
        obtain rfl := dom b u z
        rw [at_a] at z
        obtain rfl := Option.some.inj z
        exact ⟨ha, by rw [List.length_map]; exact hl, vs, _, rv, ha⟩
  intro H hA hO hS hok
  have free : ∀ {b : Addr} {o : Obj}, s₁.heap.get? b = some o → (b = a → False) → H b = none := by
    intro b o _ n
    cases q : H b with
    | none => rfl
    | some u => exact (n (hA b u q).1).elim
  have dic : ∀ {b : Addr} {o : Obj} {es : Array DictEntry} {ep : Nat}, s₁.heap.get? b = some o → o.data = .dict es ep → H b = none := by
    intro b o es ep e d
    refine free e ?_
    rintro rfl
    rw [ha] at e
    obtain rfl := Option.some.inj e
    cases d
  have ns2 : ∀ {b : Addr} {m : Str → Option Value}, s₁.heap.Ns b m → (hidT s₁.heap H).Ns b m := by
    rintro b m ⟨o, es, ep, e, d, r⟩
    exact ⟨o, es, ep, hidT_get e (dic e d), d, r⟩
  have kb : K.In (hidT s₁.heap H) := by
    intro b o e
    refine hidT_get (KX b o e) ?_
    cases q : H b with
    | none => rfl
    | some u =>
      obtain ⟨rfl, z⟩ := hA b u q
      rw [z] at e; cases e
  obtain ⟨mc, c1, c2⟩ := hlim
  have hM : Mod K mg (hidT s₁.heap H) := ⟨kb, ns2 hns, ⟨mb, ns2 hb, hbb⟩, ⟨mc, ns2 c1, c2⟩⟩
  have nofr : ∀ b ∈ frs [], H b = none := fun b z => nomatch (show b ∈ ([] : List Addr) from z)
  exact callG (mb := mb) (o := default) (xs := []) (F _ kb (ns2 hns)) hr hbind ⟨rfl, hM, fun b o e => of_hidT e, Nat.le_of_eq (hidT_size _ _), trivial, nofr, hok, .of_eq hg⟩ (hsp H hO hS) hO
/-- the law's row, from its promise -/
theorem walkG {l : PySem.W.OpenLaw} {n k : Nat} {q : Program} {loose : List Str} {XP : (Str → Option Value) → Heap → Prop} {YP : World → Heap → Prop} {d : DefRec} {K : Params → PySem.W.Frag} {sp : PySem.W.Frag → Sp} {x : Str}
    (hn : l.most = some n) (hn2 : n ≤ sizeLine) (hdf : d.params.defaults = []) (hr : Room k callerA) (hY : ∀ (w : World) (h : Heap), YP w h → (K w.params).In h)
    (F : ∀ (w : World) (mg : Str → Option Value) (fa : Addr) (h : Heap), (K w.params).In h → h.Ns mainGlobals mg → mg d.name = some (.ref fa) →
      ∃ fd : FuncData, (∀ (s : Shared) (u : Value), BindsTo s fd ⟨[u], []⟩ [(x, u)]) ∧ ∀ hb0 : Heap, (K w.params).In hb0 → hb0.Ns mainGlobals mg → FnG l.prog w (K w.params) mg hb0 CX0 k fa fd [x] (sp (K w.params)))
    (hsp : ∀ (K : PySem.W.Frag) (H : Hp) (a : Addr) (ns : List Int), ns.length ≤ n → Only H → SqL K H a (ns.map V.int) → sp K [.ref a] H (fun v _ => v = .bl true) E0) :
    PySem.W.WalkO q loose XP YP l.row.toRowW d [] (fun f vs => PySem.call f vs) := by
  refine Att.attach_call hn hdf ?_
  intro w s₀ s₁ mg mb fa o pm cd doc a vs ns G Y ho hd hcd hmg hobj hints hlen hg
  have KX := hY w _ Y
  obtain ⟨fd, hb, hF⟩ := F w mg fa _ KX G.T.g hmg
  exact enterG KX G.T.g G.T.b G.T.builtins G.T.nolimit hg hobj hints (Nat.le_trans hlen hn2) hr hF hb fun H hO hS => hsp _ H a ns hlen hO hS
end DL

namespace DL
open PySem PySem.Spec PyProof.Rows L2

abbrev D := PyData
/-- a key as data -/
def keyD : Key → D
  | .inl i => .int i
  | .inr x => .str x

/-- objects that never change -/
def Imm : HO → Prop
  | .lst _ => False
  | .dK _ => False
  | .dT _ => False
  | .set _ _ => False
  | .ins _ _ _ => False
  | .own _ => False
  | .ext _ => False
  | _ => True

/-! ### data that stays as it is: W, the addresses of the lists (dicts) that nobody changes any more -/
mutual
inductive Fz (K : PySem.W.Frag) (W : Addr → Prop) (H : Hp) : V → D → Prop
  | non : Fz K W H .non .none
  | bl (b : Bool) : Fz K W H (.bl b) (.bool b)
  | int (i : Int) : Fz K W H (.int i) (.int i)
  | str (x : Str) : Fz K W H (.str x) (.str x)
  | lst {a : Addr} {xs : List V} {ds : List D} : W a → H a = some (.lst xs) → FzA K W H xs ds → Fz K W H (.ref a) (.list ds)
  | tup {a : Addr} {xs : List V} {ds : List D} : SqT K H a xs → FzA K W H xs ds → Fz K W H (.ref a) (.tuple ds)
  | dct {a : Addr} {kvs : List (Key × V)} {ds : List D} : W a → H a = some (.dK kvs) → FzA K W H (kvs.map (·.2)) ds → Fz K W H (.ref a) (.dict ((kvs.map fun p => keyD p.1).zip ds))
inductive FzA (K : PySem.W.Frag) (W : Addr → Prop) (H : Hp) : List V → List D → Prop
  | nil : FzA K W H [] []
  | cons {v : V} {vs : List V} {d : D} {ds : List D} : Fz K W H v d → FzA K W H vs ds → FzA K W H (v :: vs) (d :: ds)
end

/-- the world goes on: what is fixed stays -/
structure Wxt (W : Addr → Prop) (H : Hp) (W' : Addr → Prop) (H' : Hp) : Prop where
  w : ∀ a, W a → W' a
  fix : ∀ a o, H a = some o → W a ∨ Imm o → H' a = some o
theorem Wxt.refl (W : Addr → Prop) (H : Hp) : Wxt W H W H := ⟨fun _ h => h, fun _ _ h _ => h⟩
theorem Wxt.trans {W H W1 H1 W2 H2} (a : Wxt W H W1 H1) (b : Wxt W1 H1 W2 H2) : Wxt W H W2 H2 :=
  ⟨fun x h => b.w x (a.w x h), fun x o h k => b.fix x o (a.fix x o h k) (k.elim (fun q => .inl (a.w x q)) .inr)⟩
theorem SqT.xt {K : PySem.W.Frag} {W H W' H'} (e : Wxt W H W' H') {a : Addr} {xs : List V} (h : SqT K H a xs) : SqT K H' a xs := by
  rcases h with (h | ⟨o, h⟩) | h
  · exact .inl (.inl (e.fix _ _ h (.inr trivial)))
  · exact .inl (.inr ⟨o, e.fix _ _ h (.inr trivial)⟩)
  · exact .inr h
mutual
theorem Fz.xt {K : PySem.W.Frag} {W H W' H'} (e : Wxt W H W' H') : ∀ {v : V} {d : D}, Fz K W H v d → Fz K W' H' v d
  | _, _, .non => .non
  | _, _, .bl b => .bl b
  | _, _, .int i => .int i
  | _, _, .str x => .str x
  | _, _, .lst w h r => .lst (e.w _ w) (e.fix _ _ h (.inl w)) (FzA.xt e r)
  | _, _, .tup h r => .tup (SqT.xt e h) (FzA.xt e r)
  | _, _, .dct w h r => .dct (e.w _ w) (e.fix _ _ h (.inl w)) (FzA.xt e r)
theorem FzA.xt {K : PySem.W.Frag} {W H W' H'} (e : Wxt W H W' H') : ∀ {vs : List V} {ds : List D}, FzA K W H vs ds → FzA K W' H' vs ds
  | _, _, .nil => .nil
  | _, _, .cons h r => .cons (Fz.xt e h) (FzA.xt e r)
end
theorem FzA.length {K W H} : ∀ {vs : List V} {ds : List D}, FzA K W H vs ds → vs.length = ds.length
  | _, _, .nil => rfl
  | _, _, .cons _ r => by rw [List.length_cons, List.length_cons, FzA.length r]
theorem FzA.get {K W H} : ∀ {vs : List V} {ds : List D} {i : Nat} {v : V}, FzA K W H vs ds → vs[i]? = some v → ∃ d, ds[i]? = some d ∧ Fz K W H v d
  | _, _, _, _, .nil, e => by simp at e
  | _, _, 0, _, .cons h _, e => by simp at e; subst e; exact ⟨_, rfl, h⟩
  | _, _, i + 1, _, .cons _ r, e => by
    obtain ⟨d, h1, h2⟩ := FzA.get (i := i) r (by simpa using e)
    exact ⟨d, by simpa using h1, h2⟩
theorem FzA.getD {K W H} : ∀ {vs : List V} {ds : List D} {i : Nat} {d : D}, FzA K W H vs ds → ds[i]? = some d → ∃ v, vs[i]? = some v ∧ Fz K W H v d
  | _, _, _, _, .nil, e => by simp at e
  | _, _, 0, _, .cons h _, e => by simp at e; subst e; exact ⟨_, rfl, h⟩
  | _, _, i + 1, _, .cons _ r, e => by
    obtain ⟨d, h1, h2⟩ := FzA.getD (i := i) r (by simpa using e)
    exact ⟨d, by simpa using h1, h2⟩
theorem FzA.append {K W H} : ∀ {vs us : List V} {ds es : List D}, FzA K W H vs ds → FzA K W H us es → FzA K W H (vs ++ us) (ds ++ es)
  | _, _, _, _, .nil, s => s
  | _, _, _, _, .cons h r, s => .cons h (FzA.append r s)
theorem FzA.take {K W H} : ∀ (n : Nat) {vs : List V} {ds : List D}, FzA K W H vs ds → FzA K W H (vs.take n) (ds.take n)
  | 0, _, _, _ => .nil
  | _ + 1, _, _, .nil => .nil
  | n + 1, _, _, .cons h r => .cons h (FzA.take n r)
theorem FzA.drop {K W H} : ∀ (n : Nat) {vs : List V} {ds : List D}, FzA K W H vs ds → FzA K W H (vs.drop n) (ds.drop n)
  | 0, _, _, r => r
  | _ + 1, _, _, .nil => .nil
  | n + 1, _, _, .cons _ r => FzA.drop n r
theorem FzA.set {K W H v d} (h : Fz K W H v d) : ∀ (n : Nat) {vs : List V} {ds : List D}, FzA K W H vs ds → FzA K W H (vs.set n v) (ds.set n d)
  | _, _, _, .nil => .nil
  | 0, _, _, .cons _ r => .cons h r
  | n + 1, _, _, .cons q r => .cons q (FzA.set h n r)
theorem FzA.one {K W H v d} (h : Fz K W H v d) : FzA K W H [v] [d] := .cons h .nil
theorem FzA.reverse {K W H} : ∀ {vs : List V} {ds : List D}, FzA K W H vs ds → FzA K W H vs.reverse ds.reverse
  | _, _, .nil => .nil
  | _, _, .cons h r => by rw [List.reverse_cons, List.reverse_cons]; exact FzA.append (FzA.reverse r) (.one h)
theorem FzA.ints {K W H} : ∀ (ns : List Int), FzA K W H (ns.map V.int) (ns.map PyData.int)
  | [] => .nil
  | n :: r => .cons (.int n) (FzA.ints r)

/-! ### what is there at this moment -/
mutual
inductive Ct (K : PySem.W.Frag) (H : Hp) : V → D → Prop
  | non : Ct K H .non .none
  | bl (b : Bool) : Ct K H (.bl b) (.bool b)
  | int (i : Int) : Ct K H (.int i) (.int i)
  | str (x : Str) : Ct K H (.str x) (.str x)
  | lst {a : Addr} {xs : List V} {ds : List D} : H a = some (.lst xs) → CtA K H xs ds → Ct K H (.ref a) (.list ds)
  | tup {a : Addr} {xs : List V} {ds : List D} : SqT K H a xs → CtA K H xs ds → Ct K H (.ref a) (.tuple ds)
  | dct {a : Addr} {kvs : List (Key × V)} {ds : List D} : H a = some (.dK kvs) → CtA K H (kvs.map (·.2)) ds → Ct K H (.ref a) (.dict ((kvs.map fun p => keyD p.1).zip ds))
inductive CtA (K : PySem.W.Frag) (H : Hp) : List V → List D → Prop
  | nil : CtA K H [] []
  | cons {v : V} {vs : List V} {d : D} {ds : List D} : Ct K H v d → CtA K H vs ds → CtA K H (v :: vs) (d :: ds)
end
mutual
theorem Fz.ct {K W H} : ∀ {v : V} {d : D}, Fz K W H v d → Ct K H v d
  | _, _, .non => .non
  | _, _, .bl b => .bl b
  | _, _, .int i => .int i
  | _, _, .str x => .str x
  | _, _, .lst _ h r => .lst h (FzA.ct r)
  | _, _, .tup h r => .tup h (FzA.ct r)
  | _, _, .dct _ h r => .dct h (FzA.ct r)
theorem FzA.ct {K W H} : ∀ {vs : List V} {ds : List D}, FzA K W H vs ds → CtA K H vs ds
  | _, _, .nil => .nil
  | _, _, .cons h r => .cons (Fz.ct h) (FzA.ct r)
end
theorem CtA.length {K H} : ∀ {vs : List V} {ds : List D}, CtA K H vs ds → vs.length = ds.length
  | _, _, .nil => rfl
  | _, _, .cons _ r => by rw [List.length_cons, List.length_cons, CtA.length r]
theorem CtA.ints {K H} : ∀ {vs : List V} {ns : List Int}, CtA K H vs (ns.map PyData.int) → vs = ns.map V.int
  | _, [], .nil => rfl
  | _, _ :: _, .cons (.int _) r => by rw [CtA.ints r]; rfl
theorem CtA.bools {K H} : ∀ {vs : List V} {ns : List Bool}, CtA K H vs (ns.map PyData.bool) → vs = ns.map V.bl
  | _, [], .nil => rfl
  | _, _ :: _, .cons (.bl _) r => by rw [CtA.bools r]; rfl

/-! ### owned values -/
inductive OwA (K : PySem.W.Frag) (W : Addr → Prop) (H : Hp) : List Addr → List (List D) → Prop
  | nil : OwA K W H [] []
  | cons {b : Addr} {bs : List Addr} {xs : List V} {ds : List D} {dss : List (List D)} : H b = some (.lst xs) → ¬ W b → FzA K W H xs ds → OwA K W H bs dss → OwA K W H (b :: bs) (ds :: dss)
/-- a value: fixed data; a list that is this one's own; one of own lists; a locked list (the script); what slot i holds -/
inductive Vl where
  | fz (d : D) | ow (ds : List D) | ow2 (dss : List (List D)) | lk (ds : List D) | od (ks : List Key) (ds : List D) | tp (ds : List D) | pk (i : Nat)
abbrev Rho := List (Option Vl)
/-- a list that is read, never written -/
def Lkd (K : PySem.W.Frag) (W : Addr → Prop) (H : Hp) (a : Addr) (xs : List V) : Prop :=
  (W a ∧ H a = some (.lst xs)) ∨ (∃ o, H a = some (.frz o (.lst xs))) ∨
    ∃ (o : Obj) (its : Array Value) (n : Nat), K.lookup a = some o ∧ o.cls = .type "list" ∧ o.dict = none ∧ o.data = .seq its n ∧ its.size ≤ sizeLine ∧ Vals xs its.toList
theorem Lkd.sq {K W H a xs} (h : Lkd K W H a xs) : SqL K H a xs := by
  rcases h with ⟨_, h⟩ | h | h
  · exact .inl (.inl h)
  · exact .inl (.inr h)
  · exact .inr h
theorem Lkd.xt {K W H W' H' a xs} (e : Wxt W H W' H') (h : Lkd K W H a xs) : Lkd K W' H' a xs := by
  rcases h with ⟨w, h⟩ | ⟨o, h⟩ | h
  · exact .inl ⟨e.w _ w, e.fix _ _ h (.inl w)⟩
  · exact .inr (.inl ⟨o, e.fix _ _ h (.inr trivial)⟩)
  · exact .inr (.inr h)
/-- a tuple that is known to have no names of its own -/
def Ktp (H : Hp) (a : Addr) (xs : List V) : Prop := ∃ o : Obj, H a = some (.frz o (.tup xs)) ∧ o.cls = .type "tuple" ∧ o.dict = none
theorem Ktp.sq {K H a xs} (h : Ktp H a xs) : SqT K H a xs := let ⟨o, e, _⟩ := h; .inl (.inr ⟨o, e⟩)
theorem Ktp.xt {W H W' H' a xs} (e : Wxt W H W' H') (h : Ktp H a xs) : Ktp H' a xs := let ⟨o, q, r⟩ := h; ⟨o, e.fix _ _ q (.inr trivial), r⟩
inductive RV (K : PySem.W.Frag) (W : Addr → Prop) (H : Hp) : V → Vl → List Addr → Prop
  | fz {v d} : Fz K W H v d → RV K W H v (.fz d) []
  | ow {a xs ds} : H a = some (.lst xs) → ¬ W a → FzA K W H xs ds → RV K W H (.ref a) (.ow ds) [a]
  | ow2 {a bs dss} : H a = some (.lst (bs.map V.ref)) → ¬ W a → OwA K W H bs dss → (a :: bs).Nodup → RV K W H (.ref a) (.ow2 dss) (a :: bs)
  | lk {a xs ds} : Lkd K W H a xs → FzA K W H xs ds → RV K W H (.ref a) (.lk ds) []
  | od {a kvs ds} : H a = some (.dK kvs) → ¬ W a → FzA K W H (kvs.map (·.2)) ds → RV K W H (.ref a) (.od (kvs.map (·.1)) ds) [a]
  | tp {a xs ds} : Ktp H a xs → FzA K W H xs ds → RV K W H (.ref a) (.tp ds) []

/-- one goes on; what fp holds may be changed -/
structure Ev (fp : Addr → Prop) (W : Addr → Prop) (H : Hp) (W' : Addr → Prop) (H' : Hp) : Prop where
  w : ∀ a, W a → W' a
  keep : ∀ a o, H a = some o → (fp a → Imm o) → H' a = some o
  nw : ∀ a o, H a = some o → ¬ fp a → W' a → W a
theorem Ev.refl {fp W H} : Ev fp W H W H := ⟨fun _ h => h, fun _ _ h _ => h, fun _ _ _ _ h => h⟩
theorem Ev.trans {fp fp1 W H W1 H1 W2 H2} (a : Ev fp W H W1 H1) (hs : ∀ x, fp1 x → fp x ∨ H x = none) (b : Ev fp1 W1 H1 W2 H2) : Ev fp W H W2 H2 where
  w := fun x h => b.w x (a.w x h)
  keep := fun x o h k => b.keep x o (a.keep x o h k) fun q => (hs x q).elim k fun z => by rw [h] at z; cases z
  nw := fun x o h k w2 => a.nw x o h k (b.nw x o (a.keep x o h fun z => absurd z k) (fun q => (hs x q).elim k fun z => by rw [h] at z; cases z) w2)
theorem Ev.mono {fp fp1 W H W' H'} (a : Ev fp W H W' H') (hs : ∀ x, fp x → fp1 x ∨ H x = none) : Ev fp1 W H W' H' where
  w := a.w
  keep := fun x o h k => a.keep x o h fun q => (hs x q).elim k fun z => by rw [h] at z; cases z
  nw := fun x o h k => a.nw x o h fun q => (hs x q).elim k fun z => by rw [h] at z; cases z
/-- new objects alone -/
theorem Ev.grow {fp W H H'} (h : ∀ a o, H a = some o → H' a = some o) : Ev fp W H W H' := ⟨fun _ h => h, fun a o e _ => h a o e, fun _ _ _ _ h => h⟩
theorem Ev.xt {fp W H W' H'} (e : Ev fp W H W' H') (hd : ∀ a, fp a → ¬ W a) : Wxt W H W' H' :=
  ⟨e.w, fun a o h k => e.keep a o h fun q => k.elim (fun w => absurd w (hd a q)) id⟩

theorem OwA.ev {K W H W' H' fp} (e : Ev fp W H W' H') (x : Wxt W H W' H') : ∀ {bs dss}, OwA K W H bs dss → (∀ b ∈ bs, ¬ fp b) → OwA K W' H' bs dss
  | _, _, .nil, _ => .nil
  | _, _, .cons h w f r, n => .cons (e.keep _ _ h fun q => absurd q (n _ List.mem_cons_self)) (fun q => w (e.nw _ _ h (n _ List.mem_cons_self) q)) (f.xt x) (OwA.ev e x r fun b hb => n b (List.mem_cons_of_mem _ hb))
theorem RV.ev {K W H W' H' fp v vl l} (e : Ev fp W H W' H') (x : Wxt W H W' H') (r : RV K W H v vl l) (n : ∀ b ∈ l, ¬ fp b) : RV K W' H' v vl l := by
  cases r with
  | fz f => exact .fz (f.xt x)
  | ow h w f => exact .ow (e.keep _ _ h fun q => absurd q (n _ List.mem_cons_self)) (fun q => w (e.nw _ _ h (n _ List.mem_cons_self) q)) (f.xt x)
  | ow2 h w f nd => exact .ow2 (e.keep _ _ h fun q => absurd q (n _ List.mem_cons_self)) (fun q => w (e.nw _ _ h (n _ List.mem_cons_self) q)) (OwA.ev e x f fun b hb => n b (List.mem_cons_of_mem _ hb)) nd
  | lk h f => exact .lk (h.xt x) (f.xt x)
  | tp h f => exact .tp (h.xt x) (f.xt x)
  | od h w f => exact .od (e.keep _ _ h fun q => absurd q (n _ List.mem_cons_self)) (fun q => w (e.nw _ _ h (n _ List.mem_cons_self) q)) (f.xt x)
theorem OwA.own {K W H} : ∀ {bs dss}, OwA K W H bs dss → ∀ b ∈ bs, ¬ W b ∧ ∃ o, H b = some o ∧ ¬ Imm o
  | _, _, .nil, _, hb => nomatch hb
  | _, _, .cons h w _ r, b, hb => by
    rcases List.mem_cons.mp hb with rfl | hb
    · exact ⟨w, _, h, fun z => z⟩
    · exact OwA.own r b hb
theorem RV.own {K W H v vl l} (r : RV K W H v vl l) : ∀ b ∈ l, ¬ W b ∧ ∃ o, H b = some o ∧ ¬ Imm o := by
  cases r with
  | fz f => exact fun _ z => nomatch z
  | lk h f => exact fun _ z => nomatch z
  | tp h f => exact fun _ z => nomatch z
  | ow h w f => intro b hb; obtain rfl := List.mem_singleton.mp hb; exact ⟨w, _, h, fun z => z⟩
  | od h w f => intro b hb; obtain rfl := List.mem_singleton.mp hb; exact ⟨w, _, h, fun z => z⟩
  | ow2 h w f nd =>
    intro b hb
    rcases List.mem_cons.mp hb with rfl | hb
    · exact ⟨w, _, h, fun z => z⟩
    · exact f.own b hb
theorem RV.nodup {K W H v vl l} (r : RV K W H v vl l) : l.Nodup := by
  cases r with
  | fz f => exact List.nodup_nil
  | lk h f => exact List.nodup_nil
  | tp h f => exact List.nodup_nil
  | ow h w f => exact List.nodup_cons.mpr ⟨by simp, List.nodup_nil⟩
  | od h w f => exact List.nodup_cons.mpr ⟨by simp, List.nodup_nil⟩
  | ow2 h w f nd => exact nd
end DL

namespace DL
open PySem PySem.Spec PyProof.Rows L2

abbrev Fp := Nat → List Addr
def InF (φ : Fp) (a : Addr) : Prop := ∃ i, a ∈ φ i
/-- the slots σ as ρ tells them, in the world W, H; φ: what each slot owns -/
structure SS (K : PySem.W.Frag) (W : Addr → Prop) (H : Hp) (σ : L2.St) (ρ : Rho) (φ : Fp) : Prop where
  len : σ.length = ρ.length
  sl : ∀ (i : Nat) (vl : Vl), ρ[i]? = some (some vl) → ∃ v, σ[i]? = some (some v) ∧ RV K W H v vl (φ i)
  em : ∀ i : Nat, (∀ vl, ρ[i]? ≠ some (some vl)) → φ i = []
  dj : ∀ (i j : Nat) (a : Addr), a ∈ φ i → a ∈ φ j → i = j
  wf : ∀ a, W a → ∃ o, H a = some o
section
variable {K : PySem.W.Frag} {W W' : Addr → Prop} {H H' : Hp} {σ : L2.St} {ρ : Rho} {φ : Fp}
theorem SS.own (s : SS K W H σ ρ φ) {a : Addr} (h : InF φ a) : ¬ W a ∧ ∃ o, H a = some o ∧ ¬ Imm o := by
  obtain ⟨i, hi⟩ := h
  by_cases q : ∃ vl, ρ[i]? = some (some vl)
  · obtain ⟨vl, e⟩ := q
    obtain ⟨v, _, r⟩ := s.sl i vl e
    exact r.own a hi
  · rw [s.em i fun vl e => q ⟨vl, e⟩] at hi
    cases hi
theorem SS.notW (s : SS K W H σ ρ φ) : ∀ a, InF φ a → ¬ W a := fun _ h => (s.own h).1
theorem SS.inH (s : SS K W H σ ρ φ) {a : Addr} (h : InF φ a) : H a ≠ none := fun e => by
  obtain ⟨_, o, q, _⟩ := s.own h
  rw [e] at q; cases q
theorem SS.new (s : SS K W H σ ρ φ) {p : Addr} (h : H p = none) : ¬ W p := fun w => by
  obtain ⟨o, e⟩ := s.wf p w
  rw [h] at e; cases e
/-- what others do leaves the slots as they are -/
theorem SS.ev {fp : Addr → Prop} (s : SS K W H σ ρ φ) (e : Ev fp W H W' H') (x : Wxt W H W' H') (n : ∀ a, InF φ a → ¬ fp a) (wf : ∀ a, W' a → ∃ o, H' a = some o) : SS K W' H' σ ρ φ :=
  ⟨s.len, fun i vl q => let ⟨v, h1, h2⟩ := s.sl i vl q; ⟨v, h1, h2.ev e x fun b hb => n b ⟨i, hb⟩⟩, s.em, s.dj, wf⟩
end

/-- a result: a value of its own, or what slot i holds -/
inductive RX (K : PySem.W.Frag) (W : Addr → Prop) (H : Hp) (σ : L2.St) : V → Vl → List Addr → Prop
  | rv {v vl l} : RV K W H v vl l → RX K W H σ v vl l
  | pk {v i} : σ[i]? = some (some v) → RX K W H σ v (.pk i) []
inductive RXs (K : PySem.W.Frag) (W : Addr → Prop) (H : Hp) (σ : L2.St) : List V → List Vl → List Addr → Prop
  | nil : RXs K W H σ [] [] []
  | cons {v vs r rs l ls} : RX K W H σ v r l → RXs K W H σ vs rs ls → (∀ a ∈ l, a ∉ ls) → RXs K W H σ (v :: vs) (r :: rs) (l ++ ls)
section
variable {K : PySem.W.Frag} {W W' : Addr → Prop} {H H' : Hp} {σ : L2.St} {ρ : Rho} {φ : Fp} {v : V} {r : Vl} {l : List Addr} {vs : List V} {rs : List Vl}
theorem RX.ev {fp : Addr → Prop} (e : Ev fp W H W' H') (x : Wxt W H W' H') (h : RX K W H σ v r l) (n : ∀ b ∈ l, ¬ fp b) : RX K W' H' σ v r l := by
  cases h with
  | rv h => exact .rv (h.ev e x n)
  | pk h => exact .pk h
theorem RX.own (h : RX K W H σ v r l) : ∀ b ∈ l, ¬ W b ∧ ∃ o, H b = some o ∧ ¬ Imm o := by
  cases h with
  | rv h => exact h.own
  | pk h => exact fun _ z => nomatch z
theorem RXs.ev {fp : Addr → Prop} (e : Ev fp W H W' H') (x : Wxt W H W' H') (h : RXs K W H σ vs rs l) (n : ∀ b ∈ l, ¬ fp b) : RXs K W' H' σ vs rs l := by
  induction h with
  | nil => exact .nil
  | cons h _ d ih => exact .cons (h.ev e x fun b hb => n b (List.mem_append_left _ hb)) (ih fun b hb => n b (List.mem_append_right _ hb)) d
theorem RXs.own (h : RXs K W H σ vs rs l) : ∀ b ∈ l, ¬ W b ∧ ∃ o, H b = some o ∧ ¬ Imm o := by
  induction h with
  | nil => exact fun _ z => nomatch z
  | cons h _ _ ih => exact fun b hb => (List.mem_append.mp hb).elim (h.own b) (ih b)
theorem RXs.length (h : RXs K W H σ vs rs l) : vs.length = rs.length := by
  induction h with
  | nil => rfl
  | cons _ _ _ ih => rw [List.length_cons, List.length_cons, ih]
theorem RXs.one (h : RX K W H σ v r l) : RXs K W H σ [v] [r] l := by
  have := RXs.cons h (.nil (K := K) (W := W) (H := H) (σ := σ)) (fun _ _ z => nomatch z)
  rwa [List.append_nil] at this

/-- the value told, at this moment -/
def cur0 : Vl → Option D
  | .fz d => some d
  | .ow ds => some (.list ds)
  | .ow2 dss => some (.list (dss.map .list))
  | .od ks ds => some (.dict ((ks.map keyD).zip ds))
  | .tp ds => some (.tuple ds)
  | .lk _ => none
  | .pk _ => none
def at? (ρ : Rho) (i : Nat) : Option Vl := match ρ[i]? with
  | some (some v) => some v
  | _ => none
/-- the slot behind a name -/
def nml (ρ : Rho) : Vl → Option Vl
  | .pk i => at? ρ i
  | v => some v
def cur (ρ : Rho) (v : Vl) : Option D := (nml ρ v).bind cur0
theorem at?_some {i : Nat} {vl : Vl} (h : at? ρ i = some vl) : ρ[i]? = some (some vl) := by
  unfold at? at h
  split at h
  · rename_i e; rw [e, Option.some.inj h]
  · cases h
/-- a name's result is its slot's -/
theorem RX.nml (s : SS K W H σ ρ φ) (h : RX K W H σ v r l) {vl : Vl} (e : DL.nml ρ r = some vl) : ∃ l', RV K W H v vl l' ∧ (l' = l ∨ ∃ i, r = .pk i ∧ l' = φ i) := by
  cases h with
  | rv h =>
    cases h with
    | fz f => cases e; exact ⟨_, .fz f, .inl rfl⟩
    | ow a b c => cases e; exact ⟨_, .ow a b c, .inl rfl⟩
    | ow2 a b c d => cases e; exact ⟨_, .ow2 a b c d, .inl rfl⟩
    | lk a b => cases e; exact ⟨_, .lk a b, .inl rfl⟩
    | tp a b => cases e; exact ⟨_, .tp a b, .inl rfl⟩
    | od a b c => cases e; exact ⟨_, .od a b c, .inl rfl⟩
  | @pk i h =>
    obtain ⟨w, e1, e2⟩ := s.sl i vl (at?_some e)
    rw [h] at e1
    cases e1
    exact ⟨φ i, e2, .inr ⟨i, rfl, rfl⟩⟩
theorem OwA.ct : ∀ {bs : List Addr} {dss : List (List D)}, OwA K W H bs dss → CtA K H (bs.map V.ref) (dss.map .list)
  | _, _, .nil => .nil
  | _, _, .cons h _ f r => .cons (.lst h f.ct) (OwA.ct r)
theorem RV.ct {d : D} (h : RV K W H v r l) (e : cur0 r = some d) : Ct K H v d := by
  cases h with
  | fz f => cases e; exact f.ct
  | ow a b c => cases e; exact .lst a c.ct
  | ow2 a b c nd => cases e; exact .lst a (OwA.ct c)
  | lk a b => cases e
  | tp a b => cases e; exact .tup a.sq b.ct
  | od a b c =>
    simp only [cur0, Option.some.injEq, List.map_map] at e
    subst e
    exact .dct a c.ct
theorem RX.ct (s : SS K W H σ ρ φ) (h : RX K W H σ v r l) {d : D} (e : cur ρ r = some d) : Ct K H v d := by
  unfold cur at e
  cases q : DL.nml ρ r with
  | none => rw [q] at e; cases e
  | some vl =>
    rw [q] at e
    obtain ⟨l', h', _⟩ := h.nml s q
    exact h'.ct e
/-- the value made fixed -/
def frz : Vl → Option D
  | .fz d => some d
  | .ow ds => some (.list ds)
  | .ow2 dss => some (.list (dss.map .list))
  | .od ks ds => some (.dict ((ks.map keyD).zip ds))
  | .tp ds => some (.tuple ds)
  | .lk _ => none
  | .pk _ => none
def Or (W : Addr → Prop) (l : List Addr) : Addr → Prop := fun a => W a ∨ a ∈ l
theorem Wxt.or : Wxt W H (Or W l) H := ⟨fun _ h => .inl h, fun _ _ h _ => h⟩
theorem OwA.frz {W1 : Addr → Prop} (x : ∀ a, W a → W1 a) : ∀ {bs : List Addr} {dss : List (List D)}, OwA K W H bs dss → (∀ b ∈ bs, W1 b) → FzA K W1 H (bs.map V.ref) (dss.map .list)
  | _, _, .nil, _ => .nil
  | _, _, .cons h _ f r, n => .cons (.lst (n _ List.mem_cons_self) h (f.xt ⟨x, fun _ _ q _ => q⟩)) (OwA.frz x r fun b hb => n b (List.mem_cons_of_mem _ hb))
theorem RV.frz {W1 : Addr → Prop} (x : ∀ a, W a → W1 a) (n : ∀ b ∈ l, W1 b) (h : RV K W H v r l) {d : D} (e : DL.frz r = some d) : Fz K W1 H v d := by
  have y : Wxt W H W1 H := ⟨x, fun _ _ q _ => q⟩
  cases h with
  | fz f => cases e; exact f.xt y
  | ow a b c => cases e; exact .lst (n _ List.mem_cons_self) a (c.xt y)
  | ow2 a b c nd => cases e; exact .lst (n _ List.mem_cons_self) a (OwA.frz x c fun b hb => n b (List.mem_cons_of_mem _ hb))
  | lk a b => cases e
  | tp a b => cases e; exact .tup a.sq (b.xt y)
  | od a b c =>
    simp only [DL.frz, Option.some.injEq, List.map_map] at e
    subst e
    exact .dct (n _ List.mem_cons_self) a (c.xt y)
theorem RX.frz {W1 : Addr → Prop} (x : ∀ a, W a → W1 a) (n : ∀ b ∈ l, W1 b) (h : RX K W H σ v r l) {d : D} (e : DL.frz r = some d) : Fz K W1 H v d := by
  cases h with
  | rv h => exact h.frz x n e
  | pk h => cases e
def frzA : List Vl → Option (List D)
  | [] => some []
  | r :: rs => match frz r, frzA rs with
    | some d, some ds => some (d :: ds)
    | _, _ => none
theorem RXs.frz {W1 : Addr → Prop} (x : ∀ a, W a → W1 a) : ∀ {vs : List V} {rs : List Vl} {l : List Addr}, RXs K W H σ vs rs l → (∀ b ∈ l, W1 b) → ∀ {ds : List D}, frzA rs = some ds → FzA K W1 H vs ds
  | _, _, _, .nil, _, _, e => by cases e; exact .nil
  | _, _, _, .cons h r d, n, _, e => by
    unfold frzA at e
    split at e
    · rename_i d' ds' e1 e2
      cases e
      exact .cons (h.frz x (fun b hb => n b (List.mem_append_left _ hb)) e1) (RXs.frz x r (fun b hb => n b (List.mem_append_right _ hb)) e2)
    · cases e
end

/-! ### an expression's function -/
abbrev DE := Rho → Option (Vl × Rho)
structure Out (K : PySem.W.Frag) (W : Addr → Prop) (H : Hp) (fp : Addr → Prop) (σ : L2.St) (ρ' : Rho) (r : Vl) (v : V) (W' : Addr → Prop) (H' : Hp) (φ' : Fp) (l : List Addr) : Prop where
  ev : Ev fp W H W' H'
  ss : SS K W' H' σ ρ' φ'
  rx : RX K W' H' σ v r l
  dj : ∀ a ∈ l, ¬ InF φ' a
  sub : ∀ a, InF φ' a → fp a ∨ H a = none
  subl : ∀ a ∈ l, fp a ∨ H a = none
structure OutA (K : PySem.W.Frag) (W : Addr → Prop) (H : Hp) (fp : Addr → Prop) (σ : L2.St) (ρ' : Rho) (rs : List Vl) (vs : List V) (W' : Addr → Prop) (H' : Hp) (φ' : Fp) (l : List Addr) : Prop where
  ev : Ev fp W H W' H'
  ss : SS K W' H' σ ρ' φ'
  rx : RXs K W' H' σ vs rs l
  dj : ∀ a ∈ l, ¬ InF φ' a
  sub : ∀ a, InF φ' a → fp a ∨ H a = none
  subl : ∀ a ∈ l, fp a ∨ H a = none
def tX (K : PySem.W.Frag) (f : DE) : TE := fun σ H Q => ∃ W ρ φ r ρ', SS K W H σ ρ φ ∧ f ρ = some (r, ρ') ∧ ∀ v W' H' φ' l, Out K W H (InF φ) σ ρ' r v W' H' φ' l → Q v H'
abbrev DA := Rho → Option (List Vl × Rho)
def tXA (K : PySem.W.Frag) (f : DA) : TA := fun σ H Q => ∃ W ρ φ rs ρ', SS K W H σ ρ φ ∧ f ρ = some (rs, ρ') ∧ ∀ vs W' H' φ' l, OutA K W H (InF φ) σ ρ' rs vs W' H' φ' l → Q vs H'
abbrev DT := Rho → Option (Bool × Rho)
structure OutT (K : PySem.W.Frag) (W : Addr → Prop) (H : Hp) (fp : Addr → Prop) (σ : L2.St) (ρ' : Rho) (W' : Addr → Prop) (H' : Hp) (φ' : Fp) : Prop where
  ev : Ev fp W H W' H'
  ss : SS K W' H' σ ρ' φ'
  sub : ∀ a, InF φ' a → fp a ∨ H a = none
def tXT (K : PySem.W.Frag) (f : DT) : TT := fun σ H Q => ∃ W ρ φ b ρ', SS K W H σ ρ φ ∧ f ρ = some (b, ρ') ∧ ∀ W' H' φ', OutT K W H (InF φ) σ ρ' W' H' φ' → Q b H'
abbrev PX (X : Cx) (e : Expr) (f : DE) : Prop := PE X e (tX X.K f)
abbrev PXA (X : Cx) (es : List Expr) (f : DA) : Prop := PA X es (tXA X.K f)
abbrev PXT (X : Cx) (e : Expr) (f : DT) : Prop := PT X e (tXT X.K f)
abbrev PXW (X : Cx) (e : Expr) (f : DT) : Prop := PW X e (tXT X.K f)
theorem PE.mono {X : Cx} {e : Expr} {t t' : TE} (h : PE X e t) (m : ∀ σ H Q, t' σ H Q → t σ H Q) : PE X e t' := ⟨fun pins s σ H Q I q => h.run pins s σ H Q I (m σ H Q q)⟩
theorem PA.mono {X : Cx} {e : List Expr} {t t' : TA} (h : PA X e t) (m : ∀ σ H Q, t' σ H Q → t σ H Q) : PA X e t' := ⟨fun pos pins s σ H Q I q => h.run pos pins s σ H Q I (m σ H Q q)⟩
theorem PT.mono {X : Cx} {e : Expr} {t t' : TT} (h : PT X e t) (m : ∀ σ H Q, t' σ H Q → t σ H Q) : PT X e t' := ⟨fun pins s σ H Q I q => h.run pins s σ H Q I (m σ H Q q)⟩
theorem PW.mono {X : Cx} {e : Expr} {t t' : TT} (h : PW X e t) (m : ∀ σ H Q, t' σ H Q → t σ H Q) : PW X e t' := ⟨fun wh pins s σ H Q I q => h.run wh pins s σ H Q I (m σ H Q q)⟩

section
variable {K : PySem.W.Frag} {W W1 W2 : Addr → Prop} {H H1 H2 : Hp} {fp : Addr → Prop} {σ : L2.St} {ρ ρ1 ρ2 : Rho} {φ φ1 φ2 : Fp} {r r2 : Vl} {v v2 : V} {l l2 : List Addr}
/-- two in a row -/
theorem Ev.then (a : Ev fp W H W1 H1) (sub : ∀ a, InF φ1 a → fp a ∨ H a = none) (b : Ev (InF φ1) W1 H1 W2 H2) : Ev fp W H W2 H2 := a.trans sub b
theorem sub2 (a : Ev fp W H W1 H1) (s1 : ∀ a, InF φ1 a → fp a ∨ H a = none) {p : Addr → Prop} (s2 : ∀ a, p a → InF φ1 a ∨ H1 a = none) (hfp : ∀ a, fp a → H a ≠ none) : ∀ x, p x → fp x ∨ H x = none := fun x h => by
  rcases s2 x h with q | q
  · exact s1 x q
  · cases e : H x with
    | none => exact .inr rfl
    | some o =>
      by_cases f : fp x
      · exact .inl f
      · rw [a.keep x o e fun z => absurd z f] at q; cases q
/-- a temporary stands through what follows -/
theorem RX.stay (rx : RX K W1 H1 σ v r l) (ss : SS K W1 H1 σ ρ1 φ1) (dj : ∀ a ∈ l, ¬ InF φ1 a) (e : Ev (InF φ1) W1 H1 W2 H2) : RX K W2 H2 σ v r l := rx.ev e (e.xt ss.notW) dj
theorem RXs.stay {vs : List V} {rs : List Vl} (rx : RXs K W1 H1 σ vs rs l) (ss : SS K W1 H1 σ ρ1 φ1) (dj : ∀ a ∈ l, ¬ InF φ1 a) (e : Ev (InF φ1) W1 H1 W2 H2) : RXs K W2 H2 σ vs rs l := rx.ev e (e.xt ss.notW) dj
/-- a temporary's objects are none of the slots' that follow -/
theorem dj2 (rx : RX K W1 H1 σ v r l) (dj : ∀ a ∈ l, ¬ InF φ1 a) {p : Addr → Prop} (sub : ∀ a, p a → InF φ1 a ∨ H1 a = none) : ∀ a ∈ l, ¬ p a := fun a h q => by
  rcases sub a q with z | z
  · exact dj a h z
  · obtain ⟨_, o, e, _⟩ := rx.own a h
    rw [z] at e; cases e
theorem dj2s {vs : List V} {rs : List Vl} (rx : RXs K W1 H1 σ vs rs l) (dj : ∀ a ∈ l, ¬ InF φ1 a) {p : Addr → Prop} (sub : ∀ a, p a → InF φ1 a ∨ H1 a = none) : ∀ a ∈ l, ¬ p a := fun a h q => by
  rcases sub a q with z | z
  · exact dj a h z
  · obtain ⟨_, o, e, _⟩ := rx.own a h
    rw [z] at e; cases e
/-- two values -/
theorem Out.two (s : SS K W H σ ρ φ) (o1 : Out K W H (InF φ) σ ρ1 r v W1 H1 φ1 l) (o2 : Out K W1 H1 (InF φ1) σ ρ2 r2 v2 W2 H2 φ2 l2) : OutA K W H (InF φ) σ ρ2 [r, r2] [v, v2] W2 H2 φ2 (l ++ l2) where
  ev := o1.ev.trans o1.sub o2.ev
  ss := o2.ss
  rx := .cons (o1.rx.stay o1.ss o1.dj o2.ev) (.one o2.rx) (dj2 (p := fun a => a ∈ l2) o1.rx o1.dj o2.subl)
  dj := fun a h => (List.mem_append.mp h).elim (dj2 o1.rx o1.dj o2.sub a) (o2.dj a)
  sub := sub2 o1.ev o1.sub o2.sub fun a => s.inH
  subl := fun a h => (List.mem_append.mp h).elim (o1.subl a) (sub2 (p := fun a => a ∈ l2) o1.ev o1.sub o2.subl (fun a => s.inH) a)
end
end DL

namespace DL
open PySem PySem.Spec PyProof.Rows L2

/-! ### scalars, contents with a locked root, items -/
inductive Sc : V → D → Prop
  | non : Sc .non .none
  | bl (b : Bool) : Sc (.bl b) (.bool b)
  | int (i : Int) : Sc (.int i) (.int i)
  | str (x : Str) : Sc (.str x) (.str x)
theorem Sc.fz {K W H v d} (h : Sc v d) : Fz K W H v d := by cases h <;> constructor
inductive CtR (K : PySem.W.Frag) (H : Hp) : V → D → Prop
  | ct {v d} : Ct K H v d → CtR K H v d
  | lk {a xs ds} : SqL K H a xs → CtA K H xs ds → CtR K H (.ref a) (.list ds)
inductive CtRA (K : PySem.W.Frag) (H : Hp) : List V → List D → Prop
  | nil : CtRA K H [] []
  | cons {v vs d ds} : CtR K H v d → CtRA K H vs ds → CtRA K H (v :: vs) (d :: ds)
mutual
theorem Ct.dp {K H} : ∀ {v : V} {d : D}, Ct K H v d → ∀ (h : SeqAt.shaped d = true ∨ PyData.canLay0 d = true), Dp K H v d
  | _, _, .non, _ => .non
  | _, _, .bl b, _ => .bl b
  | _, _, .int i, _ => .int i
  | _, _, .str x, _ => .str x
  | _, _, .lst h r, q => .lst (.of h) (CtA.dp r (by rcases q with q | q; exact PySem.SeqAt.canLay_of_shaped q; exact q))
  | _, _, .tup h r, q => .tup h (CtA.dp r (by rcases q with q | q; exact PySem.SeqAt.canLay_of_shaped q; exact q))
  | _, _, .dct _ _, q => by rcases q with q | q; exact nomatch PySem.SeqAt.canLay_of_shaped q; exact nomatch q
theorem CtA.dp {K H} : ∀ {vs : List V} {ds : List D}, CtA K H vs ds → PyData.canLayAll0 ds = true → DpAll K H vs ds
  | _, _, .nil, _ => .nil
  | _, _, .cons h r, q => by
    simp only [PyData.canLayAll0, Bool.and_eq_true] at q
    exact .cons (Ct.dp h (.inr q.1)) (CtA.dp r q.2)
end
theorem CtR.dp {K H v d} (h : CtR K H v d) (q : SeqAt.shaped d = true) : Dp K H v d := by
  cases h with
  | ct h => exact h.dp (.inl q)
  | lk h r => exact .lst h (r.dp (PySem.SeqAt.canLay_of_shaped q))
def curR0 : Vl → Option D
  | .lk ds => some (.list ds)
  | v => cur0 v
def curR (ρ : Rho) (v : Vl) : Option D := (nml ρ v).bind curR0
def curA (ρ : Rho) : List Vl → Option (List D)
  | [] => some []
  | r :: rs => (curR ρ r).bind fun d => (curA ρ rs).bind fun ds => some (d :: ds)
def curC (ρ : Rho) : List Vl → Option (List D)
  | [] => some []
  | r :: rs => (cur ρ r).bind fun d => (curC ρ rs).bind fun ds => some (d :: ds)
/-- the items of a list (true) or a tuple, all fixed -/
def itm0 : Vl → Option (Bool × List D)
  | .fz (.list ds) => some (true, ds)
  | .fz (.tuple ds) => some (false, ds)
  | .ow ds => some (true, ds)
  | .lk ds => some (true, ds)
  | .tp ds => some (false, ds)
  | _ => none
def itm (ρ : Rho) (v : Vl) : Option (Bool × List D) := (nml ρ v).bind itm0
section
variable {K : PySem.W.Frag} {W W1 W2 : Addr → Prop} {H H1 H2 : Hp} {σ : L2.St} {ρ ρ1 : Rho} {φ φ1 : Fp} {v : V} {r res : Vl} {l l2 : List Addr} {vs : List V} {rs : List Vl}
theorem RV.ctR {d : D} (h : RV K W H v r l) (e : curR0 r = some d) : CtR K H v d := by
  cases h with
  | lk a b => cases e; exact .lk a.sq b.ct
  | fz f => exact .ct (RV.ct (.fz f) e)
  | ow a b c => exact .ct (RV.ct (.ow a b c) e)
  | ow2 a b c n => exact .ct (RV.ct (.ow2 a b c n) e)
  | od a b c => exact .ct (RV.ct (.od a b c) e)
  | tp a b => exact .ct (RV.ct (.tp a b) e)
theorem RX.ctR (s : SS K W H σ ρ φ) (h : RX K W H σ v r l) {d : D} (e : curR ρ r = some d) : CtR K H v d := by
  unfold curR at e
  cases q : DL.nml ρ r with
  | none => rw [q] at e; cases e
  | some vl =>
    rw [q] at e
    obtain ⟨l', h', _⟩ := h.nml s q
    exact h'.ctR e
theorem RXs.ctR (s : SS K W H σ ρ φ) : ∀ {vs : List V} {rs : List Vl} {l : List Addr}, RXs K W H σ vs rs l → ∀ {ds : List D}, curA ρ rs = some ds → CtRA K H vs ds
  | _, _, _, .nil, _, e => by cases e; exact .nil
  | _, _, _, .cons h t _, _, e => by
    unfold curA at e
    obtain ⟨d, e1, e⟩ := Option.bind_eq_some_iff.mp e
    obtain ⟨ds, e2, e⟩ := Option.bind_eq_some_iff.mp e
    cases e
    exact .cons (h.ctR s e1) (RXs.ctR s t e2)
theorem RXs.ct (s : SS K W H σ ρ φ) : ∀ {vs : List V} {rs : List Vl} {l : List Addr}, RXs K W H σ vs rs l → ∀ {ds : List D}, curC ρ rs = some ds → CtA K H vs ds
  | _, _, _, .nil, _, e => by cases e; exact .nil
  | _, _, _, .cons h t _, _, e => by
    unfold curC at e
    obtain ⟨d, e1, e⟩ := Option.bind_eq_some_iff.mp e
    obtain ⟨ds, e2, e⟩ := Option.bind_eq_some_iff.mp e
    cases e
    exact .cons (h.ct s e1) (RXs.ct s t e2)
def noOwn : Vl → Prop
  | .fz _ => True
  | .lk _ => True
  | .tp _ => True
  | _ => False
theorem RV.nil_of (h : RV K W H v r l) (q : noOwn r) : l = [] := by
  cases h <;> first | rfl | exact q.elim
/-- items: the object and its fixed items -/
theorem RV.itm {b : Bool} {ds : List D} (h : RV K W H v r l) (e : itm0 r = some (b, ds)) : ∃ a xs, v = .ref a ∧ (if b then SqL K H a xs else SqT K H a xs) ∧ FzA K W H xs ds := by
  cases h with
  | fz f =>
    cases f with
    | lst w h r => cases e; exact ⟨_, _, rfl, .of h, r⟩
    | tup h r => cases e; exact ⟨_, _, rfl, h, r⟩
    | non => cases e
    | bl => cases e
    | int => cases e
    | str => cases e
    | dct => cases e
  | ow h w f => cases e; exact ⟨_, _, rfl, .of h, f⟩
  | ow2 => cases e
  | lk h f => cases e; exact ⟨_, _, rfl, h.sq, f⟩
  | tp h f => cases e; exact ⟨_, _, rfl, h.sq, f⟩
  | od => cases e
theorem RX.itm (s : SS K W H σ ρ φ) (h : RX K W H σ v r l) {b : Bool} {ds : List D} (e : DL.itm ρ r = some (b, ds)) : ∃ a xs, v = .ref a ∧ (if b then SqL K H a xs else SqT K H a xs) ∧ FzA K W H xs ds := by
  unfold DL.itm at e
  cases q : DL.nml ρ r with
  | none => rw [q] at e; cases e
  | some vl =>
    rw [q] at e
    obtain ⟨l', h', _⟩ := h.nml s q
    exact h'.itm e
/-- behind the operands: the operation's own step -/
theorem OutA.op (s : SS K W H σ ρ φ) (o : OutA K W H (InF φ) σ ρ1 rs vs W1 H1 φ1 l) (ev : Ev (fun a => a ∈ l) W1 H1 W2 H2) (wf : ∀ a, W2 a → ∃ o, H2 a = some o) (rv : RV K W2 H2 v res l2) (sub : ∀ a ∈ l2, a ∈ l ∨ H1 a = none) :
    Out K W H (InF φ) σ ρ1 res v W2 H2 φ1 l2 where
  ev := o.ev.trans o.subl ev
  ss := o.ss.ev ev (ev.xt fun a h => (o.rx.own a h).1) (fun a h q => o.dj a q h) wf
  rx := .rv rv
  dj := fun a h q => (sub a h).elim (fun z => o.dj a z q) fun z => o.ss.inH q z
  sub := o.sub
  subl := fun a h => (sub a h).elim (o.subl a) fun z => by
    cases e : H a with
    | none => exact .inr rfl
    | some ob =>
      by_cases f : InF φ a
      · exact .inl f
      · rw [o.ev.keep a ob e fun z => absurd z f] at z; cases z
end

/-! ### operations by values -/
def VOp (K : PySem.W.Frag) (r : List V → Hp → VK → Prop) (F : Rho → List Vl → Option Vl) : Prop :=
  ∀ W H σ ρ φ vs rs l res Q, SS K W H σ ρ φ → RXs K W H σ vs rs l → (∀ a ∈ l, ¬ InF φ a) → F ρ rs = some res →
    (∀ v W' H' l', Ev (fun a => a ∈ l) W H W' H' → (∀ a, W' a → ∃ o, H' a = some o) → RV K W' H' v res l' → (∀ a ∈ l', a ∈ l ∨ H a = none) → Q v H') → r vs H Q
/-- two operands as a list -/
def r2L (r : R2) : List V → Hp → VK → Prop := fun vs H Q => ∃ x y, vs = [x, y] ∧ r x y H Q
def r1L (r : V → Hp → VK → Prop) : List V → Hp → VK → Prop := fun vs H Q => ∃ x, vs = [x] ∧ r x H Q
def ctF (F : List D → Option D) : Rho → List Vl → Option Vl := fun ρ rs => (curA ρ rs).bind fun ds => (F ds).bind fun z => some (.fz z)
theorem vop_ct {K r F} (h : ∀ H vs ds z Q, CtRA K H vs ds → F ds = some z → (∀ v, Sc v z → Q v H) → r vs H Q) : VOp K r (ctF F) := by
  intro W H σ ρ φ vs rs l res Q s rx dj e k
  unfold ctF at e
  obtain ⟨ds, e1, e⟩ := Option.bind_eq_some_iff.mp e
  obtain ⟨z, e2, e⟩ := Option.bind_eq_some_iff.mp e
  cases e
  exact h H vs ds z Q (rx.ctR s e1) e2 fun v hv => k v W H [] (Ev.refl ..) s.wf (.fz hv.fz) fun a h => nomatch h
/-- a new list, tuple of fixed items -/
theorem new_list {K W H} {Q : VK} {xs ds} {fp : Addr → Prop} (f : FzA K W H xs ds) (wf : ∀ a, W a → ∃ o, H a = some o) (k : ∀ v W' H' l', Ev fp W H W' H' → (∀ a, W' a → ∃ o, H' a = some o) → RV K W' H' v (.ow ds) l' → (∀ a ∈ l', fp a ∨ H a = none) → Q v H') :
    ∀ p, H p = none → Q (.ref p) (upd H p (.lst xs)) := fun p np => by
  have up : ∀ a o, H a = some o → upd H p (.lst xs) a = some o := fun a o e => by rw [upd_ne (ne_of_none e np)]; exact e
  refine k (.ref p) W _ [p] (Ev.grow up) (fun a w => ?_) (.ow upd_same (fun w => ?_) (f.xt ⟨fun _ h => h, fun a o e _ => up a o e⟩)) fun a h => ?_
  · obtain ⟨o, e⟩ := wf a w; exact ⟨o, up a o e⟩
  · obtain ⟨o, e⟩ := wf p w; rw [np] at e; cases e
  · obtain rfl := List.mem_singleton.mp h; exact .inr np
theorem new_tuple {K W H} {Q : VK} {xs ds} {fp : Addr → Prop} (f : FzA K W H xs ds) (wf : ∀ a, W a → ∃ o, H a = some o) (k : ∀ v W' H' l', Ev fp W H W' H' → (∀ a, W' a → ∃ o, H' a = some o) → RV K W' H' v (.fz (.tuple ds)) l' → (∀ a ∈ l', fp a ∨ H a = none) → Q v H') :
    ∀ p, H p = none → Q (.ref p) (upd H p (.tup xs)) := fun p np => by
  have up : ∀ a o, H a = some o → upd H p (.tup xs) a = some o := fun a o e => by rw [upd_ne (ne_of_none e np)]; exact e
  refine k (.ref p) W _ [] (Ev.grow up) (fun a w => ?_) (.fz (.tup (.of upd_same) (f.xt ⟨fun _ h => h, fun a o e _ => up a o e⟩))) fun a h => nomatch h
  obtain ⟨o, e⟩ := wf a w; exact ⟨o, up a o e⟩

/-! ### expressions -/
def nmE (i : Nat) : DE := fun ρ => match ρ[i]? with
  | some (some (.fz d)) => some (.fz d, ρ)
  | some (some (.lk d)) => some (.lk d, ρ)
  | some (some (.tp d)) => some (.tp d, ρ)
  | some (some _) => some (.pk i, ρ)
  | _ => none
def cE (d : D) : DE := fun ρ => some (.fz d, ρ)
def nilA : DA := fun ρ => some ([], ρ)
def consA (f : DE) (fs : DA) : DA := fun ρ => (f ρ).bind fun p => (fs p.2).bind fun q => some (p.1 :: q.1, q.2)
def opE (F : Rho → List Vl → Option Vl) (fs : DA) : DE := fun ρ => (fs ρ).bind fun p => (F p.2 p.1).bind fun z => some (z, p.2)
def bT (f : DE) : DT := fun ρ => (f ρ).bind fun p => match p.1 with
  | .fz (.bool b) => some (b, p.2)
  | _ => none
def tB (f : DT) : DE := fun ρ => (f ρ).bind fun p => some (.fz (.bool p.1), p.2)
def andT (f g : DT) : DT := fun ρ => (f ρ).bind fun p => if p.1 = true then g p.2 else some (false, p.2)
def orT (f g : DT) : DT := fun ρ => (f ρ).bind fun p => if p.1 = true then some (true, p.2) else g p.2
def notT (f : DT) : DT := fun ρ => (f ρ).bind fun p => some (!p.1, p.2)
def ifE (c : DT) (f g : DE) : DE := fun ρ => (c ρ).bind fun p => if p.1 = true then f p.2 else g p.2
section
variable {K : PySem.W.Frag} {W W1 W2 : Addr → Prop} {H H1 H2 : Hp} {σ : L2.St} {ρ ρ1 ρ2 : Rho} {φ φ1 φ2 : Fp}
theorem Out.same (s : SS K W H σ ρ φ) {v r l} (rx : RX K W H σ v r l) (dj : ∀ a ∈ l, ¬ InF φ a) (hl : l = []) : Out K W H (InF φ) σ ρ r v W H φ l :=
  ⟨Ev.refl .., s, rx, dj, fun _ h => .inl h, fun a h => by rw [hl] at h; cases h⟩
theorem Out.then (s : SS K W H σ ρ φ) {r v l} (o1 : OutT K W H (InF φ) σ ρ1 W1 H1 φ1) (o2 : Out K W1 H1 (InF φ1) σ ρ2 r v W2 H2 φ2 l) : Out K W H (InF φ) σ ρ2 r v W2 H2 φ2 l :=
  ⟨o1.ev.trans o1.sub o2.ev, o2.ss, o2.rx, o2.dj, sub2 o1.ev o1.sub o2.sub fun a => s.inH, sub2 (p := fun a => a ∈ l) o1.ev o1.sub o2.subl fun a => s.inH⟩
theorem OutT.then (s : SS K W H σ ρ φ) (o1 : OutT K W H (InF φ) σ ρ1 W1 H1 φ1) (o2 : OutT K W1 H1 (InF φ1) σ ρ2 W2 H2 φ2) : OutT K W H (InF φ) σ ρ2 W2 H2 φ2 :=
  ⟨o1.ev.trans o1.sub o2.ev, o2.ss, sub2 o1.ev o1.sub o2.sub fun a => s.inH⟩
theorem Out.t {r v l fp} (o : Out K W H fp σ ρ1 r v W1 H1 φ1 l) : OutT K W H fp σ ρ1 W1 H1 φ1 := ⟨o.ev, o.ss, o.sub⟩
theorem OutT.refl (s : SS K W H σ ρ φ) : OutT K W H (InF φ) σ ρ W H φ := ⟨Ev.refl .., s, fun _ h => .inl h⟩
end
section
variable {X : Cx} {a b c e : Expr} {es : List Expr} {f g : DE} {fs : DA} {c1 c2 : DT} {pos : Pos} {rest : List Expr}
theorem px_name (i : Nat) {x : Str} (hN : X.N[i]? = some x := by rfl) (hv : Vis X.env.scope x := by first | exact Or.inl rfl | exact Or.inr (Or.inl rfl) | exact Or.inr (Or.inr rfl)) (hd : (x == ("__debug__" : Str)) = false := by decide)
    (hcd : (x == ("__classdict__" : Str)) = false := by decide) : PX X (.Name x pos) (nmE i) := by
  refine PE.mono (pe_var hN hv hd hcd) ?_
  rintro σ H Q ⟨W, ρ, φ, r, ρ', s, hf, k⟩
  unfold nmE at hf
  split at hf
  · rename_i d e
    cases hf
    obtain ⟨v, e1, rv⟩ := s.sl i _ e
    have z : φ i = [] := rv.nil_of (by trivial)
    rw [z] at rv
    exact ⟨v, e1, k v W H φ [] (.same s (.rv rv) (fun a h => nomatch h) rfl)⟩
  · rename_i d e
    cases hf
    obtain ⟨v, e1, rv⟩ := s.sl i _ e
    have z : φ i = [] := rv.nil_of (by trivial)
    rw [z] at rv
    exact ⟨v, e1, k v W H φ [] (.same s (.rv rv) (fun a h => nomatch h) rfl)⟩
  · rename_i d e
    cases hf
    obtain ⟨v, e1, rv⟩ := s.sl i _ e
    have z : φ i = [] := rv.nil_of (by trivial)
    rw [z] at rv
    exact ⟨v, e1, k v W H φ [] (.same s (.rv rv) (fun a h => nomatch h) rfl)⟩
  · rename_i vl _ _ _ e
    cases hf
    obtain ⟨v, e1, rv⟩ := s.sl i _ e
    exact ⟨v, e1, k v W H φ [] (.same s (.pk e1) (fun a h => nomatch h) rfl)⟩
  · cases hf
theorem px_const {t : TE} {v : V} {d : D} (h : PE X e (tC v)) (sc : Sc v d) : PX X e (cE d) := by
  refine PE.mono h ?_
  rintro σ H Q ⟨W, ρ, φ, r, ρ', s, hf, k⟩
  cases hf
  exact k v W H φ [] (.same s (.rv (.fz sc.fz)) (fun a h => nomatch h) rfl)
theorem px_int {i j pos} : PX X (.Constant (.int i) j pos) (cE (.int i)) := px_const (t := tC (.int i)) pe_int (.int i)
theorem px_bl {i j pos} : PX X (.Constant (.bool i) j pos) (cE (.bool i)) := px_const (t := tC (.bl i)) pe_bl (.bl i)
theorem px_str {i j pos} : PX X (.Constant (.str i) j pos) (cE (.str i)) := px_const (t := tC (.str i)) pe_str (.str i)
theorem px_non {j pos} : PX X (.Constant .none j pos) (cE .none) := px_const (t := tC .non) pe_non .non
/-- a module's constant: an int, a text -/
theorem px_glob {x : Str} {v : V} {d : D} {u : Value} (hg : Gl X x) (hm : X.mg x = some u) (r : RelV v u) (sc : Sc v d) (hd : (x == ("__debug__" : Str)) = false := by decide) : PX X (.Name x pos) (cE d) := px_const (t := tC v) (pe_glob hg hm r hd) sc
theorem pxa_nil : PXA X [] nilA := by
  refine PA.mono pa_nil ?_
  rintro σ H Q ⟨W, ρ, φ, r, ρ', s, hf, k⟩
  cases hf
  exact k [] W H φ [] ⟨Ev.refl .., s, .nil, (fun a h => nomatch h), fun _ h => .inl h, (fun a h => nomatch h)⟩
theorem pxa_cons (ha : PX X e f) (hr : PXA X es fs) (hs : starEach (e :: es) X.env = (false, eval e X.env) :: starEach es X.env := by rfl) : PXA X (e :: es) (consA f fs) := by
  refine PA.mono (pa_cons ha hr hs) ?_
  rintro σ H Q ⟨W, ρ, φ, r, ρ', s, hf, k⟩
  unfold consA at hf
  obtain ⟨⟨x, ρ1⟩, e1, hf⟩ := Option.bind_eq_some_iff.mp hf
  obtain ⟨⟨xs, ρ2⟩, e2, hf⟩ := Option.bind_eq_some_iff.mp hf
  cases hf
  refine ⟨W, ρ, φ, x, ρ1, s, e1, fun v W1 H1 φ1 l o1 => ?_⟩
  refine ⟨W1, ρ1, φ1, xs, _, o1.ss, e2, fun vs W2 H2 φ2 ls o2 => ?_⟩
  refine k (v :: vs) W2 H2 φ2 (l ++ ls) ⟨o1.ev.trans o1.sub o2.ev, o2.ss, .cons (o1.rx.stay o1.ss o1.dj o2.ev) o2.rx (dj2 (p := fun a => a ∈ ls) o1.rx o1.dj o2.subl), fun a h => ?_, sub2 o1.ev o1.sub o2.sub fun a => s.inH, fun a h => ?_⟩
  · exact (List.mem_append.mp h).elim (dj2 o1.rx o1.dj o2.sub a) (o2.dj a)
  · exact (List.mem_append.mp h).elim (o1.subl a) (sub2 (p := fun a => a ∈ ls) o1.ev o1.sub o2.subl (fun a => s.inH) a)
/-- a built-in function's call -/
theorem px_callB {id : String} {r : List V → Hp → VK → Prop} {F : Rho → List Vl → Option Vl} {x : Str} {p : Pos} (hc : CallR X (.builtin id) r) (vo : VOp X.K r F) (hg : Gl X x) (hm : X.mg x = none) (hv : bootBuiltins x = some (.builtin id)) (ha : PXA X (e :: es) fs)
    (hn : x ≠ "__name__" := by decide) (hdb : (x == ("__debug__" : Str)) = false := by decide) (he : starEach (e :: es) X.env = (false, eval e X.env) :: starEach es X.env := by rfl) (hpl : (backTo pos (starEach es X.env)).any (·.1) = false := by rfl) :
    PX X (.Call (.Name x p) (e :: es) [] pos) (opE F fs) := by
  refine PE.mono (pe_callB hc hg hm hv ha hn hdb he hpl) ?_
  rintro σ H Q ⟨W, ρ, φ, r, ρ', s, hf, k⟩
  unfold opE at hf
  obtain ⟨⟨rs, ρ1⟩, e1, hf⟩ := Option.bind_eq_some_iff.mp hf
  obtain ⟨z, e2, hf⟩ := Option.bind_eq_some_iff.mp hf
  cases hf
  refine ⟨W, ρ, φ, rs, ρ1, s, e1, fun vs W1 H1 φ1 l o => ?_⟩
  exact vo W1 H1 σ ρ1 φ1 vs rs l _ Q o.ss o.rx o.dj e2 fun v W2 H2 l2 ev wf rv sub => k v W2 H2 φ1 l2 (o.op s ev wf rv sub)
theorem px_callTy {id : String} {r : List V → Hp → VK → Prop} {F : Rho → List Vl → Option Vl} {x : Str} {p : Pos} (hc : CallR X (.type id) r) (vo : VOp X.K r F) (hg : Gl X x) (hm : X.mg x = none) (hv : bootBuiltins x = some (.type id)) (ha : PXA X (e :: es) fs)
    (hn : x ≠ "__name__" := by decide) (hdb : (x == ("__debug__" : Str)) = false := by decide) (he : starEach (e :: es) X.env = (false, eval e X.env) :: starEach es X.env := by rfl) (hpl : (backTo pos (starEach es X.env)).any (·.1) = false := by rfl) :
    PX X (.Call (.Name x p) (e :: es) [] pos) (opE F fs) := by
  refine PE.mono (pe_callTy hc hg hm hv ha hn hdb he hpl) ?_
  rintro σ H Q ⟨W, ρ, φ, r, ρ', s, hf, k⟩
  unfold opE at hf
  obtain ⟨⟨rs, ρ1⟩, e1, hf⟩ := Option.bind_eq_some_iff.mp hf
  obtain ⟨z, e2, hf⟩ := Option.bind_eq_some_iff.mp hf
  cases hf
  refine ⟨W, ρ, φ, rs, ρ1, s, e1, fun vs W1 H1 φ1 l o => ?_⟩
  exact vo W1 H1 σ ρ1 φ1 vs rs l _ Q o.ss o.rx o.dj e2 fun v W2 H2 l2 ev wf rv sub => k v W2 H2 φ1 l2 (o.op s ev wf rv sub)
/-- two operands -/
theorem tX_two {K : PySem.W.Frag} {F : Rho → List Vl → Option Vl} {r : R2} (vo : VOp K (r2L r) F) {σ : L2.St} {H : Hp} {Q : VK} (h : tX K (opE F (consA f (consA g nilA))) σ H Q) : tX K f σ H fun x H1 => tX K g σ H1 fun y H2 => r x y H2 Q := by
  obtain ⟨W, ρ, φ, r, ρ', s, hf, k⟩ := h
  unfold opE consA nilA at hf
  obtain ⟨⟨rs, ρ2⟩, q1, hf⟩ := Option.bind_eq_some_iff.mp hf
  obtain ⟨z, e3, hf⟩ := Option.bind_eq_some_iff.mp hf
  cases hf
  obtain ⟨⟨x, ρ1⟩, e1, hf⟩ := Option.bind_eq_some_iff.mp q1
  obtain ⟨⟨xs, ρ3⟩, q2, hf⟩ := Option.bind_eq_some_iff.mp hf
  cases hf
  obtain ⟨⟨y, ρ4⟩, e2, hf⟩ := Option.bind_eq_some_iff.mp q2
  cases hf
  refine ⟨W, ρ, φ, x, ρ1, s, e1, fun v W1 H1 φ1 l o1 => ?_⟩
  refine ⟨W1, ρ1, φ1, y, _, o1.ss, e2, fun v2 W2 H2 φ2 l2 o2 => ?_⟩
  have o := Out.two s o1 o2
  obtain ⟨x', y', q, q'⟩ := vo W2 H2 σ _ φ2 [v, v2] [x, y] _ _ Q o.ss o.rx o.dj e3 fun v W2 H2 l2 ev wf rv sub => k v W2 H2 _ l2 (o.op s ev wf rv sub)
  cases q
  exact q'
theorem px_op {op : Operator} {r : R2} {F : Rho → List Vl → Option Vl} (ho : OpR X (binaryOp op) r) (vo : VOp X.K (r2L r) F) (ha : PX X a f) (hb : PX X b g) : PX X (.BinOp a op b pos) (opE F (consA f (consA g nilA))) :=
  PE.mono (pe_op ho ha hb) fun _ _ _ h => tX_two vo h
theorem px_cmp {op : CmpOp} {r : R2} {F : Rho → List Vl → Option Vl} (ho : OpR X (compareOp op) r) (vo : VOp X.K (r2L r) F) (ha : PX X a f) (hb : PX X b g) (hm : behindInMarks op b = false := by first | rfl | exact nomark _) : PX X (.Compare a [op] [b] pos) (opE F (consA f (consA g nilA))) :=
  PE.mono (pe_cmpR ho ha hb hm) fun _ _ _ h => tX_two vo h
theorem px_ix {r : R2} {F : Rho → List Vl → Option Vl} (ho : IxR X r) (vo : VOp X.K (r2L r) F) (ha : PX X a f) (hb : PX X b g) (hs : PlainIx b := by intro _ _; rfl) : PX X (.Subscript a b pos) (opE F (consA f (consA g nilA))) :=
  PE.mono (pe_ix ho ha hb hs) fun _ _ _ h => tX_two vo h
theorem px_un {op : UnaryOp} {r : V → Hp → VK → Prop} {F : Rho → List Vl → Option Vl} (ho : UnR X (unaryOp op) r) (vo : VOp X.K (r1L r) F) (ha : PX X a f) : PX X (.UnaryOp op a pos) (opE F (consA f nilA)) := by
  refine PE.mono (pe_un ho ha) ?_
  rintro σ H Q ⟨W, ρ, φ, r, ρ', s, hf, k⟩
  unfold opE consA nilA at hf
  obtain ⟨⟨rs, ρ2⟩, q1, hf⟩ := Option.bind_eq_some_iff.mp hf
  obtain ⟨z, e3, hf⟩ := Option.bind_eq_some_iff.mp hf
  cases hf
  obtain ⟨⟨x, ρ1⟩, e1, hf⟩ := Option.bind_eq_some_iff.mp q1
  cases hf
  refine ⟨W, ρ, φ, x, _, s, e1, fun v W1 H1 φ1 l o1 => ?_⟩
  have o : OutA X.K W H (InF φ) σ _ [x] [v] W1 H1 φ1 l := ⟨o1.ev, o1.ss, .one o1.rx, o1.dj, o1.sub, o1.subl⟩
  obtain ⟨x', q, q'⟩ := vo W1 H1 σ _ φ1 [v] [x] _ _ Q o.ss o.rx o.dj e3 fun v W2 H2 l2 ev wf rv sub => k v W2 H2 _ l2 (o.op s ev wf rv sub)
  cases q
  exact q'
/-! tests -/
theorem RX.bool {K : PySem.W.Frag} {W : Addr → Prop} {H : Hp} {σ : L2.St} {v : V} {b : Bool} {l : List Addr} (h : RX K W H σ v (.fz (.bool b)) l) : v = .bl b := by
  cases h with
  | rv h => cases h with
    | fz h => cases h; rfl
theorem bT_inv {f : DE} {ρ ρ' : Rho} {b : Bool} (h : bT f ρ = some (b, ρ')) : f ρ = some (.fz (.bool b), ρ') := by
  unfold bT at h
  obtain ⟨⟨x, ρ1⟩, e1, h⟩ := Option.bind_eq_some_iff.mp h
  split at h
  · rename_i b' e; cases h; rw [e1]; cases e; rfl
  · cases h
theorem tX_bT {K : PySem.W.Frag} {σ : L2.St} {H : Hp} {Q : Bool → Hp → Prop} (h : tXT K (bT f) σ H Q) : tX K f σ H fun x H1 => ∃ c, x = .bl c ∧ Q c H1 := by
  obtain ⟨W, ρ, φ, r, ρ', s, hf, k⟩ := h
  refine ⟨W, ρ, φ, _, ρ', s, bT_inv hf, fun v W1 H1 φ1 l o => ⟨r, o.rx.bool, k W1 H1 φ1 o.t⟩⟩
theorem pxt_val (h : PX X e f) (he : ∀ whole, isTrue e X.env whole = (do let v ← whole; standAt e.pos; holding [v] (truthy v)) := by intro _; rfl) : PXT X e (bT f) := PT.mono (pt_val h he) fun _ _ _ h => tX_bT h
theorem pxt_cmp {op : CmpOp} {r : R2} {F : Rho → List Vl → Option Vl} (ho : OpR X (compareOp op) r) (vo : VOp X.K (r2L r) F) (ha : PX X a f) (hb : PX X b g) (hm : behindInMarks op b = false := by first | rfl | exact nomark _) : PXT X (.Compare a [op] [b] pos) (bT (opE F (consA f (consA g nilA)))) :=
  PT.mono (pt_cmpR ho ha hb hm) fun _ _ _ h => tX_two vo (tX_bT h)
theorem pxt_not (h : PXT X a c1) : PXT X (.UnaryOp .Not a pos) (notT c1) := by
  refine PT.mono (pt_not h) ?_
  rintro σ H Q ⟨W, ρ, φ, b, ρ', s, hf, k⟩
  unfold notT at hf
  obtain ⟨⟨x, ρ1⟩, e1, hf⟩ := Option.bind_eq_some_iff.mp hf
  cases hf
  exact ⟨W, ρ, φ, x, _, s, e1, fun W1 H1 φ1 o => k W1 H1 φ1 o⟩
theorem pxw_and1 (ha : PXT X a c1) : PXW X (.BoolOp .And [a] pos) c1 := pw_and1 ha
theorem pxw_or1 (ha : PXT X a c1) : PXW X (.BoolOp .Or [a] pos) c1 := pw_or1 ha
theorem pxw_and (ha : PXT X a c1) (hb : PXW X (.BoolOp .And (b :: rest) pos) c2) : PXW X (.BoolOp .And (a :: b :: rest) pos) (andT c1 c2) := by
  refine PW.mono (pw_and ha hb) ?_
  rintro σ H Q ⟨W, ρ, φ, b, ρ', s, hf, k⟩
  unfold andT at hf
  obtain ⟨⟨x, ρ1⟩, e1, hf⟩ := Option.bind_eq_some_iff.mp hf
  refine ⟨W, ρ, φ, x, ρ1, s, e1, fun W1 H1 φ1 o => ?_⟩
  cases x with
  | true =>
    rw [if_pos rfl]
    simp only [if_true] at hf
    exact ⟨W1, ρ1, φ1, b, ρ', o.ss, hf, fun W2 H2 φ2 o2 => k W2 H2 φ2 (o.then s o2)⟩
  | false =>
    rw [if_neg Bool.false_ne_true]
    simp only [Bool.false_eq_true, if_false, Option.some.injEq, Prod.mk.injEq] at hf
    obtain ⟨rfl, rfl⟩ := hf
    exact k W1 H1 φ1 o
theorem pxw_or (ha : PXT X a c1) (hb : PXW X (.BoolOp .Or (b :: rest) pos) c2) : PXW X (.BoolOp .Or (a :: b :: rest) pos) (orT c1 c2) := by
  refine PW.mono (pw_or ha hb) ?_
  rintro σ H Q ⟨W, ρ, φ, b, ρ', s, hf, k⟩
  unfold orT at hf
  obtain ⟨⟨x, ρ1⟩, e1, hf⟩ := Option.bind_eq_some_iff.mp hf
  refine ⟨W, ρ, φ, x, ρ1, s, e1, fun W1 H1 φ1 o => ?_⟩
  cases x with
  | false =>
    rw [if_neg Bool.false_ne_true]
    simp only [Bool.false_eq_true, if_false] at hf
    exact ⟨W1, ρ1, φ1, b, ρ', o.ss, hf, fun W2 H2 φ2 o2 => k W2 H2 φ2 (o.then s o2)⟩
  | true =>
    rw [if_pos rfl]
    simp only [if_true, Option.some.injEq, Prod.mk.injEq] at hf
    obtain ⟨rfl, rfl⟩ := hf
    exact k W1 H1 φ1 o
theorem PXW.t (h : PXW X e c1) : PXT X e c1 := PW.pt h
/-! the same as values -/
theorem tB_inv {f : DT} {ρ ρ' : Rho} {r : Vl} (h : tB f ρ = some (r, ρ')) : ∃ b, f ρ = some (b, ρ') ∧ r = .fz (.bool b) := by
  unfold tB at h
  obtain ⟨⟨x, ρ1⟩, e1, h⟩ := Option.bind_eq_some_iff.mp h
  cases h
  exact ⟨x, e1, rfl⟩
theorem px_one {op} (h : PX X a f) : PX X (.BoolOp op [a] pos) f := pe_one h
theorem px_and (ha : PX X a f) (hb : PX X (.BoolOp .And (b :: rest) pos) (tB c2)) : PX X (.BoolOp .And (a :: b :: rest) pos) (tB (andT (bT f) c2)) := by
  refine PE.mono (pe_and ha hb) ?_
  rintro σ H Q ⟨W, ρ, φ, r, ρ', s, hf, k⟩
  obtain ⟨b, hg, rfl⟩ := tB_inv hf
  unfold andT at hg
  obtain ⟨⟨x, ρ1⟩, e1, hg⟩ := Option.bind_eq_some_iff.mp hg
  refine tX_bT ⟨W, ρ, φ, x, ρ1, s, e1, fun W1 H1 φ1 o => ?_⟩
  cases x with
  | true =>
    rw [if_pos rfl]
    simp only [if_true] at hg
    refine ⟨W1, ρ1, φ1, .fz (.bool b), ρ', o.ss, by unfold tB; rw [hg]; rfl, fun v W2 H2 φ2 l o2 => k v W2 H2 φ2 l (.then s o o2)⟩
  | false =>
    rw [if_neg Bool.false_ne_true]
    simp only [Bool.false_eq_true, if_false, Option.some.injEq, Prod.mk.injEq] at hg
    obtain ⟨rfl, rfl⟩ := hg
    exact k (.bl false) W1 H1 φ1 [] (.then s o (.same o.ss (.rv (.fz (.bl _))) (fun a h => nomatch h) rfl))
theorem px_or (ha : PX X a f) (hb : PX X (.BoolOp .Or (b :: rest) pos) (tB c2)) : PX X (.BoolOp .Or (a :: b :: rest) pos) (tB (orT (bT f) c2)) := by
  refine PE.mono (pe_or ha hb) ?_
  rintro σ H Q ⟨W, ρ, φ, r, ρ', s, hf, k⟩
  obtain ⟨b, hg, rfl⟩ := tB_inv hf
  unfold orT at hg
  obtain ⟨⟨x, ρ1⟩, e1, hg⟩ := Option.bind_eq_some_iff.mp hg
  refine tX_bT ⟨W, ρ, φ, x, ρ1, s, e1, fun W1 H1 φ1 o => ?_⟩
  cases x with
  | false =>
    rw [if_neg Bool.false_ne_true]
    simp only [Bool.false_eq_true, if_false] at hg
    refine ⟨W1, ρ1, φ1, .fz (.bool b), ρ', o.ss, by unfold tB; rw [hg]; rfl, fun v W2 H2 φ2 l o2 => k v W2 H2 φ2 l (.then s o o2)⟩
  | true =>
    rw [if_pos rfl]
    simp only [if_true, Option.some.injEq, Prod.mk.injEq] at hg
    obtain ⟨rfl, rfl⟩ := hg
    exact k (.bl true) W1 H1 φ1 [] (.then s o (.same o.ss (.rv (.fz (.bl _))) (fun a h => nomatch h) rfl))
/-- a value that is True or False, as such -/
theorem px_tB (h : PX X e f) : PX X e (tB (bT f)) := by
  refine PE.mono h ?_
  rintro σ H Q ⟨W, ρ, φ, r, ρ', s, hf, k⟩
  obtain ⟨b, hg, rfl⟩ := tB_inv hf
  exact ⟨W, ρ, φ, _, ρ', s, bT_inv hg, k⟩
theorem px_not (h : PX X a f) : PX X (.UnaryOp .Not a pos) (tB (notT (bT f))) := by
  refine PE.mono (pe_not h) ?_
  rintro σ H Q ⟨W, ρ, φ, r, ρ', s, hf, k⟩
  obtain ⟨b, hg, rfl⟩ := tB_inv hf
  unfold notT at hg
  obtain ⟨⟨x, ρ1⟩, e1, hg⟩ := Option.bind_eq_some_iff.mp hg
  cases hg
  exact tX_bT ⟨W, ρ, φ, x, _, s, e1, fun W1 H1 φ1 o => k (.bl (!x)) W1 H1 φ1 [] (.then s o (.same o.ss (.rv (.fz (.bl _))) (fun a h => nomatch h) rfl))⟩
theorem px_ifExp (hc : PXT X c c1) (ha : PX X a f) (hb : PX X b g) : PX X (.IfExp c a b pos) (ifE c1 f g) := by
  refine PE.mono (pe_ifExp hc ha hb) ?_
  rintro σ H Q ⟨W, ρ, φ, r, ρ', s, hf, k⟩
  unfold ifE at hf
  obtain ⟨⟨x, ρ1⟩, e1, hf⟩ := Option.bind_eq_some_iff.mp hf
  refine ⟨W, ρ, φ, x, ρ1, s, e1, fun W1 H1 φ1 o => ?_⟩
  cases x with
  | true =>
    rw [if_pos rfl]
    simp only [if_true] at hf
    exact ⟨W1, ρ1, φ1, r, ρ', o.ss, hf, fun v W2 H2 φ2 l o2 => k v W2 H2 φ2 l (.then s o o2)⟩
  | false =>
    rw [if_neg Bool.false_ne_true]
    simp only [Bool.false_eq_true, if_false] at hf
    exact ⟨W1, ρ1, φ1, r, ρ', o.ss, hf, fun v W2 H2 φ2 l o2 => k v W2 H2 φ2 l (.then s o o2)⟩
/-! displays -/
def lstE (fs : DA) : DE := fun ρ => (fs ρ).bind fun p => (frzA p.1).bind fun ds => if ds.length ≤ 1000 then some (.ow ds, p.2) else none
def tupE (fs : DA) : DE := fun ρ => (fs ρ).bind fun p => (frzA p.1).bind fun ds => if ds.length ≤ 1000 then some (.fz (.tuple ds), p.2) else none
end
section
variable {K : PySem.W.Frag} {W W1 W2 : Addr → Prop} {H H1 H2 : Hp} {σ : L2.St} {ρ ρ1 ρ2 : Rho} {φ φ1 φ2 : Fp} {vs : List V} {rs : List Vl} {l : List Addr}
/-- the operands are fixed -/
theorem Ev.freeze (rx : RXs K W H σ vs rs l) : Ev (fun a => a ∈ l) W H (Or W l) H := ⟨fun _ h => .inl h, fun _ _ h _ => h, fun a o h n q => q.elim id fun z => absurd z n⟩
theorem wf_freeze (rx : RXs K W H σ vs rs l) (wf : ∀ a, W a → ∃ o, H a = some o) : ∀ a, Or W l a → ∃ o, H a = some o := fun a h => h.elim (wf a) fun h => let ⟨_, o, e, _⟩ := rx.own a h; ⟨o, e⟩
end
section
variable {X : Cx} {es : List Expr} {fs : DA} {pos : Pos}
theorem small_size {n : Nat} (h : n ≤ 1000) : n ≤ sizeLine := Nat.le_trans h (by decide)
theorem px_lst (h : PXA X es fs) : PX X (.List es pos) (lstE fs) := by
  refine PE.mono (pe_lst h) ?_
  rintro σ H Q ⟨W, ρ, φ, r, ρ', s, hf, k⟩
  unfold lstE at hf
  obtain ⟨⟨rs, ρ1⟩, e1, hf⟩ := Option.bind_eq_some_iff.mp hf
  obtain ⟨ds, e2, hf⟩ := Option.bind_eq_some_iff.mp hf
  split at hf
  · rename_i hz
    cases hf
    refine ⟨W, ρ, φ, rs, _, s, e1, fun vs W1 H1 φ1 l o => ?_⟩
    have f : FzA X.K (Or W1 l) H1 vs ds := o.rx.frz (fun _ h => .inl h) (fun b h => .inr h) e2
    refine ⟨small_size (by rw [f.length]; exact hz), new_list (fp := fun a => a ∈ l) f (wf_freeze o.rx o.ss.wf) fun v W' H' l' ev wf rv sub => ?_⟩
    exact k v W' H' φ1 l' (o.op s ((Ev.freeze o.rx).trans (fun x h => .inl h) ev) wf rv sub)
  · cases hf
theorem px_tup {x1} (h : PXA X es fs) : PX X (.Tuple es x1 pos) (tupE fs) := by
  refine PE.mono (pe_tup h) ?_
  rintro σ H Q ⟨W, ρ, φ, r, ρ', s, hf, k⟩
  unfold tupE at hf
  obtain ⟨⟨rs, ρ1⟩, e1, hf⟩ := Option.bind_eq_some_iff.mp hf
  obtain ⟨ds, e2, hf⟩ := Option.bind_eq_some_iff.mp hf
  split at hf
  · rename_i hz
    cases hf
    refine ⟨W, ρ, φ, rs, _, s, e1, fun vs W1 H1 φ1 l o => ?_⟩
    have f : FzA X.K (Or W1 l) H1 vs ds := o.rx.frz (fun _ h => .inl h) (fun b h => .inr h) e2
    refine ⟨small_size (by rw [f.length]; exact hz), new_tuple (fp := fun a => a ∈ l) f (wf_freeze o.rx o.ss.wf) fun v W' H' l' ev wf rv sub => ?_⟩
    exact k v W' H' φ1 l' (o.op s ((Ev.freeze o.rx).trans (fun x h => .inl h) ev) wf rv sub)
  · cases hf
end
end DL

namespace DL
open PySem PySem.Spec PyProof.Rows L2

inductive Fl where
  | nx (ρ : Rho) | rt (r : Vl) (ρ : Rho) | bk (ρ : Rho) | ct (ρ : Rho)
abbrev DS := Rho → Option Fl
structure OutS (K : PySem.W.Frag) (W : Addr → Prop) (H : Hp) (fp : Addr → Prop) (σ : L2.St) (fx : List Nat) (ρ' : Rho) (σ' : L2.St) (W' : Addr → Prop) (H' : Hp) (φ' : Fp) : Prop where
  ev : Ev fp W H W' H'
  ss : SS K W' H' σ' ρ' φ'
  sub : ∀ a, InF φ' a → fp a ∨ H a = none
  fx : ∀ i ∈ fx, σ'[i]? = σ[i]?
structure OutR (K : PySem.W.Frag) (W : Addr → Prop) (H : Hp) (fp : Addr → Prop) (σ : L2.St) (fx : List Nat) (ρ' : Rho) (r : Vl) (v : V) (σ' : L2.St) (W' : Addr → Prop) (H' : Hp) (φ' : Fp) (l : List Addr) : Prop where
  o : OutS K W H fp σ fx ρ' σ' W' H' φ'
  rx : RX K W' H' σ' v r l
  dj : ∀ a ∈ l, ¬ InF φ' a
  subl : ∀ a ∈ l, fp a ∨ H a = none
def Want (K : PySem.W.Frag) (W : Addr → Prop) (H : Hp) (fp : Addr → Prop) (σ : L2.St) (fx : List Nat) (E : Ends) : Fl → Prop
  | .nx ρ' => ∀ σ' W' H' φ', OutS K W H fp σ fx ρ' σ' W' H' φ' → E.nx σ' H'
  | .bk ρ' => ∀ σ' W' H' φ', OutS K W H fp σ fx ρ' σ' W' H' φ' → E.bk σ' H'
  | .ct ρ' => ∀ σ' W' H' φ', OutS K W H fp σ fx ρ' σ' W' H' φ' → E.ct σ' H'
  | .rt r ρ' => ∀ v σ' W' H' φ' l, OutR K W H fp σ fx ρ' r v σ' W' H' φ' l → E.rt v H'
def tXS (K : PySem.W.Frag) (fx : List Nat) (f : DS) : TS := fun E σ H => ∃ W ρ φ fl, SS K W H σ ρ φ ∧ f ρ = some fl ∧ Want K W H (InF φ) σ fx E fl
abbrev PXS (X : Cx) (fx : List Nat) (st : Stmt) (f : DS) : Prop := PS X st (tXS X.K fx f)
abbrev PXSs (X : Cx) (fx : List Nat) (st : List Stmt) (f : DS) : Prop := PSs X st (tXS X.K fx f)
theorem PS.mono {X : Cx} {e : Stmt} {t t' : TS} (h : PS X e t) (m : ∀ E σ H, t' E σ H → t E σ H) : PS X e t' := ⟨fun pins s σ H E I q => h.run pins s σ H E I (m E σ H q)⟩
theorem PSs.mono {X : Cx} {e : List Stmt} {t t' : TS} (h : PSs X e t) (m : ∀ E σ H, t' E σ H → t E σ H) : PSs X e t' := ⟨fun pins s σ H E I q => h.run pins s σ H E I (m E σ H q)⟩
theorem PG.mono {X : Cx} {e : Expr} {t t' : TG} (h : PG X e t) (m : ∀ v σ H Q, t' v σ H Q → t v σ H Q) : PG X e t' := ⟨fun pins s σ H v u Q I r q => h.run pins s σ H v u Q I r (m v σ H Q q)⟩
theorem PI.mono {X : Cx} {tg e : Expr} {t t' : TI} (h : PI X tg e t) (m : ∀ σ H R, t' σ H R → t σ H R) : PI X tg e t' := ⟨fun pins s σ H R I q => h.run pins s σ H R I (m σ H R q)⟩
section
variable {K : PySem.W.Frag} {W W1 W2 : Addr → Prop} {H H1 H2 : Hp} {fp fp1 : Addr → Prop} {σ σ1 σ2 : L2.St} {ρ ρ1 ρ2 : Rho} {φ φ1 φ2 : Fp} {fx : List Nat} {E : Ends} {fl : Fl}
theorem OutS.refl (s : SS K W H σ ρ φ) : OutS K W H (InF φ) σ fx ρ σ W H φ := ⟨Ev.refl .., s, fun _ h => .inl h, fun _ _ => rfl⟩
theorem OutS.trans (hfp : ∀ a, fp a → H a ≠ none) (o1 : OutS K W H fp σ fx ρ1 σ1 W1 H1 φ1) (o2 : OutS K W1 H1 (InF φ1) σ1 fx ρ2 σ2 W2 H2 φ2) : OutS K W H fp σ fx ρ2 σ2 W2 H2 φ2 :=
  ⟨o1.ev.trans o1.sub o2.ev, o2.ss, sub2 o1.ev o1.sub o2.sub hfp, fun i h => (o2.fx i h).trans (o1.fx i h)⟩
theorem OutT.s (o : OutT K W H fp σ ρ1 W1 H1 φ1) : OutS K W H fp σ fx ρ1 σ W1 H1 φ1 := ⟨o.ev, o.ss, o.sub, fun _ _ => rfl⟩
/-- what is wanted at the start, from a later state -/
theorem Want.after (hfp : ∀ a, fp a → H a ≠ none) (o1 : OutS K W H fp σ fx ρ1 σ1 W1 H1 φ1) (h : Want K W H fp σ fx E fl) : Want K W1 H1 (InF φ1) σ1 fx E fl := by
  cases fl with
  | nx ρ' => exact fun σ' W' H' φ' o => h σ' W' H' φ' (o1.trans hfp o)
  | bk ρ' => exact fun σ' W' H' φ' o => h σ' W' H' φ' (o1.trans hfp o)
  | ct ρ' => exact fun σ' W' H' φ' o => h σ' W' H' φ' (o1.trans hfp o)
  | rt r ρ' => exact fun v σ' W' H' φ' l o => h v σ' W' H' φ' l ⟨o1.trans hfp o.o, o.rx, o.dj, sub2 (p := fun a => a ∈ l) o1.ev o1.sub o.subl hfp⟩
theorem Want.imp {E' : Ends} (h : Want K W H fp σ fx E fl) (hn : ∀ σ H, E.nx σ H → E'.nx σ H) (hr : ∀ v H, E.rt v H → E'.rt v H) (hb : ∀ σ H, E.bk σ H → E'.bk σ H) (hc : ∀ σ H, E.ct σ H → E'.ct σ H) : Want K W H fp σ fx E' fl := by
  cases fl with
  | nx ρ' => exact fun σ' W' H' φ' o => hn _ _ (h σ' W' H' φ' o)
  | bk ρ' => exact fun σ' W' H' φ' o => hb _ _ (h σ' W' H' φ' o)
  | ct ρ' => exact fun σ' W' H' φ' o => hc _ _ (h σ' W' H' φ' o)
  | rt r ρ' => exact fun v σ' W' H' φ' l o => hr _ _ (h v σ' W' H' φ' l o)
theorem SS.hfp (s : SS K W H σ ρ φ) : ∀ a, InF φ a → H a ≠ none := fun _ => s.inH

/-! slots stored -/
def setF (φ : Fp) (i : Nat) (l : List Addr) (n : Nat) : Fp := fun j => if j = i ∧ i < n then l else φ j
theorem setF_in {i n l a} (h : InF (setF φ i l n) a) : InF φ a ∨ a ∈ l := by
  obtain ⟨j, h⟩ := h
  unfold setF at h
  split at h
  · exact .inr h
  · exact .inl ⟨j, h⟩
theorem SS.set {i : Nat} {v : V} {vl : Vl} {l : List Addr} (s : SS K W H σ ρ φ) (r : RV K W H v vl l) (dj : ∀ a ∈ l, ¬ InF φ a) : SS K W H (σ.set i (some v)) (ρ.set i (some vl)) (setF φ i l ρ.length) where
  len := by rw [List.length_set, List.length_set, s.len]
  sl := fun j w e => by
    by_cases hi : j = i ∧ i < ρ.length
    · obtain ⟨rfl, hl⟩ := hi
      rw [List.getElem?_set_self hl] at e
      cases e
      have z : setF φ j l ρ.length j = l := if_pos ⟨rfl, hl⟩
      rw [z]
      exact ⟨v, List.getElem?_set_self (by rw [s.len]; exact hl), r⟩
    · have z : setF φ i l ρ.length j = φ j := if_neg hi
      rw [z]
      by_cases hj : j = i
      · subst hj
        have hl : ¬ j < ρ.length := fun q => hi ⟨rfl, q⟩
        have z2 : (ρ.set j (some vl))[j]? = none := List.getElem?_eq_none (by rw [List.length_set]; omega)
        rw [z2] at e; cases e
      · rw [List.getElem?_set_ne (Ne.symm hj)] at e
        obtain ⟨w', h1, h2⟩ := s.sl j w e
        exact ⟨w', by rw [List.getElem?_set_ne (Ne.symm hj)]; exact h1, h2⟩
  em := fun j e => by
    unfold setF
    split
    · rename_i h
      obtain ⟨rfl, hl⟩ := h
      exact absurd (List.getElem?_set_self hl) (e vl)
    · rename_i h
      refine s.em j fun w q => e w ?_
      by_cases hj : j = i
      · subst hj
        have hl : ¬ j < ρ.length := fun q => h ⟨rfl, q⟩
        rw [List.getElem?_eq_none (by omega)] at q; cases q
      · rw [List.getElem?_set_ne (Ne.symm hj)]; exact q
  dj := fun j k a h1 h2 => by
    unfold setF at h1 h2
    split at h1 <;> split at h2
    · rename_i a b; rw [a.1, b.1]
    · exact absurd ⟨k, h2⟩ (dj a h1)
    · exact absurd ⟨j, h1⟩ (dj a h2)
    · exact s.dj j k a h1 h2
  wf := s.wf
/-- a slot emptied -/
def delF (φ : Fp) (i : Nat) : Fp := fun j => if j = i then [] else φ j
theorem delF_in {i a} (h : InF (delF φ i) a) : InF φ a ∧ a ∉ φ i ∨ InF φ a := by
  obtain ⟨j, h⟩ := h
  unfold delF at h
  split at h
  · cases h
  · exact .inr ⟨j, h⟩
theorem delF_sub {i a} (h : InF (delF φ i) a) : InF φ a := (delF_in h).elim And.left id
theorem SS.del (s : SS K W H σ ρ φ) (i : Nat) (o : Option V) : SS K W H (σ.set i o) (ρ.set i none) (delF φ i) where
  len := by rw [List.length_set, List.length_set, s.len]
  sl := fun j w e => by
    by_cases hj : j = i
    · subst hj
      by_cases hl : j < ρ.length
      · rw [List.getElem?_set_self hl] at e; cases e
      · rw [List.getElem?_eq_none (by rw [List.length_set]; omega)] at e; cases e
    · have z : delF φ i j = φ j := if_neg hj
      rw [z]
      rw [List.getElem?_set_ne (Ne.symm hj)] at e
      obtain ⟨w', h1, h2⟩ := s.sl j w e
      exact ⟨w', by rw [List.getElem?_set_ne (Ne.symm hj)]; exact h1, h2⟩
  em := fun j e => by
    unfold delF
    split
    · rfl
    · rename_i hj
      exact s.em j fun w q => e w (by rw [List.getElem?_set_ne (Ne.symm hj)]; exact q)
  dj := fun j k a h1 h2 => by
    unfold delF at h1 h2
    split at h1
    · cases h1
    · split at h2
      · cases h2
      · exact s.dj j k a h1 h2
  wf := s.wf
theorem SS.del' (s : SS K W H σ ρ φ) (i : Nat) : SS K W H σ (ρ.set i none) (delF φ i) where
  len := by rw [List.length_set, s.len]
  sl := fun j w e => by
    by_cases hj : j = i
    · subst hj
      by_cases hl : j < ρ.length
      · rw [List.getElem?_set_self hl] at e; cases e
      · rw [List.getElem?_eq_none (by rw [List.length_set]; omega)] at e; cases e
    · have z : delF φ i j = φ j := if_neg hj
      rw [z]
      rw [List.getElem?_set_ne (Ne.symm hj)] at e
      exact s.sl j w e
  em := fun j e => by
    unfold delF
    split
    · rfl
    · rename_i hj
      exact s.em j fun w q => e w (by rw [List.getElem?_set_ne (Ne.symm hj)]; exact q)
  dj := fun j k a h1 h2 => by
    unfold delF at h1 h2
    split at h1
    · cases h1
    · split at h2
      · cases h2
      · exact s.dj j k a h1 h2
  wf := s.wf
/-- a slot that holds the same object with another content -/
theorem SS.put {i : Nat} {v : V} {vl : Vl} {l : List Addr} (s : SS K W H σ ρ φ) (hv : σ[i]? = some (some v)) (r : RV K W H v vl l) (dj : ∀ a ∈ l, ¬ InF φ a) : SS K W H σ (ρ.set i (some vl)) (setF φ i l ρ.length) := by
  have := s.set (i := i) r dj
  have e : σ.set i (some v) = σ := by
    refine List.ext_getElem? fun j => ?_
    by_cases hj : i = j
    · subst hj
      rw [hv, List.getElem?_set_self (List.getElem?_eq_some_iff.mp hv).1]
    · rw [List.getElem?_set_ne hj]
  rwa [e] at this
end

/-! ### small statements -/
def nxS : DS := fun ρ => some (.nx ρ)
def seqS (f g : DS) : DS := fun ρ => (f ρ).bind fun fl => match fl with
  | .nx ρ' => g ρ'
  | fl => some fl
def dropS (f : DE) : DS := fun ρ => (f ρ).bind fun p => some (.nx p.2)
def retS (f : DE) : DS := fun ρ => (f ρ).bind fun p => some (.rt p.1 p.2)
def ifS (c : DT) (f g : DS) : DS := fun ρ => (c ρ).bind fun p => if p.1 = true then f p.2 else g p.2
def nevS : DS := fun _ => none
section
variable {X : Cx} {fx : List Nat} {st : Stmt} {sts ss1 ss2 : List Stmt} {f g : DS} {e : Expr} {fe : DE} {c : Expr} {fc : DT} {pos : Pos}
theorem pxs_nil : PXSs X fx [] nxS := by
  refine PSs.mono pss_nil ?_
  rintro E σ H ⟨W, ρ, φ, fl, s, hf, k⟩
  cases hf
  exact k σ W H φ (.refl s)
theorem pxs_cons (h1 : PXS X fx st f) (h2 : PXSs X fx sts g) : PXSs X fx (st :: sts) (seqS f g) := by
  refine PSs.mono (pss_cons h1 h2) ?_
  rintro E σ H ⟨W, ρ, φ, fl, s, hf, k⟩
  unfold seqS at hf
  obtain ⟨fl1, e1, hf⟩ := Option.bind_eq_some_iff.mp hf
  refine ⟨W, ρ, φ, fl1, s, e1, ?_⟩
  cases fl1 with
  | nx ρ1 => exact fun σ1 W1 H1 φ1 o => ⟨W1, ρ1, φ1, fl, o.ss, hf, k.after s.hfp o⟩
  | bk ρ1 => cases hf; exact k
  | ct ρ1 => cases hf; exact k
  | rt r ρ1 => cases hf; exact k
theorem pxs_one (h1 : PXS X fx st f) : PXSs X fx [st] f := pss_one h1
theorem px_pass : PXS X fx (.Pass pos) nxS := by
  refine PS.mono ps_pass ?_
  rintro E σ H ⟨W, ρ, φ, fl, s, hf, k⟩
  cases hf
  exact k σ W H φ (.refl s)
theorem px_break : PXS X fx (.Break pos) (fun ρ => some (.bk ρ)) := by
  refine PS.mono ps_break ?_
  rintro E σ H ⟨W, ρ, φ, fl, s, hf, k⟩
  cases hf
  exact k σ W H φ (.refl s)
theorem px_continue : PXS X fx (.Continue pos) (fun ρ => some (.ct ρ)) := by
  refine PS.mono ps_continue ?_
  rintro E σ H ⟨W, ρ, φ, fl, s, hf, k⟩
  cases hf
  exact k σ W H φ (.refl s)
theorem px_never : PXS X fx st nevS := by
  refine PS.mono ps_never ?_
  rintro E σ H ⟨W, ρ, φ, fl, s, hf, k⟩
  cases hf
theorem px_expr (he : PX X e fe) (hs : swapsWith e none pos.line X.env = pure false := by rfl) : PXS X fx (.Expr e pos) (dropS fe) := by
  refine PS.mono (ps_expr he hs) ?_
  rintro E σ H ⟨W, ρ, φ, fl, s, hf, k⟩
  unfold dropS at hf
  obtain ⟨⟨r, ρ1⟩, e1, hf⟩ := Option.bind_eq_some_iff.mp hf
  cases hf
  exact ⟨W, ρ, φ, r, ρ1, s, e1, fun v W1 H1 φ1 l o => k σ W1 H1 φ1 o.t.s⟩
theorem px_ret (he : PX X e fe) : PXS X fx (.Return (some e) pos) (retS fe) := by
  refine PS.mono (ps_ret he) ?_
  rintro E σ H ⟨W, ρ, φ, fl, s, hf, k⟩
  unfold retS at hf
  obtain ⟨⟨r, ρ1⟩, e1, hf⟩ := Option.bind_eq_some_iff.mp hf
  cases hf
  exact ⟨W, ρ, φ, r, ρ1, s, e1, fun v W1 H1 φ1 l o => k v σ W1 H1 φ1 l ⟨o.t.s, o.rx, o.dj, o.subl⟩⟩
theorem px_retN : PXS X fx (.Return none pos) (retS (cE .none)) := by
  refine PS.mono ps_retN ?_
  rintro E σ H ⟨W, ρ, φ, fl, s, hf, k⟩
  cases hf
  exact k .non σ W H φ [] ⟨.refl s, .rv (.fz .non), (fun a h => nomatch h), (fun a h => nomatch h)⟩
theorem px_if (hc : PXT X c fc) (ha : PXSs X fx ss1 f) (hb : PXSs X fx ss2 g) : PXS X fx (.If c ss1 ss2 pos) (ifS fc f g) := by
  refine PS.mono (ps_if hc ha hb) ?_
  rintro E σ H ⟨W, ρ, φ, fl, s, hf, k⟩
  unfold ifS at hf
  obtain ⟨⟨x, ρ1⟩, e1, hf⟩ := Option.bind_eq_some_iff.mp hf
  refine ⟨W, ρ, φ, x, ρ1, s, e1, fun W1 H1 φ1 o => ?_⟩
  cases x with
  | true =>
    rw [if_pos rfl]
    simp only [if_true] at hf
    exact ⟨W1, ρ1, φ1, fl, o.ss, hf, k.after s.hfp o.s⟩
  | false =>
    rw [if_neg Bool.false_ne_true]
    simp only [Bool.false_eq_true, if_false] at hf
    exact ⟨W1, ρ1, φ1, fl, o.ss, hf, k.after s.hfp o.s⟩
/-- slots whose objects nobody changes any more -/
def frzS (i : Nat) (f : DS) : DS := fun ρ => match ρ[i]? with
  | some (some (.fz _)) => f ρ
  | some (some v) => (frz v).bind fun d => f (ρ.set i (some (.fz d)))
  | _ => f ρ
end
section
variable {K : PySem.W.Frag} {W : Addr → Prop} {H : Hp} {σ : L2.St} {ρ : Rho} {φ : Fp} {fx : List Nat}
theorem SS.freeze (s : SS K W H σ ρ φ) {i : Nat} {vl : Vl} {d : D} (e : ρ[i]? = some (some vl)) (h : frz vl = some d) : OutS K W H (InF φ) σ fx (ρ.set i (some (.fz d))) σ (Or W (φ i)) H (delF φ i) := by
  obtain ⟨v, e1, rv⟩ := s.sl i vl e
  have ev : Ev (InF φ) W H (Or W (φ i)) H := ⟨fun _ h => .inl h, fun _ _ h _ => h, fun a o h n q => q.elim id fun z => absurd ⟨i, z⟩ n⟩
  have hl : i < ρ.length := (List.getElem?_eq_some_iff.mp e).1
  refine ⟨ev, ?_, fun a h => .inl (delF_sub h), fun _ _ => rfl⟩
  have s2 := s.del' i
  have evd : Ev (fun a => a ∈ φ i) W H (Or W (φ i)) H := ⟨fun _ h => .inl h, fun _ _ h _ => h, fun a o h n q => q.elim id fun z => absurd z n⟩
  have nin : ∀ a, InF (delF φ i) a → a ∉ φ i := by
    rintro a ⟨j, hj⟩ q
    unfold delF at hj
    split at hj
    · cases hj
    · rename_i n; exact n (s.dj j i a hj q)
  have s3 : SS K (Or W (φ i)) H σ (ρ.set i none) (delF φ i) := s2.ev evd (Wxt.or) nin fun a h => h.elim (s.wf a) fun z => let ⟨_, o, q, _⟩ := s.own ⟨i, z⟩; ⟨o, q⟩
  have s4 := s3.put (i := i) (vl := .fz d) (l := []) e1 (.fz (rv.frz (fun _ h => .inl h) (fun b h => .inr h) h)) (fun a h => nomatch h)
  rw [List.set_set] at s4
  refine ⟨s4.len, fun j w q => ?_, fun j q => ?_, fun j k a h1 h2 => ?_, s4.wf⟩
  · obtain ⟨v', h1, h2⟩ := s4.sl j w q
    refine ⟨v', h1, ?_⟩
    unfold setF at h2
    split at h2
    · rename_i z
      rw [z.1]
      show RV K _ H v' w (delF φ i i)
      unfold delF
      rw [if_pos rfl]
      exact h2
    · exact h2
  · have := s4.em j q
    unfold setF at this
    split at this
    · rename_i z; unfold delF; rw [if_pos z.1]
    · exact this
  · exact s2.dj j k a h1 h2
end
section
variable {X : Cx} {fx : List Nat} {st : Stmt} {sts : List Stmt} {f g : DS}
theorem tXS_frz {K : PySem.W.Frag} {i : Nat} {E : Ends} {σ : L2.St} {H : Hp} (h : tXS K fx (frzS i f) E σ H) : tXS K fx f E σ H := by
  obtain ⟨W, ρ, φ, fl, s, hf, k⟩ := h
  unfold frzS at hf
  split at hf
  · exact ⟨W, ρ, φ, fl, s, hf, k⟩
  · rename_i v _ e
    obtain ⟨d, e1, hf⟩ := Option.bind_eq_some_iff.mp hf
    have o := s.freeze (fx := fx) e e1
    exact ⟨_, _, _, fl, o.ss, hf, k.after s.hfp o⟩
  · exact ⟨W, ρ, φ, fl, s, hf, k⟩
theorem px_frz (i : Nat) (h : PXS X fx st f) : PXS X fx st (frzS i f) := PS.mono h fun _ _ _ => tXS_frz
theorem pxs_frz (i : Nat) (h : PXSs X fx sts f) : PXSs X fx sts (frzS i f) := PSs.mono h fun _ _ _ => tXS_frz
end
end DL

namespace DL
open PySem PySem.Spec PyProof.Rows L2

/-! ### targets -/
abbrev DTg := Vl → Rho → Option Rho
inductive RVs (K : PySem.W.Frag) (W : Addr → Prop) (H : Hp) : List V → List Vl → List Addr → Prop
  | nil : RVs K W H [] [] []
  | cons {v vs r rs l ls} : RV K W H v r l → RVs K W H vs rs ls → (∀ a ∈ l, a ∉ ls) → RVs K W H (v :: vs) (r :: rs) (l ++ ls)
structure OutG (K : PySem.W.Frag) (W : Addr → Prop) (H : Hp) (fp : Addr → Prop) (σ : L2.St) (tv : List Nat) (ρ' : Rho) (σ' : L2.St) (W' : Addr → Prop) (H' : Hp) (φ' : Fp) : Prop where
  ev : Ev fp W H W' H'
  ss : SS K W' H' σ' ρ' φ'
  sub : ∀ a, InF φ' a → fp a ∨ H a = none
  tv : ∀ i, i ∉ tv → σ'[i]? = σ[i]?
  len : σ'.length = σ.length
def fpl (φ : Fp) (l : List Addr) (a : Addr) : Prop := InF φ a ∨ a ∈ l
def tXG (K : PySem.W.Frag) (tv : List Nat) (st : DTg) : TG := fun v σ H Q => ∃ W ρ φ r l ρ', SS K W H σ ρ φ ∧ RV K W H v r l ∧ (∀ a ∈ l, ¬ InF φ a) ∧ st r ρ = some ρ' ∧ ∀ σ' W' H' φ', OutG K W H (fpl φ l) σ tv ρ' σ' W' H' φ' → Q σ' H'
abbrev PXG (X : Cx) (tg : Expr) (tv : List Nat) (st : DTg) : Prop := PG X tg (tXG X.K tv st)
/-- several -/
def stL : List DTg → List Vl → Rho → Option Rho
  | [], [], ρ => some ρ
  | s :: ss, r :: rs, ρ => (s r ρ).bind fun ρ1 => stL ss rs ρ1
  | _, _, _ => none
def tXGs (K : PySem.W.Frag) (tv : List Nat) (sts : List DTg) : TGs := fun vs σ H Q => ∃ W ρ φ rs l ρ', SS K W H σ ρ φ ∧ RVs K W H vs rs l ∧ (∀ a ∈ l, ¬ InF φ a) ∧ stL sts rs ρ = some ρ' ∧ ∀ σ' W' H' φ', OutG K W H (fpl φ l) σ tv ρ' σ' W' H' φ' → Q σ' H'
abbrev PXGs (X : Cx) (ts : List Expr) (tv : List Nat) (sts : List DTg) : Prop := PGs X ts (tXGs X.K tv sts)
def nameT (i : Nat) : DTg := fun r ρ => some (ρ.set i (some r))
def tupT (sts : List DTg) : DTg := fun r ρ => match r with
  | .fz (.tuple ds) => stL sts (ds.map .fz) ρ
  | _ => none
/-- x[g] = the value -/
def subT (xi : Nat) (g : DE) : DTg := fun r ρ => (frz r).bind fun d => (at? ρ xi).bind fun _ => (g ρ).bind fun p => match p.1, p.2[xi]? with
  | .fz (.int i), some (some (.ow ds)) => (ixN ds.length i).bind fun j => some (p.2.set xi (some (.ow (ds.set j d))))
  | _, _ => none
section
variable {K : PySem.W.Frag} {W W1 W2 : Addr → Prop} {H H1 H2 : Hp} {σ σ1 σ2 : L2.St} {ρ ρ1 ρ2 : Rho} {φ φ1 φ2 : Fp} {l ls : List Addr} {vs : List V} {rs : List Vl} {v : V} {r : Vl}
theorem RVs.ev {fp : Addr → Prop} (e : Ev fp W H W1 H1) (x : Wxt W H W1 H1) (h : RVs K W H vs rs l) (n : ∀ b ∈ l, ¬ fp b) : RVs K W1 H1 vs rs l := by
  induction h with
  | nil => exact .nil
  | cons h _ d ih => exact .cons (h.ev e x fun b hb => n b (List.mem_append_left _ hb)) (ih fun b hb => n b (List.mem_append_right _ hb)) d
theorem RVs.own (h : RVs K W H vs rs l) : ∀ b ∈ l, ¬ W b ∧ ∃ o, H b = some o ∧ ¬ Imm o := by
  induction h with
  | nil => exact fun _ z => nomatch z
  | cons h _ _ ih => exact fun b hb => (List.mem_append.mp hb).elim (h.own b) (ih b)
theorem RVs.fz : ∀ {vs : List V} {ds : List D}, FzA K W H vs ds → RVs K W H vs (ds.map .fz) []
  | _, _, .nil => .nil
  | _, _, .cons h r => .cons (l := []) (ls := []) (.fz h) (RVs.fz r) (fun _ z => nomatch z)
theorem RVs.length (h : RVs K W H vs rs l) : vs.length = rs.length := by
  induction h with
  | nil => rfl
  | cons _ _ _ ih => rw [List.length_cons, List.length_cons, ih]
theorem fpl_inH (s : SS K W H σ ρ φ) (o : ∀ b ∈ l, ¬ W b ∧ ∃ o, H b = some o ∧ ¬ Imm o) : ∀ a, fpl φ l a → H a ≠ none := fun a h => h.elim s.inH fun z e => by
  obtain ⟨_, ob, q, _⟩ := o a z
  rw [e] at q; cases q
theorem fpl_notW (s : SS K W H σ ρ φ) (o : ∀ b ∈ l, ¬ W b ∧ ∃ o, H b = some o ∧ ¬ Imm o) : ∀ a, fpl φ l a → ¬ W a := fun a h => h.elim (s.notW a) fun z => (o a z).1
theorem OutG.cons (s : SS K W H σ ρ φ) (hv : RV K W H v r l) (hr : RVs K W H vs rs ls) {tv1 tv2 : List Nat} (dl : ∀ a ∈ l, ¬ InF φ a) (o1 : OutG K W H (fpl φ l) σ tv1 ρ1 σ1 W1 H1 φ1) (d : ∀ a ∈ l, a ∉ ls) (dls : ∀ a ∈ ls, ¬ InF φ a)
    (o2 : OutG K W1 H1 (fpl φ1 ls) σ1 tv2 ρ2 σ2 W2 H2 φ2) : OutG K W H (fpl φ (l ++ ls)) σ (tv1 ++ tv2) ρ2 σ2 W2 H2 φ2 := by
  have up : ∀ a, fpl φ l a → fpl φ (l ++ ls) a := fun a h => h.elim .inl fun z => .inr (List.mem_append_left _ z)
  have s1 : ∀ a, fpl φ1 ls a → fpl φ (l ++ ls) a ∨ H a = none := fun a h => h.elim (fun z => (o1.sub a z).imp (up a) id) fun z => .inl (.inr (List.mem_append_right _ z))
  have ev1 : Ev (fpl φ (l ++ ls)) W H W1 H1 := o1.ev.mono fun a h => .inl (up a h)
  refine ⟨ev1.trans s1 o2.ev, o2.ss, fun a h => ?_, fun i hi => ?_, o2.len.trans o1.len⟩
  · rcases o2.sub a h with z | z
    · exact s1 a z
    · cases e : H a with
      | none => exact .inr rfl
      | some ob =>
        by_cases f : fpl φ (l ++ ls) a
        · exact .inl f
        · rw [ev1.keep a ob e fun z => absurd z f] at z; cases z
  · exact (o2.tv i fun z => hi (List.mem_append_right _ z)).trans (o1.tv i fun z => hi (List.mem_append_left _ z))
end
section
variable {X : Cx} {pos : Pos} {e : Expr} {es : List Expr} {st : DTg} {sts : List DTg} {tv tv2 : List Nat}
theorem pxg_name (i : Nat) {x : Str} (hN : X.N.Nodup) (hi : X.N[i]? = some x := by rfl) (hx : Loc X.env.scope x := by first | exact Or.inl rfl | exact Or.inr rfl) (hf : X.fn x = true ∨ X.env.scope.names.lookup x = some .local := by first | exact .inl rfl | exact .inr rfl | assumption) : PXG X (.Name x pos) [i] (nameT i) := by
  refine PG.mono (pg_name hN hi hx hf) ?_
  rintro v σ H Q ⟨W, ρ, φ, r, l, ρ', s, rv, dj, hst, k⟩
  cases hst
  refine k _ W H _ ⟨Ev.refl .., s.set rv dj, fun a h => .inl ((setF_in h).elim .inl .inr), fun j hj => ?_, by rw [List.length_set]⟩
  rw [List.getElem?_set_ne]
  rintro rfl
  exact hj List.mem_cons_self
theorem pxgs_nil : PXGs X [] [] [] := by
  refine ⟨fun pins s σ H vs us Q I r h => ?_⟩
  obtain ⟨W, ρ, φ, rs, l, ρ', ss, rv, dj, hst, k⟩ := h
  cases rv with
  | nil =>
    cases hst
    exact pgs_nil.run pins s σ H [] us Q I r ⟨rfl, k σ W H φ ⟨Ev.refl .., ss, fun a h => .inl (.inl h), fun _ _ => rfl, rfl⟩⟩
  | cons _ _ _ => cases hst
theorem pxgs_cons (h1 : PXG X e tv st) (h2 : PXGs X es tv2 sts) (hs : (assignEach (e :: es) X.env).map (·.2) = assign e X.env :: (assignEach es X.env).map (·.2) := by rfl) : PXGs X (e :: es) (tv ++ tv2) (st :: sts) := by
  refine ⟨fun pins s σ H vs us Q I r h => ?_⟩
  obtain ⟨W, ρ, φ, rs, l, ρ', ss, rv, dj, hst, k⟩ := h
  refine (pgs_cons h1 h2 hs).run pins s σ H vs us Q I r ?_
  cases rv with
  | nil => cases hst
  | @cons v vs r1 rs l ls hv hr d =>
    unfold stL at hst
    obtain ⟨ρ1, e1, hst⟩ := Option.bind_eq_some_iff.mp hst
    have dl : ∀ a ∈ l, ¬ InF φ a := fun a h => dj a (List.mem_append_left _ h)
    have dls : ∀ a ∈ ls, ¬ InF φ a := fun a h => dj a (List.mem_append_right _ h)
    refine ⟨v, vs, rfl, W, ρ, φ, r1, l, ρ1, ss, hv, dl, e1, fun σ1 W1 H1 φ1 o1 => ?_⟩
    have nls : ∀ b ∈ ls, ¬ fpl φ l b := fun b hb q => q.elim (dls b hb) fun z => d b z hb
    have hr1 : RVs X.K W1 H1 vs rs ls := hr.ev o1.ev (o1.ev.xt (fpl_notW ss hv.own)) nls
    refine ⟨W1, ρ1, φ1, rs, ls, ρ', o1.ss, hr1, fun a h q => ?_, hst, fun σ2 W2 H2 φ2 o2 => k σ2 W2 H2 φ2 (OutG.cons ss hv hr dl o1 d dls o2)⟩
    rcases o1.sub a q with z | z
    · exact nls a h z
    · obtain ⟨_, ob, q2, _⟩ := hr.own a h
      rw [z] at q2; cases q2
theorem pxg_tup {k : Nat} {n : Nat} (hc : X.calm = true) (h : PXGs X es tv sts) (hn : (assignEach es X.env).length = n := by rfl) (hst : (assignEach es X.env).findIdx? (·.1) = none := by rfl) (hlen : sts.length = n := by rfl) : PXG X (.Tuple es k pos) tv (tupT sts) := by
  refine PG.mono (pg_tup hc h hn hst) ?_
  rintro v σ H Q ⟨W, ρ, φ, r, l, ρ', s, rv, dj, hs, k⟩
  unfold tupT at hs
  split at hs
  · rename_i ds
    obtain rfl := rv.nil_of trivial
    cases rv with
    | fz f =>
      cases f with
      | @tup a xs _ h1 h2 =>
        have ll : ∀ (sts : List DTg) (rs : List Vl) (ρ : Rho), stL sts rs ρ = some ρ' → sts.length = rs.length := by
          intro sts
          induction sts with
          | nil => intro rs ρ h; cases rs with
            | nil => rfl
            | cons => cases h
          | cons s ss ih => intro rs ρ h; cases rs with
            | nil => cases h
            | cons r rs =>
              unfold stL at h
              obtain ⟨ρ1, _, h⟩ := Option.bind_eq_some_iff.mp h
              rw [List.length_cons, List.length_cons, ih rs ρ1 h]
        have l1 := ll sts _ ρ hs
        rw [List.length_map] at l1
        refine ⟨a, xs, rfl, h1, by rw [h2.length, ← l1, hlen], W, ρ, φ, ds.map .fz, [], ρ', s, RVs.fz h2, (fun a h => nomatch h), hs, k⟩
  · cases hs
theorem pxg_sub {i : Expr} {g : DE} (xi : Nat) {x : Str} {opos : Pos} (hN : X.N[xi]? = some x := by rfl) (hv : Vis X.env.scope x := by first | exact Or.inl rfl | exact Or.inr (Or.inl rfl) | exact Or.inr (Or.inr rfl)) (hi : PX X i g)
    (hd : (x == ("__debug__" : Str)) = false := by decide) (hcd : (x == ("__classdict__" : Str)) = false := by decide)
    (ha : ∀ v, assign (.Subscript (.Name x opos) i pos) X.env v = (do
      let ov ← holding [v] (eval (.Name x opos) X.env)
      let iv ← holding [v, ov] (eval i X.env)
      standAt pos
      holding [v, ov, iv] (setItem ov iv v)
      release [v, ov, iv] []) := by intro _; rfl) : PXG X (.Subscript (.Name x opos) i pos) [] (subT xi g) := by
  refine PG.mono (pg_sub (pe_var hN hv hd hcd) hi set_list ha) ?_
  rintro v σ H Q ⟨W, ρ, φ, r, l, ρ', s, rv, dj, hs, k⟩
  unfold subT at hs
  obtain ⟨d, e1, hs⟩ := Option.bind_eq_some_iff.mp hs
  obtain ⟨vx, e0, hs⟩ := Option.bind_eq_some_iff.mp hs
  obtain ⟨⟨ri, ρ1⟩, e2, hs⟩ := Option.bind_eq_some_iff.mp hs
  split at hs
  · rename_i i ds e3 e4
    cases e3
    obtain ⟨j, e5, hs⟩ := Option.bind_eq_some_iff.mp hs
    cases hs
    have evf : Ev (fun a => a ∈ l) W H (Or W l) H := ⟨fun _ h => .inl h, fun _ _ h _ => h, fun a o h n q => q.elim id fun z => absurd z n⟩
    have sW : SS X.K (Or W l) H σ ρ φ := s.ev evf Wxt.or (fun a h q => dj a q h) fun a h => h.elim (s.wf a) fun z => let ⟨_, o, q, _⟩ := rv.own a z; ⟨o, q⟩
    have fv : Fz X.K (Or W l) H v d := rv.frz (fun _ h => .inl h) (fun b h => .inr h) e1
    -- the list's slot is there ahead of the index
    show tVar xi σ H _
    obtain ⟨w, hw, _⟩ := s.sl xi vx (at?_some e0)
    · refine ⟨w, hw, Or W l, ρ, φ, .fz (.int i), ρ1, sW, e2, fun iv W1 H1 φ1 l1 o1 => ?_⟩
      obtain ⟨w', q1, q2⟩ := o1.ss.sl xi _ e4
      rw [hw] at q1; cases q1
      generalize hφ : φ1 xi = lx at q2
      cases q2 with
      | @ow a xs _ h1 h2 h3 =>
      have hiv : iv = .int i := by
        cases o1.rx with
        | rv z => cases z with
          | fz z => cases z; rfl
      have fv1 : Fz X.K W1 H1 v d := fv.xt (o1.ev.xt sW.notW)
      have ain : InF φ1 a := ⟨xi, by rw [hφ]; exact List.mem_cons_self⟩
      refine ⟨a, xs, i, j, rfl, hiv, h1, by rw [h3.length]; exact e5, ?_⟩
      -- the list changed
      have up : ∀ b ob, H1 b = some ob → b ≠ a → upd H1 a (.lst (xs.set j v)) b = some ob := fun b ob e n => by rw [upd_ne n]; exact e
      have xt1 : Wxt W1 H1 W1 (upd H1 a (.lst (xs.set j v))) := ⟨fun _ h => h, fun b ob e q => up b ob e fun z => by
        subst z
        rw [h1] at e; cases e
        exact q.elim h2 id⟩
      have ev2 : Ev (fun b => b = a) W1 H1 W1 (upd H1 a (.lst (xs.set j v))) := ⟨fun _ h => h, fun b ob e q => up b ob e fun z => by
        subst z
        rw [h1] at e; cases e
        exact q rfl, fun _ _ _ _ h => h⟩
      have wf2 : ∀ b, W1 b → ∃ ob, upd H1 a (.lst (xs.set j v)) b = some ob := fun b h => by
        obtain ⟨ob, e⟩ := o1.ss.wf b h
        exact ⟨ob, up b ob e fun z => h2 (z ▸ h)⟩
      have hw' : σ[xi]? = some (some (.ref a)) := hw
      have sd := o1.ss.del' xi
      have nin : ∀ b, InF (delF φ1 xi) b → ¬ b = a := by
        rintro b ⟨j', hj⟩ rfl
        unfold delF at hj
        split at hj
        · cases hj
        · rename_i n
          exact n (o1.ss.dj j' xi b hj (by rw [hφ]; exact List.mem_cons_self))
      have sd2 := sd.ev ev2 xt1 nin wf2
      have rv2 : RV X.K W1 (upd H1 a (.lst (xs.set j v))) (.ref a) (.ow (ds.set j d)) [a] := .ow upd_same h2 ((FzA.set fv1 j h3).xt xt1)
      have sf := sd2.put (i := xi) hw' rv2 (fun b hb q => nin b q (List.mem_singleton.mp hb))
      rw [List.set_set] at sf
      have evT : Ev (fpl φ l) W H W1 (upd H1 a (.lst (xs.set j v))) := by
        refine (evf.mono (fp1 := fpl φ l) fun x h => .inl (.inr h)).trans (fp1 := fun x => InF φ x ∨ InF φ1 x) ?_ (Ev.trans (fp := fun x => InF φ x ∨ InF φ1 x) (fp1 := fun b => b = a) (o1.ev.mono fun x h => .inl (.inl h)) (fun x h => .inl (.inr (h ▸ ain))) ev2)
        intro x h
        rcases h with h | h
        · exact .inl (.inl h)
        · exact (o1.sub x h).imp .inl id
      refine k σ _ _ _ ⟨evT, sf, fun b hb => ?_, fun _ _ => rfl, rfl⟩
      rcases setF_in hb with h | h
      · exact (o1.sub b (delF_sub h)).imp .inl id
      · obtain rfl := List.mem_singleton.mp h
        exact (o1.sub b ain).imp .inl id
  · cases hs
end

/-! ### target = value -/
def asgS (f : DE) (st : DTg) : DS := fun ρ => (f ρ).bind fun p => match p.1 with
  | .pk _ => none
  | r => (st r p.2).bind fun ρ' => some (.nx ρ')
def notPk : Vl → Bool
  | .pk _ => false
  | _ => true
/-- a, b = x, y: the values as they are -/
def parS (fs : DA) (sts : List DTg) : DS := fun ρ => (fs ρ).bind fun p => if p.1.all notPk then (stL sts p.1 p.2).bind fun ρ' => some (.nx ρ') else none
section
variable {K : PySem.W.Frag} {W W1 W2 : Addr → Prop} {H H1 H2 : Hp} {σ σ1 σ2 : L2.St} {ρ ρ1 ρ2 : Rho} {φ φ1 φ2 : Fp} {l ls : List Addr} {vs : List V} {rs : List Vl} {v : V} {r : Vl} {fx tv : List Nat}
theorem RX.toRV (h : RX K W H σ v r l) (n : notPk r = true) : RV K W H v r l := by
  cases h with
  | rv h => exact h
  | pk h => cases n
theorem RXs.toRVs (h : RXs K W H σ vs rs l) (n : rs.all notPk = true) : RVs K W H vs rs l := by
  induction h with
  | nil => exact .nil
  | cons h _ d ih =>
    rw [List.all_cons, Bool.and_eq_true] at n
    exact .cons (h.toRV n.1) (ih n.2) d
/-- an expression, then a target -/
theorem OutG.s (s : SS K W H σ ρ φ) (ev : Ev (InF φ) W H W1 H1) (sub : ∀ a, InF φ1 a → InF φ a ∨ H a = none) (subl : ∀ a ∈ l, InF φ a ∨ H a = none) (g : OutG K W1 H1 (fpl φ1 l) σ tv ρ2 σ2 W2 H2 φ2) (hx : ∀ i ∈ fx, i ∉ tv) : OutS K W H (InF φ) σ fx ρ2 σ2 W2 H2 φ2 := by
  have s1 : ∀ a, fpl φ1 l a → InF φ a ∨ H a = none := fun a h => h.elim (sub a) (subl a)
  refine ⟨ev.trans s1 g.ev, g.ss, fun a h => ?_, fun i hi => g.tv i (hx i hi)⟩
  rcases g.sub a h with z | z
  · exact s1 a z
  · cases e : H a with
    | none => exact .inr rfl
    | some ob =>
      by_cases f : InF φ a
      · exact .inl f
      · rw [ev.keep a ob e fun z => absurd z f] at z; cases z
end
section
variable {X : Cx} {pos : Pos} {e tg : Expr} {es ts : List Expr} {st : DTg} {sts : List DTg} {tv fx : List Nat} {f : DE} {fs : DA}
theorem tX_asg {K : PySem.W.Frag} {E : Ends} {σ : L2.St} {H : Hp} (hx : ∀ i ∈ fx, i ∉ tv) (h : tXS K fx (asgS f st) E σ H) : tX K f σ H fun x H1 => tXG K tv st x σ H1 E.nx := by
  obtain ⟨W, ρ, φ, fl, s, hf, k⟩ := h
  unfold asgS at hf
  obtain ⟨⟨r, ρ1⟩, e1, hf⟩ := Option.bind_eq_some_iff.mp hf
  split at hf
  · cases hf
  · rename_i n
    obtain ⟨ρ2, e2, hf⟩ := Option.bind_eq_some_iff.mp hf
    cases hf
    refine ⟨W, ρ, φ, r, ρ1, s, e1, fun v W1 H1 φ1 l o => ?_⟩
    have n' : notPk r = true := by
      cases r <;> first | rfl | exact absurd rfl (n _)
    exact ⟨W1, ρ1, φ1, r, l, ρ2, o.ss, o.rx.toRV n', o.dj, e2, fun σ2 W2 H2 φ2 g => k σ2 W2 H2 φ2 (OutG.s s o.ev o.sub o.subl g hx)⟩
theorem px_asg (he : PX X e f) (hg : PXG X tg tv st) (hx : ∀ i ∈ fx, i ∉ tv := by decide) (hs : swapsWithSole [tg] e pos.line X.env = pure false := by rfl) (hw : swappedStores [tg] e X.env = pure none := by rfl)
    (h1 : (assignEach [tg] X.env).map (·.2) = [assign tg X.env] := by rfl) : PXS X fx (.Assign [tg] e pos) (asgS f st) :=
  PS.mono (ps_asg he hg hs hw h1) fun _ _ _ h => tX_asg hx h
/-- name = value -/
theorem px_set (i : Nat) {x : Str} {pos' : Pos} (hN : X.N.Nodup) (he : PX X e f) (hi : X.N[i]? = some x := by rfl) (hl : Loc X.env.scope x := by first | exact Or.inl rfl | exact Or.inr rfl) (hx : ∀ j ∈ fx, j ∉ [i] := by decide)
    (hs : swapsWith e (some (.Name x pos')) pos.line X.env = pure false := by rfl) (hf : X.fn x = true ∨ X.env.scope.names.lookup x = some .local := by first | exact .inl rfl | exact .inr rfl | assumption) : PXS X fx (.Assign [.Name x pos'] e pos) (asgS f (nameT i)) := by
  refine PS.mono (ps_set hN hi hl he hs hf) ?_
  intro E σ H h
  have := tX_asg (tv := [i]) hx h
  obtain ⟨W, ρ, φ, r, ρ1, s, e1, k⟩ := this
  refine ⟨W, ρ, φ, r, ρ1, s, e1, fun v W1 H1 φ1 l o => ?_⟩
  obtain ⟨W2, ρ2, φ2, r2, l2, ρ3, s2, rv, dj, hst, k2⟩ := k v W1 H1 φ1 l o
  cases hst
  show E.nx (σ.set i (some v)) H1
  refine k2 _ W2 H1 _ ⟨Ev.refl .., s2.set rv dj, fun a h => .inl ((setF_in h).elim .inl .inr), fun j hj => ?_, by rw [List.length_set]⟩
  rw [List.getElem?_set_ne]
  rintro rfl
  exact hj List.mem_cons_self
end
end DL

namespace DL
open PySem PySem.Spec PyProof.Rows L2

section
variable {X : Cx} {pos : Pos} {e tg : Expr} {es ts : List Expr} {st : DTg} {sts : List DTg} {tv fx : List Nat} {f : DE} {fs : DA}
theorem parS_inv {sts : List DTg} {fs : DA} {ρ : Rho} {fl : Fl} (h : parS fs sts ρ = some fl) : ∃ rs ρ1 ρ2, fs ρ = some (rs, ρ1) ∧ rs.all notPk = true ∧ stL sts rs ρ1 = some ρ2 ∧ fl = .nx ρ2 := by
  unfold parS at h
  obtain ⟨⟨rs, ρ1⟩, e1, h⟩ := Option.bind_eq_some_iff.mp h
  split at h
  · rename_i n
    obtain ⟨ρ2, e2, h⟩ := Option.bind_eq_some_iff.mp h
    cases h
    exact ⟨rs, ρ1, ρ2, e1, n, e2, rfl⟩
  · cases h
theorem set_out {K : PySem.W.Frag} {W : Addr → Prop} {H : Hp} {σ : L2.St} {ρ : Rho} {φ : Fp} {v : V} {r : Vl} {l : List Addr} {i : Nat} (s : SS K W H σ ρ φ) (rv : RV K W H v r l) (dj : ∀ a ∈ l, ¬ InF φ a) :
    OutG K W H (fpl φ l) σ [i] (ρ.set i (some r)) (σ.set i (some v)) W H (setF φ i l ρ.length) := by
  refine ⟨Ev.refl .., s.set rv dj, fun a h => .inl ((setF_in h).elim .inl .inr), fun j hj => ?_, by rw [List.length_set]⟩
  rw [List.getElem?_set_ne]
  rintro rfl
  exact hj List.mem_cons_self
/-- stores of names, one after another -/
theorem sets_out {K : PySem.W.Frag} {W : Addr → Prop} {H : Hp} : ∀ (is : List Nat) {σ : L2.St} {ρ ρ' : Rho} {φ : Fp} {vs : List V} {rs : List Vl} {l : List Addr}, SS K W H σ ρ φ → RVs K W H vs rs l → (∀ a ∈ l, ¬ InF φ a) → stL (is.map nameT) rs ρ = some ρ' →
    ∃ φ', OutG K W H (fpl φ l) σ is ρ' ((is.zip vs).foldl (fun σ p => σ.set p.1 (some p.2)) σ) W H φ'
  | [], σ, ρ, ρ', φ, _, _, _, s, .nil, dj, h => by
    cases h
    exact ⟨φ, Ev.refl .., s, fun a h => .inl (.inl h), fun _ _ => rfl, rfl⟩
  | [], _, _, _, _, _, _, _, s, .cons _ _ _, dj, h => by cases h
  | i :: is, _, _, _, _, _, _, _, s, .nil, dj, h => by cases h
  | i :: is, σ, ρ, ρ', φ, _, _, _, s, .cons (v := v) (vs := vs) (r := r) (rs := rs) (l := l) (ls := ls) hv hr d, dj, h => by
    rw [List.map_cons] at h
    unfold stL at h
    obtain ⟨ρ1, e1, h⟩ := Option.bind_eq_some_iff.mp h
    cases e1
    have dl : ∀ a ∈ l, ¬ InF φ a := fun a h => dj a (List.mem_append_left _ h)
    have dls : ∀ a ∈ ls, ¬ InF φ a := fun a h => dj a (List.mem_append_right _ h)
    have o1 := set_out (i := i) s hv dl
    obtain ⟨φ', o2⟩ := sets_out is o1.ss hr (fun a h q => (setF_in q).elim (dls a h) fun z => d a z h) h
    exact ⟨φ', OutG.cons s hv hr dl o1 d dls o2⟩
theorem tXA_par {K : PySem.W.Frag} {E : Ends} {σ : L2.St} {H : Hp} (is : List Nat) (hx : ∀ i ∈ fx, i ∉ is) (h : tXS K fx (parS fs (is.map nameT)) E σ H) :
    tXA K fs σ H fun vs H1 => vs.length = is.length ∧ E.nx ((is.zip vs).foldl (fun σ p => σ.set p.1 (some p.2)) σ) H1 := by
  obtain ⟨W, ρ, φ, fl, s, hf, k⟩ := h
  obtain ⟨rs, ρ1, ρ2, e1, n, e2, rfl⟩ := parS_inv hf
  refine ⟨W, ρ, φ, rs, ρ1, s, e1, fun vs W1 H1 φ1 l o => ?_⟩
  have rv := o.rx.toRVs n
  obtain ⟨φ2, g⟩ := sets_out is o.ss rv o.dj e2
  refine ⟨?_, k _ W1 H1 φ2 (OutG.s s o.ev o.sub o.subl g hx)⟩
  have ll : ∀ (sts : List DTg) (rs : List Vl) (ρ : Rho), stL sts rs ρ = some ρ2 → sts.length = rs.length := by
    intro sts
    induction sts with
    | nil => intro rs ρ h; cases rs with
      | nil => rfl
      | cons => cases h
    | cons s ss ih => intro rs ρ h; cases rs with
      | nil => cases h
      | cons r rs =>
        unfold stL at h
        obtain ⟨ρ1, _, h⟩ := Option.bind_eq_some_iff.mp h
        rw [List.length_cons, List.length_cons, ih rs ρ1 h]
  have := ll _ _ _ e2
  rw [List.length_map] at this
  rw [rv.length, this]
theorem px_par2 (i j : Nat) {x y : Str} {a b : Expr} {px py pt : Pos} {kt k2 pt2} (hc : X.calm = true) (hN : X.N.Nodup) (ha : PXA X [a, b] fs) (hi : X.N[i]? = some x := by rfl) (hj : X.N[j]? = some y := by rfl) (hij : i ≠ j := by decide)
    (hx : X.env.scope.names.lookup x = some .local := by rfl) (hy : X.env.scope.names.lookup y = some .local := by rfl) (hfx : ∀ k ∈ fx, k ∉ [i, j] := by decide)
    (hw : swappedStores [.Tuple [.Name x px, .Name y py] kt pt] (.Tuple [a, b] k2 pt2) X.env = pure (some [x, y]) := by rfl)
    (hs : swapsWithSole [.Tuple [.Name x px, .Name y py] kt pt] (.Tuple [a, b] k2 pt2) pos.line X.env = pure false := by rfl) :
    PXS X fx (.Assign [.Tuple [.Name x px, .Name y py] kt pt] (.Tuple [a, b] k2 pt2) pos) (parS fs [nameT i, nameT j]) := by
  refine PS.mono (ps_par hc hN hi hj hij hx hy ha hw hs) ?_
  intro E σ H h
  obtain ⟨W, ρ, φ, rs, ρ1, s, e1, k⟩ := tXA_par [i, j] hfx h
  refine ⟨W, ρ, φ, rs, ρ1, s, e1, fun vs W1 H1 φ1 l o => ?_⟩
  obtain ⟨hl, q⟩ := k vs W1 H1 φ1 l o
  match vs, hl with
  | [v, w], _ => exact ⟨v, w, rfl, q⟩
/-- the same, any targets, by a tuple that is not kept -/
theorem px_parT {k : Nat} {n : Nat} {x1 pt2 tpos : _} (hc : X.calm = true) (ha : PXA X es fs) (hg : PXGs X ts tv sts) (hn : (assignEach ts X.env).length = n := by rfl) (hst : (assignEach ts X.env).findIdx? (·.1) = none := by rfl) (hlen : sts.length = n := by rfl) (hn2 : n ≤ 1000 := by decide) (hx : ∀ i ∈ fx, i ∉ tv := by decide)
    (hs : swapsWithSole [.Tuple ts k tpos] (.Tuple es x1 pt2) pos.line X.env = pure false := by rfl) (hw : swappedStores [.Tuple ts k tpos] (.Tuple es x1 pt2) X.env = pure none := by rfl)
    (h1 : (assignEach [.Tuple ts k tpos] X.env).map (·.2) = [assign (.Tuple ts k tpos) X.env] := by rfl) : PXS X fx (.Assign [.Tuple ts k tpos] (.Tuple es x1 pt2) pos) (parS fs sts) := by
  refine PS.mono (ps_asg (pe_tup ha) (pg_tup hc hg hn hst) hs hw h1) ?_
  rintro E σ H ⟨W, ρ, φ, fl, s, hf, k⟩
  obtain ⟨rs, ρ1, ρ2, e1, nn, e2, rfl⟩ := parS_inv hf
  refine ⟨W, ρ, φ, rs, ρ1, s, e1, fun vs W1 H1 φ1 l o => ?_⟩
  have rv := o.rx.toRVs nn
  have ll : ∀ (sts : List DTg) (rs : List Vl) (ρ : Rho), stL sts rs ρ = some ρ2 → sts.length = rs.length := by
    intro sts
    induction sts with
    | nil => intro rs ρ h; cases rs with
      | nil => rfl
      | cons => cases h
    | cons s ss ih => intro rs ρ h; cases rs with
      | nil => cases h
      | cons r rs =>
        unfold stL at h
        obtain ⟨ρ1, _, h⟩ := Option.bind_eq_some_iff.mp h
        rw [List.length_cons, List.length_cons, ih rs ρ1 h]
  have l1 := ll _ _ _ e2
  have lv : vs.length = n := by rw [rv.length, ← l1, hlen]
  refine ⟨small_size (by rw [lv]; exact hn2), fun p np => ?_⟩
  have up : ∀ a ob, H1 a = some ob → upd H1 p (.tup vs) a = some ob := fun a ob e => by rw [upd_ne (ne_of_none e np)]; exact e
  have evp : Ev (fun _ => False) W1 H1 W1 (upd H1 p (.tup vs)) := Ev.grow up
  have xtp : Wxt W1 H1 W1 (upd H1 p (.tup vs)) := ⟨fun _ h => h, fun a ob e _ => up a ob e⟩
  have sp := o.ss.ev evp xtp (fun _ _ z => z) fun a h => let ⟨ob, e⟩ := o.ss.wf a h; ⟨ob, up a ob e⟩
  refine ⟨p, vs, rfl, .of upd_same, lv, W1, ρ1, φ1, rs, l, ρ2, sp, rv.ev evp xtp (fun _ _ z => z), o.dj, e2, fun σ2 W2 H2 φ2 g => k σ2 W2 H2 φ2 ?_⟩
  refine OutG.s s (o.ev.trans (fp1 := fun _ => False) (fun _ z => z.elim) evp) o.sub o.subl g hx
end

/-! ### what is walked -/
abbrev DI := Rho → Option (List D × Rho)
/-- from the state W, H on the iterator J yields ds, whatever is done to what is not fixed -/
def Walks (K : PySem.W.Frag) (W : Addr → Prop) (H : Hp) (J : It) (ds : List D) : Prop :=
  ∀ (i : Nat) (W1 : Addr → Prop) (H1 : Hp), Wxt W H W1 H1 → (∀ d, ds[i]? = some d → J.go i H1 ∧ ∀ x H2, J.yld i H1 x H2 → (∀ a o, H1 a = some o → H2 a = some o) ∧ Fz K W1 H2 x d) ∧ (ds.length ≤ i → J.stop i H1)
def tXI (K : PySem.W.Frag) (f : DI) : TI := fun σ H R => ∃ W ρ φ ds ρ', SS K W H σ ρ φ ∧ f ρ = some (ds, ρ') ∧ ∀ J W' H' φ', OutT K W H (InF φ) σ ρ' W' H' φ' → Walks K W' H' J ds → R J H'
abbrev PXI (X : Cx) (tg e : Expr) (f : DI) : Prop := PI X tg e (tXI X.K f)
section
variable {K : PySem.W.Frag} {W W1 W2 : Addr → Prop} {H H1 H2 : Hp} {σ : L2.St} {ρ ρ1 : Rho} {φ φ1 : Fp} {l : List Addr} {v : V} {r : Vl}
/-- the value of an expression made fixed -/
theorem Out.fix (s : SS K W H σ ρ φ) (o : Out K W H (InF φ) σ ρ1 r v W1 H1 φ1 l) {d : D} (e : frz r = some d) : OutT K W H (InF φ) σ ρ1 (Or W1 l) H1 φ1 ∧ Fz K (Or W1 l) H1 v d := by
  have ev : Ev (fun a => a ∈ l) W1 H1 (Or W1 l) H1 := ⟨fun _ h => .inl h, fun _ _ h _ => h, fun a o h n q => q.elim id fun z => absurd z n⟩
  refine ⟨⟨o.ev.trans (fp1 := fun a => a ∈ l) o.subl ev, o.ss.ev ev Wxt.or (fun a h q => o.dj a q h) fun a h => h.elim (o.ss.wf a) fun z => let ⟨_, ob, q, _⟩ := o.rx.own a z; ⟨ob, q⟩, o.sub⟩, o.rx.frz (fun _ h => .inl h) (fun b h => .inr h) e⟩
theorem Wxt.sq {a : Addr} {xs : List V} (x : Wxt W H W1 H1) (w : W a) (h : H a = some (.lst xs)) : SqL K H1 a xs := .of (x.fix _ _ h (.inl w))
theorem walks_list {a : Addr} {xs : List V} {ds : List D} (w : ∀ W1 H1, Wxt W H W1 H1 → SqL K H1 a xs) (f : FzA K W H xs ds) : Walks K W H (Itl K a) ds := by
  intro i W1 H1 x
  refine ⟨fun d e => ?_, fun h => ⟨xs, w W1 H1 x, by rw [f.length]; exact h⟩⟩
  obtain ⟨v, e1, e2⟩ := f.getD e
  refine ⟨⟨xs, v, w W1 H1 x, e1⟩, ?_⟩
  rintro y H2 ⟨rfl, h⟩
  have := h xs (w W1 _ x)
  rw [e1] at this
  cases this
  exact ⟨fun _ _ h => h, e2.xt x⟩
theorem walks_tup {a : Addr} {xs : List V} {ds : List D} (w : SqT K H a xs) (f : FzA K W H xs ds) : Walks K W H (Itt K a) ds := by
  intro i W1 H1 x
  have w1 := SqT.xt x w
  refine ⟨fun d e => ?_, fun h => ⟨xs, w1, by rw [f.length]; exact h⟩⟩
  obtain ⟨v, e1, e2⟩ := f.getD e
  refine ⟨⟨xs, v, w1, e1⟩, ?_⟩
  rintro y H2 ⟨rfl, h⟩
  have := h xs w1
  rw [e1] at this
  cases this
  exact ⟨fun _ _ h => h, e2.xt x⟩
end
/-- the items of a value that is fixed from here on -/
def seqD : D → Option (List D)
  | .list ds => some ds
  | .tuple ds => some ds
  | _ => none
def frzL : Vl → Option D
  | .lk ds => some (.list ds)
  | v => frz v
def seqI (f : DE) : DI := fun ρ => (f ρ).bind fun p => (frzL p.1).bind fun d => (seqD d).bind fun ds => some (ds, p.2)
section
variable {X : Cx} {pos : Pos} {e tg : Expr} {f : DE}
/-- a list or a tuple -/
theorem pi_both {te : TE} (he : PE X e te) : PI X tg e (fun σ H R => te σ H fun x H1 => ∃ a, x = .ref a ∧ (((∃ xs, SqL X.K H1 a xs) ∧ R (Itl X.K a) H1) ∨ ((∃ xs, SqT X.K H1 a xs) ∧ R (Itt X.K a) H1))) := by
  constructor
  intro pins s σ H R I h
  refine thn (he.run pins s σ H _ I h) ?_
  rintro v s1 ⟨x, H1, I1, r1, a, rfl, q⟩
  cases r1
  have new : ∀ b ∈ [s1.heap.objs.size], FpOk X pins H1 b := fun b hb => by
    obtain rfl := List.mem_singleton.mp hb
    exact I1.fpOk (Nat.le_refl _) (I1.hok.fresh (Nat.le_refl _))
  rcases q with ⟨⟨xs, hq⟩, q⟩ | ⟨⟨xs, hq⟩, q⟩
  · obtain ⟨its, rv, p, hz⟩ := I1.list hq
    refine wpAny_pyIter_list p.isList ?_
    exact ⟨_, [_], _, _, H1, rfl, I1.kept (t' := s1.toks) fun b o e => Heap.get?_push_of_some _ e, turn_list a _, ⟨_, Heap.get?_push_size _ rfl, rfl, rfl⟩, new, q⟩
  · obtain ⟨its, rv, p, hz⟩ := I1.tuple hq
    refine wpAny_pyIter_tuple (show s1.heap.IsTuple a its.toArray from p) ?_
    exact ⟨_, [_], _, _, H1, rfl, I1.kept (t' := s1.toks) fun b o e => Heap.get?_push_of_some _ e, turn_tuple a _, ⟨_, Heap.get?_push_size _ rfl, rfl, rfl⟩, new, q⟩
theorem pxi_seq (he : PX X e f) : PXI X tg e (seqI f) := by
  refine PI.mono (pi_both he) ?_
  rintro σ H R ⟨W, ρ, φ, ds, ρ', s, hf, k⟩
  unfold seqI at hf
  obtain ⟨⟨r, ρ1⟩, e1, hf⟩ := Option.bind_eq_some_iff.mp hf
  obtain ⟨d, e2, hf⟩ := Option.bind_eq_some_iff.mp hf
  obtain ⟨ds', e3, hf⟩ := Option.bind_eq_some_iff.mp hf
  cases hf
  refine ⟨W, ρ, φ, r, _, s, e1, fun v W1 H1 φ1 l o => ?_⟩
  by_cases hk : ∃ es, r = .lk es
  · obtain ⟨es, rfl⟩ := hk
    cases e2
    cases e3
    cases o.rx with
    | rv z => cases z with
      | lk a b => exact ⟨_, rfl, .inl ⟨⟨_, a.sq⟩, k _ W1 H1 φ1 o.t (walks_list (fun W2 H2 x => (a.xt x).sq) b)⟩⟩
  · have e2' : frz r = some d := by
      cases r <;> first | exact e2 | exact absurd ⟨_, rfl⟩ hk
    obtain ⟨o2, fz⟩ := o.fix s e2'
    cases fz with
    | lst w h g => cases e3; exact ⟨_, rfl, .inl ⟨⟨_, .of h⟩, k _ _ H1 φ1 o2 (walks_list (fun W2 H2 x => x.sq w h) g)⟩⟩
    | tup h g => cases e3; exact ⟨_, rfl, .inr ⟨⟨_, h⟩, k _ _ H1 φ1 o2 (walks_tup h g)⟩⟩
    | non => cases e3
    | bl => cases e3
    | int => cases e3
    | str => cases e3
    | dct => cases e3
end
end DL

namespace DL
open PySem PySem.Spec PyProof.Rows L2
noncomputable section

/-! ### ranges, pairs -/
def rngD (lo : Int) (n : Nat) : List D := (List.range n).map fun t : Nat => .int (lo + (t : Int))
def rngDn (hi : Int) (n : Nat) : List D := (List.range n).map fun t : Nat => .int (hi - (t : Int))
theorem smallX : ∃ f : Int → Bool, ∀ i, f i = decide (-4611686018427387904 ≤ i ∧ i < 4611686018427387904) := ⟨fun i => decide (-4611686018427387904 ≤ i ∧ i < 4611686018427387904), fun _ => rfl⟩
def smallI : Int → Bool := Classical.choose smallX
theorem smallI_eq (i : Int) : smallI i = decide (-4611686018427387904 ≤ i ∧ i < 4611686018427387904) := Classical.choose_spec smallX i
def rngI1 (fs : DA) : DI := fun ρ => (fs ρ).bind fun p => (curA p.2 p.1).bind fun ds => match ds with
  | [.int j] => if smallI j then some (rngD 0 j.toNat, p.2) else none
  | _ => none
def rngI2 (fs : DA) : DI := fun ρ => (fs ρ).bind fun p => (curA p.2 p.1).bind fun ds => match ds with
  | [.int i, .int j] => if smallI i && smallI j then some (rngD i (j - i).toNat, p.2) else none
  | _ => none
/-- range(i, j, -1) -/
def rngI3 (fs : DA) : DI := fun ρ => (fs ρ).bind fun p => (curA p.2 p.1).bind fun ds => match ds with
  | [.int i, .int j, .int c] => if smallI i && smallI j && decide (c = -1) then some (rngDn i (i - j).toNat, p.2) else none
  | _ => none
def zipD : List D → List D → List D
  | a :: as, b :: bs => .tuple [a, b] :: zipD as bs
  | _, _ => []
def zipI (fs : DA) : DI := fun ρ => (fs ρ).bind fun p => (frzA p.1).bind fun ds => match ds with
  | [.list a, .list b] => some (zipD a b, p.2)
  | [.tuple a, .tuple b] => some (zipD a b, p.2)
  | _ => none
def enumD : Nat → List D → List D
  | _, [] => []
  | n, d :: ds => .tuple [.int (n : Int), d] :: enumD (n + 1) ds
def enumI (fs : DA) : DI := fun ρ => (fs ρ).bind fun p => (frzA p.1).bind fun ds => match ds with
  | [.list a] => some (enumD 0 a, p.2)
  | _ => none
def revI (f : DE) : DI := fun ρ => (f ρ).bind fun p => (frz p.1).bind fun d => (seqD d).bind fun ds => some (ds.reverse, p.2)
section
variable {K : PySem.W.Frag} {W W1 W2 : Addr → Prop} {H H1 H2 : Hp} {σ : L2.St} {ρ ρ1 : Rho} {φ φ1 : Fp} {l : List Addr} {vs : List V} {rs : List Vl}
theorem OutA.fix (o : OutA K W H (InF φ) σ ρ1 rs vs W1 H1 φ1 l) {ds : List D} (e : frzA rs = some ds) : OutT K W H (InF φ) σ ρ1 (Or W1 l) H1 φ1 ∧ FzA K (Or W1 l) H1 vs ds := by
  have ev := Ev.freeze o.rx
  exact ⟨⟨o.ev.trans (fp1 := fun a => a ∈ l) o.subl ev, o.ss.ev ev Wxt.or (fun a h q => o.dj a q h) (wf_freeze o.rx o.ss.wf), o.sub⟩, o.rx.frz (fun _ h => .inl h) (fun b h => .inr h) e⟩
theorem OutA.t (o : OutA K W H (InF φ) σ ρ1 rs vs W1 H1 φ1 l) : OutT K W H (InF φ) σ ρ1 W1 H1 φ1 := ⟨o.ev, o.ss, o.sub⟩
theorem CtR.int_inv {v : V} {i : Int} (h : CtR K H v (.int i)) : v = .int i := by
  cases h with
  | ct h => cases h; rfl
theorem CtRA.int1 {vs : List V} {i : Int} (h : CtRA K H vs [.int i]) : vs = [.int i] := by
  cases h with
  | cons h t => cases t; rw [h.int_inv]
theorem CtRA.int2 {vs : List V} {i j : Int} (h : CtRA K H vs [.int i, .int j]) : vs = [.int i, .int j] := by
  cases h with
  | cons h t => rw [h.int_inv, t.int1]
theorem CtRA.int3 {vs : List V} {i j k : Int} (h : CtRA K H vs [.int i, .int j, .int k]) : vs = [.int i, .int j, .int k] := by
  cases h with
  | cons h t => rw [h.int_inv, t.int2]
theorem rngD_get {lo : Int} {n i : Nat} {d : D} (h : (rngD lo n)[i]? = some d) : i < n ∧ d = .int (lo + i) := by
  unfold rngD at h
  rw [List.getElem?_map] at h
  cases e : (List.range n)[i]? with
  | none => rw [e] at h; cases h
  | some t =>
    rw [e] at h
    have q := List.getElem?_eq_some_iff.mp e
    obtain ⟨q1, q2⟩ := q
    rw [List.getElem_range] at q2
    subst q2
    rw [List.length_range] at q1
    cases h
    exact ⟨q1, rfl⟩
theorem rngDn_get {lo : Int} {n i : Nat} {d : D} (h : (rngDn lo n)[i]? = some d) : i < n ∧ d = .int (lo - i) := by
  unfold rngDn at h
  rw [List.getElem?_map] at h
  cases e : (List.range n)[i]? with
  | none => rw [e] at h; cases h
  | some t =>
    rw [e] at h
    have q := List.getElem?_eq_some_iff.mp e
    obtain ⟨q1, q2⟩ := q
    rw [List.getElem_range] at q2
    subst q2
    rw [List.length_range] at q1
    cases h
    exact ⟨q1, rfl⟩
theorem rngD_length {lo : Int} {n : Nat} : (rngD lo n).length = n := by unfold rngD; rw [List.length_map, List.length_range]
theorem rngDn_length {lo : Int} {n : Nat} : (rngDn lo n).length = n := by unfold rngDn; rw [List.length_map, List.length_range]
theorem walks_rng (lo : Int) (n : Nat) : Walks K W H (Itr lo n) (rngD lo n) := by
  intro i W1 H1 x
  refine ⟨fun d e => ?_, fun h => by rw [rngD_length] at h; exact h⟩
  obtain ⟨h1, rfl⟩ := rngD_get e
  refine ⟨h1, ?_⟩
  rintro y H2 ⟨rfl, rfl⟩
  exact ⟨fun _ _ h => h, .int _⟩
theorem walks_rngDn (lo : Int) (n : Nat) : Walks K W H (Itc lo (-1) n) (rngDn lo n) := by
  intro i W1 H1 x
  refine ⟨fun d e => ?_, fun h => by rw [rngDn_length] at h; exact h⟩
  obtain ⟨h1, rfl⟩ := rngDn_get e
  refine ⟨h1, ?_⟩
  rintro y H2 ⟨rfl, rfl⟩
  refine ⟨fun _ _ h => h, ?_⟩
  have e : lo + (i : Int) * -1 = lo - i := by omega
  rw [e]
  exact .int _
theorem zipD_get : ∀ {as bs : List D} {i : Nat} {d : D}, (zipD as bs)[i]? = some d → ∃ a b, as[i]? = some a ∧ bs[i]? = some b ∧ d = .tuple [a, b]
  | [], _, _, _, h => by simp [zipD] at h
  | _ :: _, [], _, _, h => by simp [zipD] at h
  | a :: as, b :: bs, 0, d, h => by
    simp [zipD] at h
    exact ⟨a, b, rfl, rfl, h.symm⟩
  | a :: as, b :: bs, i + 1, d, h => by
    simp only [zipD, List.getElem?_cons_succ] at h ⊢
    exact zipD_get h
theorem zipD_length : ∀ {as bs : List D}, (zipD as bs).length = min as.length bs.length
  | [], _ => by simp [zipD]
  | _ :: _, [] => by simp [zipD]
  | a :: as, b :: bs => by simp only [zipD, List.length_cons, zipD_length]; omega
theorem pair_fz {H2 : Hp} {T : Addr} {x y : V} {a b : D} (up : ∀ c o, H1 c = some o → H2 c = some o) (hT : H2 T = some (.tup [x, y])) (h1 : Fz K W1 H1 x a) (h2 : Fz K W1 H1 y b) : Fz K W1 H2 (.ref T) (.tuple [a, b]) := by
  have x' : Wxt W1 H1 W1 H2 := ⟨fun _ h => h, fun c o e _ => up c o e⟩
  exact .tup (.of hT) (.cons (h1.xt x') (.cons (h2.xt x') .nil))
theorem upd_up {p : Addr} {o : HO} (np : H p = none) : ∀ a ob, H a = some ob → upd H p o a = some ob := fun a ob e => by rw [upd_ne (ne_of_none e np)]; exact e
theorem walks_zip {a b : Addr} {xs ys : List V} {as bs : List D} (wa : ∀ W1 H1, Wxt W H W1 H1 → SqL K H1 a xs) (wb : ∀ W1 H1, Wxt W H W1 H1 → SqL K H1 b ys) (fa : FzA K W H xs as) (fb : FzA K W H ys bs) : Walks K W H (Itz K a b) (zipD as bs) := by
  intro i W1 H1 x
  refine ⟨fun d e => ?_, fun h => ⟨xs, ys, wa W1 H1 x, wb W1 H1 x, ?_⟩⟩
  · obtain ⟨p, q, e1, e2, rfl⟩ := zipD_get e
    obtain ⟨v, g1, g2⟩ := fa.getD e1
    obtain ⟨u, g3, g4⟩ := fb.getD e2
    refine ⟨⟨xs, ys, v, u, wa W1 H1 x, wb W1 H1 x, g1, g3⟩, ?_⟩
    rintro y H2 ⟨T, x1, x2, rfl, nT, rfl, h1, h2⟩
    have q1 := h1 xs (wa W1 H1 x)
    have q2 := h2 ys (wb W1 H1 x)
    rw [g1] at q1
    rw [g3] at q2
    cases q1
    cases q2
    exact ⟨upd_up nT, pair_fz (upd_up nT) upd_same (g2.xt x) (g4.xt x)⟩
  · rw [zipD_length] at h
    rw [fa.length, fb.length]
    omega
theorem walks_zipT {a b : Addr} {xs ys : List V} {as bs : List D} (wa : SqT K H a xs) (wb : SqT K H b ys) (fa : FzA K W H xs as) (fb : FzA K W H ys bs) : Walks K W H (RZ.ItzT K a b) (zipD as bs) := by
  intro i W1 H1 x
  have wa1 := SqT.xt x wa
  have wb1 := SqT.xt x wb
  refine ⟨fun d e => ?_, fun h => ⟨xs, ys, wa1, wb1, ?_⟩⟩
  · obtain ⟨p, q, e1, e2, rfl⟩ := zipD_get e
    obtain ⟨v, g1, g2⟩ := fa.getD e1
    obtain ⟨u, g3, g4⟩ := fb.getD e2
    refine ⟨⟨xs, ys, v, u, wa1, wb1, g1, g3⟩, ?_⟩
    rintro y H2 ⟨T, x1, x2, rfl, nT, rfl, h1, h2⟩
    have q1 := h1 xs wa1
    have q2 := h2 ys wb1
    rw [g1] at q1
    rw [g3] at q2
    cases q1
    cases q2
    exact ⟨upd_up nT, pair_fz (upd_up nT) upd_same (g2.xt x) (g4.xt x)⟩
  · rw [zipD_length] at h
    rw [fa.length, fb.length]
    omega
theorem enumD_get : ∀ {as : List D} {n i : Nat} {d : D}, (enumD n as)[i]? = some d → ∃ a, as[i]? = some a ∧ d = .tuple [.int ((n + i : Nat) : Int), a]
  | [], _, _, _, h => by simp [enumD] at h
  | a :: as, n, 0, d, h => by
    simp [enumD] at h
    exact ⟨a, rfl, h.symm⟩
  | a :: as, n, i + 1, d, h => by
    simp only [enumD, List.getElem?_cons_succ] at h ⊢
    obtain ⟨b, h1, h2⟩ := enumD_get h
    refine ⟨b, h1, ?_⟩
    rw [h2]
    have : n + 1 + i = n + (i + 1) := by omega
    rw [this]
theorem enumD_length : ∀ {as : List D} {n : Nat}, (enumD n as).length = as.length
  | [], _ => rfl
  | a :: as, n => by simp only [enumD, List.length_cons, enumD_length]
theorem walks_enum {a : Addr} {xs : List V} {as : List D} (wa : ∀ W1 H1, Wxt W H W1 H1 → SqL K H1 a xs) (fa : FzA K W H xs as) : Walks K W H (Ite K a) (enumD 0 as) := by
  intro i W1 H1 x
  refine ⟨fun d e => ?_, fun h => ⟨xs, wa W1 H1 x, by rw [enumD_length] at h; rw [fa.length]; exact h⟩⟩
  obtain ⟨p, e1, rfl⟩ := enumD_get e
  obtain ⟨v, g1, g2⟩ := fa.getD e1
  refine ⟨⟨xs, v, wa W1 H1 x, g1⟩, ?_⟩
  rintro y H2 ⟨T, x1, rfl, nT, rfl, h1⟩
  have q1 := h1 xs (wa W1 H1 x)
  rw [g1] at q1
  cases q1
  refine ⟨upd_up nT, pair_fz (upd_up nT) upd_same ?_ (g2.xt x)⟩
  rw [Nat.zero_add]
  exact .int _
theorem rev_get {α : Type} {xs : List α} {i : Nat} (h : i < xs.length) : xs.reverse[i]? = xs[xs.length - 1 - i]? := List.getElem?_reverse h
theorem walks_rev {a : Addr} {xs : List V} {as : List D} (wa : ∀ W1 H1, Wxt W H W1 H1 → SqL K H1 a xs) (fa : FzA K W H xs as) : Walks K W H (Itv K a xs.length) as.reverse := by
  intro i W1 H1 x
  refine ⟨fun d e => ?_, fun h => by rw [List.length_reverse] at h; show xs.length ≤ i; rw [fa.length]; exact h⟩
  have hi : i < as.length := by
    have := (List.getElem?_eq_some_iff.mp e).1
    rwa [List.length_reverse] at this
  rw [rev_get hi] at e
  obtain ⟨v, g1, g2⟩ := fa.getD e
  rw [← fa.length] at g1
  refine ⟨⟨by rw [fa.length]; exact hi, xs, v, wa W1 H1 x, g1⟩, ?_⟩
  rintro y H2 ⟨rfl, h⟩
  have q := h xs (wa W1 _ x)
  rw [g1] at q
  cases q
  exact ⟨fun _ _ h => h, g2.xt x⟩
theorem walks_revT {a : Addr} {xs : List V} {as : List D} (wa : SqT K H a xs) (fa : FzA K W H xs as) : Walks K W H (RT.ItvT K a xs.length) as.reverse := by
  intro i W1 H1 x
  have wa1 := SqT.xt x wa
  refine ⟨fun d e => ?_, fun h => by rw [List.length_reverse] at h; show xs.length ≤ i; rw [fa.length]; exact h⟩
  have hi : i < as.length := by
    have := (List.getElem?_eq_some_iff.mp e).1
    rwa [List.length_reverse] at this
  rw [rev_get hi] at e
  obtain ⟨v, g1, g2⟩ := fa.getD e
  rw [← fa.length] at g1
  refine ⟨⟨by rw [fa.length]; exact hi, xs, v, wa1, g1⟩, ?_⟩
  rintro y H2 ⟨rfl, h⟩
  have q := h xs wa1
  rw [g1] at q
  cases q
  exact ⟨fun _ _ h => h, g2.xt x⟩
theorem smallI_iff {i : Int} (h : smallI i = true) : -(2 ^ 62) ≤ i ∧ i < 2 ^ 62 := by
  rw [smallI_eq] at h
  have := of_decide_eq_true h
  have e : (2 : Int) ^ 62 = 4611686018427387904 := by decide
  rw [e]
  omega
end
section
variable {X : Cx} {pos p : Pos} {tg a b c e e2 : Expr} {elts : List Expr} {kk : Nat} {tpos : Pos} {f : DE} {fs : DA}
theorem pxi_range1 (hm : X.mg "range" = none) (ha : PXA X [a] fs) (hg : Gl X "range" := by rfl) (hs : starEach [a] X.env = [(false, eval a X.env)] := by rfl) : PXI X tg (.Call (.Name "range" p) [a] [] pos) (rngI1 fs) := by
  refine PI.mono (pi_range1 hg hm ha hs) ?_
  rintro σ H R ⟨W, ρ, φ, ds, ρ', s, hf, k⟩
  unfold rngI1 at hf
  obtain ⟨⟨rs, ρ1⟩, e1, hf⟩ := Option.bind_eq_some_iff.mp hf
  obtain ⟨es, e2, hf⟩ := Option.bind_eq_some_iff.mp hf
  refine ⟨W, ρ, φ, rs, ρ1, s, e1, fun vs W1 H1 φ1 l o => ?_⟩
  have ct := o.rx.ctR o.ss e2
  split at hf
  · rename_i j
    split at hf
    · rename_i hz
      cases hf
      obtain ⟨h1, h2⟩ := smallI_iff hz
      exact ⟨j, ct.int1, h1, h2, k _ W1 H1 φ1 o.t (walks_rng 0 _)⟩
    · cases hf
  · cases hf
theorem pxi_range2 (hm : X.mg "range" = none) (ha : PXA X [a, b] fs) (hg : Gl X "range" := by rfl) (hs : starEach [a, b] X.env = [(false, eval a X.env), (false, eval b X.env)] := by rfl) (hs2 : starEach [b] X.env = [(false, eval b X.env)] := by rfl) : PXI X tg (.Call (.Name "range" p) [a, b] [] pos) (rngI2 fs) := by
  refine PI.mono (pi_range2 hg hm ha hs hs2) ?_
  rintro σ H R ⟨W, ρ, φ, ds, ρ', s, hf, k⟩
  unfold rngI2 at hf
  obtain ⟨⟨rs, ρ1⟩, e1, hf⟩ := Option.bind_eq_some_iff.mp hf
  obtain ⟨es, e2, hf⟩ := Option.bind_eq_some_iff.mp hf
  refine ⟨W, ρ, φ, rs, ρ1, s, e1, fun vs W1 H1 φ1 l o => ?_⟩
  have ct := o.rx.ctR o.ss e2
  split at hf
  · rename_i i j
    split at hf
    · rename_i hz
      cases hf
      obtain ⟨z1, z2⟩ := Bool.and_eq_true_iff.mp hz
      obtain ⟨h1, h2⟩ := smallI_iff z1
      obtain ⟨h3, h4⟩ := smallI_iff z2
      exact ⟨i, j, ct.int2, ⟨h1, h2, h3, h4⟩, k _ W1 H1 φ1 o.t (walks_rng i _)⟩
    · cases hf
  · cases hf
theorem pxi_range3 (hm : X.mg "range" = none) (ha : PXA X [a, b, c] fs) (hg : Gl X "range" := by rfl) (hs : starEach [a, b, c] X.env = (false, eval a X.env) :: starEach [b, c] X.env := by rfl) (hpl : (backTo pos (starEach [b, c] X.env)).any (·.1) = false := by rfl) : PXI X tg (.Call (.Name "range" p) [a, b, c] [] pos) (rngI3 fs) := by
  refine PI.mono (pi_range3 hg hm ha hs hpl) ?_
  rintro σ H R ⟨W, ρ, φ, ds, ρ', s, hf, k⟩
  unfold rngI3 at hf
  obtain ⟨⟨rs, ρ1⟩, e1, hf⟩ := Option.bind_eq_some_iff.mp hf
  obtain ⟨es, e2, hf⟩ := Option.bind_eq_some_iff.mp hf
  refine ⟨W, ρ, φ, rs, ρ1, s, e1, fun vs W1 H1 φ1 l o => ?_⟩
  have ct := o.rx.ctR o.ss e2
  split at hf
  · rename_i i j c
    split at hf
    · rename_i hz
      cases hf
      rw [Bool.and_eq_true, Bool.and_eq_true, decide_eq_true_eq] at hz
      obtain ⟨⟨z1, z2⟩, rfl⟩ := hz
      obtain ⟨h1, h2⟩ := smallI_iff z1
      obtain ⟨h3, h4⟩ := smallI_iff z2
      exact ⟨i, j, -1, _, ct.int3, RgC.neg h1 h2 h3 h4, k _ W1 H1 φ1 o.t (walks_rngDn i _)⟩
    · cases hf
  · cases hf
theorem FzA.two {K : PySem.W.Frag} {W : Addr → Prop} {H : Hp} {vs : List V} {a b : D} (h : FzA K W H vs [a, b]) : ∃ v u, vs = [v, u] ∧ Fz K W H v a ∧ Fz K W H u b := by
  cases h with
  | cons h t => cases t with
    | cons h2 t => cases t; exact ⟨_, _, rfl, h, h2⟩
theorem FzA.one' {K : PySem.W.Frag} {W : Addr → Prop} {H : Hp} {vs : List V} {a : D} (h : FzA K W H vs [a]) : ∃ v, vs = [v] ∧ Fz K W H v a := by
  cases h with
  | cons h t => cases t; exact ⟨_, rfl, h⟩
theorem Fz.list_inv {K : PySem.W.Frag} {W : Addr → Prop} {H : Hp} {v : V} {ds : List D} (h : Fz K W H v (.list ds)) : ∃ a xs, v = .ref a ∧ W a ∧ H a = some (.lst xs) ∧ FzA K W H xs ds := by
  cases h with
  | lst w h r => exact ⟨_, _, rfl, w, h, r⟩
theorem Fz.tup_inv {K : PySem.W.Frag} {W : Addr → Prop} {H : Hp} {v : V} {ds : List D} (h : Fz K W H v (.tuple ds)) : ∃ a xs, v = .ref a ∧ SqT K H a xs ∧ FzA K W H xs ds := by
  cases h with
  | tup h r => exact ⟨_, _, rfl, h, r⟩
theorem pxi_zip (hm : X.mg "zip" = none) (ha : PXA X [e, e2] fs) (hg : Gl X "zip" := by rfl) (hs : starEach [e, e2] X.env = (false, eval e X.env) :: starEach [e2] X.env := by rfl) (hpl : (backTo pos (starEach [e2] X.env)).any (·.1) = false := by rfl) :
    PXI X (.Tuple elts kk tpos) (.Call (.Name "zip" p) [e, e2] [] pos) (zipI fs) := by
  refine PI.mono (RZ.pi_zipA hg hm ha hs hpl) ?_
  rintro σ H R ⟨W, ρ, φ, ds, ρ', s, hf, k⟩
  unfold zipI at hf
  obtain ⟨⟨rs, ρ1⟩, e1, hf⟩ := Option.bind_eq_some_iff.mp hf
  obtain ⟨es, e2, hf⟩ := Option.bind_eq_some_iff.mp hf
  refine ⟨W, ρ, φ, rs, ρ1, s, e1, fun vs W1 H1 φ1 l o => ?_⟩
  obtain ⟨o2, fz⟩ := o.fix e2
  split at hf
  · cases hf
    obtain ⟨v, u, rfl, f1, f2⟩ := fz.two
    obtain ⟨a, xs, rfl, w1, h1, g1⟩ := f1.list_inv
    obtain ⟨b, ys, rfl, w2, h2, g2⟩ := f2.list_inv
    exact ⟨a, b, xs, ys, rfl, .inl ⟨.of h1, .of h2, k _ _ H1 φ1 o2 (walks_zip (fun _ _ x => x.sq w1 h1) (fun _ _ x => x.sq w2 h2) g1 g2)⟩⟩
  · cases hf
    obtain ⟨v, u, rfl, f1, f2⟩ := fz.two
    obtain ⟨a, xs, rfl, h1, g1⟩ := f1.tup_inv
    obtain ⟨b, ys, rfl, h2, g2⟩ := f2.tup_inv
    exact ⟨a, b, xs, ys, rfl, .inr ⟨h1, h2, k _ _ H1 φ1 o2 (walks_zipT h1 h2 g1 g2)⟩⟩
  · cases hf
theorem pxi_enum (hm : X.mg "enumerate" = none) (ha : PXA X [e] fs) (hg : Gl X "enumerate" := by rfl) (hs : starEach [e] X.env = [(false, eval e X.env)] := by rfl) : PXI X (.Tuple elts kk tpos) (.Call (.Name "enumerate" p) [e] [] pos) (enumI fs) := by
  refine PI.mono (pi_enum hg hm ha hs) ?_
  rintro σ H R ⟨W, ρ, φ, ds, ρ', s, hf, k⟩
  unfold enumI at hf
  obtain ⟨⟨rs, ρ1⟩, e1, hf⟩ := Option.bind_eq_some_iff.mp hf
  obtain ⟨es, e2, hf⟩ := Option.bind_eq_some_iff.mp hf
  refine ⟨W, ρ, φ, rs, ρ1, s, e1, fun vs W1 H1 φ1 l o => ?_⟩
  obtain ⟨o2, fz⟩ := o.fix e2
  split at hf
  · cases hf
    obtain ⟨v, rfl, f1⟩ := fz.one'
    obtain ⟨a, xs, rfl, w1, h1, g1⟩ := f1.list_inv
    exact ⟨a, xs, rfl, .of h1, k _ _ H1 φ1 o2 (walks_enum (fun _ _ x => x.sq w1 h1) g1)⟩
  · cases hf
theorem pxi_rev (hm : X.mg "reversed" = none) (he : PX X e f) (hg : Gl X "reversed" := by rfl) (hs : starEach [e] X.env = (false, eval e X.env) :: starEach [] X.env := by rfl) : PXI X tg (.Call (.Name "reversed" p) [e] [] pos) (revI f) := by
  refine PI.mono (RT.pi_revA hg hm he hs) ?_
  rintro σ H R ⟨W, ρ, φ, ds, ρ', s, hf, k⟩
  unfold revI at hf
  obtain ⟨⟨r, ρ1⟩, e1, hf⟩ := Option.bind_eq_some_iff.mp hf
  obtain ⟨d, e2, hf⟩ := Option.bind_eq_some_iff.mp hf
  obtain ⟨es, e3, hf⟩ := Option.bind_eq_some_iff.mp hf
  cases hf
  refine ⟨W, ρ, φ, r, _, s, e1, fun v W1 H1 φ1 l o => ?_⟩
  obtain ⟨o2, fz⟩ := o.fix s e2
  cases d with
  | list ds =>
    cases e3
    obtain ⟨a, xs, rfl, w1, h1, g1⟩ := fz.list_inv
    exact ⟨a, xs, rfl, .inl ⟨.of h1, k _ _ H1 φ1 o2 (walks_rev (fun _ _ x => x.sq w1 h1) g1)⟩⟩
  | tuple ds =>
    cases e3
    obtain ⟨a, xs, rfl, h1, g1⟩ := fz.tup_inv
    exact ⟨a, xs, rfl, .inr ⟨h1, k _ _ H1 φ1 o2 (walks_revT h1 g1)⟩⟩
  | _ => cases e3
end

/-! ### for, while -/
def forL (st : DTg) (body : DS) : List D → DS
  | [], ρ => some (.nx ρ)
  | d :: ds, ρ => (st (.fz d) ρ).bind fun ρ1 => (body ρ1).bind fun fl => match fl with
    | .nx ρ2 => forL st body ds ρ2
    | .ct ρ2 => forL st body ds ρ2
    | .bk ρ2 => some (.nx ρ2)
    | .rt r ρ2 => some (.rt r ρ2)
def forS (it : DI) (st : DTg) (body : DS) : DS := fun ρ => (it ρ).bind fun p => forL st body p.1 p.2
def whileL (c : DT) (body : DS) : Nat → DS
  | 0, _ => none
  | n + 1, ρ => (c ρ).bind fun p => if p.1 = true then (body p.2).bind fun fl => match fl with
    | .nx ρ2 => whileL c body n ρ2
    | .ct ρ2 => whileL c body n ρ2
    | .bk ρ2 => some (.nx ρ2)
    | .rt r ρ2 => some (.rt r ρ2) else some (.nx p.2)
section
variable {K : PySem.W.Frag} {W W1 W2 : Addr → Prop} {H H1 H2 : Hp} {fp : Addr → Prop} {σ σ1 σ2 : L2.St} {ρ ρ1 ρ2 : Rho} {φ φ1 φ2 : Fp} {fx tv : List Nat} {E : Ends} {fl : Fl}
/-- new objects, then a target's store -/
theorem OutG.turn (s : SS K W H σ ρ φ) (up : ∀ a o, H a = some o → H1 a = some o) (g : OutG K W H1 (fpl φ []) σ tv ρ2 σ2 W2 H2 φ2) (hx : ∀ i ∈ fx, i ∉ tv) : OutS K W H (InF φ) σ fx ρ2 σ2 W2 H2 φ2 :=
  OutG.s (l := []) s (Ev.grow up) (fun a h => .inl h) (fun a h => nomatch h) g hx
theorem SS.grow (s : SS K W H σ ρ φ) (up : ∀ a o, H a = some o → H1 a = some o) : SS K W H1 σ ρ φ :=
  s.ev (Ev.grow (fp := fun _ => False) up) ⟨fun _ h => h, fun a o e _ => up a o e⟩ (fun _ _ z => z) fun a h => let ⟨o, e⟩ := s.wf a h; ⟨o, up a o e⟩
theorem OutS.xt (s : SS K W H σ ρ φ) (o : OutS K W H (InF φ) σ fx ρ1 σ1 W1 H1 φ1) : Wxt W H W1 H1 := o.ev.xt s.notW
end
section
variable {X : Cx} {pos : Pos} {tg it c : Expr} {sts : List Stmt} {fx tv : List Nat} {st : DTg} {fi : DI} {fb : DS} {fc : DT}
theorem px_for (hp : PassesOwn (model X.prog X.w) X.A X.env X.xe) (hc : X.calm = true) (hi : PXI X tg it fi) (hg : PXG X tg tv st) (hb : PXSs X fx sts fb) (hx : ∀ i ∈ fx, i ∉ tv := by decide)
    (hs : ∀ x, foldedSetIterable it X.env x = pure x := by intro _; rfl) : PXS X fx (.For tg it sts [] pos) (forS fi st fb) := by
  refine PS.mono (ps_for hp hc hi hg hb hs) ?_
  rintro E σ H ⟨W, ρ, φ, fl, s, hf, k⟩
  unfold forS at hf
  obtain ⟨⟨ds, ρ1⟩, e1, hf⟩ := Option.bind_eq_some_iff.mp hf
  refine ⟨W, ρ, φ, ds, ρ1, s, e1, fun J W1 H1 φ1 o wk => ?_⟩
  refine ⟨fun i m σ' H' => m + i = ds.length ∧ ∃ W' ρ' φ', SS X.K W' H' σ' ρ' φ' ∧ Wxt W1 H1 W' H' ∧ Want X.K W' H' (InF φ') σ' fx E fl ∧ forL st fb (ds.drop i) ρ' = some fl,
    ⟨ds.length, rfl, W1, ρ1, φ1, o.ss, Wxt.refl .., k.after s.hfp o.s, hf⟩, ?_⟩
  rintro i m σ' H' ⟨hm, W', ρ', φ', s', x', k', hf'⟩
  obtain ⟨w1, w2⟩ := wk i W' H' x'
  by_cases hi : i < ds.length
  · have ed : ds[i]? = some ds[i] := List.getElem?_eq_getElem hi
    rw [List.drop_eq_getElem_cons hi] at hf'
    unfold forL at hf'
    obtain ⟨ρ2, q1, hf'⟩ := Option.bind_eq_some_iff.mp hf'
    obtain ⟨flb, q2, hf'⟩ := Option.bind_eq_some_iff.mp hf'
    obtain ⟨g1, g2⟩ := w1 _ ed
    refine .inr ⟨g1, fun σ'' H'' => m - 1 + (i + 1) = ds.length ∧ ∃ W' ρ' φ', SS X.K W' H'' σ'' ρ' φ' ∧ Wxt W1 H1 W' H'' ∧ Want X.K W' H'' (InF φ') σ'' fx E fl ∧ forL st fb (ds.drop (i + 1)) ρ' = some fl, fun σ'' H'' h => ⟨m - 1, by omega, h⟩, fun x H2 hy => ?_⟩
    obtain ⟨up, fx'⟩ := g2 x H2 hy
    refine ⟨W', ρ', φ', .fz ds[i], [], ρ2, s'.grow up, .fz fx', (fun a h => nomatch h), q1, fun σ2 W2 H3 φ2 g => ?_⟩
    have o2 : OutS X.K W' H' (InF φ') σ' fx ρ2 σ2 W2 H3 φ2 := OutG.turn s' up g hx
    refine ⟨W2, ρ2, φ2, flb, o2.ss, q2, ?_⟩
    have again : ∀ {ρ3 σ3 W3 H4 φ3}, OutS X.K W2 H3 (InF φ2) σ2 fx ρ3 σ3 W3 H4 φ3 → forL st fb (ds.drop (i + 1)) ρ3 = some fl → m - 1 + (i + 1) = ds.length ∧ ∃ W' ρ' φ', SS X.K W' H4 σ3 ρ' φ' ∧ Wxt W1 H1 W' H4 ∧ Want X.K W' H4 (InF φ') σ3 fx E fl ∧ forL st fb (ds.drop (i + 1)) ρ' = some fl := by
      intro ρ3 σ3 W3 H4 φ3 o3 h3
      have o23 := o2.trans s'.hfp o3
      exact ⟨by omega, W3, ρ3, φ3, o3.ss, x'.trans (o23.xt s'), k'.after s'.hfp o23, h3⟩
    cases flb with
    | nx ρ3 => exact fun σ3 W3 H4 φ3 o3 => again o3 hf'
    | ct ρ3 => exact fun σ3 W3 H4 φ3 o3 => again o3 hf'
    | bk ρ3 => cases hf'; exact fun σ3 W3 H4 φ3 o3 => k' σ3 W3 H4 φ3 (o2.trans s'.hfp o3)
    | rt r ρ3 => cases hf'; exact k'.after s'.hfp o2
  · have e : ds.drop i = [] := List.drop_eq_nil_of_le (by omega)
    rw [e] at hf'
    cases hf'
    exact .inl ⟨w2 (by omega), k' σ' W' H' φ' (.refl s')⟩
theorem px_while (n : Nat) (hp : PassesOwn (model X.prog X.w) X.A X.env X.xe) (hc : PXT X c fc) (hb : PXSs X fx sts fb) : PXS X fx (.While c sts [] pos) (whileL fc fb n) := by
  refine PS.mono (ps_while hp hc hb) ?_
  rintro E σ H ⟨W, ρ, φ, fl, s, hf, k⟩
  refine ⟨fun m σ' H' => ∃ W' ρ' φ', SS X.K W' H' σ' ρ' φ' ∧ Want X.K W' H' (InF φ') σ' fx E fl ∧ whileL fc fb m ρ' = some fl, ⟨n, W, ρ, φ, s, k, hf⟩, ?_⟩
  rintro m σ' H' ⟨W', ρ', φ', s', k', hf'⟩
  cases m with
  | zero => cases hf'
  | succ m =>
    unfold whileL at hf'
    obtain ⟨⟨b, ρ1⟩, e1, hf'⟩ := Option.bind_eq_some_iff.mp hf'
    refine ⟨W', ρ', φ', b, ρ1, s', e1, fun W1 H1 φ1 o => ?_⟩
    cases b with
    | true =>
      rw [if_pos rfl]
      simp only [if_true] at hf'
      obtain ⟨flb, q2, hf'⟩ := Option.bind_eq_some_iff.mp hf'
      refine ⟨fun σ'' H'' => ∃ W' ρ' φ', SS X.K W' H'' σ'' ρ' φ' ∧ Want X.K W' H'' (InF φ') σ'' fx E fl ∧ whileL fc fb m ρ' = some fl, fun σ'' H'' h => ⟨m, by omega, h⟩, ?_⟩
      refine ⟨W1, ρ1, φ1, flb, o.ss, q2, ?_⟩
      have o1 : OutS X.K W' H' (InF φ') σ' fx ρ1 σ' W1 H1 φ1 := o.s
      cases flb with
      | nx ρ3 => exact fun σ3 W3 H4 φ3 o3 => ⟨W3, ρ3, φ3, o3.ss, k'.after s'.hfp (o1.trans s'.hfp o3), hf'⟩
      | ct ρ3 => exact fun σ3 W3 H4 φ3 o3 => ⟨W3, ρ3, φ3, o3.ss, k'.after s'.hfp (o1.trans s'.hfp o3), hf'⟩
      | bk ρ3 => cases hf'; exact fun σ3 W3 H4 φ3 o3 => k' σ3 W3 H4 φ3 (o1.trans s'.hfp o3)
      | rt r ρ3 => cases hf'; exact k'.after s'.hfp o1
    | false =>
      rw [if_neg Bool.false_ne_true]
      simp only [Bool.false_eq_true, if_false] at hf'
      cases hf'
      exact k' σ' W1 H1 φ1 o.s
end
end
end DL

namespace DL
open PySem PySem.Spec PyProof.Rows L2
noncomputable section

/-! ### list comprehensions -/
def wipeR (ρ : Rho) : List Nat → Rho
  | [] => ρ
  | v :: vs => (wipeR ρ vs).set v none
def wipeF (φ : Fp) : List Nat → Fp
  | [] => φ
  | v :: vs => delF (wipeF φ vs) v
def unwR : List Nat → Rho → Rho → Rho
  | [], _, ρ => ρ
  | v :: vs, ρ0, ρ => (unwR vs ρ0 ρ).set v ((ρ0[v]?).getD none)
def lcL (st : DTg) (cond : DT) (elt : DE) (vs : List Nat) : List D → Rho → Option (List D × Rho)
  | [], ρ => some ([], ρ)
  | d :: ds, ρ => (st (.fz d) ρ).bind fun ρ1 => (cond ρ1).bind fun p => if p.1 = true then (elt p.2).bind fun q => (frz q.1).bind fun z => (lcL st cond elt vs ds (wipeR q.2 vs)).bind fun t => some (z :: t.1, t.2) else lcL st cond elt vs ds (wipeR p.2 vs)
def lcE (fi : DI) (st : DTg) (cond : DT) (elt : DE) (vs : List Nat) : DE := fun ρ => (fi ρ).bind fun p => if p.1.length ≤ 1000000 then (lcL st cond elt vs p.1 (wipeR p.2 vs)).bind fun q => some (.ow q.1, unwR vs p.2 q.2) else none
def yesT : DT := fun ρ => some (true, ρ)
section
variable {K : PySem.W.Frag} {W W1 W2 : Addr → Prop} {H H1 H2 : Hp} {σ σ1 : L2.St} {ρ ρ1 : Rho} {φ φ1 : Fp} {vs : List Nat}
theorem SS.wipe (s : SS K W H σ ρ φ) : ∀ vs : List Nat, SS K W H (L2.wipe σ vs) (wipeR ρ vs) (wipeF φ vs)
  | [] => s
  | v :: vs => (SS.wipe s vs).del v none
theorem wipeF_eq : ∀ (vs : List Nat) (i : Nat), wipeF φ vs i = if i ∈ vs then [] else φ i
  | [], i => by rw [if_neg (by simp)]; rfl
  | v :: vs, i => by
    unfold wipeF delF
    by_cases h : i = v
    · rw [if_pos h, if_pos (by rw [h]; exact List.mem_cons_self)]
    · rw [if_neg h, wipeF_eq vs i]
      by_cases q : i ∈ vs
      · rw [if_pos q, if_pos (List.mem_cons_of_mem _ q)]
      · rw [if_neg q, if_neg (by simp [h, q])]
theorem wipeF_in {a : Addr} (h : InF (wipeF φ vs) a) : ∃ i, i ∉ vs ∧ a ∈ φ i := by
  obtain ⟨i, h⟩ := h
  rw [wipeF_eq] at h
  split at h
  · cases h
  · rename_i n; exact ⟨i, n, h⟩
theorem wipeR_length : ∀ vs : List Nat, (wipeR ρ vs).length = ρ.length
  | [] => rfl
  | v :: vs => by unfold wipeR; rw [List.length_set, wipeR_length vs]
theorem unwR_get : ∀ (vs : List Nat) {ρ0 ρ : Rho} (i : Nat), ρ0.length = ρ.length → (unwR vs ρ0 ρ)[i]? = (if i ∈ vs then ρ0[i]? else ρ[i]?) ∧ (unwR vs ρ0 ρ).length = ρ.length
  | [], ρ0, ρ, i, h => ⟨by rw [if_neg (by simp)]; rfl, rfl⟩
  | v :: vs, ρ0, ρ, i, h => by
    unfold unwR
    refine ⟨?_, by rw [List.length_set]; exact (unwR_get vs i h).2⟩
    have hl := (unwR_get vs (ρ0 := ρ0) (ρ := ρ) i h).2
    by_cases e : v = i
    · subst e
      rw [if_pos List.mem_cons_self]
      by_cases q : v < ρ0.length
      · rw [List.getElem?_set_self (by omega), List.getElem?_eq_getElem q]
        rfl
      · rw [List.getElem?_eq_none (by rw [List.length_set]; omega), List.getElem?_eq_none (by omega)]
    · rw [List.getElem?_set_ne e, (unwR_get vs i h).1]
      by_cases q : i ∈ vs
      · rw [if_pos q, if_pos (List.mem_cons_of_mem _ q)]
      · rw [if_neg q, if_neg (by simp [q, Ne.symm e])]
/-- behind the block: the names of the def as they were -/
theorem SS.unwipe (s : SS K W H σ ρ φ) (e : Ev (InF (wipeF φ vs)) W H W1 H1) (sub : ∀ a, InF φ1 a → InF (wipeF φ vs) a ∨ H a = none) (s1 : SS K W1 H1 (L2.wipe σ vs) ρ1 φ1) :
    SS K W1 H1 σ (unwR vs ρ ρ1) (fun i => if i ∈ vs then φ i else φ1 i) := by
  have hl : ρ.length = ρ1.length := by
    have h1 := s1.len
    rw [L2.wipe_length] at h1
    rw [← s.len, h1]
  have nin : ∀ i, i ∈ vs → ∀ a ∈ φ i, ¬ InF (wipeF φ vs) a := fun i hi a ha q => by
    obtain ⟨j, hj, q⟩ := wipeF_in q
    rw [s.dj i j a ha q] at hi
    exact hj hi
  have xt : Wxt W H W1 H1 := e.xt fun a h => by
    obtain ⟨j, hj, q⟩ := wipeF_in h
    exact s.notW a ⟨j, q⟩
  refine ⟨by rw [(unwR_get vs 0 hl).2, ← hl, s.len], fun i vl q => ?_, fun i q => ?_, fun i j a h1 h2 => ?_, s1.wf⟩
  · rw [(unwR_get vs i hl).1] at q
    by_cases hi : i ∈ vs
    · simp only [if_pos hi] at q ⊢
      obtain ⟨v, h1, h2⟩ := s.sl i vl q
      exact ⟨v, h1, h2.ev e xt (nin i hi)⟩
    · simp only [if_neg hi] at q ⊢
      obtain ⟨v, h1, h2⟩ := s1.sl i vl q
      exact ⟨v, (wipe_some h1).1, h2⟩
  · simp only [(unwR_get vs i hl).1] at q
    by_cases hi : i ∈ vs
    · simp only [if_pos hi] at q ⊢
      exact s.em i q
    · simp only [if_neg hi] at q ⊢
      exact s1.em i q
  · have mix : ∀ i j a, i ∈ vs → j ∉ vs → a ∈ φ i → a ∈ φ1 j → False := fun i j a hi hj h1 h2 => by
      rcases sub a ⟨j, h2⟩ with z | z
      · exact nin i hi a h1 z
      · exact s.inH ⟨i, h1⟩ z
    by_cases hi : i ∈ vs
    · by_cases hj : j ∈ vs
      · simp only [if_pos hi, if_pos hj] at h1 h2; exact s.dj i j a h1 h2
      · simp only [if_pos hi, if_neg hj] at h1 h2; exact (mix i j a hi hj h1 h2).elim
    · by_cases hj : j ∈ vs
      · simp only [if_neg hi, if_pos hj] at h1 h2; exact (mix j i a hj hi h2 h1).elim
      · simp only [if_neg hi, if_neg hj] at h1 h2; exact s1.dj i j a h1 h2
theorem wipe_eq {σ σ2 : L2.St} (hl : σ2.length = σ.length) : ∀ (vs : List Nat), (∀ i, i ∉ vs → σ2[i]? = σ[i]?) → L2.wipe σ2 vs = L2.wipe σ vs := by
  intro vs h
  have g : ∀ (vs : List Nat) (σ : L2.St) (i : Nat), (L2.wipe σ vs)[i]? = if i ∈ vs then (if i < σ.length then some none else none) else σ[i]? := by
    intro vs
    induction vs with
    | nil => intro σ i; rw [if_neg (by simp)]; rfl
    | cons v vs ih =>
      intro σ i
      show ((L2.wipe σ vs).set v none)[i]? = _
      by_cases e : v = i
      · subst e
        rw [if_pos List.mem_cons_self]
        by_cases q : v < σ.length
        · rw [if_pos q, List.getElem?_set_self (by rw [L2.wipe_length]; exact q)]
        · rw [if_neg q, List.getElem?_eq_none (by rw [List.length_set, L2.wipe_length]; omega)]
      · rw [List.getElem?_set_ne e, ih]
        by_cases q : i ∈ vs
        · rw [if_pos q, if_pos (List.mem_cons_of_mem _ q)]
        · rw [if_neg q, if_neg (by simp [q, Ne.symm e])]
  refine List.ext_getElem? fun i => ?_
  rw [g, g, hl]
  by_cases q : i ∈ vs
  · rw [if_pos q, if_pos q]
  · rw [if_neg q, if_neg q, h i q]
theorem wipe_wipe (σ : L2.St) (vs : List Nat) : L2.wipe (L2.wipe σ vs) vs = L2.wipe σ vs := by
  refine wipe_eq (L2.wipe_length _ _) vs fun i hi => ?_
  have g : ∀ (vs : List Nat), i ∉ vs → (L2.wipe σ vs)[i]? = σ[i]? := by
    intro vs
    induction vs with
    | nil => intro _; rfl
    | cons v vs ih =>
      intro h
      show ((L2.wipe σ vs).set v none)[i]? = _
      rw [List.getElem?_set_ne (by rintro rfl; exact h List.mem_cons_self), ih fun z => h (List.mem_cons_of_mem _ z)]
  exact g vs hi
end
structure LcI (K : PySem.W.Frag) (W1 : Addr → Prop) (H1 : Hp) (fp : Addr → Prop) (σw : L2.St) (Dd : Addr) (n : Nat) (total : List D) (ρf : Rho) (g : Rho → Option (List D × Rho)) (H' : Hp) : Prop where
  ex : ∃ W' ρ' φ' acc ads rest, SS K W' H' σw ρ' φ' ∧ H' Dd = some (.lst acc) ∧ ¬ W' Dd ∧ FzA K W' H' acc ads ∧ ¬ InF φ' Dd ∧ Ev fp W1 H1 W' H' ∧ (∀ a, InF φ' a → fp a ∨ H1 a = none) ∧ g ρ' = some (rest, ρf) ∧ total = ads ++ rest ∧ acc.length ≤ n
section
variable {X : Cx} {elt tg it : Expr} {ifs : List Expr} {scope : Scope} {own : List (Str × Nat)} {pos : Pos} {fi : DI} {st : DTg} {fc : DT} {fe : DE} {tv : List Nat}
abbrev PXTs (X : Cx) (ifs : List Expr) (f : DT) : Prop := PTs X ifs (tXT X.K f)
theorem pxts_nil : PXTs X [] yesT := by
  refine ⟨fun pins s σ H Q I h => pts_nil.run pins s σ H Q I ?_⟩
  obtain ⟨W, ρ, φ, b, ρ', ss, hf, k⟩ := h
  cases hf
  exact k W H φ (.refl ss)
theorem pxts_one {c : Expr} {f : DT} (h : PXT X c f) : PXTs X [c] f := pts_one h
/-- the reading of a comprehension -/
theorem tX_lc {K : PySem.W.Frag} (σ : L2.St) (H : Hp) (Q : VK) (vs : List Nat) (hx : ∀ i ∈ tv, i ∈ vs) (h : tX K (lcE fi st fc fe vs) σ H Q) : tLc (tXI K fi) (tXG K tv st) (tXT K fc) (tX K fe) vs σ H Q := by
  obtain ⟨W, ρ, φ, r, ρ', s, hf, k⟩ := h
  unfold lcE at hf
  obtain ⟨⟨ds, ρ1⟩, e1, hf⟩ := Option.bind_eq_some_iff.mp hf
  split at hf
  rotate_left
  · cases hf
  rename_i hz
  obtain ⟨⟨total, ρf⟩, e2, hf⟩ := Option.bind_eq_some_iff.mp hf
  cases hf
  refine ⟨W, ρ, φ, ds, ρ1, s, e1, fun J W1 H1 φ1 o wk => fun Dd hD => ?_⟩
  have up0 := upd_up (o := .lst []) hD
  refine ⟨fun i m H' => m + i = ds.length ∧ LcI K W1 H1 (InF (wipeF φ1 vs)) (L2.wipe σ vs) Dd i total ρf (lcL st fc fe vs (ds.drop i)) H', ⟨ds.length, rfl, ⟨W1, wipeR ρ1 vs, wipeF φ1 vs, [], [], total, (o.ss.wipe vs).grow up0, upd_same, o.ss.new hD, .nil, ?_, Ev.grow up0, fun a h => .inl h, e2, rfl, Nat.le_refl _⟩⟩, ?_⟩
  · rintro ⟨i, h⟩
    rw [wipeF_eq] at h
    split at h
    · cases h
    · exact o.ss.inH ⟨i, h⟩ hD
  rintro i m H' ⟨hm, ⟨W', ρ', φ', acc, ads, rest, s', hDd, nW, fa, nF, ev, sub, hg, ht, hl⟩⟩
  have notW : ∀ a, InF (wipeF φ1 vs) a → ¬ W1 a := fun a h => let ⟨j, _, q⟩ := wipeF_in h; o.ss.notW a ⟨j, q⟩
  have inH1 : ∀ a, InF (wipeF φ1 vs) a → H1 a ≠ none := fun a h => let ⟨j, _, q⟩ := wipeF_in h; o.ss.inH ⟨j, q⟩
  obtain ⟨w1, w2⟩ := wk i W' H' (ev.xt notW)
  by_cases hi : i < ds.length
  · have ed : ds[i]? = some ds[i] := List.getElem?_eq_getElem hi
    rw [List.drop_eq_getElem_cons hi] at hg
    unfold lcL at hg
    obtain ⟨ρ2, q1, hg⟩ := Option.bind_eq_some_iff.mp hg
    obtain ⟨⟨b, ρ3⟩, q2, hg⟩ := Option.bind_eq_some_iff.mp hg
    obtain ⟨g1, g2⟩ := w1 _ ed
    refine .inr ⟨g1, fun H'' => LcI K W1 H1 (InF (wipeF φ1 vs)) (L2.wipe σ vs) Dd (i + 1) total ρf (lcL st fc fe vs (ds.drop (i + 1))) H'', fun H'' h => ⟨m - 1, by omega, ⟨by omega, h⟩⟩, fun x H2 hy => ?_⟩
    obtain ⟨up, fzx⟩ := g2 x H2 hy
    refine ⟨W', ρ', φ', .fz ds[i], [], ρ2, s'.grow up, .fz fzx, (fun a h => nomatch h), q1, fun σ2 W2 H3 φ2 g => ⟨?_, ?_⟩⟩
    · have e3 : L2.wipe σ2 vs = L2.wipe (L2.wipe σ vs) vs := wipe_eq g.len vs fun j hj => g.tv j fun z => hj (hx j z)
      rw [e3, wipe_wipe]
    have e3 : L2.wipe σ2 vs = L2.wipe σ vs := by
      have e3 : L2.wipe σ2 vs = L2.wipe (L2.wipe σ vs) vs := wipe_eq g.len vs fun j hj => g.tv j fun z => hj (hx j z)
      rw [e3, wipe_wipe]
    have evg : Ev (InF φ') W' H' W2 H3 := (Ev.grow (fp := InF φ') up).trans (fp1 := fpl φ' []) (fun x h => h.elim .inl fun z => nomatch z) g.ev
    have subg : ∀ a, InF φ2 a → InF φ' a ∨ H' a = none := fun a h => by
      rcases g.sub a h with (z | z) | z
      · exact .inl z
      · cases z
      · cases e : H' a with
        | none => exact .inr rfl
        | some ob => rw [up a ob e] at z; cases z
    refine ⟨W2, ρ2, φ2, b, ρ3, g.ss, q2, fun W3 H4 φ3 o3 => ?_⟩
    have ev3 : Ev (InF φ') W' H' W3 H4 := evg.trans subg o3.ev
    have sub3 : ∀ a, InF φ3 a → InF φ' a ∨ H' a = none := sub2 evg subg o3.sub fun a => s'.inH
    -- the list stands through a part of the turn
    have stand : ∀ {W4 : Addr → Prop} {H5 : Hp}, Ev (InF φ') W' H' W4 H5 → H5 Dd = some (.lst acc) ∧ ¬ W4 Dd ∧ FzA K W4 H5 acc ads := fun {W4 H5} e => ⟨e.keep Dd _ hDd fun z => absurd z nF, fun z => nW (e.nw Dd _ hDd nF z), fa.xt (e.xt s'.notW)⟩
    have notD : ∀ {p : Addr → Prop}, (∀ a, p a → InF φ' a ∨ H' a = none) → ¬ p Dd := fun {p} h z => (h Dd z).elim nF fun z => by rw [hDd] at z; cases z
    have subT : ∀ {p : Addr → Prop}, (∀ a, p a → InF φ' a ∨ H' a = none) → ∀ a, p a → InF (wipeF φ1 vs) a ∨ H1 a = none := fun {p} h => sub2 ev sub h inH1
    cases b with
    | true =>
      simp only [if_true] at hg ⊢
      obtain ⟨⟨re, ρ4⟩, q3, hg⟩ := Option.bind_eq_some_iff.mp hg
      obtain ⟨z, q4, hg⟩ := Option.bind_eq_some_iff.mp hg
      obtain ⟨⟨rest', ρf'⟩, q5, hg⟩ := Option.bind_eq_some_iff.mp hg
      cases hg
      refine ⟨W3, ρ3, φ3, re, ρ4, o3.ss, q3, fun y W4 H5 φ4 l o4 => ?_⟩
      obtain ⟨o5, fy⟩ := o4.fix o3.ss q4
      have ev5 : Ev (InF φ') W' H' (Or W4 l) H5 := ev3.trans sub3 o5.ev
      have sub5 : ∀ a, InF φ4 a → InF φ' a ∨ H' a = none := sub2 ev3 sub3 o5.sub fun a => s'.inH
      obtain ⟨d1, d2, d3⟩ := stand ev5
      have nD4 : ¬ InF φ4 Dd := notD sub5
      refine ⟨acc, d1, by rw [sizeLine_eq]; have := hl; have : ds.length ≤ 1000000 := hz; omega, ?_⟩
      -- the list is longer by one
      have up5 : ∀ a ob, H5 a = some ob → a ≠ Dd → upd H5 Dd (.lst (acc ++ [y])) a = some ob := fun a ob e n => by rw [upd_ne n]; exact e
      have evD : Ev (fun a => a = Dd) (Or W4 l) H5 (Or W4 l) (upd H5 Dd (.lst (acc ++ [y]))) := ⟨fun _ h => h, fun a ob e q => up5 a ob e fun z => by
        subst z
        rw [d1] at e; cases e
        exact q rfl, fun _ _ _ _ h => h⟩
      have xtD : Wxt (Or W4 l) H5 (Or W4 l) (upd H5 Dd (.lst (acc ++ [y]))) := evD.xt fun a h => by rw [h]; exact d2
      have wfD : ∀ a, Or W4 l a → ∃ ob, upd H5 Dd (.lst (acc ++ [y])) a = some ob := fun a h => let ⟨ob, e⟩ := o5.ss.wf a h; ⟨ob, up5 a ob e fun z => d2 (z ▸ h)⟩
      have s6 := ((o5.ss.ev evD xtD (fun a h z => nD4 (z ▸ h)) wfD).wipe vs)
      rw [e3] at s6
      have evF : Ev (InF (wipeF φ1 vs)) W1 H1 (Or W4 l) (upd H5 Dd (.lst (acc ++ [y]))) := by
        have e5 : Ev (InF (wipeF φ1 vs)) W1 H1 (Or W4 l) H5 := ev.trans sub ev5
        refine e5.trans (fp1 := fun a => a = Dd) ?_ evD
        rintro a rfl
        exact .inr hD
      refine ⟨Or W4 l, wipeR ρ4 vs, wipeF φ4 vs, acc ++ [y], ads ++ [z], rest', s6, upd_same, d2, (d3.xt xtD).append (.one (fy.xt xtD)), ?_, evF, ?_, q5, by rw [ht, List.append_assoc]; rfl, by rw [List.length_append]; have := hl; simp; omega⟩
      · exact fun h => let ⟨j, _, q⟩ := wipeF_in h; nD4 ⟨j, q⟩
      · exact fun a h => let ⟨j, _, q⟩ := wipeF_in h; subT sub5 a ⟨j, q⟩
    | false =>
      simp only [Bool.false_eq_true, if_false] at hg ⊢
      obtain ⟨d1, d2, d3⟩ := stand ev3
      have s6 := o3.ss.wipe vs
      rw [e3] at s6
      refine ⟨W3, wipeR ρ3 vs, wipeF φ3 vs, acc, ads, rest, s6, d1, d2, d3, ?_, ev.trans sub ev3, ?_, hg, ht, Nat.le_succ_of_le hl⟩
      · exact fun h => let ⟨j, _, q⟩ := wipeF_in h; notD sub3 ⟨j, q⟩
      · exact fun a h => let ⟨j, _, q⟩ := wipeF_in h; subT sub3 a ⟨j, q⟩
  · have e : ds.drop i = [] := List.drop_eq_nil_of_le (by omega)
    rw [e] at hg
    cases hg
    rw [List.append_nil] at ht
    subst ht
    refine .inl ⟨w2 (by omega), k (.ref Dd) W' H' (fun i => if i ∈ vs then φ1 i else φ' i) [Dd] ?_⟩
    have su := o.ss.unwipe ev sub s'
    have inF1 : ∀ a, InF (wipeF φ1 vs) a → InF φ1 a := fun a h => let ⟨j, _, q⟩ := wipeF_in h; ⟨j, q⟩
    have evT : Ev (InF φ) W H W' H' := o.ev.trans (fp1 := InF (wipeF φ1 vs)) (fun a h => o.sub a (inF1 a h)) ev
    have dom : ∀ a, H1 a = none → ¬ InF φ a → H a = none := fun a h n => by
      cases q : H a with
      | none => rfl
      | some ob => rw [o.ev.keep a ob q fun z => absurd z n] at h; cases h
    have new : ∀ a, H1 a = none → InF φ a ∨ H a = none := fun a h => by
      by_cases n : InF φ a
      · exact .inl n
      · exact .inr (dom a h n)
    refine ⟨evT, su, .rv (.ow hDd nW fa), ?_, ?_, ?_⟩
    · intro a ha
      obtain rfl := List.mem_singleton.mp ha
      rintro ⟨j, hj⟩
      dsimp only at hj
      split at hj
      · exact o.ss.inH ⟨j, hj⟩ hD
      · exact nF ⟨j, hj⟩
    · rintro a ⟨j, hj⟩
      dsimp only at hj
      split at hj
      · exact o.sub a ⟨j, hj⟩
      · exact (sub a ⟨j, hj⟩).elim (fun z => o.sub a (inF1 a z)) (new a)
    · intro a ha
      obtain rfl := List.mem_singleton.mp ha
      exact new a hD
theorem px_lc (hc : X.calm = true) (hN : X.N.Nodup) (own : List (Str × Nat)) (hi : PXI X tg it fi) (ok : BlkOk X.N X.env.scope scope own)
    (hg : ∀ (s : Shared) (H : Hp) (C : Addr) (cl : List (Str × Addr)) (fp : List Addr), PXG (X.blk s H scope (compEnvC scope cl C X.env) fp) tg tv st) (ht : ∀ (s : Shared) (H : Hp) (C : Addr) (cl : List (Str × Addr)) (fp : List Addr), PXTs (X.blk s H scope (compEnvC scope cl C X.env) fp) ifs fc)
    (he : ∀ (s : Shared) (H : Hp) (C : Addr) (cl : List (Str × Addr)) (fp : List Addr), PX (X.blk s H scope (compEnvC scope cl C X.env) fp) elt fe) (hx : ∀ i ∈ tv, i ∈ own.map (·.2) := by decide) (hs : ∀ x, foldedSetIterable it X.env x = pure x := by intro _; rfl) :
    PX X (.ListComp elt [⟨tg, it, ifs, 0⟩] scope pos) (lcE fi st fc fe (own.map (·.2))) :=
  PE.mono (pe_lc hc hN hi ok hg ht he hs) fun σ H Q h => tX_lc σ H Q _ hx h
/-- y = [..] on one line, y a local -/
theorem px_setLc (i : Nat) {y : Str} {py spos : Pos} {fx : List Nat} (hc : X.calm = true) (hN : X.N.Nodup) (own : List (Str × Nat)) (hi : PXI X tg it fi) (ok : BlkOk X.N X.env.scope scope own)
    (hg : ∀ (s : Shared) (H : Hp) (C : Addr) (cl : List (Str × Addr)) (fp : List Addr), PXG (X.blk s H scope (compEnvC scope cl C X.env) fp) tg tv st) (ht : ∀ (s : Shared) (H : Hp) (C : Addr) (cl : List (Str × Addr)) (fp : List Addr), PXTs (X.blk s H scope (compEnvC scope cl C X.env) fp) ifs fc)
    (he : ∀ (s : Shared) (H : Hp) (C : Addr) (cl : List (Str × Addr)) (fp : List Addr), PX (X.blk s H scope (compEnvC scope cl C X.env) fp) elt fe) (hy : X.N[i]? = some y := by rfl) (hyl : X.env.scope.names.lookup y = some .local := by rfl)
    (hsw : swapsWith (.ListComp elt [⟨tg, it, ifs, 0⟩] scope pos) (some (.Name y py)) spos.line X.env = pure true := by exact sw_true rfl rfl rfl (by decide +kernel)) (hx : ∀ i ∈ tv, i ∈ own.map (·.2) := by decide) (hfx : ∀ j ∈ fx, j ∉ [i] := by decide) (hs : ∀ x, foldedSetIterable it X.env x = pure x := by intro _; rfl) :
    PXS X fx (.Assign [.Name y py] (.ListComp elt [⟨tg, it, ifs, 0⟩] scope pos) spos) (asgS (lcE fi st fc fe (own.map (·.2))) (nameT i)) := by
  refine PS.mono (ps_setLc (wi := tXI X.K fi) (g := tXG X.K tv st) (tt := tXT X.K fc) (te := tX X.K fe) hc hN hy hyl hsw hi ok hg ht he hs) ?_
  intro E σ H h
  refine tX_lc σ H _ _ hx ?_
  obtain ⟨W, ρ, φ, r, ρ1, s, e1, k⟩ := tX_asg (tv := [i]) hfx h
  refine ⟨W, ρ, φ, r, ρ1, s, e1, fun v W1 H1 φ1 l o => ?_⟩
  obtain ⟨W2, ρ2, φ2, r2, l2, ρ3, s2, rv, dj, hst, k2⟩ := k v W1 H1 φ1 l o
  cases hst
  exact k2 _ W2 H1 _ (set_out s2 rv dj)
end
end
end DL

namespace DL
open PySem PySem.Spec PyProof.Rows L2
noncomputable section

/-! ### calls of the text's own defs -/
/-- the arguments as the callee's slots: fixed, but where the callee may change them (io) -/
def bindA : List Bool → List Vl → Rho → Option (Rho × Rho)
  | [], [], ρ => some ([], ρ)
  | b :: io, r :: rs, ρ => match r with
    | .pk i => if b then (at? ρ i).bind fun vl => (bindA io rs (ρ.set i none)).bind fun q => some (some vl :: q.1, q.2) else none
    | .lk ds => (bindA io rs ρ).bind fun q => some (some (.lk ds) :: q.1, q.2)
    | r => if b then (bindA io rs ρ).bind fun q => some (some r :: q.1, q.2) else (frz r).bind fun d => (bindA io rs ρ).bind fun q => some (some (.fz d) :: q.1, q.2)
  | _, _, _ => none
/-- what the callee leaves in them -/
def backA : List Bool → List Vl → Rho → Rho → Rho
  | b :: io, r :: rs, o :: os, ρ => match b, r, o with
    | true, .pk i, some vl => (backA io rs os ρ).set i (some vl)
    | _, _, _ => backA io rs os ρ
  | _, _, _, ρ => ρ
def callE (io : List Bool) (F : DE) (fs : DA) : DE := fun ρ => (fs ρ).bind fun p => (bindA io p.1 p.2).bind fun q => (F q.1).bind fun t => if notPk t.1 then some (t.1, backA io p.1 t.2 q.2) else none
def spF (K : PySem.W.Frag) (n : Nat) (F : DE) : Sp := fun vs H Q _ => vs.length = n ∧ tX K F (vs.map some) H Q
def consF (l : List Addr) (φ : Fp) : Fp
  | 0 => l
  | j + 1 => φ j
theorem consF_in {l : List Addr} {φ : Fp} {a : Addr} (h : InF (consF l φ) a) : a ∈ l ∨ InF φ a := by
  obtain ⟨i, h⟩ := h
  cases i with
  | zero => exact .inl h
  | succ j => exact .inr ⟨j, h⟩
section
variable {K : PySem.W.Frag} {W W1 W2 : Addr → Prop} {H H1 H2 : Hp} {σ σ1 : L2.St} {ρ ρ1 ρ2 : Rho} {φ φ1 φ2 : Fp} {l l2 : List Addr} {v : V} {r : Vl} {vs : List V} {rs : List Vl}
theorem SS.cons {vl : Vl} (s : SS K W H σ ρ φ) (rv : RV K W H v vl l) (dj : ∀ a ∈ l, ¬ InF φ a) : SS K W H (some v :: σ) (some vl :: ρ) (consF l φ) where
  len := by rw [List.length_cons, List.length_cons, s.len]
  sl := fun i w e => by
    cases i with
    | zero => cases e; exact ⟨v, rfl, rv⟩
    | succ j => exact s.sl j w e
  em := fun i e => by
    cases i with
    | zero => exact absurd rfl (e vl)
    | succ j => exact s.em j e
  dj := fun i j a h1 h2 => by
    cases i with
    | zero => cases j with
      | zero => rfl
      | succ j => exact absurd ⟨j, h2⟩ (dj a h1)
    | succ i => cases j with
      | zero => exact absurd ⟨i, h1⟩ (dj a h2)
      | succ j => rw [s.dj i j a h1 h2]
  wf := s.wf
theorem SS.tail {o : Option V} {w : Option Vl} (s : SS K W H (o :: σ) (w :: ρ) φ) : SS K W H σ ρ (fun j => φ (j + 1)) where
  len := by have := s.len; simpa using this
  sl := fun i w e => s.sl (i + 1) w e
  em := fun i e => s.em (i + 1) e
  dj := fun i j a h1 h2 => by have := s.dj (i + 1) (j + 1) a h1 h2; omega
  wf := s.wf
theorem SS.nil {W : Addr → Prop} {H : Hp} (wf : ∀ a, W a → ∃ o, H a = some o) : SS K W H [] [] (fun _ => []) :=
  ⟨rfl, (fun i vl e => by simp at e), (fun _ _ => rfl), (fun _ _ _ h => nomatch h), wf⟩
/-- a world with some of l fixed -/
theorem Ev.mid {W' : Addr → Prop} {l : List Addr} (h1 : ∀ a, W a → W' a) (h2 : ∀ a, W' a → W a ∨ a ∈ l) : Ev (fun a => a ∈ l) W H W' H := ⟨h1, fun _ _ h _ => h, fun a o h n q => (h2 a q).elim id fun z => absurd z n⟩
theorem Wxt.mid {W' : Addr → Prop} (h1 : ∀ a, W a → W' a) : Wxt W H W' H := ⟨h1, fun _ _ h _ => h⟩
theorem bindA_ok : ∀ {io : List Bool} {vs : List V} {rs : List Vl} {l : List Addr} {ρ : Rho} {φ : Fp} {as ρ2 : Rho}, SS K W H σ ρ φ → RXs K W H σ vs rs l → (∀ a ∈ l, ¬ InF φ a) → bindA io rs ρ = some (as, ρ2) →
    ∃ W' φa φ2, (∀ a, W a → W' a) ∧ (∀ a, W' a → W a ∨ a ∈ l) ∧ SS K W' H (vs.map some) as φa ∧ SS K W' H σ ρ2 φ2 ∧ (∀ a, InF φa a → ¬ InF φ2 a) ∧ (∀ a, InF φa a → InF φ a ∨ a ∈ l) ∧ (∀ a, InF φ2 a → InF φ a)
  | [], _, _, _, ρ, φ, as, ρ2, s, .nil, dj, h => by
    cases h
    exact ⟨W, fun _ => [], φ, fun _ h => h, fun _ h => .inl h, SS.nil s.wf, s, (fun a h => let ⟨_, q⟩ := h; nomatch q), (fun a h => let ⟨_, q⟩ := h; nomatch q), fun _ h => h⟩
  | b :: io, _, _, _, _, _, _, _, s, .nil, dj, h => by cases h
  | [], _, _, _, _, _, _, _, s, .cons _ _ _, dj, h => by cases h
  | b :: io, _, _, _, ρ, φ, as, ρ2, s, .cons (v := v) (vs := vs) (r := r) (rs := rs) (l := l1) (ls := ls) hv hr d, dj, h => by
    have dl : ∀ a ∈ l1, ¬ InF φ a := fun a h => dj a (List.mem_append_left _ h)
    have dls : ∀ a ∈ ls, ¬ InF φ a := fun a h => dj a (List.mem_append_right _ h)
    have wf2 : ∀ {W' : Addr → Prop}, (∀ a, W' a → W a ∨ a ∈ l1 ++ ls) → ∀ a, W' a → ∃ o, H a = some o := fun h a z => (h a z).elim (s.wf a) fun q => (List.mem_append.mp q).elim (fun q => let ⟨_, o, e, _⟩ := hv.own a q; ⟨o, e⟩) fun q => let ⟨_, o, e, _⟩ := hr.own a q; ⟨o, e⟩
    -- an argument that keeps its objects
    have keepIt : ∀ {vl : Vl} {l0 : List Addr} {ρ' : Rho} {φ' : Fp} {as' ρ2' : Rho}, SS K W H σ ρ' φ' → RV K W H v vl l0 → (∀ a, InF φ' a → InF φ a) → (∀ a ∈ l0, ¬ InF φ' a) → (∀ a ∈ l0, a ∉ ls) → (∀ a ∈ l0, InF φ a ∨ a ∈ l1) → bindA io rs ρ' = some (as', ρ2') →
        ∃ W' φa φ2, (∀ a, W a → W' a) ∧ (∀ a, W' a → W a ∨ a ∈ l1 ++ ls) ∧ SS K W' H ((v :: vs).map some) (some vl :: as') φa ∧ SS K W' H σ ρ2' φ2 ∧ (∀ a, InF φa a → ¬ InF φ2 a) ∧ (∀ a, InF φa a → InF φ a ∨ a ∈ l1 ++ ls) ∧ (∀ a, InF φ2 a → InF φ a) := by
      intro vl l0 ρ' φ' as' ρ2' s' rv hs n1 n2 n3 hb
      obtain ⟨W', φa, φ2, c1, c2, c3, c4, c5, c6, c7⟩ := bindA_ok s' hr (fun a h q => dls a h (hs a q)) hb
      have ev : Ev (fun a => a ∈ ls) W H W' H := Ev.mid c1 c2
      have rv' : RV K W' H v vl l0 := rv.ev ev (Wxt.mid c1) n2
      have na : ∀ a ∈ l0, ¬ InF φa a := fun a h q => (c6 a q).elim (n1 a h) (n2 a h)
      refine ⟨W', consF l0 φa, φ2, c1, fun a h => (c2 a h).imp id fun q => List.mem_append_right _ q, c3.cons rv' na, c4, fun a h q => ?_, fun a h => ?_, fun a h => hs a (c7 a h)⟩
      · rcases consF_in h with z | z
        · exact n1 a z (c7 a q)
        · exact c5 a z q
      · rcases consF_in h with z | z
        · exact (n3 a z).imp id fun q => List.mem_append_left _ q
        · exact (c6 a z).imp (hs a) fun q => List.mem_append_right _ q
    -- an argument that is fixed from here on
    have fixIt : ∀ {dd : D} {as' ρ2' : Rho}, frz r = some dd → bindA io rs ρ = some (as', ρ2') →
        ∃ W' φa φ2, (∀ a, W a → W' a) ∧ (∀ a, W' a → W a ∨ a ∈ l1 ++ ls) ∧ SS K W' H ((v :: vs).map some) (some (.fz dd) :: as') φa ∧ SS K W' H σ ρ2' φ2 ∧ (∀ a, InF φa a → ¬ InF φ2 a) ∧ (∀ a, InF φa a → InF φ a ∨ a ∈ l1 ++ ls) ∧ (∀ a, InF φ2 a → InF φ a) := by
      intro dd as' ρ2' hd hb
      obtain ⟨W', φa, φ2, c1, c2, c3, c4, c5, c6, c7⟩ := bindA_ok s hr dls hb
      have ev : Ev (fun a => a ∈ l1) W' H (Or W' l1) H := Ev.mid (fun _ h => .inl h) (fun _ h => h)
      have wfo : ∀ a, Or W' l1 a → ∃ o, H a = some o := wf2 fun a h => h.elim (fun z => (c2 a z).imp id fun q => List.mem_append_right _ q) fun z => .inr (List.mem_append_left _ z)
      have c3' := c3.ev ev Wxt.or (fun a h q => (c6 a h).elim (fun z => dl a q z) fun z => d a q z) wfo
      have c4' := c4.ev ev Wxt.or (fun a h q => dl a q (c7 a h)) wfo
      have fz : Fz K (Or W' l1) H v dd := hv.frz (fun a h => .inl (c1 a h)) (fun b h => .inr h) hd
      refine ⟨Or W' l1, consF [] φa, φ2, fun a h => .inl (c1 a h), fun a h => h.elim (fun z => (c2 a z).imp id fun q => List.mem_append_right _ q) fun z => .inr (List.mem_append_left _ z), c3'.cons (.fz fz) (fun a h => nomatch h), c4', fun a h q => ?_, fun a h => ?_, c7⟩
      · rcases consF_in h with z | z
        · cases z
        · exact c5 a z q
      · rcases consF_in h with z | z
        · cases z
        · exact (c6 a z).imp id fun q => List.mem_append_right _ q
    have plain : notPk r = true → (∀ ds, r ≠ .lk ds) → (if b then (bindA io rs ρ).bind fun q => some (some r :: q.1, q.2) else (frz r).bind fun d => (bindA io rs ρ).bind fun q => some (some (.fz d) :: q.1, q.2)) = some (as, ρ2) →
        ∃ W' φa φ2, (∀ a, W a → W' a) ∧ (∀ a, W' a → W a ∨ a ∈ l1 ++ ls) ∧ SS K W' H ((v :: vs).map some) as φa ∧ SS K W' H σ ρ2 φ2 ∧ (∀ a, InF φa a → ¬ InF φ2 a) ∧ (∀ a, InF φa a → InF φ a ∨ a ∈ l1 ++ ls) ∧ (∀ a, InF φ2 a → InF φ a) := by
      intro hp hlk h
      cases b with
      | true =>
        simp only [if_true] at h
        obtain ⟨⟨as', ρ2'⟩, e1, h⟩ := Option.bind_eq_some_iff.mp h
        cases h
        exact keepIt s (hv.toRV hp) (fun _ h => h) dl d (fun a h => .inr h) e1
      | false =>
        simp only [Bool.false_eq_true, if_false] at h
        obtain ⟨dd, e1, h⟩ := Option.bind_eq_some_iff.mp h
        obtain ⟨⟨as', ρ2'⟩, e2, h⟩ := Option.bind_eq_some_iff.mp h
        cases h
        exact fixIt e1 e2
    unfold bindA at h
    cases r with
    | pk i =>
      simp only at h
      split at h
      · obtain ⟨vl, e1, h⟩ := Option.bind_eq_some_iff.mp h
        obtain ⟨⟨as', ρ2'⟩, e2, h⟩ := Option.bind_eq_some_iff.mp h
        cases h
        obtain ⟨l', rv, hl⟩ := hv.nml s (vl := vl) (show nml ρ (.pk i) = some vl from e1)
        obtain ⟨w, q1, q2⟩ := s.sl i vl (at?_some e1)
        have ew : w = v := by
          cases hv with
          | rv z => cases z
          | pk z => rw [z] at q1; cases q1; rfl
        subst ew
        refine keepIt (s.del' i) q2 (fun a h => delF_sub h) ?_ ?_ (fun a h => .inl ⟨i, h⟩) e2
        · rintro a ha ⟨j, hj⟩
          unfold delF at hj
          split at hj
          · cases hj
          · rename_i n; exact n (s.dj j i a hj ha)
        · exact fun a ha q => dls a q ⟨i, ha⟩
      · cases h
    | lk ds =>
      obtain ⟨⟨as', ρ2'⟩, e2, h⟩ := Option.bind_eq_some_iff.mp h
      cases h
      exact keepIt s (hv.toRV rfl) (fun _ h => h) dl d (fun a h => .inr h) e2
    | fz d => exact plain rfl (fun _ e => by cases e) h
    | ow d => exact plain rfl (fun _ e => by cases e) h
    | ow2 d => exact plain rfl (fun _ e => by cases e) h
    | od d e => exact plain rfl (fun _ e => by cases e) h
    | tp d => exact plain rfl (fun _ e => by cases e) h
theorem backA_ok {σ : L2.St} : ∀ {io : List Bool} {vs : List V} {rs : List Vl} {l : List Addr} {os : Rho} {φo : Fp}, RXs K W1 H1 σ vs rs l → SS K W H (vs.map some) os φo → ∀ {ρ : Rho} {φ : Fp}, SS K W H σ ρ φ → (∀ a, InF φo a → ¬ InF φ a) →
    ∃ φ3, SS K W H σ (backA io rs os ρ) φ3 ∧ ∀ a, InF φ3 a → InF φ a ∨ InF φo a
  | [], _, _, _, os, φo, _, so, ρ, φ, s, dj => by
    unfold backA
    exact ⟨φ, s, fun a h => .inl h⟩
  | b :: io, _, _, _, os, φo, .nil, so, ρ, φ, s, dj => by
    unfold backA
    exact ⟨φ, s, fun a h => .inl h⟩
  | b :: io, _, _, _, [], φo, .cons (vs := vs) hv hr d, so, ρ, φ, s, dj => by
    unfold backA
    exact ⟨φ, s, fun a h => .inl h⟩
  | b :: io, _, _, _, o :: os, φo, .cons (v := v) (vs := vs) (r := r) (rs := rs) (l := l1) (ls := ls) hv hr d, so, ρ, φ, s, dj => by
    have so' : SS K W H (some v :: vs.map some) (o :: os) φo := so
    obtain ⟨φ3, s3, h3⟩ := backA_ok (io := io) hr so'.tail s (fun a h => dj a (let ⟨j, q⟩ := h; ⟨j + 1, q⟩))
    have up : ∀ a, InF φ3 a → InF φ a ∨ InF φo a := fun a h => (h3 a h).imp id fun h => let ⟨j, q⟩ := h; ⟨j + 1, q⟩
    unfold backA
    split
    · rename_i i vl
      obtain ⟨w, e1, rv⟩ := so'.sl 0 vl rfl
      cases e1
      have hi : σ[i]? = some (some v) := by
        cases hv with
        | rv z => cases z
        | pk z => exact z
      have n : ∀ a ∈ φo 0, ¬ InF φ3 a := fun a h q => by
        rcases h3 a q with z | ⟨j, z⟩
        · exact dj a ⟨0, h⟩ z
        · have := so'.dj 0 (j + 1) a h z
          cases this
      exact ⟨_, s3.put hi rv n, fun a h => (setF_in h).elim (up a) fun z => .inr ⟨0, z⟩⟩
    · exact ⟨φ3, s3, up⟩
/-- a call's end, from the arguments on -/
theorem tXA_call {F : DE} {fs : DA} {io : List Bool} {n : Nat} {H : Hp} {Q : VK} (hn : io.length = n) (h : tX K (callE io F fs) σ H Q) : tXA K fs σ H fun vs H1 => spF K n F vs H1 Q E0 := by
  obtain ⟨W, ρ, φ, r, ρ', s, hf, k⟩ := h
  unfold callE at hf
  obtain ⟨⟨rs, ρ1⟩, e1, hf⟩ := Option.bind_eq_some_iff.mp hf
  obtain ⟨⟨as, ρ2⟩, e2, hf⟩ := Option.bind_eq_some_iff.mp hf
  obtain ⟨⟨res, os⟩, e3, hf⟩ := Option.bind_eq_some_iff.mp hf
  split at hf
  rotate_left
  · cases hf
  rename_i np
  cases hf
  refine ⟨W, ρ, φ, rs, ρ1, s, e1, fun vs W1 H1 φ1 l o => ?_⟩
  obtain ⟨W', φa, φ2, c1, c2, c3, c4, c5, c6, c7⟩ := bindA_ok o.ss o.rx o.dj e2
  refine ⟨?_, W', as, φa, res, os, c3, e3, fun v W2 H2 φo lr oc => ?_⟩
  · have h1 : ∀ (io : List Bool) (rs : List Vl) (ρ : Rho) (x : Rho × Rho), bindA io rs ρ = some x → io.length = rs.length := by
      intro io
      induction io with
      | nil => intro rs ρ x h; cases rs with
        | nil => rfl
        | cons => cases h
      | cons b io ih =>
        intro rs ρ x h
        cases rs with
        | nil => cases h
        | cons r rs =>
          have go : ∀ ρ y, bindA io rs ρ = some y → (b :: io).length = (r :: rs).length := fun ρ y h => by rw [List.length_cons, List.length_cons, ih rs ρ y h]
          unfold bindA at h
          split at h
          · split at h
            · obtain ⟨_, _, h⟩ := Option.bind_eq_some_iff.mp h
              obtain ⟨y, h, _⟩ := Option.bind_eq_some_iff.mp h
              exact go _ y h
            · cases h
          · obtain ⟨y, h, _⟩ := Option.bind_eq_some_iff.mp h
            exact go _ y h
          · split at h
            · obtain ⟨y, h, _⟩ := Option.bind_eq_some_iff.mp h
              exact go _ y h
            · obtain ⟨_, _, h⟩ := Option.bind_eq_some_iff.mp h
              obtain ⟨y, h, _⟩ := Option.bind_eq_some_iff.mp h
              exact go _ y h
    rw [o.rx.length, ← h1 io rs ρ1 _ e2, hn]
  · have evc : Ev (fun a => InF φa a) W' H1 W2 H2 := oc.ev
    have s2 : SS K W2 H2 σ ρ2 φ2 := c4.ev evc (evc.xt c3.notW) (fun a h q => c5 a q h) oc.ss.wf
    have inH1 : ∀ a, InF φ2 a → H1 a ≠ none := fun a h => c4.inH h
    have dj3 : ∀ a, InF φo a → ¬ InF φ2 a := fun a h q => (oc.sub a h).elim (fun z => c5 a z q) (inH1 a q)
    obtain ⟨φ3, s3, h3⟩ := backA_ok (io := io) o.rx oc.ss s2 dj3
    have rv := oc.rx.toRV np
    have aIn : ∀ a, InF φa a → InF φ1 a ∨ a ∈ l := c6
    have fpOf : ∀ a, (InF φ1 a ∨ a ∈ l) → InF φ a ∨ H a = none := fun a h => h.elim (o.sub a) (o.subl a)
    have ev1 : Ev (InF φ) W H W' H1 := o.ev.trans (fp1 := fun a => a ∈ l) o.subl (Ev.mid c1 c2)
    have evT : Ev (InF φ) W H W2 H2 := ev1.trans (fun a h => fpOf a (aIn a h)) evc
    have new : ∀ a, H1 a = none → InF φ a ∨ H a = none := fun a h => by
      by_cases n : InF φ a
      · exact .inl n
      · refine .inr ?_
        cases q : H a with
        | none => rfl
        | some ob => rw [ev1.keep a ob q fun z => absurd z n] at h; cases h
    refine k v W2 H2 φ3 lr ⟨evT, s3, .rv rv, fun a h q => ?_, fun a h => ?_, fun a h => ?_⟩
    · rcases h3 a q with z | z
      · rcases oc.subl a h with y | y
        · exact c5 a y z
        · exact inH1 a z y
      · exact oc.dj a h z
    · rcases h3 a h with z | z
      · exact o.sub a (c7 a z)
      · exact (oc.sub a z).elim (fun y => fpOf a (aIn a y)) (new a)
    · exact (oc.subl a h).elim (fun y => fpOf a (aIn a y)) (new a)
end
section
variable {X : Cx} {k n : Nat} {f : Addr} {fd : FuncData} {ps : List Str} {x : Str} {p pos : Pos} {e : Expr} {es : List Expr} {F : DE} {fs : DA} {io : List Bool}
theorem px_call (io : List Bool) (G : FnG X.prog X.w X.K X.mg X.base CX0 k f fd ps (spF X.K n F)) (hr : RmG k X.A) (hm : X.mg x = some (.ref f)) (hk : PySem.W.keepIn X.K (.ref f) = true) (hb : Binds X.K fd ps []) (ha : PXA X (e :: es) fs) (hn : io.length = n := by rfl) (hg : Gl X x := by rfl)
    (hdb : (x == ("__debug__" : Str)) = false := by decide) (he : starEach (e :: es) X.env = (false, eval e X.env) :: starEach es X.env := by rfl) (hpl : (backTo pos (starEach es X.env)).any (·.1) = false := by rfl) :
    PX X (.Call (.Name x p) (e :: es) [] pos) (callE io F fs) := by
  refine PE.mono (pe_callG (dvs := []) G hr hg hm hk hb .nil ha hdb he hpl) ?_
  intro σ H Q h
  obtain ⟨W, ρ, φ, rs, ρ1, s, e1, k⟩ := tXA_call hn h
  exact ⟨W, ρ, φ, rs, ρ1, s, e1, fun vs W1 H1 φ1 l o => by show spF X.K n F (vs ++ []) H1 Q E0; rw [List.append_nil]; exact k vs W1 H1 φ1 l o⟩
theorem px_call0 (G : FnG X.prog X.w X.K X.mg X.base CX0 k f fd ps (spF X.K 0 F)) (hr : RmG k X.A) (hm : X.mg x = some (.ref f)) (hk : PySem.W.keepIn X.K (.ref f) = true) (hb : Binds X.K fd ps []) (hg : Gl X x := by rfl)
    (hdb : (x == ("__debug__" : Str)) = false := by decide) : PX X (.Call (.Name x p) [] [] pos) (callE [] F nilA) := by
  refine PE.mono (pe_call0G (dvs := []) G hr hg hm hk hb .nil hdb) ?_
  intro σ H Q h
  obtain ⟨W, ρ, φ, rs, ρ1, s, e1, k⟩ := tXA_call (n := 0) rfl h
  cases e1
  exact k [] W H φ [] ⟨Ev.refl .., s, .nil, (fun a h => nomatch h), fun _ h => .inl h, (fun a h => nomatch h)⟩
end

/-! ### a def's function -/
def maskR (fx : List Nat) (n : Nat) (ρ : Rho) : Rho := (List.range n).map fun i => if fx.contains i then at? ρ i else none
def fnE (n : Nat) (fx : List Nat) (N : Nat) (body : DS) : DE := fun ρ => if ρ.length = n then (body (ρ ++ List.replicate (N - n) none)).bind fun fl => match fl with
  | .nx ρ' => some (.fz .none, maskR fx n ρ')
  | .rt r ρ' => match r with
    | .pk i => if fx.contains i then none else (at? ρ' i).bind fun vl => some (vl, maskR fx n ρ')
    | r => some (r, maskR fx n ρ')
  | _ => none else none
theorem maskR_length (fx : List Nat) (n : Nat) (ρ : Rho) : (maskR fx n ρ).length = n := by unfold maskR; rw [List.length_map, List.length_range]
theorem maskR_get {fx : List Nat} {n : Nat} {ρ : Rho} {i : Nat} {vl : Vl} : (maskR fx n ρ)[i]? = some (some vl) ↔ i ∈ fx ∧ i < n ∧ ρ[i]? = some (some vl) := by
  unfold maskR
  rw [List.getElem?_map]
  by_cases hi : i < n
  · rw [List.getElem?_range hi]
    simp only [Option.map_some, Option.some.injEq]
    by_cases h : i ∈ fx
    · rw [if_pos (by simpa using h)]
      refine ⟨fun e => ⟨h, hi, at?_some e⟩, fun e => ?_⟩
      unfold at?
      rw [e.2.2]
    · rw [if_neg (by simpa using h)]
      exact ⟨(fun e => by cases e), fun e => absurd e.1 h⟩
  · rw [List.getElem?_eq_none (by rw [List.length_range]; omega)]
    exact ⟨(fun e => by cases e), fun e => absurd e.2.1 hi⟩
section
variable {K : PySem.W.Frag} {W W2 : Addr → Prop} {H H2 : Hp} {σ2 : L2.St} {ρ ρ2 : Rho} {φ φ2 : Fp} {vs : List V} {fx : List Nat} {n N : Nat}
theorem SS.args (s : SS K W H (vs.map some) ρ φ) (m : Nat) : SS K W H (vs.map some ++ List.replicate m none) (ρ ++ List.replicate m none) φ where
  len := by rw [List.length_append, List.length_append, List.length_replicate, List.length_replicate, s.len]
  sl := fun i vl e => by
    by_cases hi : i < ρ.length
    · rw [List.getElem?_append_left hi] at e
      obtain ⟨v, h1, h2⟩ := s.sl i vl e
      exact ⟨v, by rw [List.getElem?_append_left (by rw [s.len]; exact hi)]; exact h1, h2⟩
    · rw [List.getElem?_append_right (by omega), List.getElem?_replicate] at e
      split at e <;> cases e
  em := fun i e => by
    by_cases hi : i < ρ.length
    · exact s.em i fun vl q => e vl (by rw [List.getElem?_append_left hi]; exact q)
    · exact s.em i fun vl q => by rw [List.getElem?_eq_none (by omega)] at q; cases q
  dj := s.dj
  wf := s.wf
/-- what a def's end says to its caller -/
theorem OutS.ret (s : SS K W H (vs.map some) ρ φ) (hn : vs.length = n) (o : OutS K W H (InF φ) (vs.map some ++ List.replicate (N - n) none) fx ρ2 σ2 W2 H2 φ2) :
    SS K W2 H2 (vs.map some) (maskR fx n ρ2) (fun i => if i ∈ fx ∧ i < n then φ2 i else []) where
  len := by rw [maskR_length, List.length_map, hn]
  sl := fun i vl e => by
    obtain ⟨h1, hi, h2⟩ := maskR_get.mp e
    obtain ⟨v, q1, q2⟩ := o.ss.sl i vl h2
    rw [o.fx i h1, List.getElem?_append_left (by rw [List.length_map, hn]; exact hi)] at q1
    exact ⟨v, q1, by rw [if_pos ⟨h1, hi⟩]; exact q2⟩
  em := fun i e => by
    split
    · rename_i q
      exact o.ss.em i fun vl z => e vl (maskR_get.mpr ⟨q.1, q.2, z⟩)
    · rfl
  dj := fun i j a h1 h2 => by
    split at h1
    · split at h2
      · exact o.ss.dj i j a h1 h2
      · cases h2
    · cases h1
  wf := o.ss.wf
theorem mask_in {fx : List Nat} {n : Nat} {φ : Fp} {a : Addr} (h : InF (fun i => if i ∈ fx ∧ i < n then φ i else []) a) : ∃ i, i ∈ fx ∧ i < n ∧ a ∈ φ i := by
  obtain ⟨i, h⟩ := h
  dsimp only at h
  split at h
  · rename_i q; exact ⟨i, q.1, q.2, h⟩
  · cases h
end
section
variable {P : Program} {w : World} {K : PySem.W.Frag} {mg : Str → Option Value} {base : Heap} {k : Nat} {f : Addr} {fd : FuncData} {ps N : List Str} {x qual : Str} {st : Stmt} {fx : List Nat} {fb : DS}
/-- a def does what its function says -/
theorem fn_ok (F : Fun K x qual st f fd) (S : FnScope N ps (defScope st)) (hb : ∀ (cdv : Value) (A : Around) (outer : List Env) (s : Shared) (H : Hp) (E : XK), RmG k (A.deeper (envOfC qual (defScope st) s.heap.objs.size f cdv)) →
    PXSs (cxOf CX0 P w K mg base N qual (defScope st) f cdv A outer s H E).nox fx (defBody st) fb) : FnG P w K mg base CX0 (k + 1) f fd ps (spF K ps.length (fnE ps.length fx N.length fb)) := by
  refine FunG.ok F S (fun vs H Q E h => h.1) ?_
  rintro cdv A outer s H vs Q E hr ⟨hl, W, ρ, φ, r, ρ', ss, hf, k⟩
  unfold fnE at hf
  split at hf
  rotate_left
  · cases hf
  obtain ⟨fl, e1, hf⟩ := Option.bind_eq_some_iff.mp hf
  refine ⟨_, hb cdv A outer s H E hr, W, _, φ, fl, ?_, e1, ?_⟩
  · have := ss.args (N.length - ps.length)
    show SS K W H (L2.start N vs) _ φ
    unfold L2.start
    rw [hl]
    exact this
  have st0 : L2.start N vs = vs.map some ++ List.replicate (N.length - ps.length) none := by unfold L2.start; rw [hl]
  cases fl with
  | nx ρ2 =>
    cases hf
    intro σ2 W2 H2 φ2 o
    rw [st0] at o
    refine k .non W2 H2 _ [] ⟨o.ev, OutS.ret ss hl o, .rv (.fz .non), (fun a h => nomatch h), fun a h => ?_, (fun a h => nomatch h)⟩
    obtain ⟨i, _, _, q⟩ := mask_in h
    exact o.sub a ⟨i, q⟩
  | bk ρ2 => cases hf
  | ct ρ2 => cases hf
  | rt r2 ρ2 =>
    intro v σ2 W2 H2 φ2 l o
    have o' := o.o
    rw [st0] at o'
    by_cases hp : ∃ i, r2 = .pk i
    · obtain ⟨i, rfl⟩ := hp
      simp only at hf
      split at hf
      · cases hf
      rename_i hi
      obtain ⟨vl, e2, hf⟩ := Option.bind_eq_some_iff.mp hf
      cases hf
      obtain ⟨w', q1, q2⟩ := o'.ss.sl i _ (at?_some e2)
      have ev : w' = v := by
        cases o.rx with
        | rv z => cases z
        | pk z => rw [z] at q1; cases q1; rfl
      subst ev
      refine k w' W2 H2 _ (φ2 i) ⟨o'.ev, OutS.ret ss hl o', .rv q2, fun a h q => ?_, fun a h => ?_, fun a h => o'.sub a ⟨i, h⟩⟩
      · obtain ⟨j, j1, j2, j3⟩ := mask_in q
        rw [o'.ss.dj i j a h j3] at hi
        exact hi (by simpa using j1)
      · obtain ⟨j, _, _, q⟩ := mask_in h
        exact o'.sub a ⟨j, q⟩
    · have hf' : some (r2, maskR fx ps.length ρ2) = some (r, ρ') := by
        cases r2 <;> first | exact hf | exact absurd ⟨_, rfl⟩ hp
      cases hf'
      have np : notPk r = true := by
        cases r <;> first | rfl | exact absurd ⟨_, rfl⟩ hp
      refine k v W2 H2 _ l ⟨o'.ev, OutS.ret ss hl o', .rv (o.rx.toRV np), fun a h q => ?_, fun a h => ?_, o.subl⟩
      · obtain ⟨j, _, _, q⟩ := mask_in q
        exact o.dj a h ⟨j, q⟩
      · obtain ⟨j, _, _, q⟩ := mask_in h
        exact o'.sub a ⟨j, q⟩
end
end
end DL

namespace DL
open PySem PySem.Spec PyProof.Rows L2
noncomputable section

/-! ### one operation or another -/
def orF (F G : Rho → List Vl → Option Vl) : Rho → List Vl → Option Vl := fun ρ rs => match F ρ rs with
  | some z => some z
  | none => G ρ rs
section
variable {K : PySem.W.Frag}
theorem vop_or {r r' : List V → Hp → VK → Prop} {F G} (h : VOp K r F) (h' : VOp K r' G) : VOp K (fun vs H Q => r vs H Q ∨ r' vs H Q) (orF F G) := by
  intro W H σ ρ φ vs rs l res Q s rx dj e k
  unfold orF at e
  split at e
  · rename_i z q; cases e; exact .inl (h W H σ ρ φ vs rs l _ Q s rx dj q k)
  · exact .inr (h' W H σ ρ φ vs rs l _ Q s rx dj e k)
theorem vop2_or {r r' : R2} {F G} (h : VOp K (r2L r) F) (h' : VOp K (r2L r') G) : VOp K (r2L fun x y H Q => r x y H Q ∨ r' x y H Q) (orF F G) := by
  intro W H σ ρ φ vs rs l res Q s rx dj e k
  rcases vop_or h h' W H σ ρ φ vs rs l res Q s rx dj e k with ⟨x, y, e1, q⟩ | ⟨x, y, e1, q⟩
  · exact ⟨x, y, e1, .inl q⟩
  · exact ⟨x, y, e1, .inr q⟩
theorem CtRA.one {H : Hp} {vs : List V} {d : D} (h : CtRA K H vs [d]) : ∃ v, vs = [v] ∧ CtR K H v d := by
  cases h with
  | cons h t => cases t; exact ⟨_, rfl, h⟩
theorem CtRA.two {H : Hp} {vs : List V} {d e : D} (h : CtRA K H vs [d, e]) : ∃ v u, vs = [v, u] ∧ CtR K H v d ∧ CtR K H u e := by
  cases h with
  | cons h t => cases t with
    | cons h2 t => cases t; exact ⟨_, _, rfl, h, h2⟩
theorem CtR.bool_inv {H : Hp} {v : V} {i : Bool} (h : CtR K H v (.bool i)) : v = .bl i := by
  cases h with
  | ct h => cases h; rfl
theorem CtR.str_inv {H : Hp} {v : V} {i : Str} (h : CtR K H v (.str i)) : v = .str i := by
  cases h with
  | ct h => cases h; rfl
theorem CtR.non_inv {H : Hp} {v : V} (h : CtR K H v .none) : v = .non := by
  cases h with
  | ct h => cases h; rfl
theorem CtR.list_inv {H : Hp} {v : V} {ds : List D} (h : CtR K H v (.list ds)) : ∃ a xs, v = .ref a ∧ SqL K H a xs ∧ CtA K H xs ds := by
  cases h with
  | ct h => cases h with
    | lst h r => exact ⟨_, _, rfl, .of h, r⟩
  | lk h r => exact ⟨_, _, rfl, h, r⟩
theorem CtR.tup_inv {H : Hp} {v : V} {ds : List D} (h : CtR K H v (.tuple ds)) : ∃ a xs, v = .ref a ∧ SqT K H a xs ∧ CtA K H xs ds := by
  cases h with
  | ct h => cases h with
    | tup h r => exact ⟨_, _, rfl, h, r⟩
/-- int operations -/
def i2 (c : Int → Int → Bool) (g : Int → Int → Int) : List D → Option D
  | [.int i, .int j] => if c i j then some (.int (g i j)) else none
  | _ => none
def b2 (g : Int → Int → Bool) : List D → Option D
  | [.int i, .int j] => some (.bool (g i j))
  | _ => none
theorem vop_i2 {c : Int → Int → Bool} {g : Int → Int → Int} {C : Int → Int → Prop} (h : ∀ i j, c i j = true → C i j) : VOp K (r2L (rI C fun i j => .int (g i j))) (ctF (i2 c g)) := vop_ct fun H vs ds z Q ct e k => by
  unfold i2 at e
  split at e
  · split at e
    · rename_i q
      cases e
      obtain rfl := ct.int2
      exact ⟨_, _, rfl, _, _, rfl, rfl, h _ _ q, k _ (.int _)⟩
    · cases e
  · cases e
theorem vop_i20 {g : Int → Int → Int} : VOp K (r2L (rI0 fun i j => .int (g i j))) (ctF (i2 (fun _ _ => true) g)) := vop_ct fun H vs ds z Q ct e k => by
  unfold i2 at e
  split at e
  · simp only [if_true] at e
    cases e
    obtain rfl := ct.int2
    exact ⟨_, _, rfl, _, _, rfl, rfl, k _ (.int _)⟩
  · cases e
theorem vop_b2 {g : Int → Int → Bool} : VOp K (r2L (rI0 fun i j => .bl (g i j))) (ctF (b2 g)) := vop_ct fun H vs ds z Q ct e k => by
  unfold b2 at e
  split at e
  · cases e
    obtain rfl := ct.int2
    exact ⟨_, _, rfl, _, _, rfl, rfl, k _ (.bl _)⟩
  · cases e
theorem mulX : ∃ f : Int → Int → Bool, ∀ i j, f i j = (decide (i.natAbs < 18446744073709551616) || decide (j.natAbs < 18446744073709551616) || decide (i.natAbs.log2 + j.natAbs.log2 < 1000000)) := ⟨fun i j => decide (i.natAbs < 18446744073709551616) || decide (j.natAbs < 18446744073709551616) || decide (i.natAbs.log2 + j.natAbs.log2 < 1000000), fun _ _ => rfl⟩
def mulOk : Int → Int → Bool := Classical.choose mulX
theorem mulOk_eq (i j : Int) : mulOk i j = (decide (i.natAbs < 18446744073709551616) || decide (j.natAbs < 18446744073709551616) || decide (i.natAbs.log2 + j.natAbs.log2 < 1000000)) := Classical.choose_spec mulX i j
theorem divX : ∃ f : Int → Int → Bool, ∀ i j, f i j = (decide (0 < j) && decide (j.natAbs.log2 < 9000)) := ⟨fun _ j => decide (0 < j) && decide (j.natAbs.log2 < 9000), fun _ _ => rfl⟩
def divOk : Int → Int → Bool := Classical.choose divX
theorem divOk_eq (i j : Int) : divOk i j = (decide (0 < j) && decide (j.natAbs.log2 < 9000)) := Classical.choose_spec divX i j
theorem powX : ∃ f : Int → Int → Bool, ∀ i j, f i j = (decide (0 ≤ j) && decide (j ≤ 1000000) && decide (i.natAbs < 18446744073709551616)) := ⟨fun i j => decide (0 ≤ j) && decide (j ≤ 1000000) && decide (i.natAbs < 18446744073709551616), fun _ _ => rfl⟩
def powOk : Int → Int → Bool := Classical.choose powX
theorem powOk_eq (i j : Int) : powOk i j = (decide (0 ≤ j) && decide (j ≤ 1000000) && decide (i.natAbs < 18446744073709551616)) := Classical.choose_spec powX i j
def addI := ctF (i2 (fun _ _ => true) fun i j => i + j)
def subI := ctF (i2 (fun _ _ => true) fun i j => i - j)
def mulI := ctF (i2 mulOk fun i j => i * j)
def divI := ctF (i2 divOk fun i j => i / j)
def modI := ctF (i2 (fun _ j => decide (0 < j)) fun i j => i % j)
def powI := ctF (i2 powOk fun i j => i ^ j.toNat)
theorem op_mulB {X : Cx} : OpR X (binaryOp .Mult) (rI (fun i j => CMul i j ∨ CMulW i j) fun i j => .int (i * j)) := opI fun i j t u s Q E h q => mul_int q (h.elim CMul.ok CMulW.ok)
theorem mulOk_of {i j : Int} (h : mulOk i j = true) : CMul i j ∨ CMulW i j := by
  rw [mulOk_eq] at h
  simp only [Bool.or_eq_true, decide_eq_true_eq] at h
  have e : (2 : Int) ^ 64 = 18446744073709551616 := by decide
  rcases h with (h | h) | h
  · exact .inl (.inl (by rw [e]; omega))
  · exact .inl (.inr (by rw [e]; omega))
  · exact .inr h
theorem vop_add : VOp K (r2L (rI0 fun i j => .int (i + j))) addI := vop_i20
theorem vop_sub : VOp K (r2L (rI0 fun i j => .int (i - j))) subI := vop_i20
theorem vop_mul : VOp K (r2L (rI (fun i j => CMul i j ∨ CMulW i j) fun i j => .int (i * j))) mulI := vop_i2 fun _ _ => mulOk_of
theorem vop_div : VOp K (r2L (rI CDivW fun i j => .int (i / j))) divI := vop_i2 fun i j h => by
  rw [divOk_eq] at h
  simp only [Bool.and_eq_true, decide_eq_true_eq] at h
  exact h
theorem vop_mod : VOp K (r2L (rI (fun _ j => 0 < j) fun i j => .int (i % j))) modI := vop_i2 fun i j h => of_decide_eq_true h
theorem vop_pow : VOp K (r2L (rI CPow fun i j => .int (i ^ j.toNat))) powI := vop_i2 fun i j h => by
  rw [powOk_eq] at h
  simp only [Bool.and_eq_true, decide_eq_true_eq] at h
  have e : (2 : Nat) ^ 64 = 18446744073709551616 := by decide
  exact ⟨h.1.1, h.1.2, by rw [e]; exact h.2⟩
def ltI := ctF (b2 fun i j => decide (i < j))
def leI := ctF (b2 fun i j => decide (i ≤ j))
def gtI := ctF (b2 fun i j => decide (j < i))
def geI := ctF (b2 fun i j => decide (j ≤ i))
theorem vop_lt : VOp K (r2L (rI0 fun i j => .bl (decide (i < j)))) ltI := vop_b2
theorem vop_le : VOp K (r2L (rI0 fun i j => .bl (decide (i ≤ j)))) leI := vop_b2
theorem vop_gt : VOp K (r2L (rI0 fun i j => .bl (decide (j < i)))) gtI := vop_b2
theorem vop_ge : VOp K (r2L (rI0 fun i j => .bl (decide (j ≤ i)))) geI := vop_b2
/-- -a -/
def negI := ctF fun ds => match ds with
  | [.int i] => some (.int (-i))
  | _ => none
theorem vop_neg : VOp K (r1L (rU fun i => .int (-i))) negI := vop_ct fun H vs ds z Q ct e k => by
  (try dsimp only at e)
  split at e
  · cases e
    obtain rfl := ct.int1
    exact ⟨_, rfl, _, rfl, k _ (.int _)⟩
  · cases e
/-! equality -/
def eqD (d e : D) : Option Bool := match d, e with
  | .str x, .str y => some (decide (x = y))
  | .none, e => match e with
    | .none => some true
    | .int _ => some false
    | .bool _ => some false
    | .str _ => some false
    | e => if SeqAt.shaped e then some (PyData.eqv .none e) else none
  | d, .none => match d with
    | .int _ => some false
    | .bool _ => some false
    | .str _ => some false
    | d => if SeqAt.shaped d then some (PyData.eqv d .none) else none
  | d, e => if SeqAt.shaped d && SeqAt.shaped e then some (PyData.eqv d e) else none
def eqF := ctF fun ds => match ds with
  | [d, e] => (eqD d e).bind fun b => some (.bool b)
  | _ => none
def neF := ctF fun ds => match ds with
  | [d, e] => (eqD d e).bind fun b => some (.bool (!b))
  | _ => none
theorem eqD_inv {d e : D} {b : Bool} (h : eqD d e = some b) : (∃ v w, Sc v d ∧ Sc w e ∧ scal v w = true ∧ b = decide (v = w)) ∨ (SeqAt.shaped d = true ∧ SeqAt.shaped e = true ∧ b = PyData.eqv d e) := by
  have two : ∀ {d e : D}, (if SeqAt.shaped d && SeqAt.shaped e then some (PyData.eqv d e) else none) = some b → SeqAt.shaped d = true ∧ SeqAt.shaped e = true ∧ b = PyData.eqv d e := fun {d e} h => by
    split at h
    · rename_i q; cases h; exact ⟨(Bool.and_eq_true_iff.mp q).1, (Bool.and_eq_true_iff.mp q).2, rfl⟩
    · cases h
  unfold eqD at h
  split at h
  · cases h; exact .inl ⟨_, _, .str _, .str _, rfl, by simp only [V.str.injEq]⟩
  · split at h
    · cases h; exact .inl ⟨_, _, .non, .non, rfl, rfl⟩
    · cases h; exact .inl ⟨_, _, .non, .int _, rfl, rfl⟩
    · cases h; exact .inl ⟨_, _, .non, .bl _, rfl, rfl⟩
    · cases h; exact .inl ⟨_, _, .non, .str _, rfl, rfl⟩
    · split at h
      · rename_i q; cases h; exact .inr ⟨rfl, q, rfl⟩
      · cases h
  · split at h
    · cases h; exact .inl ⟨_, _, .int _, .non, rfl, rfl⟩
    · cases h; exact .inl ⟨_, _, .bl _, .non, rfl, rfl⟩
    · cases h; exact .inl ⟨_, _, .str _, .non, rfl, rfl⟩
    · split at h
      · rename_i q; cases h; exact .inr ⟨q, rfl, rfl⟩
      · cases h
  · exact .inr (two h)
theorem CtR.sc {H : Hp} {v w : V} {d : D} (h : CtR K H v d) (s : Sc w d) : v = w := by
  cases s with
  | non => exact h.non_inv
  | bl b => exact h.bool_inv
  | int i => exact h.int_inv
  | str x => exact h.str_inv
theorem vop_eq : VOp K (r2L fun x y H Q => rEq x y H Q ∨ rEqD K x y H Q) eqF := vop_ct fun H vs ds z Q ct e k => by
  (try dsimp only at e)
  split at e
  · obtain ⟨b, e1, e⟩ := Option.bind_eq_some_iff.mp e
    cases e
    obtain ⟨v, u, rfl, c1, c2⟩ := ct.two
    rcases eqD_inv e1 with ⟨v', u', s1, s2, sc, rfl⟩ | ⟨s1, s2, rfl⟩
    · obtain rfl := c1.sc s1
      obtain rfl := c2.sc s2
      exact ⟨_, _, rfl, .inl ⟨sc, k _ (.bl _)⟩⟩
    · exact ⟨_, _, rfl, .inr ⟨_, _, c1.dp s1, c2.dp s2, s1, s2, k _ (.bl _)⟩⟩
  · cases e
theorem vop_ne : VOp K (r2L fun x y H Q => rNe x y H Q ∨ rNeD K x y H Q) neF := vop_ct fun H vs ds z Q ct e k => by
  (try dsimp only at e)
  split at e
  · obtain ⟨b, e1, e⟩ := Option.bind_eq_some_iff.mp e
    cases e
    obtain ⟨v, u, rfl, c1, c2⟩ := ct.two
    rcases eqD_inv e1 with ⟨v', u', s1, s2, sc, rfl⟩ | ⟨s1, s2, rfl⟩
    · obtain rfl := c1.sc s1
      obtain rfl := c2.sc s2
      exact ⟨_, _, rfl, .inl ⟨sc, k _ (.bl _)⟩⟩
    · exact ⟨_, _, rfl, .inr ⟨_, _, c1.dp s1, c2.dp s2, s1, s2, k _ (.bl _)⟩⟩
  · cases e
theorem op_eqB {X : Cx} (hu : X.A.units + 64 < cLine) : OpR X (compareOp .Eq) (fun x y H Q => rEq x y H Q ∨ rEqD X.K x y H Q) := OpR.or op_eq (op_eqD hu)
theorem op_neB {X : Cx} (hu : X.A.units + 64 < cLine) : OpR X (compareOp .NotEq) (fun x y H Q => rNe x y H Q ∨ rNeD X.K x y H Q) := OpR.or op_ne (op_neD hu)
/-! items: x + y of lists, of tuples; x * n; x[i] -/
def itmT (ρ : Rho) (v : Vl) : Option (Bool × List D) := (nml ρ v).bind fun w => match w with
  | .lk _ => none
  | w => itm0 w
theorem RX.itmT {W : Addr → Prop} {H : Hp} {σ : L2.St} {ρ : Rho} {φ : Fp} {v : V} {r : Vl} {l : List Addr} (s : SS K W H σ ρ φ) (h : RX K W H σ v r l) {b : Bool} {ds : List D} (e : DL.itmT ρ r = some (b, ds)) :
    ∃ a xs, v = .ref a ∧ (if b then H a = some (.lst xs) else SqT K H a xs) ∧ FzA K W H xs ds := by
  unfold DL.itmT at e
  obtain ⟨vl, e1, e⟩ := Option.bind_eq_some_iff.mp e
  obtain ⟨l', h', _⟩ := h.nml s e1
  cases h' with
  | fz f =>
    cases f with
    | lst w g r => cases e; exact ⟨_, _, rfl, g, r⟩
    | tup g r => cases e; exact ⟨_, _, rfl, g, r⟩
    | non => cases e
    | bl => cases e
    | int => cases e
    | str => cases e
    | dct => cases e
  | ow g w f => cases e; exact ⟨_, _, rfl, g, f⟩
  | ow2 => cases e
  | lk g f => cases e
  | tp g f => cases e; exact ⟨_, _, rfl, g.sq, f⟩
  | od => cases e
def maxLen : Nat := 1000000
theorem maxLen_le {n : Nat} (h : n ≤ maxLen) : n ≤ sizeLine := by rw [sizeLine_eq]; unfold maxLen at h; omega
theorem maxLen_lt {n : Nat} (h : n ≤ maxLen) : n < sizeLine := by rw [sizeLine_eq]; unfold maxLen at h; omega
theorem RXs.two {W : Addr → Prop} {H : Hp} {σ : L2.St} {vs : List V} {r1 r2 : Vl} {l : List Addr} (h : RXs K W H σ vs [r1, r2] l) : ∃ v u l1 l2, vs = [v, u] ∧ RX K W H σ v r1 l1 ∧ RX K W H σ u r2 l2 := by
  cases h with
  | cons h t _ => cases t with
    | cons h2 t _ => cases t; exact ⟨_, _, _, _, rfl, h, h2⟩
theorem RXs.one' {W : Addr → Prop} {H : Hp} {σ : L2.St} {vs : List V} {r1 : Vl} {l : List Addr} (h : RXs K W H σ vs [r1] l) : ∃ v l1, vs = [v] ∧ RX K W H σ v r1 l1 := by
  cases h with
  | cons h t _ => cases t; exact ⟨_, _, rfl, h⟩
def catF : Rho → List Vl → Option Vl := fun ρ rs => match rs with
  | [x, y] => (itmT ρ x).bind fun p => (itmT ρ y).bind fun q => if (p.2.length + q.2.length ≤ maxLen) then (match p.1, q.1 with
    | true, true => some (.ow (p.2 ++ q.2))
    | false, false => some (.fz (.tuple (p.2 ++ q.2)))
    | _, _ => none) else none
  | _ => none
/-- the heap grows by nothing -/
theorem keepQ {W : Addr → Prop} {H : Hp} {fp : Addr → Prop} {v : V} {r : Vl} {Q : VK} (wf : ∀ a, W a → ∃ o, H a = some o) (rv : RV K W H v r []) (k : ∀ v W' H' l', Ev fp W H W' H' → (∀ a, W' a → ∃ o, H' a = some o) → RV K W' H' v r l' → (∀ a ∈ l', fp a ∨ H a = none) → Q v H') : Q v H :=
  k v W H [] (Ev.refl ..) wf rv (fun a h => nomatch h)
theorem vop_cat : VOp K (r2L fun x y H Q => rCat x y H Q ∨ rCatA K x y H Q) catF := by
  intro W H σ ρ φ vs rs l res Q s rx dj e k
  unfold catF at e
  split at e
  · rename_i r1 r2
    obtain ⟨⟨b1, ds⟩, e1, e⟩ := Option.bind_eq_some_iff.mp e
    obtain ⟨⟨b2, es⟩, e2, e⟩ := Option.bind_eq_some_iff.mp e
    split at e
    · rename_i hz
      obtain ⟨v, u, l1, l2, rfl, h1, h2⟩ := rx.two
      obtain ⟨a, xs, rfl, q1, f1⟩ := h1.itmT s e1
      obtain ⟨b, ys, rfl, q2, f2⟩ := h2.itmT s e2
      have hz' : xs.length + ys.length ≤ sizeLine := by rw [f1.length, f2.length]; exact maxLen_le hz
      cases b1 <;> cases b2
      rotate_left
      · cases e
      · cases e
      · cases e
        exact ⟨_, _, rfl, .inl ⟨a, b, xs, ys, rfl, rfl, q1, q2, hz', new_list (f1.append f2) s.wf k⟩⟩
      · cases e
        refine ⟨_, _, rfl, .inr ⟨a, b, xs, ys, rfl, rfl, q1, q2, hz', fun z => ?_, fun n z => ?_, fun _ _ => new_tuple (f1.append f2) s.wf k⟩⟩
        · subst z
          cases f1
          exact keepQ s.wf (.fz (.tup q2 f2)) k
        · subst z
          cases f2
          exact keepQ s.wf (.fz (.tup q1 (by rw [List.append_nil]; exact f1))) k
    · cases e
  · cases e
def addSF := ctF fun ds => match ds with
  | [.str x, .str y] => if x.length + y.length ≤ maxLen then some (.str (x ++ y)) else none
  | _ => none
theorem vop_addS : VOp K (r2L fun x y H Q => ∃ i j, x = .str i ∧ y = .str j ∧ i.length + j.length ≤ sizeLine ∧ Q (.str (i ++ j)) H) addSF := vop_ct fun H vs ds z Q ct e k => by
  (try dsimp only at e)
  split at e
  · split at e
    · rename_i hz
      cases e
      obtain ⟨v, u, rfl, c1, c2⟩ := ct.two
      exact ⟨_, _, rfl, _, _, c1.str_inv, c2.str_inv, maxLen_le hz, k _ (.str _)⟩
    · cases e
  · cases e
def addF := orF addI (orF catF addSF)
theorem vop_addB : VOp K (r2L fun x y H Q => rI0 (fun i j => .int (i + j)) x y H Q ∨ ((rCat x y H Q ∨ rCatA K x y H Q) ∨ (∃ i j, x = .str i ∧ y = .str j ∧ i.length + j.length ≤ sizeLine ∧ Q (.str (i ++ j)) H))) addF := vop2_or vop_add (vop2_or vop_cat vop_addS)
theorem op_addB {X : Cx} : OpR X (binaryOp .Add) (fun x y H Q => rI0 (fun i j => .int (i + j)) x y H Q ∨ ((rCat x y H Q ∨ rCatA X.K x y H Q) ∨ (∃ i j, x = .str i ∧ y = .str j ∧ i.length + j.length ≤ sizeLine ∧ Q (.str (i ++ j)) H))) := OpR.or op_add (OpR.or (OpR.or op_cat op_catA) op_add_str)
theorem FzA.rep {W : Addr → Prop} {H : Hp} {vs : List V} {ds : List D} (f : FzA K W H vs ds) : ∀ n : Nat, FzA K W H (List.replicate n vs).flatten (List.replicate n ds).flatten
  | 0 => .nil
  | n + 1 => by
    rw [List.replicate_succ, List.replicate_succ, List.flatten_cons, List.flatten_cons]
    exact f.append (FzA.rep f n)
def repF : Rho → List Vl → Option Vl := fun ρ rs => match rs with
  | [x, y] => (itmT ρ x).bind fun p => (curR ρ y).bind fun q => match p.1, q with
    | true, .int k => if p.2.length * k.toNat ≤ maxLen ∧ smallI k = true then some (.ow (List.replicate k.toNat p.2).flatten) else none
    | false, .int k => if p.2.length ≠ 0 ∧ 2 ≤ k ∧ k ≤ 1000 ∧ p.2.length ≤ 1000 then some (.fz (.tuple (List.replicate k.toNat p.2).flatten)) else none
    | _, _ => none
  | _ => none
theorem vop_rep : VOp K (r2L fun x y H Q => rRep x y H Q ∨ rRepT K x y H Q) repF := by
  intro W H σ ρ φ vs rs l res Q s rx dj e k
  unfold repF at e
  split at e
  · rename_i r1 r2
    obtain ⟨⟨b1, ds⟩, e1, e⟩ := Option.bind_eq_some_iff.mp e
    obtain ⟨q, e2, e⟩ := Option.bind_eq_some_iff.mp e
    obtain ⟨v, u, l1, l2, rfl, h1, h2⟩ := rx.two
    obtain ⟨a, xs, rfl, q1, f1⟩ := h1.itmT s e1
    have c2 := h2.ctR s e2
    split at e
    · rename_i k1 b2 _ kk hb
      split at e
      · rename_i hz
        cases e
        obtain ⟨h3, h4⟩ := smallI_iff hz.2
        obtain rfl := c2.int_inv
        cases hb
        exact ⟨_, _, rfl, .inl ⟨a, kk, xs, rfl, rfl, q1, by omega, by omega, by rw [f1.length]; exact maxLen_le hz.1, new_list (f1.rep _) s.wf k⟩⟩
      · cases e
    · rename_i k1 b2 _ kk hb
      split at e
      · rename_i hz
        cases e
        obtain rfl := c2.int_inv
        cases hb
        refine ⟨_, _, rfl, .inr ⟨a, kk, xs, rfl, rfl, q1, ?_, hz.2.1, hz.2.2.1, by rw [f1.length]; exact hz.2.2.2, new_tuple (f1.rep _) s.wf k⟩⟩
        rintro rfl
        exact hz.1 (by show ds.length = 0; rw [← f1.length]; rfl)
      · cases e
    · cases e
  · cases e
def mulF := orF mulI repF
theorem vop_mulB : VOp K (r2L fun x y H Q => rI (fun i j => CMul i j ∨ CMulW i j) (fun i j => .int (i * j)) x y H Q ∨ (rRep x y H Q ∨ rRepT K x y H Q)) mulF := vop2_or vop_mul vop_rep
theorem op_mulA {X : Cx} : OpR X (binaryOp .Mult) (fun x y H Q => rI (fun i j => CMul i j ∨ CMulW i j) (fun i j => .int (i * j)) x y H Q ∨ (rRep x y H Q ∨ rRepT X.K x y H Q)) := OpR.or op_mulB (OpR.or op_rep op_repT)
def ixF : Rho → List Vl → Option Vl := fun ρ rs => match rs with
  | [x, y] => (curR ρ y).bind fun q => match q with
    | .int i => match curR ρ x with
      | some (.str z) => if z.length ≤ maxLen then (atI z.cps.toList i).bind fun c => some (.fz (.str ⟨#[c]⟩)) else none
      | _ => (itm ρ x).bind fun p => (ixN p.2.length i).bind fun j => (p.2[j]?).bind fun d => some (.fz d)
    | _ => none
  | _ => none
theorem vop_ix : VOp K (r2L (rIx K)) ixF := by
  intro W H σ ρ φ vs rs l res Q s rx dj e k
  unfold ixF at e
  split at e
  · rename_i r1 r2
    obtain ⟨q, e2, e⟩ := Option.bind_eq_some_iff.mp e
    obtain ⟨v, u, l1, l2, rfl, h1, h2⟩ := rx.two
    have c2 := h2.ctR s e2
    split at e
    · rename_i i
      obtain rfl := c2.int_inv
      split at e
      · rename_i z ez
        split at e
        · rename_i hz
          obtain ⟨c, e3, e⟩ := Option.bind_eq_some_iff.mp e
          cases e
          obtain rfl := (h1.ctR s ez).str_inv
          exact ⟨_, _, rfl, .inr (.inr ⟨z, i, c, rfl, rfl, maxLen_le hz, e3, keepQ s.wf (.fz (.str _)) k⟩)⟩
        · cases e
      · obtain ⟨⟨b1, ds⟩, e1, e⟩ := Option.bind_eq_some_iff.mp e
        obtain ⟨j, e3, e⟩ := Option.bind_eq_some_iff.mp e
        obtain ⟨d, e4, e⟩ := Option.bind_eq_some_iff.mp e
        cases e
        obtain ⟨a, xs, rfl, q1, f1⟩ := h1.itm s e1
        obtain ⟨v, g1, g2⟩ := f1.getD e4
        have at1 : atI xs i = some v := by
          unfold atI
          rw [f1.length, e3]
          exact g1
        cases b1 with
        | true => exact ⟨_, _, rfl, .inl ⟨a, xs, i, v, rfl, rfl, q1, at1, keepQ s.wf (.fz g2) k⟩⟩
        | false => exact ⟨_, _, rfl, .inr (.inl ⟨a, xs, i, v, rfl, rfl, q1, at1, keepQ s.wf (.fz g2) k⟩)⟩
    · cases e
  · cases e
/-! len, abs, max, min, sum, any, all, int, list, tuple -/
def lenF := ctF fun ds => match ds with
  | [.list xs] => some (.int xs.length)
  | [.tuple xs] => some (.int xs.length)
  | [.str x] => if x.length ≤ maxLen then some (.int x.length) else none
  | _ => none
theorem vop_len : VOp K (fun xs H Q => ∃ x n, xs = [x] ∧ LenV K x H n ∧ Q (.int n) H) lenF := vop_ct fun H vs ds z Q ct e k => by
  (try dsimp only at e)
  split at e
  · cases e
    obtain ⟨v, rfl, c⟩ := ct.one
    obtain ⟨a, xs, rfl, h, r⟩ := c.list_inv
    exact ⟨_, _, rfl, .inl ⟨xs, h, rfl⟩, by rw [r.length]; exact k _ (.int _)⟩
  · cases e
    obtain ⟨v, rfl, c⟩ := ct.one
    obtain ⟨a, xs, rfl, h, r⟩ := c.tup_inv
    exact ⟨_, _, rfl, .inr ⟨xs, h, rfl⟩, by rw [r.length]; exact k _ (.int _)⟩
  · split at e
    · rename_i hz
      cases e
      obtain ⟨v, rfl, c⟩ := ct.one
      obtain rfl := c.str_inv
      exact ⟨_, _, rfl, ⟨maxLen_le hz, rfl⟩, k _ (.int _)⟩
    · cases e
  · cases e
def absF := ctF fun ds => match ds with
  | [.int i] => some (.int (if i < 0 then -i else i))
  | _ => none
theorem vop_abs : VOp K (fun xs H Q => ∃ i, xs = [.int i] ∧ Q (.int (if i < 0 then -i else i)) H) absF := vop_ct fun H vs ds z Q ct e k => by
  (try dsimp only at e)
  split at e
  · cases e
    obtain rfl := ct.int1
    exact ⟨_, rfl, k _ (.int _)⟩
  · cases e
def intF := ctF fun ds => match ds with
  | [.int i] => some (.int i)
  | [.bool b] => some (.int (if b then 1 else 0))
  | _ => none
theorem vop_int : VOp K (fun xs H Q => (∃ i, xs = [.int i] ∧ Q (.int i) H) ∨ ∃ k, xs = [.bl k] ∧ Q (.int (if k then 1 else 0)) H) intF := vop_ct fun H vs ds z Q ct e k => by
  (try dsimp only at e)
  split at e
  · cases e
    obtain rfl := ct.int1
    exact .inl ⟨_, rfl, k _ (.int _)⟩
  · cases e
    obtain ⟨v, rfl, c⟩ := ct.one
    obtain rfl := c.bool_inv
    exact .inr ⟨_, rfl, k _ (.int _)⟩
  · cases e
def intsD : List D → Option (List Int)
  | [] => some []
  | .int i :: r => (intsD r).bind fun ns => some (i :: ns)
  | _ => none
def boolsD : List D → Option (List Bool)
  | [] => some []
  | .bool i :: r => (boolsD r).bind fun ns => some (i :: ns)
  | _ => none
theorem intsD_inv : ∀ {ds : List D} {ns : List Int}, intsD ds = some ns → ds = ns.map .int
  | [], _, h => by cases h; rfl
  | d :: r, ns, h => by
    cases d with
    | int i =>
      unfold intsD at h
      obtain ⟨ms, e, h⟩ := Option.bind_eq_some_iff.mp h
      cases h
      rw [intsD_inv e]
      rfl
    | _ => cases h
theorem boolsD_inv : ∀ {ds : List D} {ns : List Bool}, boolsD ds = some ns → ds = ns.map .bool
  | [], _, h => by cases h; rfl
  | d :: r, ns, h => by
    cases d with
    | bool i =>
      unfold boolsD at h
      obtain ⟨ms, e, h⟩ := Option.bind_eq_some_iff.mp h
      cases h
      rw [boolsD_inv e]
      rfl
    | _ => cases h
theorem intsD_map : ∀ ns : List Int, intsD (ns.map .int) = some ns
  | [] => rfl
  | n :: r => by rw [List.map_cons]; unfold intsD; rw [intsD_map r]; rfl
theorem boolsD_map : ∀ ns : List Bool, boolsD (ns.map .bool) = some ns
  | [] => rfl
  | n :: r => by rw [List.map_cons]; unfold boolsD; rw [boolsD_map r]; rfl
def sumF := ctF fun ds => match ds with
  | [.list xs] => (intsD xs).bind fun ns => some (.int ns.sum)
  | _ => none
theorem vop_sum : VOp K (rSum K) sumF := vop_ct fun H vs ds z Q ct e k => by
  (try dsimp only at e)
  split at e
  · obtain ⟨ns, e1, e⟩ := Option.bind_eq_some_iff.mp e
    cases e
    obtain rfl := intsD_inv e1
    obtain ⟨v, rfl, c⟩ := ct.one
    obtain ⟨a, xs, rfl, h, r⟩ := c.list_inv
    obtain rfl := r.ints
    exact ⟨a, ns, rfl, h, k _ (.int _)⟩
  · cases e
def mxI (a : Int) (ns : List Int) : Int := ns.foldl (fun x y => if x < y then y else x) a
def mnI (a : Int) (ns : List Int) : Int := ns.foldl (fun x y => if y < x then y else x) a
theorem mxI_cons (a b : Int) (r : List Int) : mxI a (b :: r) = mxI (if a < b then b else a) r := rfl
theorem mnI_cons (a b : Int) (r : List Int) : mnI a (b :: r) = mnI (if b < a then b else a) r := rfl
theorem mxI_spec : ∀ (ns : List Int) (a : Int), mxI a ns ∈ a :: ns ∧ ∀ y ∈ a :: ns, y ≤ mxI a ns
  | [], a => ⟨List.mem_cons_self, fun y h => by obtain rfl := List.mem_singleton.mp h; exact Int.le_refl _⟩
  | b :: r, a => by
    obtain ⟨h1, h2⟩ := mxI_spec r (if a < b then b else a)
    rw [mxI_cons]
    refine ⟨?_, fun y h => ?_⟩
    · rcases List.mem_cons.mp h1 with h | h
      · rw [h]; split <;> simp
      · exact List.mem_cons_of_mem _ (List.mem_cons_of_mem _ h)
    · have g := h2 _ List.mem_cons_self
      have g2 : ∀ y ∈ r, _ := fun y h => h2 y (List.mem_cons_of_mem _ h)
      generalize mxI (if a < b then b else a) r = m at g g2 ⊢
      rcases List.mem_cons.mp h with rfl | h
      · split at g <;> omega
      · rcases List.mem_cons.mp h with rfl | h
        · split at g <;> omega
        · exact g2 y h
theorem mnI_spec : ∀ (ns : List Int) (a : Int), mnI a ns ∈ a :: ns ∧ ∀ y ∈ a :: ns, mnI a ns ≤ y
  | [], a => ⟨List.mem_cons_self, fun y h => by obtain rfl := List.mem_singleton.mp h; exact Int.le_refl _⟩
  | b :: r, a => by
    obtain ⟨h1, h2⟩ := mnI_spec r (if b < a then b else a)
    rw [mnI_cons]
    refine ⟨?_, fun y h => ?_⟩
    · rcases List.mem_cons.mp h1 with h | h
      · rw [h]; split <;> simp
      · exact List.mem_cons_of_mem _ (List.mem_cons_of_mem _ h)
    · have g := h2 _ List.mem_cons_self
      have g2 : ∀ y ∈ r, _ := fun y h => h2 y (List.mem_cons_of_mem _ h)
      generalize mnI (if b < a then b else a) r = m at g g2 ⊢
      rcases List.mem_cons.mp h with rfl | h
      · split at g <;> omega
      · rcases List.mem_cons.mp h with rfl | h
        · split at g <;> omega
        · exact g2 y h
def maxF := ctF fun ds => match ds with
  | [.list xs] => (intsD xs).bind fun ns => match ns with
    | a :: r => some (.int (mxI a r))
    | [] => none
  | [.int i, .int j] => some (.int (if j > i then j else i))
  | _ => none
def minF := ctF fun ds => match ds with
  | [.list xs] => (intsD xs).bind fun ns => match ns with
    | a :: r => some (.int (mnI a r))
    | [] => none
  | [.int i, .int j] => some (.int (if j < i then j else i))
  | _ => none
theorem vop_max : VOp K (fun xs H Q => rMax K xs H Q ∨ ∃ i j, xs = [.int i, .int j] ∧ Q (.int (if j > i then j else i)) H) maxF := vop_ct fun H vs ds z Q ct e k => by
  (try dsimp only at e)
  split at e
  · obtain ⟨ns, e1, e2⟩ := Option.bind_eq_some_iff.mp e
    obtain rfl := intsD_inv e1
    obtain ⟨v, rfl, c⟩ := ct.one
    obtain ⟨a, xs, rfl, h, r⟩ := c.list_inv
    obtain rfl := r.ints
    split at e2
    · rename_i b t
      cases e2
      refine .inl ⟨a, b :: t, rfl, h, Nat.succ_pos _, fun m h1 h2 => ?_⟩
      obtain ⟨g1, g2⟩ := mxI_spec t b
      have := h2 _ g1
      have := g2 m h1
      obtain rfl : m = mxI b t := by omega
      exact k _ (.int _)
    · cases e2
  · cases e
    obtain rfl := ct.int2
    exact .inr ⟨_, _, rfl, k _ (.int _)⟩
  · cases e
theorem vop_min : VOp K (fun xs H Q => rMin K xs H Q ∨ ∃ i j, xs = [.int i, .int j] ∧ Q (.int (if j < i then j else i)) H) minF := vop_ct fun H vs ds z Q ct e k => by
  (try dsimp only at e)
  split at e
  · obtain ⟨ns, e1, e2⟩ := Option.bind_eq_some_iff.mp e
    obtain rfl := intsD_inv e1
    obtain ⟨v, rfl, c⟩ := ct.one
    obtain ⟨a, xs, rfl, h, r⟩ := c.list_inv
    obtain rfl := r.ints
    split at e2
    · rename_i b t
      cases e2
      refine .inl ⟨a, b :: t, rfl, h, Nat.succ_pos _, fun m h1 h2 => ?_⟩
      obtain ⟨g1, g2⟩ := mnI_spec t b
      have := h2 _ g1
      have := g2 m h1
      obtain rfl : m = mnI b t := by omega
      exact k _ (.int _)
    · cases e2
  · cases e
    obtain rfl := ct.int2
    exact .inr ⟨_, _, rfl, k _ (.int _)⟩
  · cases e
theorem cr_maxB {X : Cx} (hc : X.calm = true) : CallR X (.builtin "max") (fun xs H Q => rMax X.K xs H Q ∨ ∃ i j, xs = [.int i, .int j] ∧ Q (.int (if j > i then j else i)) H) := CallR.or (cr_max hc) (call_max2 hc)
theorem cr_minB {X : Cx} (hc : X.calm = true) : CallR X (.builtin "min") (fun xs H Q => rMin X.K xs H Q ∨ ∃ i j, xs = [.int i, .int j] ∧ Q (.int (if j < i then j else i)) H) := CallR.or (cr_min hc) (call_min2 hc)
def anyF := ctF fun ds => match ds with
  | [.list xs] => (boolsD xs).bind fun ns => some (.bool (ns.any id))
  | _ => none
def allF := ctF fun ds => match ds with
  | [.list xs] => (boolsD xs).bind fun ns => some (.bool (ns.all id))
  | _ => none
theorem vop_any : VOp K (rAny K) anyF := vop_ct fun H vs ds z Q ct e k => by
  (try dsimp only at e)
  split at e
  · obtain ⟨ns, e1, e⟩ := Option.bind_eq_some_iff.mp e
    cases e
    obtain rfl := boolsD_inv e1
    obtain ⟨v, rfl, c⟩ := ct.one
    obtain ⟨a, xs, rfl, h, r⟩ := c.list_inv
    obtain rfl := r.bools
    exact ⟨a, ns, rfl, h, k _ (.bl _)⟩
  · cases e
theorem vop_all : VOp K (rAll K) allF := vop_ct fun H vs ds z Q ct e k => by
  (try dsimp only at e)
  split at e
  · obtain ⟨ns, e1, e⟩ := Option.bind_eq_some_iff.mp e
    cases e
    obtain rfl := boolsD_inv e1
    obtain ⟨v, rfl, c⟩ := ct.one
    obtain ⟨a, xs, rfl, h, r⟩ := c.list_inv
    obtain rfl := r.bools
    exact ⟨a, ns, rfl, h, k _ (.bl _)⟩
  · cases e
def listF : Rho → List Vl → Option Vl := fun ρ rs => match rs with
  | [x] => (itm ρ x).bind fun p => some (.ow p.2)
  | _ => none
def tupleF : Rho → List Vl → Option Vl := fun ρ rs => match rs with
  | [x] => (itm ρ x).bind fun p => some (.fz (.tuple p.2))
  | _ => none
theorem vop_list : VOp K (fun xs H Q => ∃ p ys, xs = [.ref p] ∧ (SqL K H p ys ∨ SqT K H p ys) ∧ ∀ l, H l = none → Q (.ref l) (upd H l (.lst ys))) listF := by
  intro W H σ ρ φ vs rs l res Q s rx dj e k
  unfold listF at e
  split at e
  · obtain ⟨⟨b1, ds⟩, e1, e⟩ := Option.bind_eq_some_iff.mp e
    cases e
    obtain ⟨v, l1, rfl, h1⟩ := rx.one'
    obtain ⟨a, xs, rfl, q1, f1⟩ := h1.itm s e1
    refine ⟨a, xs, rfl, ?_, new_list f1 s.wf k⟩
    cases b1 with
    | true => exact .inl q1
    | false => exact .inr q1
  · cases e
theorem vop_tuple : VOp K (fun xs H Q => ∃ p ys, xs = [.ref p] ∧ ((SqL K H p ys ∧ ∀ l, H l = none → Q (.ref l) (upd H l (.tup ys))) ∨ (SqT K H p ys ∧ Q (.ref p) H))) tupleF := by
  intro W H σ ρ φ vs rs l res Q s rx dj e k
  unfold tupleF at e
  split at e
  · obtain ⟨⟨b1, ds⟩, e1, e⟩ := Option.bind_eq_some_iff.mp e
    cases e
    obtain ⟨v, l1, rfl, h1⟩ := rx.one'
    obtain ⟨a, xs, rfl, q1, f1⟩ := h1.itm s e1
    refine ⟨a, xs, rfl, ?_⟩
    cases b1 with
    | true => exact .inl ⟨q1, new_tuple f1 s.wf k⟩
    | false => exact .inr ⟨q1, keepQ s.wf (.fz (.tup q1 f1)) k⟩
  · cases e
/-! divmod -/
def divmodF : Rho → List Vl → Option Vl := fun ρ rs => (curA ρ rs).bind fun ds => match ds with
  | [.int i, .int j] => if divOk i j then some (.fz (.tuple [.int (i / j), .int (i % j)])) else none
  | _ => none
end
end
end DL

namespace DL
open PySem PySem.Spec PyProof.Rows L2
noncomputable section

section
variable {K : PySem.W.Frag}
/-! divmod -/
theorem op_divmodW {X : Cx} : CallR X (.builtin "divmod") (fun xs H Q => ∃ i j, xs = [.int i, .int j] ∧ CDivW i j ∧ ∀ p, H p = none → Q (.ref p) (upd H p (.tup [.int (i / j), .int (i % j)]))) := by
  intro pins s σ H xs us Q I r h
  obtain ⟨i, j, rfl, hc, q⟩ := h
  refine call_divmodW pins s σ H _ us Q I r ⟨i, j, rfl, ⟨hc.1, ?_⟩, q⟩
  exact PyProof.noPylong_of_log2 hc.2
theorem vop_divmod : VOp K (fun xs H Q => ∃ i j, xs = [.int i, .int j] ∧ CDivW i j ∧ ∀ p, H p = none → Q (.ref p) (upd H p (.tup [.int (i / j), .int (i % j)]))) divmodF := by
  intro W H σ ρ φ vs rs l res Q s rx dj e k
  unfold divmodF at e
  obtain ⟨ds, e1, e⟩ := Option.bind_eq_some_iff.mp e
  have ct := rx.ctR s e1
  split at e
  · split at e
    · rename_i i j hz
      cases e
      rw [divOk_eq] at hz
      simp only [Bool.and_eq_true, decide_eq_true_eq] at hz
      obtain rfl := ct.int2
      exact ⟨_, _, rfl, hz, new_tuple (.cons (.int _) (.cons (.int _) .nil)) s.wf k⟩
    · cases e
  · cases e
/-! repr -/
mutual
def shB : D → Nat
  | .none => 5
  | .bool _ => 5
  | .int i => if i.natAbs < 1000000000000 then 13 else 1921
  | .str x => (reprText x).length
  | .list xs => shBA xs + 3
  | .tuple xs => shBA xs + 3
  | .dict _ => 100000000
def shBA : List D → Nat
  | [] => 0
  | x :: xs => shB x + 2 + shBA xs
end
theorem shBA_sum : ∀ xs : List D, (∀ x ∈ xs, x.shown.length ≤ shB x) → ((PyData.shownAll xs).map (·.length)).sum + 2 * (PyData.shownAll xs).length ≤ shBA xs
  | [], _ => by simp [PyData.shownAll, shBA]
  | x :: xs, h => by
    have h1 := h x List.mem_cons_self
    have h2 := shBA_sum xs fun y hy => h y (List.mem_cons_of_mem _ hy)
    simp only [PyData.shownAll, List.map_cons, List.sum_cons, List.length_cons, shBA]
    omega
mutual
theorem shown_shB : ∀ d : D, d.showable = true → d.hasDict = false → d.shown.length ≤ shB d
  | .none, _, _ => by decide +kernel
  | .bool b, _, _ => by cases b <;> decide +kernel
  | .int i, h, _ => by
    unfold shB
    split
    · rename_i q; exact PyData.shown_int_le (by have e : (10 : Nat) ^ 12 = 1000000000000 := by decide
                                                rw [e]; exact q)
    · simp only [PyData.showable, decide_eq_true_eq] at h
      rw [PyData.shown_int]
      exact int_text_len_1921 h
  | .str x, _, _ => by rw [PyData.shown_str]; unfold shB; exact Nat.le_refl _
  | .list xs, h, g => by
    simp only [PyData.showable] at h
    simp only [PyData.hasDict] at g
    have := shBA_sum xs (shown_shBA xs h g)
    unfold shB
    simp only [PyData.shown]
    have l := listText_len_le (PyData.shownAll xs)
    omega
  | .tuple xs, h, g => by
    simp only [PyData.showable] at h
    simp only [PyData.hasDict] at g
    have := shBA_sum xs (shown_shBA xs h g)
    unfold shB
    simp only [PyData.shown]
    have l := tupleText_len_le (PyData.shownAll xs)
    omega
  | .dict _, _, g => by simp [PyData.hasDict] at g
theorem shown_shBA : ∀ xs : List D, PyData.showableAll xs = true → PyData.hasDictAll xs = false → ∀ x ∈ xs, x.shown.length ≤ shB x
  | [], _, _, _, h => nomatch h
  | x :: xs, h, g, y, hy => by
    simp only [PyData.showableAll, Bool.and_eq_true] at h
    simp only [PyData.hasDictAll, Bool.or_eq_false_iff] at g
    rcases List.mem_cons.mp hy with e | hy
    · rw [e]; exact shown_shB x h.1 g.1
    · exact shown_shBA xs h.2 g.2 y hy
end
def reprOk (d : D) : Bool := PyData.showable d && !PyData.hasDict d && decide (PyData.depth d ≤ 64) && decide (shB d ≤ 16000000)
theorem reprOk_of {d : D} (h : reprOk d = true) : d.showable = true ∧ d.hasDict = false ∧ d.depth ≤ 64 ∧ d.shown.length ≤ sizeLine := by
  unfold reprOk at h
  simp only [Bool.and_eq_true, Bool.not_eq_true', decide_eq_true_eq] at h
  obtain ⟨⟨⟨h1, h2⟩, h3⟩, h4⟩ := h
  refine ⟨h1, h2, h3, Nat.le_trans (shown_shB d h1 h2) ?_⟩
  rw [sizeLine_eq]; omega
def rReprD (K : PySem.W.Frag) : List V → Hp → VK → Prop := fun vs H Q => ∃ v d, vs = [v] ∧ CtR K H v d ∧ reprOk d = true ∧ Q (.str d.shown) H
mutual
theorem Ct.dpN {H : Hp} : ∀ {v : V} {d : D}, Ct K H v d → d.hasDict = false → Dp K H v d
  | _, _, .non, _ => .non
  | _, _, .bl b, _ => .bl b
  | _, _, .int i, _ => .int i
  | _, _, .str x, _ => .str x
  | _, _, .lst h r, q => .lst (.of h) (CtA.dpN r (by simpa [PyData.hasDict] using q))
  | _, _, .tup h r, q => .tup h (CtA.dpN r (by simpa [PyData.hasDict] using q))
  | _, _, .dct _ _, q => by simp [PyData.hasDict] at q
theorem CtA.dpN {H : Hp} : ∀ {vs : List V} {ds : List D}, CtA K H vs ds → PyData.hasDictAll ds = false → DpAll K H vs ds
  | _, _, .nil, _ => .nil
  | _, _, .cons h r, q => by
    simp only [PyData.hasDictAll, Bool.or_eq_false_iff] at q
    exact .cons (Ct.dpN h q.1) (CtA.dpN r q.2)
end
theorem CtR.dpN {H : Hp} {v : V} {d : D} (h : CtR K H v d) (q : d.hasDict = false) : Dp K H v d := by
  cases h with
  | ct h => exact h.dpN q
  | lk h r => exact .lst h (r.dpN (by simpa [PyData.hasDict] using q))
theorem call_reprD {X : Cx} (hg : X.A.guards = some []) (hu : X.A.units + 70 < cLine) : CallR X (.builtin "repr") (rReprD X.K) := by
  rintro pins s σ H vs us Q I r ⟨v, d, rfl, ct, ok, q⟩
  obtain ⟨h1, h2, h3, h4⟩ := reprOk_of ok
  obtain ⟨u, rfl, rv⟩ := r.one
  obtain ⟨as, rd⟩ := Dp.reads I d v u (ct.dpN h2) rv
  have fin : ∀ (h' : Heap) (u' : Tok) (tk : Nat), (∀ b o, s.heap.get? b = some o → h'.get? b = some o) → EP X pins σ Q (.str d.shown u') { s with heap := h', toks := tk } := fun h' u' tk hk => ⟨.str d.shown, H, I.kept hk, ⟨u', rfl⟩, q⟩
  cases d with
  | none => cases rd; exact PySem.P.repr_of_none (fin s.heap _ _ fun _ _ e => e)
  | bool b =>
    cases rd
    have := fin s.heap s.toks (s.toks + 1) fun _ _ e => e
    exact PySem.P.repr_of_bool (by cases b <;> exact this)
  | int i => cases rd; exact PySem.P.repr_of_int (by simpa [PyData.showable] using h1) (fin s.heap _ _ fun _ _ e => e)
  | str x => cases rd; exact PySem.P.repr_of_str (fin s.heap _ _ fun _ _ e => e) (by rw [PyData.shown_str] at h4; exact h4)
  | list xs =>
    have : ∃ a, u = .ref a := by cases rd; exact ⟨_, rfl⟩
    obtain ⟨a, rfl⟩ := this
    exact PySem.repr_of_reads' rd h1 (PyData.noDict_hsm h2) hg (by omega) (fun _ _ e => e) (fun h' u tk hk => fin h' u tk hk) h4
  | tuple xs =>
    have : ∃ a, u = .ref a := by cases rd; exact ⟨_, rfl⟩
    obtain ⟨a, rfl⟩ := this
    exact PySem.repr_of_reads' rd h1 (PyData.noDict_hsm h2) hg (by omega) (fun _ _ e => e) (fun h' u tk hk => fin h' u tk hk) h4
  | dict _ => simp [PyData.hasDict] at h2
def reprF := ctF fun ds => match ds with
  | [d] => if reprOk d then some (.str d.shown) else none
  | _ => none
theorem vop_repr : VOp K (rReprD K) reprF := vop_ct fun H vs ds z Q ct e k => by
  (try dsimp only at e)
  split at e
  · split at e
    · rename_i hz
      cases e
      obtain ⟨v, rfl, c⟩ := ct.one
      exact ⟨v, _, rfl, c, hz, k _ (.str _)⟩
    · cases e
  · cases e
end
end
end DL

namespace DL
open PySem PySem.Spec PyProof.Rows L2
noncomputable section

/-! ### isinstance with built-in types -/
inductive TyC where
  | int | bool | str | list | tuple | dict | non
def TyC.name : TyC → String
  | .int => "int" | .bool => "bool" | .str => "str" | .list => "list" | .tuple => "tuple" | .dict => "dict" | .non => "NoneType"
def tyC : D → TyC
  | .none => .non | .bool _ => .bool | .int _ => .int | .str _ => .str | .list _ => .list | .tuple _ => .tuple | .dict _ => .dict
def isC : TyC → TyC → Bool
  | .int, .int => true | .bool, .bool => true | .str, .str => true | .list, .list => true | .tuple, .tuple => true | .dict, .dict => true | .non, .non => true
  | .bool, .int => true
  | _, _ => false
theorem kit_C {K : PySem.W.Frag} (a b : TyC) : PySem.W.kitOne K (.type a.name) (.type b.name) = some (isC a b) := kit_ty (by cases a <;> cases b <;> decide +kernel)
theorem kit_any {K : PySem.W.Frag} (a : TyC) : ∀ bs : List TyC, PySem.W.kitAny K (.type a.name) (bs.map fun b => .type b.name) = some (bs.any (isC a))
  | [] => rfl
  | b :: bs => by
    rw [List.map_cons, List.any_cons]
    refine kitAny_cons (kit_C a b) (fun e => ?_) fun e => ?_
    · rw [e, Bool.false_or]; exact kit_any a bs
    · rw [e]; rfl
theorem Ct.ty {K : PySem.W.Frag} {H : Hp} {v : V} {d : D} (h : Ct K H v d) : TyX K H v (.type (tyC d).name) := by
  cases h with
  | non => exact .base .non
  | bl b => exact .base (.bl b)
  | int i => exact .base (.int i)
  | str x => exact .base (.str x)
  | lst h r => exact .base (.lst h)
  | dct h r => exact .base (.dK h)
  | tup h r =>
    rcases h with (h | ⟨o, h⟩) | ⟨o, its, n, h1, h2, _⟩
    · exact .base (.tup h)
    · exact .fTuple h
    · exact .kTuple h1 h2
theorem CtR.ty {K : PySem.W.Frag} {H : Hp} {v : V} {d : D} (h : CtR K H v d) : TyX K H v (.type (tyC d).name) := by
  cases h with
  | ct h => exact h.ty
  | lk h r =>
    rcases h with (h | ⟨o, h⟩) | ⟨o, its, n, h1, h2, _⟩
    · exact .base (.lst h)
    · exact .base (.frz h)
    · exact .kList h1 h2
def isE (Ts : List TyC) (f : DE) : DE := fun ρ => (f ρ).bind fun p => (curR p.2 p.1).bind fun d => some (.fz (.bool (Ts.any (isC (tyC d)))), p.2)
section
variable {X : Cx} {e : Expr} {f : DE} {pos p p2 : Pos} {x y : Str}
theorem isE_inv {Ts : List TyC} {f : DE} {ρ ρ' : Rho} {r : Vl} (h : isE Ts f ρ = some (r, ρ')) : ∃ x d, f ρ = some (x, ρ') ∧ curR ρ' x = some d ∧ r = .fz (.bool (Ts.any (isC (tyC d)))) := by
  unfold isE at h
  obtain ⟨⟨x, ρ1⟩, e1, h⟩ := Option.bind_eq_some_iff.mp h
  obtain ⟨d, e2, h⟩ := Option.bind_eq_some_iff.mp h
  cases h
  exact ⟨x, d, e1, e2, rfl⟩
theorem Out.toBl {K : PySem.W.Frag} {W W1 : Addr → Prop} {H H1 : Hp} {σ : L2.St} {ρ ρ1 : Rho} {φ φ1 : Fp} {r : Vl} {v : V} {l : List Addr} (s : SS K W H σ ρ φ) (o : Out K W H (InF φ) σ ρ1 r v W1 H1 φ1 l) (b : Bool) : Out K W H (InF φ) σ ρ1 (.fz (.bool b)) (.bl b) W1 H1 φ1 [] :=
  ⟨o.ev, o.ss, .rv (.fz (.bl b)), (fun a h => nomatch h), o.sub, (fun a h => nomatch h)⟩
theorem px_is1 (T : TyC) (hm : X.mg x = none) (hm2 : X.mg y = none) (he : PX X e f) (hv : bootBuiltins x = some (.builtin "isinstance")) (hv2 : bootBuiltins y = some (.type T.name)) (hg : Gl X x := by rfl) (hg2 : Gl X y := by rfl)
    (hn : x ≠ "__name__" := by decide) (hdb : (x == ("__debug__" : Str)) = false := by decide) (hn2 : y ≠ "__name__" := by decide) (hdb2 : (y == ("__debug__" : Str)) = false := by decide)
    (hs : starEach [e, .Name y p2] X.env = (false, eval e X.env) :: starEach [.Name y p2] X.env := by rfl) (hs2 : starEach [.Name y p2] X.env = [(false, eval (.Name y p2) X.env)] := by rfl) (hpl : (backTo pos (starEach [.Name y p2] X.env)).any (·.1) = false := by rfl) :
    PX X (.Call (.Name x p) [e, .Name y p2] [] pos) (isE [T] f) := by
  refine PE.mono (pe_callB call_isi hg hm hv (pa_cons he (pa_cons (te := tC (.ty T.name)) (pe_bltn hg2 hm2 hv2 rfl hn2 hdb2) pa_nil hs2) hs) hn hdb hs hpl) ?_
  rintro σ H Q ⟨W, ρ, φ, r, ρ', s, hf, k⟩
  obtain ⟨x, d, e1, e2, rfl⟩ := isE_inv hf
  refine ⟨W, ρ, φ, x, ρ', s, e1, fun v W1 H1 φ1 l o => ?_⟩
  refine ⟨v, .ty T.name, _, _, _, rfl, .ty _, (o.rx.ctR o.ss e2).ty, kit_C _ T, ?_⟩
  rw [show isC (tyC d) T = [T].any (isC (tyC d)) by simp]
  exact k _ W1 H1 φ1 [] (o.toBl s _)
theorem Paired.ty : ∀ Ts : List TyC, Paired ClsV (Ts.map fun T => V.ty T.name) (Ts.map fun T => Value.type T.name)
  | [] => .nil
  | T :: r => .cons (.ty _) (Paired.ty r)
/-- isinstance(e, (T1, T2)) -/
theorem px_is2 (T U : TyC) {y2 : Str} {p3 tpos : Pos} {kk : Nat} (hm : X.mg x = none) (hm2 : X.mg y = none) (hm3 : X.mg y2 = none) (he : PX X e f) (hv : bootBuiltins x = some (.builtin "isinstance")) (hv2 : bootBuiltins y = some (.type T.name)) (hv3 : bootBuiltins y2 = some (.type U.name)) (hg : Gl X x := by rfl) (hg2 : Gl X y := by rfl) (hg3 : Gl X y2 := by rfl)
    (hn : x ≠ "__name__" := by decide) (hdb : (x == ("__debug__" : Str)) = false := by decide) (hn2 : y ≠ "__name__" := by decide) (hdb2 : (y == ("__debug__" : Str)) = false := by decide) (hn3 : y2 ≠ "__name__" := by decide) (hdb3 : (y2 == ("__debug__" : Str)) = false := by decide)
    (hs : starEach [e, .Tuple [.Name y p2, .Name y2 p3] kk tpos] X.env = (false, eval e X.env) :: starEach [.Tuple [.Name y p2, .Name y2 p3] kk tpos] X.env := by rfl)
    (hs2 : starEach [.Tuple [.Name y p2, .Name y2 p3] kk tpos] X.env = [(false, eval (.Tuple [.Name y p2, .Name y2 p3] kk tpos) X.env)] := by rfl)
    (hs3 : starEach [.Name y p2, .Name y2 p3] X.env = (false, eval (.Name y p2) X.env) :: starEach [.Name y2 p3] X.env := by rfl) (hs4 : starEach [.Name y2 p3] X.env = [(false, eval (.Name y2 p3) X.env)] := by rfl)
    (hpl : (backTo pos (starEach [.Tuple [.Name y p2, .Name y2 p3] kk tpos] X.env)).any (·.1) = false := by rfl) :
    PX X (.Call (.Name x p) [e, .Tuple [.Name y p2, .Name y2 p3] kk tpos] [] pos) (isE [T, U] f) := by
  refine PE.mono (pe_callB call_isiT hg hm hv (pa_cons he (pa_cons (pe_tup (pa_cons (te := tC (.ty T.name)) (pe_bltn hg2 hm2 hv2 rfl hn2 hdb2) (pa_cons (te := tC (.ty U.name)) (pe_bltn hg3 hm3 hv3 rfl hn3 hdb3) pa_nil hs4) hs3)) pa_nil hs2) hs) hn hdb hs hpl) ?_
  rintro σ H Q ⟨W, ρ, φ, r, ρ', s, hf, k⟩
  obtain ⟨x, d, e1, e2, rfl⟩ := isE_inv hf
  refine ⟨W, ρ, φ, x, ρ', s, e1, fun v W1 H1 φ1 l o => ?_⟩
  refine ⟨by show 2 ≤ sizeLine; decide, fun q nq => ?_⟩
  have up := upd_up (o := .tup [V.ty T.name, V.ty U.name]) nq
  have s2 := o.ss.grow up
  have c := (o.rx.ev (Ev.grow (fp := fun _ => False) up) ⟨fun _ h => h, fun a o e _ => up a o e⟩ (fun _ _ z => z)).ctR s2 e2
  refine ⟨v, q, _, _, _, _, rfl, upd_same, Paired.ty [T, U], c.ty, kit_any _ [T, U], ?_⟩
  exact k _ W1 _ φ1 [] ⟨o.ev.trans (fp1 := fun _ => False) (fun _ z => z.elim) (Ev.grow up), s2, .rv (.fz (.bl _)), (fun a h => nomatch h), o.sub, (fun a h => nomatch h)⟩
end

/-! ### slices -/
def cutD (xs : List D) (lo hi : Option Int) : List D := (xs.drop (HT.sIx xs.length 0 lo)).take (HT.sIx xs.length xs.length hi - HT.sIx xs.length 0 lo)
theorem FzA.cut {K : PySem.W.Frag} {W : Addr → Prop} {H : Hp} {vs : List V} {ds : List D} (f : FzA K W H vs ds) (lo hi : Option Int) : FzA K W H (cutV vs lo hi) (cutD ds lo hi) := by
  unfold cutV cutD
  rw [f.length]
  exact (f.drop _).take _
abbrev DO := Rho → Option (Option Int × Rho)
def tXO (K : PySem.W.Frag) (f : DO) : TO := fun σ H Q => ∃ W ρ φ b ρ', SS K W H σ ρ φ ∧ f ρ = some (b, ρ') ∧ ∀ W' H' φ', OutT K W H (InF φ) σ ρ' W' H' φ' → Q b H'
abbrev PXO (X : Cx) (e : Option Expr) (f : DO) : Prop := PO X e (tXO X.K f)
def noO : DO := fun ρ => some (none, ρ)
def someO (f : DE) : DO := fun ρ => (f ρ).bind fun p => match p.1 with
  | .fz (.int i) => some (some i, p.2)
  | _ => none
def sliceF (ρ : Rho) (r : Vl) (lo hi : Option Int) : Option Vl := match curR ρ r with
  | some (.str z) => if z.length ≤ maxLen then some (.fz (.str (cutS z lo hi))) else none
  | _ => (itm ρ r).bind fun p => if p.1 then some (.ow (cutD p.2 lo hi)) else some (.fz (.tuple (cutD p.2 lo hi)))
def sliceE (f : DE) (lo hi : DO) : DE := fun ρ => (f ρ).bind fun p => (lo p.2).bind fun q => (hi q.2).bind fun t => (sliceF t.2 p.1 q.1 t.1).bind fun z => some (z, t.2)
section
variable {X : Cx} {e : Expr} {f : DE} {pos p p2 : Pos} {lo hi : Option Expr} {fl fh : DO}
theorem PO.mono {X : Cx} {e : Option Expr} {t t' : TO} (h : PO X e t) (m : ∀ σ H Q, t' σ H Q → t σ H Q) : PO X e t' := ⟨fun pins s σ H Q I q => h.run pins s σ H Q I (m σ H Q q)⟩
theorem pxo_none : PXO X none noO := by
  refine PO.mono po_none ?_
  rintro σ H Q ⟨W, ρ, φ, b, ρ', s, hf, k⟩
  cases hf
  exact k W H φ (.refl s)
theorem pxo_some (h : PX X e f) : PXO X (some e) (someO f) := by
  refine PO.mono (po_some h) ?_
  rintro σ H Q ⟨W, ρ, φ, b, ρ', s, hf, k⟩
  unfold someO at hf
  obtain ⟨⟨r, ρ1⟩, e1, hf⟩ := Option.bind_eq_some_iff.mp hf
  split at hf
  · rename_i i ei
    cases hf
    cases ei
    refine ⟨W, ρ, φ, _, ρ1, s, e1, fun v W1 H1 φ1 l o => ⟨i, ?_, k W1 H1 φ1 o.t⟩⟩
    cases o.rx with
    | rv z => cases z with
      | fz z => cases z; rfl
  · cases hf
theorem px_slice (he : PX X e f) (hl : PXO X lo fl) (hh : PXO X hi fh) : PX X (.Subscript e (.Slice lo hi none p2) pos) (sliceE f fl fh) := by
  refine PE.mono (pe_slice (SlR.or sl_list (SlR.or sl_tupA sl_str)) he hl hh) ?_
  rintro σ H Q ⟨W, ρ, φ, r, ρ', s, hf, k⟩
  unfold sliceE at hf
  obtain ⟨⟨x, ρ1⟩, e1, hf⟩ := Option.bind_eq_some_iff.mp hf
  obtain ⟨⟨lo, ρ2⟩, e2, hf⟩ := Option.bind_eq_some_iff.mp hf
  obtain ⟨⟨hi, ρ3⟩, e3, hf⟩ := Option.bind_eq_some_iff.mp hf
  obtain ⟨z, e4, hf⟩ := Option.bind_eq_some_iff.mp hf
  cases hf
  refine ⟨W, ρ, φ, x, ρ1, s, e1, fun v W1 H1 φ1 l o1 => ?_⟩
  refine ⟨W1, ρ1, φ1, lo, ρ2, o1.ss, e2, fun W2 H2 φ2 o2 => ?_⟩
  refine ⟨W2, ρ2, φ2, hi, _, o2.ss, e3, fun W3 H3 φ3 o3 => ?_⟩
  have o23 := o2.then o1.ss o3
  have rx3 : RX X.K W3 H3 σ v x l := o1.rx.stay o1.ss o1.dj o23.ev
  have ot : OutA X.K W H (InF φ) σ _ [x] [v] W3 H3 φ3 l := ⟨o1.ev.trans o1.sub o23.ev, o3.ss, .one rx3, dj2 o1.rx o1.dj o23.sub, sub2 o1.ev o1.sub o23.sub fun a => s.inH, o1.subl⟩
  have kk : ∀ v' W' H' l', Ev (fun a => a ∈ l) W3 H3 W' H' → (∀ a, W' a → ∃ o, H' a = some o) → RV X.K W' H' v' r l' → (∀ a ∈ l', a ∈ l ∨ H3 a = none) → Q v' H' := fun v' W' H' l' ev wf rv sub => k v' W' H' φ3 l' (ot.op s ev wf rv sub)
  unfold sliceF at e4
  split at e4
  · rename_i z' ez
    split at e4
    · rename_i hz
      cases e4
      obtain rfl := (rx3.ctR o3.ss ez).str_inv
      exact .inr (.inr ⟨z', rfl, maxLen_le hz, keepQ o3.ss.wf (.fz (.str _)) kk⟩)
    · cases e4
  · obtain ⟨⟨b1, ds⟩, e5, e4⟩ := Option.bind_eq_some_iff.mp e4
    obtain ⟨a, xs, rfl, q1, f1⟩ := rx3.itm o3.ss e5
    cases b1 with
    | true =>
      simp only [if_true] at e4
      cases e4
      exact .inl ⟨a, xs, rfl, q1, new_list (f1.cut lo hi) o3.ss.wf kk⟩
    | false =>
      simp only [Bool.false_eq_true, if_false] at e4
      cases e4
      refine .inr (.inl ⟨a, xs, rfl, q1, fun hw => ?_, fun _ => new_tuple (f1.cut lo hi) o3.ss.wf kk⟩)
      have ec : cutD ds lo hi = ds := by
        unfold cutD
        rw [← f1.length, hw.1, hw.2]
        simp only [Nat.sub_zero, List.drop_zero]
        rw [f1.length]
        exact List.take_length
      rw [ec] at kk
      exact keepQ o3.ss.wf (.fz (.tup q1 f1)) kk
end

/-! ### methods of an own list -/
def VMeth (K : PySem.W.Frag) (r : V → List V → Hp → VK → Prop) (G : List D → List D → Option (List D × D)) : Prop :=
  ∀ W H a xs ds vs es ds' res Q, H a = some (.lst xs) → ¬ W a → FzA K W H xs ds → FzA K W H vs es → G ds es = some (ds', res) →
    (∀ xs' v, FzA K W H xs' ds' → Fz K W H v res → Q v (upd H a (.lst xs'))) → r (.ref a) vs H Q
def ownAt (ρ : Rho) (xi : Nat) : Option (List D) := match ρ[xi]? with
  | some (some (.ow ds)) => some ds
  | _ => none
theorem ownAt_some {ρ : Rho} {xi : Nat} {ds : List D} (h : ownAt ρ xi = some ds) : ρ[xi]? = some (some (.ow ds)) := by
  unfold ownAt at h
  split at h
  · rename_i e; cases h; exact e
  · cases h
def methE (xi : Nat) (G : List D → List D → Option (List D × D)) (fs : DA) : DE := fun ρ => (ownAt ρ xi).bind fun _ => (fs ρ).bind fun p => (frzA p.1).bind fun es => (ownAt p.2 xi).bind fun ds => (G ds es).bind fun t => some (.fz t.2, p.2.set xi (some (.ow t.1)))
section
variable {K : PySem.W.Frag} {W : Addr → Prop} {H : Hp} {σ : L2.St} {ρ : Rho} {φ : Fp}
theorem SS.own1 (s : SS K W H σ ρ φ) {xi : Nat} {ds : List D} (e : ρ[xi]? = some (some (.ow ds))) : ∃ a xs, σ[xi]? = some (some (.ref a)) ∧ H a = some (.lst xs) ∧ ¬ W a ∧ FzA K W H xs ds ∧ φ xi = [a] := by
  obtain ⟨v, h1, h2⟩ := s.sl xi _ e
  generalize hφ : φ xi = lx at h2
  cases h2 with
  | @ow a xs _ g1 g2 g3 => exact ⟨a, xs, h1, g1, g2, g3, rfl⟩
/-- an own list gets another content -/
theorem SS.write (s : SS K W H σ ρ φ) {xi : Nat} {a : Addr} {xs xs' : List V} {ds' : List D} (h1 : σ[xi]? = some (some (.ref a))) (h2 : H a = some (.lst xs)) (h3 : ¬ W a) (h4 : φ xi = [a]) (f : FzA K W H xs' ds') :
    OutT K W H (InF φ) σ (ρ.set xi (some (.ow ds'))) W (upd H a (.lst xs')) (setF (delF φ xi) xi [a] (ρ.set xi none).length) ∧ Wxt W H W (upd H a (.lst xs')) := by
  have up : ∀ b ob, H b = some ob → b ≠ a → upd H a (.lst xs') b = some ob := fun b ob e n => by rw [upd_ne n]; exact e
  have ev : Ev (fun b => b = a) W H W (upd H a (.lst xs')) := ⟨fun _ h => h, fun b ob e q => up b ob e fun z => by
    subst z
    rw [h2] at e; cases e
    exact q rfl, fun _ _ _ _ h => h⟩
  have xt : Wxt W H W (upd H a (.lst xs')) := ev.xt fun b h => by rw [h]; exact h3
  have wf2 : ∀ b, W b → ∃ ob, upd H a (.lst xs') b = some ob := fun b h => let ⟨ob, e⟩ := s.wf b h; ⟨ob, up b ob e fun z => h3 (z ▸ h)⟩
  have nin : ∀ b, InF (delF φ xi) b → ¬ b = a := by
    rintro b ⟨j, hj⟩ rfl
    unfold delF at hj
    split at hj
    · cases hj
    · rename_i n
      exact n (s.dj j xi b hj (by rw [h4]; exact List.mem_cons_self))
  have sf := ((s.del' xi).ev ev xt nin wf2).put (i := xi) h1 (.ow upd_same h3 (f.xt xt)) (fun b hb q => nin b q (List.mem_singleton.mp hb))
  rw [List.set_set] at sf
  have ain : InF φ a := ⟨xi, by rw [h4]; exact List.mem_cons_self⟩
  refine ⟨⟨ev.mono fun b h => .inl (h ▸ ain), sf, fun b hb => .inl ?_⟩, xt⟩
  rcases setF_in hb with h | h
  · exact delF_sub h
  · obtain rfl := List.mem_singleton.mp h; exact ain
end
section
variable {X : Cx} {e : Expr} {es : List Expr} {fs : DA} {apos cpos : Pos} {x name : Str} {id : String} {r : V → List V → Hp → VK → Prop} {G : List D → List D → Option (List D × D)}
/-- what a method's reading needs of its receiver's name -/
theorem tX_meth {K : PySem.W.Frag} (xi : Nat) (vm : VMeth K r G) {σ : L2.St} {H : Hp} {Q : VK} (h : tX K (methE xi G fs) σ H Q) : ∃ a, σ[xi]? = some (some (.ref a)) ∧ (∃ xs, H a = some (.lst xs)) ∧ tXA K fs σ H fun vs H1 => r (.ref a) vs H1 Q := by
  obtain ⟨W, ρ, φ, res, ρ', s, hf, k⟩ := h
  unfold methE at hf
  obtain ⟨ds0, e0, hf⟩ := Option.bind_eq_some_iff.mp hf
  obtain ⟨⟨rs, ρ1⟩, e1, hf⟩ := Option.bind_eq_some_iff.mp hf
  obtain ⟨es, e2, hf⟩ := Option.bind_eq_some_iff.mp hf
  obtain ⟨ds, e3, hf⟩ := Option.bind_eq_some_iff.mp hf
  obtain ⟨⟨ds', rd⟩, e4, hf⟩ := Option.bind_eq_some_iff.mp hf
  cases hf
  obtain ⟨a, xs0, g1, g2, _, _, _⟩ := s.own1 (ownAt_some e0)
  refine ⟨a, g1, ⟨xs0, g2⟩, W, ρ, φ, rs, ρ1, s, e1, fun vs W1 H1 φ1 l o => ?_⟩
  obtain ⟨o2, fe⟩ := o.fix e2
  obtain ⟨a', xs, h1, h2, h3, h4, h5⟩ := o2.ss.own1 (ownAt_some e3)
  rw [g1] at h1
  cases h1
  refine vm _ H1 a xs ds vs es ds' rd Q h2 h3 h4 fe e4 fun xs' v f fv => ?_
  obtain ⟨ow, xt⟩ := o2.ss.write g1 h2 h3 h5 f
  have oo := o2.then s ow
  exact k v _ _ _ [] ⟨oo.ev, oo.ss, .rv (.fz (fv.xt xt)), (fun a h => nomatch h), oo.sub, (fun a h => nomatch h)⟩
theorem px_meth (xi : Nat) {xpos : Pos} (slot : Slot "list" name id) (hty : typeOf (.builtin id) = pure (.type "method_descriptor")) (hm : MtR X id r) (vm : VMeth X.K r G) (ha : PXA X (e :: es) fs) (hN : X.N[xi]? = some x := by rfl)
    (hv : Vis X.env.scope x := by first | exact Or.inl rfl | exact Or.inr (Or.inl rfl) | exact Or.inr (Or.inr rfl)) (hd : (x == ("__debug__" : Str)) = false := by decide) (hcd : (x == ("__classdict__" : Str)) = false := by decide)
    (hbase : attributeBase (.Name x xpos) name X.env (eval (.Name x xpos) X.env) = eval (.Name x xpos) X.env := by rfl)
    (hfew : ((backTo cpos (starEach (e :: es) X.env)).all (fun x => !x.1) && (backToKw cpos (keywordEach [] X.env)).all (fun x => x.1.isSome)
      && decide ((e :: es).length + ([] : List Keyword).length + (if ([] : List Keyword).isEmpty then 0 else 1) < 30)) = true := by rfl)
    (hline : (apos.endLine == cpos.line) = true := by rfl) (hs : starEach (e :: es) X.env = (false, eval e X.env) :: starEach es X.env := by rfl) (hplain : (backTo cpos (starEach es X.env)).any (·.1) = false := by rfl) :
    PX X (.Call (.Attribute (.Name x xpos) name apos) (e :: es) [] cpos) (methE xi G fs) := by
  refine PE.mono (pe_bm PySem.F.plainAttrs_list slot hty hm (pe_var hN hv hd hcd) ha hbase hfew hline hs hplain) ?_
  intro σ H Q h
  obtain ⟨a, h1, ⟨xs, h2⟩, h3⟩ := tX_meth xi vm h
  exact ⟨.ref a, h1, .inl ⟨rfl, xs, .of h2⟩, h3⟩
theorem px_meth0 (xi : Nat) {xpos : Pos} (slot : Slot "list" name id) (hty : typeOf (.builtin id) = pure (.type "method_descriptor")) (hm : MtR X id r) (vm : VMeth X.K r G) (hN : X.N[xi]? = some x := by rfl)
    (hv : Vis X.env.scope x := by first | exact Or.inl rfl | exact Or.inr (Or.inl rfl) | exact Or.inr (Or.inr rfl)) (hd : (x == ("__debug__" : Str)) = false := by decide) (hcd : (x == ("__classdict__" : Str)) = false := by decide)
    (hbase : attributeBase (.Name x xpos) name X.env (eval (.Name x xpos) X.env) = eval (.Name x xpos) X.env := by rfl) (hline : (apos.endLine == cpos.line) = true := by rfl) :
    PX X (.Call (.Attribute (.Name x xpos) name apos) [] [] cpos) (methE xi G nilA) := by
  refine PE.mono (pe_bm0 PySem.F.plainAttrs_list slot hty hm (pe_var hN hv hd hcd) hbase hline) ?_
  intro σ H Q h
  obtain ⟨a, h1, ⟨xs, h2⟩, W, ρ, φ, rs, ρ1, s, e1, k⟩ := tX_meth xi vm h
  cases e1
  exact ⟨.ref a, h1, .inl ⟨rfl, xs, .of h2⟩, k [] W H φ [] ⟨Ev.refl .., s, .nil, (fun a h => nomatch h), fun _ h => .inl h, (fun a h => nomatch h)⟩⟩
end
section
variable {K : PySem.W.Frag}
def appG : List D → List D → Option (List D × D) := fun ds es => match es with
  | [d] => if ds.length ≤ maxLen then some (ds ++ [d], .none) else none
  | _ => none
def extG : List D → List D → Option (List D × D) := fun ds es => match es with
  | [.list zs] => if ds.length + zs.length ≤ maxLen then some (ds ++ zs, .none) else none
  | _ => none
def popG : List D → List D → Option (List D × D) := fun ds es => match es with
  | [] => (ds[ds.length - 1]?).bind fun d => some (ds.dropLast, d)
  | _ => none
def popAtG : List D → List D → Option (List D × D) := fun ds es => match es with
  | [.int i] => if smallI i then (seqIndex? i ds.length).bind fun k => (ds[k]?).bind fun d => some (ds.eraseIdx k, d) else none
  | _ => none
def insG : List D → List D → Option (List D × D) := fun ds es => match es with
  | [.int i, d] => if smallI i && decide (0 ≤ i) && decide (ds.length ≤ maxLen) then some (ds.take i.toNat ++ [d] ++ ds.drop i.toNat, .none) else none
  | _ => none
theorem vm_app : VMeth K rAppend appG := by
  intro W H a xs ds vs es ds' res Q ha nW f fe e k
  unfold appG at e
  split at e
  · split at e
    · rename_i hz
      cases e
      obtain ⟨v, rfl, fv⟩ := fe.one'
      exact ⟨a, xs, v, rfl, rfl, ha, by rw [f.length]; exact maxLen_lt hz, k _ _ (f.append (.one fv)) .non⟩
    · cases e
  · cases e
theorem vm_ext : VMeth K rExtend extG := by
  intro W H a xs ds vs es ds' res Q ha nW f fe e k
  unfold extG at e
  split at e
  · split at e
    · rename_i hz
      cases e
      obtain ⟨v, rfl, fv⟩ := fe.one'
      obtain ⟨b, ys, rfl, w, hb, g⟩ := fv.list_inv
      exact ⟨a, b, xs, ys, rfl, rfl, ha, hb, by rw [f.length, g.length]; exact maxLen_le hz, k _ _ (f.append g) .non⟩
    · cases e
  · cases e
theorem FzA.dropLast {W : Addr → Prop} {H : Hp} {vs : List V} {ds : List D} (f : FzA K W H vs ds) : FzA K W H vs.dropLast ds.dropLast := by
  rw [List.dropLast_eq_take, List.dropLast_eq_take, f.length]
  exact f.take _
theorem vm_pop : VMeth K rPop popG := by
  intro W H a xs ds vs es ds' res Q ha nW f fe e k
  unfold popG at e
  split at e
  · obtain ⟨d, e1, e⟩ := Option.bind_eq_some_iff.mp e
    cases e
    cases fe
    obtain ⟨v, g1, g2⟩ := f.getD e1
    rw [← f.length] at g1
    exact ⟨a, xs, v, rfl, rfl, ha, g1, k _ _ f.dropLast g2⟩
  · cases e
theorem FzA.erase {W : Addr → Prop} {H : Hp} : ∀ {vs : List V} {ds : List D} (i : Nat), FzA K W H vs ds → FzA K W H (vs.eraseIdx i) (ds.eraseIdx i)
  | _, _, _, .nil => .nil
  | _, _, 0, .cons _ r => r
  | _, _, i + 1, .cons h r => .cons h (FzA.erase i r)
theorem vm_popAt : VMeth K rPopAt popAtG := by
  intro W H a xs ds vs es ds' res Q ha nW f fe e k
  unfold popAtG at e
  split at e
  · split at e
    · rename_i i hz
      obtain ⟨kk, e1, e⟩ := Option.bind_eq_some_iff.mp e
      obtain ⟨d, e2, e⟩ := Option.bind_eq_some_iff.mp e
      cases e
      obtain ⟨v, rfl, fv⟩ := fe.one'
      obtain ⟨u, g1, g2⟩ := f.getD e2
      obtain ⟨h1, h2⟩ := smallI_iff hz
      cases fv
      exact ⟨a, xs, i, kk, u, rfl, rfl, ha, by omega, by omega, by rw [f.length]; exact e1, g1, k _ _ (f.erase kk) g2⟩
    · cases e
  · cases e
theorem vm_ins : VMeth K (fun x vs H Q => ∃ (l : Addr) (xs : List V) (i : Int) (y : V), x = .ref l ∧ vs = [.int i, y] ∧ H l = some (.lst xs) ∧ xs.length < sizeLine ∧ 0 ≤ i ∧ i < 2 ^ 63 ∧
    Q .non (upd H l (.lst (xs.take i.toNat ++ [y] ++ xs.drop i.toNat)))) insG := by
  intro W H a xs ds vs es ds' res Q ha nW f fe e k
  unfold insG at e
  split at e
  · split at e
    · rename_i i d hz
      cases e
      simp only [Bool.and_eq_true, decide_eq_true_eq] at hz
      obtain ⟨⟨z1, z2⟩, z3⟩ := hz
      obtain ⟨h1, h2⟩ := smallI_iff z1
      obtain ⟨v, u, rfl, fv, fu⟩ := fe.two
      cases fv
      exact ⟨a, xs, i, u, rfl, rfl, ha, by rw [f.length]; exact maxLen_lt z3, z2, by omega, k _ _ (((f.take _).append (.one fu)).append (f.drop _)) .non⟩
    · cases e
  · cases e
end
end
end DL

namespace DL
open PySem PySem.Spec PyProof.Rows L2
noncomputable section

/-! ### a fixed name: a variable whose object nobody changes -/
def nameF (i : Nat) : DTg := fun r ρ => match r with
  | .lk ds => some (ρ.set i (some (.lk ds)))
  | r => (frz r).bind fun d => some (ρ.set i (some (.fz d)))
section
variable {K : PySem.W.Frag} {W W1 : Addr → Prop} {H H1 : Hp} {σ : L2.St} {ρ : Rho} {φ : Fp} {v : V} {r : Vl} {l : List Addr}
theorem setF_out {ρ' : Rho} {i : Nat} (s : SS K W H σ ρ φ) (rv : RV K W H v r l) (dj : ∀ a ∈ l, ¬ InF φ a) (h : nameF i r ρ = some ρ') :
    ∃ W' φ', OutG K W H (fpl φ l) σ [i] ρ' (σ.set i (some v)) W' H φ' := by
  by_cases hk : ∃ es, r = .lk es
  · obtain ⟨es, rfl⟩ := hk
    cases h
    exact ⟨W, _, set_out s rv dj⟩
  · have h' : (frz r).bind (fun d => some (ρ.set i (some (.fz d)))) = some ρ' := by
      cases r <;> first | exact h | exact absurd ⟨_, rfl⟩ hk
    obtain ⟨d, e, h'⟩ := Option.bind_eq_some_iff.mp h'
    cases h'
    have ev : Ev (fun a => a ∈ l) W H (Or W l) H := ⟨fun _ h => .inl h, fun _ _ h _ => h, fun a o h n q => q.elim id fun z => absurd z n⟩
    have sW : SS K (Or W l) H σ ρ φ := s.ev ev Wxt.or (fun a h q => dj a q h) fun a h => h.elim (s.wf a) fun z => let ⟨_, o, q, _⟩ := rv.own a z; ⟨o, q⟩
    have g := set_out (i := i) sW (.fz (rv.frz (fun _ h => .inl h) (fun b h => .inr h) e)) (fun a h => nomatch h)
    exact ⟨Or W l, _, (ev.mono fun x h => .inl (.inr h)), g.ss, fun a h => (g.sub a h).imp (fun z => z.elim .inl fun z => nomatch z) id, g.tv, g.len⟩
end
section
variable {X : Cx} {pos : Pos} {e : Expr} {f : DE} {fx : List Nat}
theorem pxg_fix (i : Nat) {x : Str} (hN : X.N.Nodup) (hi : X.N[i]? = some x := by rfl) (hx : Loc X.env.scope x := by first | exact Or.inl rfl | exact Or.inr rfl) (hf : X.fn x = true ∨ X.env.scope.names.lookup x = some .local := by first | exact .inl rfl | exact .inr rfl | assumption) : PXG X (.Name x pos) [i] (nameF i) := by
  refine PG.mono (pg_name hN hi hx hf) ?_
  rintro v σ H Q ⟨W, ρ, φ, r, l, ρ', s, rv, dj, hst, k⟩
  obtain ⟨W', φ', g⟩ := setF_out s rv dj hst
  exact k _ W' H φ' g
theorem px_fix (i : Nat) {x : Str} {pos' : Pos} (hN : X.N.Nodup) (he : PX X e f) (hi : X.N[i]? = some x := by rfl) (hl : Loc X.env.scope x := by first | exact Or.inl rfl | exact Or.inr rfl) (hx : ∀ j ∈ fx, j ∉ [i] := by decide)
    (hs : swapsWith e (some (.Name x pos')) pos.line X.env = pure false := by rfl) (hf : X.fn x = true ∨ X.env.scope.names.lookup x = some .local := by first | exact .inl rfl | exact .inr rfl | assumption) : PXS X fx (.Assign [.Name x pos'] e pos) (asgS f (nameF i)) := by
  refine PS.mono (ps_set hN hi hl he hs hf) ?_
  intro E σ H h
  obtain ⟨W, ρ, φ, r, ρ1, s, e1, k⟩ := tX_asg (tv := [i]) hx h
  refine ⟨W, ρ, φ, r, ρ1, s, e1, fun v W1 H1 φ1 l o => ?_⟩
  obtain ⟨W2, ρ2, φ2, r2, l2, ρ3, s2, rv, dj, hst, k2⟩ := k v W1 H1 φ1 l o
  obtain ⟨W', φ', g⟩ := setF_out s2 rv dj hst
  exact k2 _ W' H1 φ' g
end
section
variable {X : Cx} {elt tg it : Expr} {ifs : List Expr} {scope : Scope} {own : List (Str × Nat)} {pos : Pos} {fi : DI} {st : DTg} {fc : DT} {fe : DE} {tv : List Nat}
/-- y = [..] on one line, y a local that is fixed -/
theorem px_fixLc (i : Nat) {y : Str} {py spos : Pos} {fx : List Nat} (hc : X.calm = true) (hN : X.N.Nodup) (own : List (Str × Nat)) (hi : PXI X tg it fi) (ok : BlkOk X.N X.env.scope scope own)
    (hg : ∀ (s : Shared) (H : Hp) (C : Addr) (cl : List (Str × Addr)) (fp : List Addr), PXG (X.blk s H scope (compEnvC scope cl C X.env) fp) tg tv st) (ht : ∀ (s : Shared) (H : Hp) (C : Addr) (cl : List (Str × Addr)) (fp : List Addr), PXTs (X.blk s H scope (compEnvC scope cl C X.env) fp) ifs fc)
    (he : ∀ (s : Shared) (H : Hp) (C : Addr) (cl : List (Str × Addr)) (fp : List Addr), PX (X.blk s H scope (compEnvC scope cl C X.env) fp) elt fe) (hy : X.N[i]? = some y := by rfl) (hyl : X.env.scope.names.lookup y = some .local := by rfl)
    (hsw : swapsWith (.ListComp elt [⟨tg, it, ifs, 0⟩] scope pos) (some (.Name y py)) spos.line X.env = pure true := by exact sw_true rfl rfl rfl (by decide +kernel)) (hx : ∀ i ∈ tv, i ∈ own.map (·.2) := by decide) (hfx : ∀ j ∈ fx, j ∉ [i] := by decide) (hs : ∀ x, foldedSetIterable it X.env x = pure x := by intro _; rfl) :
    PXS X fx (.Assign [.Name y py] (.ListComp elt [⟨tg, it, ifs, 0⟩] scope pos) spos) (asgS (lcE fi st fc fe (own.map (·.2))) (nameF i)) := by
  refine PS.mono (ps_setLc (wi := tXI X.K fi) (g := tXG X.K tv st) (tt := tXT X.K fc) (te := tX X.K fe) hc hN hy hyl hsw hi ok hg ht he hs) ?_
  intro E σ H h
  refine tX_lc σ H _ _ hx ?_
  obtain ⟨W, ρ, φ, r, ρ1, s, e1, k⟩ := tX_asg (tv := [i]) hfx h
  refine ⟨W, ρ, φ, r, ρ1, s, e1, fun v W1 H1 φ1 l o => ?_⟩
  obtain ⟨W2, ρ2, φ2, r2, l2, ρ3, s2, rv, dj, hst, k2⟩ := k v W1 H1 φ1 l o
  obtain ⟨W', φ', g⟩ := setF_out s2 rv dj hst
  exact k2 _ W' H1 φ' g
end

/-! ### values that are only looked at: displays within displays -/
inductive VT where
  | lf (r : Vl) | dl (ts : List VT) | dt (ts : List VT)
mutual
def curT (ρ : Rho) : VT → Option D
  | .lf r => cur ρ r
  | .dl ts => (curTs ρ ts).bind fun ds => some (.list ds)
  | .dt ts => (curTs ρ ts).bind fun ds => some (.tuple ds)
def curTs (ρ : Rho) : List VT → Option (List D)
  | [] => some []
  | t :: ts => (curT ρ t).bind fun d => (curTs ρ ts).bind fun ds => some (d :: ds)
end
mutual
inductive RT (K : PySem.W.Frag) (W : Addr → Prop) (H : Hp) (σ : L2.St) : V → VT → List Addr → Prop
  | lf {v r l} : RX K W H σ v r l → RT K W H σ v (.lf r) l
  | dl {p vs ts l} : H p = some (.lst vs) → ¬ W p → RTs K W H σ vs ts l → RT K W H σ (.ref p) (.dl ts) (p :: l)
  | dt {p vs ts l} : H p = some (.tup vs) → RTs K W H σ vs ts l → RT K W H σ (.ref p) (.dt ts) l
inductive RTs (K : PySem.W.Frag) (W : Addr → Prop) (H : Hp) (σ : L2.St) : List V → List VT → List Addr → Prop
  | nil : RTs K W H σ [] [] []
  | cons {v vs t ts l ls} : RT K W H σ v t l → RTs K W H σ vs ts ls → RTs K W H σ (v :: vs) (t :: ts) (l ++ ls)
end
section
variable {K : PySem.W.Frag} {W W1 W2 : Addr → Prop} {H H1 H2 : Hp} {σ : L2.St} {ρ ρ1 ρ2 : Rho} {φ φ1 φ2 : Fp}
mutual
theorem RT.ev {fp : Addr → Prop} (e : Ev fp W H W1 H1) (x : Wxt W H W1 H1) : ∀ {v : V} {t : VT} {l : List Addr}, RT K W H σ v t l → (∀ b ∈ l, ¬ fp b) → RT K W1 H1 σ v t l
  | _, _, _, .lf h, n => .lf (h.ev e x n)
  | _, _, _, .dl h w r, n => .dl (e.keep _ _ h fun q => absurd q (n _ List.mem_cons_self)) (fun q => w (e.nw _ _ h (n _ List.mem_cons_self) q)) (RTs.ev e x r fun b hb => n b (List.mem_cons_of_mem _ hb))
  | _, _, _, .dt h r, n => .dt (x.fix _ _ h (.inr trivial)) (RTs.ev e x r n)
theorem RTs.ev {fp : Addr → Prop} (e : Ev fp W H W1 H1) (x : Wxt W H W1 H1) : ∀ {vs : List V} {ts : List VT} {l : List Addr}, RTs K W H σ vs ts l → (∀ b ∈ l, ¬ fp b) → RTs K W1 H1 σ vs ts l
  | _, _, _, .nil, _ => .nil
  | _, _, _, .cons h r, n => .cons (RT.ev e x h fun b hb => n b (List.mem_append_left _ hb)) (RTs.ev e x r fun b hb => n b (List.mem_append_right _ hb))
end
mutual
theorem RT.own : ∀ {v : V} {t : VT} {l : List Addr}, RT K W H σ v t l → ∀ b ∈ l, ¬ W b ∧ ∃ o, H b = some o ∧ ¬ Imm o
  | _, _, _, .lf h, b, hb => h.own b hb
  | _, _, _, .dl h w r, b, hb => by
    rcases List.mem_cons.mp hb with e | hb
    · rw [e]; exact ⟨w, _, h, fun z => z⟩
    · exact RTs.own r b hb
  | _, _, _, .dt h r, b, hb => RTs.own r b hb
theorem RTs.own : ∀ {vs : List V} {ts : List VT} {l : List Addr}, RTs K W H σ vs ts l → ∀ b ∈ l, ¬ W b ∧ ∃ o, H b = some o ∧ ¬ Imm o
  | _, _, _, .nil, _, hb => nomatch hb
  | _, _, _, .cons h r, b, hb => (List.mem_append.mp hb).elim (RT.own h b) (RTs.own r b)
end
mutual
theorem RT.ct (s : SS K W H σ ρ φ) : ∀ {v : V} {t : VT} {l : List Addr} {d : D}, RT K W H σ v t l → curT ρ t = some d → Ct K H v d
  | _, _, _, _, .lf h, e => h.ct s (by simpa [curT] using e)
  | _, _, _, _, .dl h w r, e => by
    simp only [curT] at e
    obtain ⟨ds, e1, e⟩ := Option.bind_eq_some_iff.mp e
    cases e
    exact .lst h (RTs.ct s r e1)
  | _, _, _, _, .dt h r, e => by
    simp only [curT] at e
    obtain ⟨ds, e1, e⟩ := Option.bind_eq_some_iff.mp e
    cases e
    exact .tup (.of h) (RTs.ct s r e1)
theorem RTs.ct (s : SS K W H σ ρ φ) : ∀ {vs : List V} {ts : List VT} {l : List Addr} {ds : List D}, RTs K W H σ vs ts l → curTs ρ ts = some ds → CtA K H vs ds
  | _, _, _, _, .nil, e => by simp only [curTs] at e; cases e; exact .nil
  | _, _, _, _, .cons h r, e => by
    simp only [curTs] at e
    obtain ⟨d, e1, e⟩ := Option.bind_eq_some_iff.mp e
    obtain ⟨ds, e2, e⟩ := Option.bind_eq_some_iff.mp e
    cases e
    exact .cons (RT.ct s h e1) (RTs.ct s r e2)
end
end
structure OutV (K : PySem.W.Frag) (W : Addr → Prop) (H : Hp) (fp : Addr → Prop) (σ : L2.St) (ρ' : Rho) (t : VT) (v : V) (W' : Addr → Prop) (H' : Hp) (φ' : Fp) (l : List Addr) : Prop where
  o : OutT K W H fp σ ρ' W' H' φ'
  rx : RT K W' H' σ v t l
  dj : ∀ a ∈ l, ¬ InF φ' a
  subl : ∀ a ∈ l, fp a ∨ H a = none
structure OutVs (K : PySem.W.Frag) (W : Addr → Prop) (H : Hp) (fp : Addr → Prop) (σ : L2.St) (ρ' : Rho) (ts : List VT) (vs : List V) (W' : Addr → Prop) (H' : Hp) (φ' : Fp) (l : List Addr) : Prop where
  o : OutT K W H fp σ ρ' W' H' φ'
  rx : RTs K W' H' σ vs ts l
  dj : ∀ a ∈ l, ¬ InF φ' a
  subl : ∀ a ∈ l, fp a ∨ H a = none
abbrev DV := Rho → Option (VT × Rho)
abbrev DVs := Rho → Option (List VT × Rho)
def tXV (K : PySem.W.Frag) (f : DV) : TE := fun σ H Q => ∃ W ρ φ r ρ', SS K W H σ ρ φ ∧ f ρ = some (r, ρ') ∧ ∀ v W' H' φ' l, OutV K W H (InF φ) σ ρ' r v W' H' φ' l → Q v H'
def tXVs (K : PySem.W.Frag) (f : DVs) : TA := fun σ H Q => ∃ W ρ φ rs ρ', SS K W H σ ρ φ ∧ f ρ = some (rs, ρ') ∧ ∀ vs W' H' φ' l, OutVs K W H (InF φ) σ ρ' rs vs W' H' φ' l → Q vs H'
abbrev PXV (X : Cx) (e : Expr) (f : DV) : Prop := PE X e (tXV X.K f)
abbrev PXVs (X : Cx) (es : List Expr) (f : DVs) : Prop := PA X es (tXVs X.K f)
def lfV (f : DE) : DV := fun ρ => (f ρ).bind fun p => some (.lf p.1, p.2)
def dlV (f : DVs) : DV := fun ρ => (f ρ).bind fun p => if p.1.length ≤ 1000 then some (.dl p.1, p.2) else none
def dtV (f : DVs) : DV := fun ρ => (f ρ).bind fun p => if p.1.length ≤ 1000 then some (.dt p.1, p.2) else none
def nilV : DVs := fun ρ => some ([], ρ)
def consV (f : DV) (fs : DVs) : DVs := fun ρ => (f ρ).bind fun p => (fs p.2).bind fun q => some (p.1 :: q.1, q.2)
def reprV (f : DV) : DE := fun ρ => (f ρ).bind fun p => (curT p.2 p.1).bind fun d => if reprOk d then some (.fz (.str d.shown), p.2) else none
def cmpV (F : D → D → Option Bool) (f g : DV) : DE := fun ρ => (f ρ).bind fun p => (g p.2).bind fun q => (curT q.2 p.1).bind fun d => (curT q.2 q.1).bind fun e => (F d e).bind fun b => some (.fz (.bool b), q.2)
def neD (d e : D) : Option Bool := (eqD d e).bind fun b => some (!b)
section
variable {X : Cx} {e a b : Expr} {es : List Expr} {f g : DV} {fe : DE} {fs : DVs} {pos p : Pos} {x : Str}
theorem RTs.length {K : PySem.W.Frag} {W : Addr → Prop} {H : Hp} {σ : L2.St} : ∀ {vs : List V} {ts : List VT} {l : List Addr}, RTs K W H σ vs ts l → vs.length = ts.length
  | _, _, _, .nil => rfl
  | _, _, _, .cons _ r => by rw [List.length_cons, List.length_cons, RTs.length r]
theorem pxv_lf (h : PX X e fe) : PXV X e (lfV fe) := by
  refine PE.mono h ?_
  rintro σ H Q ⟨W, ρ, φ, r, ρ', s, hf, k⟩
  unfold lfV at hf
  obtain ⟨⟨x, ρ1⟩, e1, hf⟩ := Option.bind_eq_some_iff.mp hf
  cases hf
  exact ⟨W, ρ, φ, x, ρ1, s, e1, fun v W1 H1 φ1 l o => k v W1 H1 φ1 l ⟨o.t, .lf o.rx, o.dj, o.subl⟩⟩
theorem pxvs_nil : PXVs X [] nilV := by
  refine PA.mono pa_nil ?_
  rintro σ H Q ⟨W, ρ, φ, r, ρ', s, hf, k⟩
  cases hf
  exact k [] W H φ [] ⟨.refl s, .nil, (fun a h => nomatch h), (fun a h => nomatch h)⟩
theorem pxvs_cons (ha : PXV X e f) (hr : PXVs X es fs) (hs : starEach (e :: es) X.env = (false, eval e X.env) :: starEach es X.env := by rfl) : PXVs X (e :: es) (consV f fs) := by
  refine PA.mono (pa_cons ha hr hs) ?_
  rintro σ H Q ⟨W, ρ, φ, r, ρ', s, hf, k⟩
  unfold consV at hf
  obtain ⟨⟨x, ρ1⟩, e1, hf⟩ := Option.bind_eq_some_iff.mp hf
  obtain ⟨⟨xs, ρ2⟩, e2, hf⟩ := Option.bind_eq_some_iff.mp hf
  cases hf
  refine ⟨W, ρ, φ, x, ρ1, s, e1, fun v W1 H1 φ1 l o1 => ?_⟩
  refine ⟨W1, ρ1, φ1, xs, _, o1.o.ss, e2, fun vs W2 H2 φ2 ls o2 => ?_⟩
  have dj2t : ∀ {p : Addr → Prop}, (∀ a, p a → InF φ1 a ∨ H1 a = none) → ∀ a ∈ l, ¬ p a := fun {p} sub a h q => by
    rcases sub a q with z | z
    · exact o1.dj a h z
    · obtain ⟨_, ob, e, _⟩ := o1.rx.own a h
      rw [z] at e; cases e
  refine k (v :: vs) W2 H2 φ2 (l ++ ls) ⟨o1.o.then s o2.o, .cons (o1.rx.ev o2.o.ev (o2.o.ev.xt o1.o.ss.notW) o1.dj) o2.rx, fun a h => ?_, fun a h => ?_⟩
  · exact (List.mem_append.mp h).elim (dj2t o2.o.sub a) (o2.dj a)
  · exact (List.mem_append.mp h).elim (o1.subl a) (sub2 (p := fun a => a ∈ ls) o1.o.ev o1.o.sub o2.subl (fun a => s.inH) a)
theorem OutVs.lay {K : PySem.W.Frag} {W W1 : Addr → Prop} {H H1 : Hp} {σ : L2.St} {ρ ρ1 : Rho} {φ φ1 : Fp} {ts : List VT} {vs : List V} {l : List Addr} (s : SS K W H σ ρ φ) (o : OutVs K W H (InF φ) σ ρ1 ts vs W1 H1 φ1 l) {q : Addr} (nq : H1 q = none) (ob : HO) :
    OutT K W H (InF φ) σ ρ1 W1 (upd H1 q ob) φ1 ∧ RTs K W1 (upd H1 q ob) σ vs ts l ∧ (InF φ q ∨ H q = none) := by
  have up := upd_up (o := ob) nq
  refine ⟨⟨o.o.ev.trans (fp1 := fun _ => False) (fun _ z => z.elim) (Ev.grow up), o.o.ss.grow up, o.o.sub⟩, o.rx.ev (Ev.grow (fp := fun _ => False) up) ⟨fun _ h => h, fun a o e _ => up a o e⟩ (fun _ _ z => z), ?_⟩
  by_cases n : InF φ q
  · exact .inl n
  · refine .inr ?_
    cases e : H q with
    | none => rfl
    | some ob => rw [o.o.ev.keep q ob e fun z => absurd z n] at nq; cases nq
theorem pxv_dl (h : PXVs X es fs) : PXV X (.List es pos) (dlV fs) := by
  refine PE.mono (pe_lst h) ?_
  rintro σ H Q ⟨W, ρ, φ, r, ρ', s, hf, k⟩
  unfold dlV at hf
  obtain ⟨⟨ts, ρ1⟩, e1, hf⟩ := Option.bind_eq_some_iff.mp hf
  split at hf
  · rename_i hz
    cases hf
    refine ⟨W, ρ, φ, ts, _, s, e1, fun vs W1 H1 φ1 l o => ⟨small_size (by rw [o.rx.length]; exact hz), fun q nq => ?_⟩⟩
    obtain ⟨o1, rx, hq⟩ := o.lay s nq (.lst vs)
    refine k (.ref q) W1 _ φ1 (q :: l) ⟨o1, .dl upd_same (o.o.ss.new nq) rx, fun a h z => ?_, fun a h => ?_⟩
    · rcases List.mem_cons.mp h with rfl | h
      · exact o.o.ss.inH z nq
      · exact o.dj a h z
    · rcases List.mem_cons.mp h with rfl | h
      · exact hq
      · exact o.subl a h
  · cases hf
theorem pxv_dt {x1} (h : PXVs X es fs) : PXV X (.Tuple es x1 pos) (dtV fs) := by
  refine PE.mono (pe_tup h) ?_
  rintro σ H Q ⟨W, ρ, φ, r, ρ', s, hf, k⟩
  unfold dtV at hf
  obtain ⟨⟨ts, ρ1⟩, e1, hf⟩ := Option.bind_eq_some_iff.mp hf
  split at hf
  · rename_i hz
    cases hf
    refine ⟨W, ρ, φ, ts, _, s, e1, fun vs W1 H1 φ1 l o => ⟨small_size (by rw [o.rx.length]; exact hz), fun q nq => ?_⟩⟩
    obtain ⟨o1, rx, hq⟩ := o.lay s nq (.tup vs)
    exact k (.ref q) W1 _ φ1 l ⟨o1, .dt upd_same rx, o.dj, o.subl⟩
  · cases hf
theorem px_reprV (hm : X.mg x = none) (hgd : X.A.guards = some []) (hu : X.A.units + 70 < cLine) (ha : PXV X e f) (hv : bootBuiltins x = some (.builtin "repr")) (hg : Gl X x := by rfl)
    (hn : x ≠ "__name__" := by decide) (hdb : (x == ("__debug__" : Str)) = false := by decide) (he : starEach [e] X.env = (false, eval e X.env) :: starEach [] X.env := by rfl) (hpl : (backTo pos (starEach [] X.env)).any (·.1) = false := by rfl) :
    PX X (.Call (.Name x p) [e] [] pos) (reprV f) := by
  refine PE.mono (pe_callB (call_reprD hgd hu) hg hm hv (pa_cons ha pa_nil he) hn hdb he hpl) ?_
  rintro σ H Q ⟨W, ρ, φ, r, ρ', s, hf, k⟩
  unfold reprV at hf
  obtain ⟨⟨t, ρ1⟩, e1, hf⟩ := Option.bind_eq_some_iff.mp hf
  obtain ⟨d, e2, hf⟩ := Option.bind_eq_some_iff.mp hf
  split at hf
  · rename_i ok
    cases hf
    refine ⟨W, ρ, φ, t, _, s, e1, fun v W1 H1 φ1 l o => ⟨v, d, rfl, .ct (o.rx.ct o.o.ss e2), ok, k _ W1 H1 φ1 [] ⟨o.o.ev, o.o.ss, .rv (.fz (.str _)), (fun a h => nomatch h), o.o.sub, (fun a h => nomatch h)⟩⟩⟩
  · cases hf
theorem tXV_cmp {K : PySem.W.Frag} {F : D → D → Option Bool} {r : R2} (hr : ∀ H x y d e z Q, Ct K H x d → Ct K H y e → F d e = some z → Q (.bl z) H → r x y H Q) {σ : L2.St} {H : Hp} {Q : VK} (h : tX K (cmpV F f g) σ H Q) : tXV K f σ H fun x H1 => tXV K g σ H1 fun y H2 => r x y H2 Q := by
  obtain ⟨W, ρ, φ, r, ρ', s, hf, k⟩ := h
  unfold cmpV at hf
  obtain ⟨⟨t, ρ1⟩, e1, hf⟩ := Option.bind_eq_some_iff.mp hf
  obtain ⟨⟨u, ρ2⟩, e2, hf⟩ := Option.bind_eq_some_iff.mp hf
  obtain ⟨d, e3, hf⟩ := Option.bind_eq_some_iff.mp hf
  obtain ⟨e, e4, hf⟩ := Option.bind_eq_some_iff.mp hf
  obtain ⟨z, e5, hf⟩ := Option.bind_eq_some_iff.mp hf
  cases hf
  refine ⟨W, ρ, φ, t, ρ1, s, e1, fun v W1 H1 φ1 l o1 => ?_⟩
  refine ⟨W1, ρ1, φ1, u, _, o1.o.ss, e2, fun v2 W2 H2 φ2 l2 o2 => ?_⟩
  have rx1 := o1.rx.ev o2.o.ev (o2.o.ev.xt o1.o.ss.notW) o1.dj
  have o12 := o1.o.then s o2.o
  exact hr H2 v v2 d e z Q (rx1.ct o2.o.ss e3) (o2.rx.ct o2.o.ss e4) e5 (k _ W2 H2 φ2 [] ⟨o12.ev, o12.ss, .rv (.fz (.bl _)), (fun a h => nomatch h), o12.sub, (fun a h => nomatch h)⟩)
theorem eqV_ok {K : PySem.W.Frag} : ∀ H x y d e z Q, Ct K H x d → Ct K H y e → eqD d e = some z → Q (.bl z) H → (rEq x y H Q ∨ rEqD K x y H Q) := by
  intro H x y d e z Q c1 c2 e1 q
  rcases eqD_inv e1 with ⟨v', u', s1, s2, sc, rfl⟩ | ⟨s1, s2, rfl⟩
  · obtain rfl := (CtR.ct c1).sc s1
    obtain rfl := (CtR.ct c2).sc s2
    exact .inl ⟨sc, q⟩
  · exact .inr ⟨_, _, c1.dp (.inl s1), c2.dp (.inl s2), s1, s2, q⟩
theorem neV_ok {K : PySem.W.Frag} : ∀ H x y d e z Q, Ct K H x d → Ct K H y e → neD d e = some z → Q (.bl z) H → (rNe x y H Q ∨ rNeD K x y H Q) := by
  intro H x y d e z Q c1 c2 en q
  obtain ⟨b, e1, e2⟩ := Option.bind_eq_some_iff.mp en
  cases e2
  rcases eqD_inv e1 with ⟨v', u', s1, s2, sc, rfl⟩ | ⟨s1, s2, rfl⟩
  · obtain rfl := (CtR.ct c1).sc s1
    obtain rfl := (CtR.ct c2).sc s2
    exact .inl ⟨sc, q⟩
  · exact .inr ⟨_, _, c1.dp (.inl s1), c2.dp (.inl s2), s1, s2, q⟩
theorem px_eqV (hu : X.A.units + 64 < cLine) (ha : PXV X a f) (hb : PXV X b g) : PX X (.Compare a [.Eq] [b] pos) (cmpV eqD f g) := PE.mono (pe_cmpR (op_eqB hu) ha hb (nomark b)) fun _ _ _ h => tXV_cmp eqV_ok h
theorem px_neV (hu : X.A.units + 64 < cLine) (ha : PXV X a f) (hb : PXV X b g) : PX X (.Compare a [.NotEq] [b] pos) (cmpV neD f g) := PE.mono (pe_cmpR (op_neB hu) ha hb (nomark b)) fun _ _ _ h => tXV_cmp neV_ok h
theorem pxt_eqV (hu : X.A.units + 64 < cLine) (ha : PXV X a f) (hb : PXV X b g) : PXT X (.Compare a [.Eq] [b] pos) (bT (cmpV eqD f g)) := PT.mono (pt_cmpR (op_eqB hu) ha hb (nomark b)) fun _ _ _ h => tXV_cmp eqV_ok (tX_bT h)
theorem pxt_neV (hu : X.A.units + 64 < cLine) (ha : PXV X a f) (hb : PXV X b g) : PXT X (.Compare a [.NotEq] [b] pos) (bT (cmpV neD f g)) := PT.mono (pt_cmpR (op_neB hu) ha hb (nomark b)) fun _ _ _ h => tXV_cmp neV_ok (tX_bT h)
end
end
end DL

namespace DL
open PySem PySem.Spec PyProof.Rows L2
noncomputable section

/-! ### calls with keywords -/
/-- the callee's list out of the written arguments: pm says for each parameter which one -/
def pick {α : Type} (pm : List Nat) (l : List α) : List α := pm.filterMap fun i => l[i]?
structure KBd (K : PySem.W.Frag) (fd : FuncData) (ps ks : List Str) (n : Nat) (pm : List Nat) : Prop where
  to : ∀ (s : Shared) (us ws : List Value), K.In s.heap → us.length = n → ws.length = ks.length → BindsTo s fd ⟨us, ks.zip ws⟩ (ps.zip (pick pm (us ++ ws)))
theorem Vals.pick {vs : List V} {us : List Value} (h : Vals vs us) : ∀ pm : List Nat, Vals (DL.pick pm vs) (DL.pick pm us)
  | [] => .nil
  | i :: pm => by
    have ih := Vals.pick h pm
    unfold DL.pick at ih ⊢
    rw [List.filterMap_cons, List.filterMap_cons]
    cases e : vs[i]? with
    | none =>
      rw [h.none_of e]
      exact ih
    | some v =>
      obtain ⟨u, h1, h2⟩ := h.get e
      rw [h1]
      exact .cons h2 ih
/-- the keywords' values as an argument list -/
abbrev PXK (X : Cx) (kws : List Keyword) (f : DA) : Prop := PK X kws (tXA X.K f)
theorem PK.mono {X : Cx} {e : List Keyword} {t t' : TA} (h : PK X e t) (m : ∀ σ H Q, t' σ H Q → t σ H Q) : PK X e t' := ⟨fun pos pins s σ H Q I q => h.run pos pins s σ H Q I (m σ H Q q)⟩
/-- n results -/
def lenA (n : Nat) (f : DA) : DA := fun ρ => (f ρ).bind fun p => if p.1.length = n then some p else none
def appA (f g : DA) : DA := fun ρ => (f ρ).bind fun p => (g p.2).bind fun q => some (p.1 ++ q.1, q.2)
def pickA (pm : List Nat) (f : DA) : DA := fun ρ => (f ρ).bind fun p => some (pick pm p.1, p.2)
section
variable {X : Cx} {e : Expr} {es : List Expr} {f : DE} {fs gs : DA} {kws : List Keyword}
theorem pxk_nil : PXK X [] nilA := by
  refine PK.mono pk_nil ?_
  rintro σ H Q ⟨W, ρ, φ, r, ρ', s, hf, k⟩
  cases hf
  exact k [] W H φ [] ⟨Ev.refl .., s, .nil, (fun a h => nomatch h), fun _ h => .inl h, (fun a h => nomatch h)⟩
theorem tXA_cons {K : PySem.W.Frag} {σ : L2.St} {H : Hp} {Q : List V → Hp → Prop} (h : tXA K (consA f fs) σ H Q) : tCons (tX K f) (tXA K fs) σ H Q := by
  obtain ⟨W, ρ, φ, r, ρ', s, hf, k⟩ := h
  unfold consA at hf
  obtain ⟨⟨x, ρ1⟩, e1, hf⟩ := Option.bind_eq_some_iff.mp hf
  obtain ⟨⟨xs, ρ2⟩, e2, hf⟩ := Option.bind_eq_some_iff.mp hf
  cases hf
  refine ⟨W, ρ, φ, x, ρ1, s, e1, fun v W1 H1 φ1 l o1 => ?_⟩
  refine ⟨W1, ρ1, φ1, xs, _, o1.ss, e2, fun vs W2 H2 φ2 ls o2 => ?_⟩
  refine k (v :: vs) W2 H2 φ2 (l ++ ls) ⟨o1.ev.trans o1.sub o2.ev, o2.ss, .cons (o1.rx.stay o1.ss o1.dj o2.ev) o2.rx (dj2 (p := fun a => a ∈ ls) o1.rx o1.dj o2.subl), fun a h => ?_, sub2 o1.ev o1.sub o2.sub fun a => s.inH, fun a h => ?_⟩
  · exact (List.mem_append.mp h).elim (dj2 o1.rx o1.dj o2.sub a) (o2.dj a)
  · exact (List.mem_append.mp h).elim (o1.subl a) (sub2 (p := fun a => a ∈ ls) o1.ev o1.sub o2.subl (fun a => s.inH) a)
theorem pxk_cons {nm : Option Str} {kpos : Pos} (ha : PX X e f) (hr : PXK X kws fs) : PXK X (⟨nm, e, kpos⟩ :: kws) (consA f fs) := PK.mono (pk_cons ha hr) fun _ _ _ h => tXA_cons h
theorem RXs.append {K : PySem.W.Frag} {W : Addr → Prop} {H : Hp} {σ : L2.St} : ∀ {vs us : List V} {rs ts : List Vl} {l m : List Addr}, RXs K W H σ vs rs l → RXs K W H σ us ts m → (∀ a ∈ l, a ∉ m) → RXs K W H σ (vs ++ us) (rs ++ ts) (l ++ m)
  | _, _, _, _, _, _, .nil, h2, _ => h2
  | _, _, _, _, _, _, .cons h r d, h2, n => by
    rw [List.append_assoc]
    exact .cons h (RXs.append r h2 fun a q => n a (List.mem_append_right _ q)) fun a q z => (List.mem_append.mp z).elim (d a q) (n a (List.mem_append_left _ q))
/-- the i-th of a list of results, with its own objects -/
theorem RXs.at {K : PySem.W.Frag} {W : Addr → Prop} {H : Hp} {σ : L2.St} : ∀ {vs : List V} {rs : List Vl} {l : List Addr}, RXs K W H σ vs rs l → ∃ mm : Nat → List Addr, (∀ i v, vs[i]? = some v → ∃ r, rs[i]? = some r ∧ RX K W H σ v r (mm i)) ∧ (∀ i j a, a ∈ mm i → a ∈ mm j → i = j) ∧ (∀ i a, a ∈ mm i → a ∈ l) ∧ vs.length = rs.length
  | _, _, _, .nil => ⟨fun _ => [], (fun i v h => by simp at h), (fun _ _ _ h => nomatch h), (fun _ _ h => nomatch h), rfl⟩
  | _, _, _, .cons (l := l) h r d => by
    obtain ⟨m, h1, h2, h3, h4⟩ := RXs.at r
    refine ⟨fun i => match i with | 0 => l | j + 1 => m j, fun i v e => ?_, fun i j a q1 q2 => ?_, fun i a q => ?_, by rw [List.length_cons, List.length_cons, h4]⟩
    · cases i with
      | zero => cases e; exact ⟨_, rfl, h⟩
      | succ i => exact h1 i v e
    · cases i with
      | zero => cases j with
        | zero => rfl
        | succ j => exact absurd (h3 j a q2) (d a q1)
      | succ i => cases j with
        | zero => exact absurd (h3 i a q1) (d a q2)
        | succ j => rw [h2 i j a q1 q2]
    · cases i with
      | zero => exact List.mem_append_left _ q
      | succ i => exact List.mem_append_right _ (h3 i a q)
theorem RXs.pick {K : PySem.W.Frag} {W : Addr → Prop} {H : Hp} {σ : L2.St} {vs : List V} {rs : List Vl} {l : List Addr} (h : RXs K W H σ vs rs l) : ∀ pm : List Nat, pm.Nodup → ∃ l', RXs K W H σ (DL.pick pm vs) (DL.pick pm rs) l' ∧ ∀ a ∈ l', a ∈ l := by
  obtain ⟨m, h1, h2, h3, h4⟩ := h.at
  intro pm nd
  have go : ∀ pm : List Nat, pm.Nodup → ∃ l', RXs K W H σ (DL.pick pm vs) (DL.pick pm rs) l' ∧ ∀ a ∈ l', ∃ i ∈ pm, a ∈ m i := by
    intro pm
    induction pm with
    | nil => intro _; exact ⟨[], .nil, (fun a h => nomatch h)⟩
    | cons i pm ih =>
      intro nd
      obtain ⟨n1, n2⟩ := List.nodup_cons.mp nd
      obtain ⟨l', g1, g2⟩ := ih n2
      unfold DL.pick at g1 ⊢
      rw [List.filterMap_cons, List.filterMap_cons]
      cases e : vs[i]? with
      | none =>
        have : rs[i]? = none := by
          have := List.getElem?_eq_none_iff.mp e
          exact List.getElem?_eq_none_iff.mpr (by omega)
        rw [this]
        exact ⟨l', g1, fun a h => let ⟨j, q1, q2⟩ := g2 a h; ⟨j, List.mem_cons_of_mem _ q1, q2⟩⟩
      | some v =>
        obtain ⟨r, e2, rx⟩ := h1 i v e
        rw [e2]
        refine ⟨m i ++ l', .cons rx g1 fun a q z => ?_, fun a q => ?_⟩
        · obtain ⟨j, j1, j2⟩ := g2 a z
          rw [h2 i j a q j2] at n1
          exact n1 j1
        · rcases List.mem_append.mp q with z | z
          · exact ⟨i, List.mem_cons_self, z⟩
          · obtain ⟨j, j1, j2⟩ := g2 a z
            exact ⟨j, List.mem_cons_of_mem _ j1, j2⟩
  obtain ⟨l', g1, g2⟩ := go pm nd
  exact ⟨l', g1, fun a h => let ⟨i, _, q⟩ := g2 a h; h3 i a q⟩
theorem pick_map {α β : Type} (g : α → β) (pm : List Nat) (l : List α) : (DL.pick pm l).map g = DL.pick pm (l.map g) := by
  unfold DL.pick
  induction pm with
  | nil => rfl
  | cons i pm ih =>
    rw [List.filterMap_cons, List.filterMap_cons, List.getElem?_map]
    cases l[i]? with
    | none => exact ih
    | some v => simp only [Option.map_some, List.map_cons, ih]
theorem lenA_inv {n : Nat} {f : DA} {ρ ρ' : Rho} {rs : List Vl} (h : lenA n f ρ = some (rs, ρ')) : f ρ = some (rs, ρ') ∧ rs.length = n := by
  unfold lenA at h
  obtain ⟨⟨r, ρ1⟩, e, h⟩ := Option.bind_eq_some_iff.mp h
  split at h
  · rename_i q; cases h; exact ⟨e, q⟩
  · cases h
/-- keyword calls: written arguments fs, then keywords gs, sorted by pm -/
theorem tXA_callP {K : PySem.W.Frag} {σ : L2.St} {H : Hp} {Q : VK} {F : DE} {io : List Bool} {m n nk : Nat} {pm : List Nat} (hn : io.length = m) (nd : pm.Nodup) (h : tX K (callE io F (pickA pm (appA (lenA n fs) (lenA nk gs)))) σ H Q) :
    tXA K fs σ H fun vs H1 => tXA K gs σ H1 fun zs H2 => (vs.length = n ∧ zs.length = nk) ∧ spF K m F (DL.pick pm (vs ++ zs)) H2 Q E0 := by
  obtain ⟨W, ρ, φ, rs, ρ1, s, e1, k⟩ := tXA_call hn h
  unfold pickA appA at e1
  obtain ⟨⟨r0, ρ0⟩, q1, e2⟩ := Option.bind_eq_some_iff.mp e1
  cases e2
  obtain ⟨⟨r1, ρ2⟩, q3, q2⟩ := Option.bind_eq_some_iff.mp q1
  obtain ⟨⟨r2, ρ3⟩, q4, q5⟩ := Option.bind_eq_some_iff.mp q2
  cases q5
  obtain ⟨qa, la⟩ := lenA_inv q3
  obtain ⟨qb, lb⟩ := lenA_inv q4
  refine ⟨W, ρ, φ, r1, ρ2, s, qa, fun vs W1 H1 φ1 l o1 => ?_⟩
  refine ⟨W1, ρ2, φ1, r2, _, o1.ss, qb, fun zs W2 H2 φ2 l2 o2 => ⟨⟨by rw [o1.rx.length]; exact la, by rw [o2.rx.length]; exact lb⟩, ?_⟩⟩
  have rx := (o1.rx.stay o1.ss o1.dj o2.ev).append o2.rx (dj2s (p := fun a => a ∈ l2) o1.rx o1.dj o2.subl)
  obtain ⟨l', rp, hl⟩ := rx.pick pm nd
  refine k _ W2 H2 φ2 l' ⟨o1.ev.trans o1.sub o2.ev, o2.ss, rp, fun a h => ?_, sub2 o1.ev o1.sub o2.sub fun a => s.inH, fun a h => ?_⟩
  · exact (List.mem_append.mp (hl a h)).elim (dj2s o1.rx o1.dj o2.sub a) (o2.dj a)
  · exact (List.mem_append.mp (hl a h)).elim (o1.subl a) (sub2 (p := fun a => a ∈ l2) o1.ev o1.sub o2.subl (fun a => s.inH) a)
end
section
variable {X : Cx} {k n m : Nat} {f : Addr} {fd : FuncData} {ps ks : List Str} {x : Str} {p pos : Pos} {e : Expr} {es : List Expr} {F : DE} {fs gs : DA} {kws : List Keyword} {pm : List Nat}
theorem px_callP (io : List Bool) (G : FnG X.prog X.w X.K X.mg X.base CX0 k f fd ps (spF X.K m F)) (hr : RmG k X.A) (hm : X.mg x = some (.ref f)) (hk : PySem.W.keepIn X.K (.ref f) = true) (hb : KBd X.K fd ps ks n pm)
    (ha : PXA X (e :: es) fs) (hkw : PXK X kws gs) (hn : io.length = m := by rfl) (nd : pm.Nodup := by decide) (hg : Gl X x := by rfl) (hall : (backToKw pos (keywordEach kws X.env)).all (·.1.isSome) = true := by rfl) (hks : (backToKw pos (keywordEach kws X.env)).filterMap (·.1) = ks := by rfl)
    (hdb : (x == ("__debug__" : Str)) = false := by decide) (he : starEach (e :: es) X.env = (false, eval e X.env) :: starEach es X.env := by rfl)
    (hpl : ((backTo pos (starEach (e :: es) X.env)).any (·.1) || (backToKw pos (keywordEach kws X.env)).any (·.1.isNone)) = false := by rfl) :
    PX X (.Call (.Name x p) (e :: es) kws pos) (callE io F (pickA pm (appA (lenA n fs) (lenA ks.length gs)))) := by
  constructor
  intro pins s σ H Q I h
  refine wpAny_Call_Name_kw (ld_glob I hg hm ?_ hdb)
  refine PySem.W.callWith_KW (h₀ := X.base) I.ok.mod.kin hk hall (thn (ha.run pos pins s σ H _ I (tXA_callP hn nd h)) ?_) hpl he
  rintro us s1 ⟨vs, H1, I1, r, q⟩
  refine thn (hkw.run pos pins s1 σ H1 _ I1 q) ?_
  rintro ws s2 ⟨zs, H2, I2, rz, ⟨lv, lz⟩, q2⟩
  rw [hks]
  exact ⟨I2.kIn, runG (args := ⟨us, ks.zip ws⟩) G hr (hb.to s2 us ws I2.kIn (by rw [← r.length]; exact lv) (by rw [← rz.length]; exact lz)) I2 (Vals.pick (r.append rz) pm) q2 rfl⟩
theorem px_callP0 (io : List Bool) (G : FnG X.prog X.w X.K X.mg X.base CX0 k f fd ps (spF X.K m F)) (hr : RmG k X.A) (hm : X.mg x = some (.ref f)) (hk : PySem.W.keepIn X.K (.ref f) = true) (hb : KBd X.K fd ps ks 0 pm)
    (hkw : PXK X kws gs) (hn : io.length = m := by rfl) (nd : pm.Nodup := by decide) (hg : Gl X x := by rfl) (hall : (backToKw pos (keywordEach kws X.env)).all (·.1.isSome) = true := by rfl) (hks : (backToKw pos (keywordEach kws X.env)).filterMap (·.1) = ks := by rfl)
    (hdb : (x == ("__debug__" : Str)) = false := by decide) (hpl : ((backTo pos (starEach [] X.env)).any (·.1) || (backToKw pos (keywordEach kws X.env)).any (·.1.isNone)) = false := by rfl) :
    PX X (.Call (.Name x p) [] kws pos) (callE io F (pickA pm (appA (lenA 0 nilA) (lenA ks.length gs)))) := by
  constructor
  intro pins s σ H Q I h
  refine wpAny_Call_Name_kw (ld_glob I hg hm ?_ hdb)
  refine PySem.W.callWith_KW0 (h₀ := X.base) I.ok.mod.kin hk hall ?_ hpl
  obtain ⟨W, ρ, φ, rs, ρ1, s', e1, k'⟩ := tXA_callP hn nd h
  cases e1
  have q := k' [] W H φ [] ⟨Ev.refl .., s', .nil, (fun a h => nomatch h), fun _ h => .inl h, (fun a h => nomatch h)⟩
  refine thn (hkw.run pos pins s σ H _ I q) ?_
  rintro ws s2 ⟨zs, H2, I2, rz, ⟨lv, lz⟩, q2⟩
  rw [hks]
  exact ⟨I2.kIn, runG (args := ⟨[], ks.zip ws⟩) G hr (hb.to s2 [] ws I2.kIn rfl (by rw [← rz.length]; exact lz)) I2 (Vals.pick (us := ws) rz pm) q2 rfl⟩
end
end
end DL

namespace DL
open PySem PySem.Spec PyProof.Rows L2
noncomputable section

/-! ### lists of own lists -/
def owsA : List Vl → Option (List (List D))
  | [] => some []
  | .ow ds :: r => (owsA r).bind fun t => some (ds :: t)
  | _ => none
def lst2E (fs : DA) : DE := fun ρ => (fs ρ).bind fun p => (owsA p.1).bind fun dss => if dss.length ≤ 1000 then some (.ow2 dss, p.2) else none
def own2At (ρ : Rho) (xi : Nat) : Option (List (List D)) := match ρ[xi]? with
  | some (some (.ow2 ds)) => some ds
  | _ => none
theorem own2At_some {ρ : Rho} {xi : Nat} {ds : List (List D)} (h : own2At ρ xi = some ds) : ρ[xi]? = some (some (.ow2 ds)) := by
  unfold own2At at h
  split at h
  · rename_i e; cases h; exact e
  · cases h
def meth2E (xi : Nat) (g : DE) (G : List D → List D → Option (List D × D)) (fs : DA) : DE := fun ρ => (own2At ρ xi).bind fun _ => (g ρ).bind fun q => match q.1 with
  | .fz (.int i) => (own2At q.2 xi).bind fun dss => (ixN dss.length i).bind fun j => (dss[j]?).bind fun ds => (fs (q.2.set xi none)).bind fun p => (frzA p.1).bind fun es => (G ds es).bind fun t =>
    match p.2[xi]? with
    | some none => some (.fz t.2, p.2.set xi (some (.ow2 (dss.set j t.1))))
    | _ => none
  | _ => none
section
variable {K : PySem.W.Frag} {W W1 : Addr → Prop} {H H1 : Hp} {σ : L2.St} {ρ : Rho} {φ : Fp}
theorem RXs.ows : ∀ {vs : List V} {rs : List Vl} {l : List Addr} {dss : List (List D)}, RXs K W H σ vs rs l → owsA rs = some dss → ∃ bs, vs = bs.map V.ref ∧ l = bs ∧ OwA K W H bs dss ∧ bs.Nodup
  | _, _, _, _, .nil, e => by cases e; exact ⟨[], rfl, rfl, .nil, List.nodup_nil⟩
  | _, _, _, _, .cons (r := r) (rs := rs) h t d, e => by
    cases r with
    | ow ds =>
      simp only [owsA] at e
      obtain ⟨dss, e1, e⟩ := Option.bind_eq_some_iff.mp e
      cases e
      obtain ⟨bs, rfl, rfl, o, n⟩ := RXs.ows t e1
      cases h with
      | rv h => cases h with
        | ow g1 g2 g3 => exact ⟨_ :: _, rfl, rfl, .cons g1 g2 g3 o, List.nodup_cons.mpr ⟨d _ List.mem_cons_self, n⟩⟩
    | _ => cases e
theorem OwA.at : ∀ {bs : List Addr} {dss : List (List D)} {j : Nat} {ds : List D}, OwA K W H bs dss → dss[j]? = some ds → ∃ b xs, bs[j]? = some b ∧ H b = some (.lst xs) ∧ ¬ W b ∧ FzA K W H xs ds
  | _, _, _, _, .nil, e => by simp at e
  | _, _, 0, _, .cons h w f r, e => by cases e; exact ⟨_, _, rfl, h, w, f⟩
  | _, _, j + 1, _, .cons h w f r, e => OwA.at (j := j) r (by simpa using e)
theorem OwA.length : ∀ {bs : List Addr} {dss : List (List D)}, OwA K W H bs dss → bs.length = dss.length
  | _, _, .nil => rfl
  | _, _, .cons _ _ _ r => by rw [List.length_cons, List.length_cons, OwA.length r]
/-- one of the lists gets another content -/
theorem OwA.write {b : Addr} {xs' : List V} {ds' : List D} (x : Wxt W H W H1) (st : ∀ c o, H c = some o → c ≠ b → H1 c = some o) (hb : H1 b = some (.lst xs')) (nb : ¬ W b) (f : FzA K W H1 xs' ds') :
    ∀ {bs : List Addr} {dss : List (List D)} {j : Nat}, OwA K W H bs dss → bs[j]? = some b → bs.Nodup → OwA K W H1 bs (dss.set j ds')
  | _, _, _, .nil, e, _ => by simp at e
  | _, _, 0, .cons (bs := bs) h w g r, e, n => by
    cases e
    obtain ⟨n1, n2⟩ := List.nodup_cons.mp n
    refine .cons hb nb f ?_
    have go : ∀ {bs dss}, OwA K W H bs dss → b ∉ bs → OwA K W H1 bs dss := by
      intro bs dss o
      induction o with
      | nil => intro _; exact .nil
      | cons h w g r ih => intro q; exact .cons (st _ _ h fun z => q (z ▸ List.mem_cons_self)) w (g.xt x) (ih fun z => q (List.mem_cons_of_mem _ z))
    exact go r n1
  | _, _, j + 1, .cons (b := c) (bs := bs') h w g r, e, n => by
    obtain ⟨n1, n2⟩ := List.nodup_cons.mp n
    have e' : bs'[j]? = some b := by simpa using e
    refine .cons (st _ _ h fun z => n1 (z ▸ List.mem_of_getElem? e')) w (g.xt x) (OwA.write x st hb nb f r e' n2)
theorem SS.own2 (s : SS K W H σ ρ φ) {xi : Nat} {dss : List (List D)} (e : ρ[xi]? = some (some (.ow2 dss))) : ∃ a bs, σ[xi]? = some (some (.ref a)) ∧ H a = some (.lst (bs.map V.ref)) ∧ ¬ W a ∧ OwA K W H bs dss ∧ φ xi = a :: bs ∧ (a :: bs).Nodup := by
  obtain ⟨v, h1, h2⟩ := s.sl xi _ e
  generalize hφ : φ xi = lx at h2
  cases h2 with
  | @ow2 a bs _ g1 g2 g3 g4 => exact ⟨a, bs, h1, g1, g2, g3, rfl, g4⟩
end
section
variable {X : Cx} {e ie : Expr} {es : List Expr} {fs : DA} {g : DE} {pos apos cpos spos : Pos} {x name : Str} {id : String} {r : V → List V → Hp → VK → Prop} {G : List D → List D → Option (List D × D)}
theorem px_lst2 (h : PXA X es fs) : PX X (.List es pos) (lst2E fs) := by
  refine PE.mono (pe_lst h) ?_
  rintro σ H Q ⟨W, ρ, φ, r, ρ', s, hf, k⟩
  unfold lst2E at hf
  obtain ⟨⟨rs, ρ1⟩, e1, hf⟩ := Option.bind_eq_some_iff.mp hf
  obtain ⟨dss, e2, hf⟩ := Option.bind_eq_some_iff.mp hf
  split at hf
  · rename_i hz
    cases hf
    refine ⟨W, ρ, φ, rs, _, s, e1, fun vs W1 H1 φ1 l o => ?_⟩
    obtain ⟨bs, rfl, rfl, ow, nd⟩ := o.rx.ows e2
    refine ⟨small_size (by rw [List.length_map, ow.length]; exact hz), fun p np => ?_⟩
    have up := upd_up (o := .lst (l.map V.ref)) np
    have xt : Wxt W1 H1 W1 (upd H1 p (.lst (l.map V.ref))) := ⟨fun _ h => h, fun a o e _ => up a o e⟩
    have nW : ¬ W1 p := o.ss.new np
    have np' : p ∉ l := fun z => by
      obtain ⟨_, ob, e, _⟩ := o.rx.own p z
      rw [np] at e; cases e
    have ow' := ow.ev (Ev.grow (fp := fun _ => False) up) xt (fun _ _ z => z)
    have hp : InF φ p ∨ H p = none := by
      by_cases n : InF φ p
      · exact .inl n
      · refine .inr ?_
        cases e : H p with
        | none => rfl
        | some ob => rw [o.ev.keep p ob e fun z => absurd z n] at np; cases np
    refine k (.ref p) W1 _ φ1 (p :: l) ⟨o.ev.trans (fp1 := fun _ => False) (fun _ z => z.elim) (Ev.grow up), o.ss.grow up, .rv (.ow2 upd_same nW ow' (List.nodup_cons.mpr ⟨np', nd⟩)), fun a h z => ?_, o.sub, fun a h => ?_⟩
    · rcases List.mem_cons.mp h with rfl | h
      · exact o.ss.inH z np
      · exact o.dj a h z
    · rcases List.mem_cons.mp h with rfl | h
      · exact hp
      · exact o.subl a h
  · cases hf
theorem tX_meth2 {K : PySem.W.Frag} (xi : Nat) (vm : VMeth K r G) {σ : L2.St} {H : Hp} {Q : VK} (h : tX K (meth2E xi g G fs) σ H Q) : tOp (rIxL K) (tVar xi) (tX K g) σ H fun x H1 => tyV K "list" x H1 ∧ tXA K fs σ H1 fun vs H2 => r x vs H2 Q := by
  obtain ⟨W, ρ, φ, res, ρ', s, hf, k⟩ := h
  unfold meth2E at hf
  obtain ⟨ds0, e0, hf⟩ := Option.bind_eq_some_iff.mp hf
  obtain ⟨⟨ri, ρ1⟩, e1, hf⟩ := Option.bind_eq_some_iff.mp hf
  simp only at hf
  split at hf
  rotate_left
  · cases hf
  rename_i i
  obtain ⟨dss, e2, hf⟩ := Option.bind_eq_some_iff.mp hf
  obtain ⟨j, e3, hf⟩ := Option.bind_eq_some_iff.mp hf
  obtain ⟨ds, e4, hf⟩ := Option.bind_eq_some_iff.mp hf
  obtain ⟨⟨rs, ρ2⟩, e5, hf⟩ := Option.bind_eq_some_iff.mp hf
  obtain ⟨es, e6, hf⟩ := Option.bind_eq_some_iff.mp hf
  obtain ⟨⟨ds', rd⟩, e7, hf⟩ := Option.bind_eq_some_iff.mp hf
  simp only at hf
  split at hf
  rotate_left
  · cases hf
  rename_i e8
  cases hf
  obtain ⟨a, bs0, g1, _, _, _, _, _⟩ := s.own2 (own2At_some e0)
  refine ⟨.ref a, g1, W, ρ, φ, .fz (.int i), ρ1, s, e1, fun iv W1 H1 φ1 l1 o1 => ?_⟩
  have hiv : iv = .int i := by
    cases o1.rx with
    | rv z => cases z with
      | fz z => cases z; rfl
  obtain ⟨a', bs, h1, h2, h3, h4, h5, h6⟩ := o1.ss.own2 (own2At_some e2)
  rw [g1] at h1
  cases h1
  obtain ⟨b, xs, b1, b2, b3, b4⟩ := h4.at e4
  have at1 : atI (bs.map V.ref) i = some (.ref b) := by
    unfold atI
    rw [List.length_map, h4.length, e3]
    show (bs.map V.ref)[j]? = some (.ref b)
    rw [List.getElem?_map, b1]
    rfl
  refine ⟨a, bs.map V.ref, i, .ref b, rfl, hiv, .of h2, at1, .inl ⟨rfl, xs, .of b2⟩, ?_⟩
  -- the arguments, without the list
  have sd := o1.ss.del' xi
  refine ⟨W1, _, _, rs, ρ2, sd, e5, fun vs W2 H2 φ2 l o2 => ?_⟩
  obtain ⟨o3, fe⟩ := o2.fix e6
  have ninD : ∀ c ∈ a :: bs, ¬ InF (delF φ1 xi) c := by
    rintro c hc ⟨j', hj⟩
    unfold delF at hj
    split at hj
    · cases hj
    · rename_i n
      exact n (o1.ss.dj j' xi c hj (by rw [h5]; exact hc))
  have rv1 : RV K W1 H1 (.ref a) (.ow2 dss) (a :: bs) := .ow2 h2 h3 h4 h6
  have rv3 := rv1.ev o3.ev (o3.ev.xt sd.notW) ninD
  cases rv3 with
  | ow2 q1 q2 q3 q4 =>
  have eb : ∃ xs3, H2 b = some (.lst xs3) ∧ ¬ Or W2 l b ∧ FzA K (Or W2 l) H2 xs3 ds := by
    obtain ⟨b', xs3, c1, c2, c3, c4⟩ := q3.at e4
    rw [b1] at c1
    cases c1
    exact ⟨xs3, c2, c3, c4⟩
  obtain ⟨xs3, c2, c3, c4⟩ := eb
  refine vm _ H2 b xs3 ds vs es ds' rd Q c2 c3 c4 fe e7 fun xs' v f fv => ?_
  have up : ∀ c ob, H2 c = some ob → c ≠ b → upd H2 b (.lst xs') c = some ob := fun c ob e n => by rw [upd_ne n]; exact e
  have evb : Ev (fun c => c = b) (Or W2 l) H2 (Or W2 l) (upd H2 b (.lst xs')) := ⟨fun _ h => h, fun c ob e q => up c ob e fun z => by
    subst z
    rw [c2] at e; cases e
    exact q rfl, fun _ _ _ _ h => h⟩
  have xtb : Wxt (Or W2 l) H2 (Or W2 l) (upd H2 b (.lst xs')) := evb.xt fun c h => by rw [h]; exact c3
  have nd := List.nodup_cons.mp h6
  have bin : b ∈ bs := List.mem_of_getElem? b1
  have nab : a ≠ b := fun z => nd.1 (z ▸ bin)
  have wfb : ∀ c, Or W2 l c → ∃ ob, upd H2 b (.lst xs') c = some ob := fun c h => let ⟨ob, e⟩ := o3.ss.wf c h; ⟨ob, up c ob e fun z => c3 (z ▸ h)⟩
  have nin3 : ∀ c ∈ a :: bs, ¬ InF φ2 c := fun c hc q => by
    rcases o3.sub c q with z | z
    · exact ninD c hc z
    · rcases List.mem_cons.mp hc with rfl | hc'
      · rw [h2] at z; cases z
      · obtain ⟨_, ob, e, _⟩ := h4.own c hc'
        rw [z] at e; cases e
  have sb : SS K (Or W2 l) (upd H2 b (.lst xs')) σ ρ2 φ2 := o3.ss.ev evb xtb (fun c h z => nin3 b (List.mem_cons_of_mem _ bin) (z ▸ h)) wfb
  have rvn : RV K (Or W2 l) (upd H2 b (.lst xs')) (.ref a) (.ow2 (dss.set j ds')) (a :: bs) := .ow2 (up a _ q1 nab) q2 (OwA.write xtb up upd_same c3 (f.xt xtb) q3 b1 nd.2) h6
  have sf := sb.put (i := xi) g1 rvn nin3
  have ain : ∀ c ∈ a :: bs, InF φ1 c := fun c hc => ⟨xi, by rw [h5]; exact hc⟩
  have ev13 : Ev (InF φ1) W1 H1 (Or W2 l) (upd H2 b (.lst xs')) := by
    refine (o3.ev.mono (fp1 := InF φ1) fun c h => .inl (delF_sub h)).trans (fp1 := fun c => c = b) ?_ evb
    rintro c rfl
    exact .inl (ain c (List.mem_cons_of_mem _ bin))
  refine k v _ _ _ [] ⟨o1.ev.trans o1.sub ev13, sf, .rv (.fz (fv.xt xtb)), (fun a h => nomatch h), fun c h => ?_, (fun a h => nomatch h)⟩
  have toφ1 : InF φ1 c ∨ H1 c = none := by
    rcases setF_in h with z | z
    · exact (o3.sub c z).imp delF_sub id
    · exact .inl (ain c z)
  exact sub2 (p := fun c => InF φ1 c ∨ H1 c = none) o1.ev o1.sub (fun _ h => h) (fun a => s.inH) c toφ1
theorem px_meth2 (xi : Nat) {xpos : Pos} (slot : Slot "list" name id) (hty : typeOf (.builtin id) = pure (.type "method_descriptor")) (hm : MtR X id r) (vm : VMeth X.K r G) (hi : PX X ie g) (ha : PXA X (e :: es) fs) (hN : X.N[xi]? = some x := by rfl)
    (hv : Vis X.env.scope x := by first | exact Or.inl rfl | exact Or.inr (Or.inl rfl) | exact Or.inr (Or.inr rfl)) (hd : (x == ("__debug__" : Str)) = false := by decide) (hcd : (x == ("__classdict__" : Str)) = false := by decide) (hix : PlainIx ie := by intro _ _; rfl)
    (hbase : attributeBase (.Subscript (.Name x xpos) ie spos) name X.env (eval (.Subscript (.Name x xpos) ie spos) X.env) = eval (.Subscript (.Name x xpos) ie spos) X.env := by rfl)
    (hfew : ((backTo cpos (starEach (e :: es) X.env)).all (fun x => !x.1) && (backToKw cpos (keywordEach [] X.env)).all (fun x => x.1.isSome)
      && decide ((e :: es).length + ([] : List Keyword).length + (if ([] : List Keyword).isEmpty then 0 else 1) < 30)) = true := by rfl)
    (hline : (apos.endLine == cpos.line) = true := by rfl) (hs : starEach (e :: es) X.env = (false, eval e X.env) :: starEach es X.env := by rfl) (hplain : (backTo cpos (starEach es X.env)).any (·.1) = false := by rfl) :
    PX X (.Call (.Attribute (.Subscript (.Name x xpos) ie spos) name apos) (e :: es) [] cpos) (meth2E xi g G fs) :=
  PE.mono (pe_bm PySem.F.plainAttrs_list slot hty hm (pe_ix ix_list (pe_var hN hv hd hcd) hi hix) ha hbase hfew hline hs hplain) fun _ _ _ h => tX_meth2 xi vm h
theorem px_meth20 (xi : Nat) {xpos : Pos} (slot : Slot "list" name id) (hty : typeOf (.builtin id) = pure (.type "method_descriptor")) (hm : MtR X id r) (vm : VMeth X.K r G) (hi : PX X ie g) (hN : X.N[xi]? = some x := by rfl)
    (hv : Vis X.env.scope x := by first | exact Or.inl rfl | exact Or.inr (Or.inl rfl) | exact Or.inr (Or.inr rfl)) (hd : (x == ("__debug__" : Str)) = false := by decide) (hcd : (x == ("__classdict__" : Str)) = false := by decide) (hix : PlainIx ie := by intro _ _; rfl)
    (hbase : attributeBase (.Subscript (.Name x xpos) ie spos) name X.env (eval (.Subscript (.Name x xpos) ie spos) X.env) = eval (.Subscript (.Name x xpos) ie spos) X.env := by rfl)
    (hline : (apos.endLine == cpos.line) = true := by rfl) :
    PX X (.Call (.Attribute (.Subscript (.Name x xpos) ie spos) name apos) [] [] cpos) (meth2E xi g G nilA) := by
  refine PE.mono (pe_bm0 PySem.F.plainAttrs_list slot hty hm (pe_ix ix_list (pe_var hN hv hd hcd) hi hix) hbase hline) ?_
  intro σ H Q h
  have h := tX_meth2 xi vm h
  obtain ⟨v, h1, W, ρ, φ, ri, ρ1, s, e1, k⟩ := h
  refine ⟨v, h1, W, ρ, φ, ri, ρ1, s, e1, fun iv W1 H1 φ1 l1 o1 => ?_⟩
  obtain ⟨p, xs, i, u, q1, q2, q3, q4, q5, W2, ρ2, φ2, rs, ρ3, s2, e2, k2⟩ := k iv W1 H1 φ1 l1 o1
  cases e2
  exact ⟨p, xs, i, u, q1, q2, q3, q4, q5, k2 [] W2 H1 φ2 [] ⟨Ev.refl .., s2, .nil, (fun a h => nomatch h), fun _ h => .inl h, (fun a h => nomatch h)⟩⟩
end

/-! ### chains, in, is, sorted -/
def CtOp (K : PySem.W.Frag) (r : List V → Hp → VK → Prop) (F : List D → Option D) : Prop := ∀ H vs ds z Q, CtRA K H vs ds → F ds = some z → (∀ v, Sc v z → Q v H) → r vs H Q
def chainE (F F' : List D → Option D) (f g h : DE) : DE := fun ρ => (f ρ).bind fun p => (g p.2).bind fun q => (curA q.2 [p.1, q.1]).bind fun ds => (F ds).bind fun z => match z with
  | .bool b => if b = true then (h q.2).bind fun t => (curA t.2 [q.1, t.1]).bind fun es => (F' es).bind fun y => some (.fz y, t.2) else some (.fz (.bool false), q.2)
  | _ => none
def ltD := b2 fun i j => decide (i < j)
def leD := b2 fun i j => decide (i ≤ j)
def gtD := b2 fun i j => decide (j < i)
def geD := b2 fun i j => decide (j ≤ i)
def eqDD : List D → Option D := fun ds => match ds with
  | [d, e] => (eqD d e).bind fun b => some (.bool b)
  | _ => none
section
variable {K : PySem.W.Frag}
theorem ct_b2 {g : Int → Int → Bool} : CtOp K (r2L (rI0 fun i j => .bl (g i j))) (b2 g) := fun H vs ds z Q ct e k => by
  unfold b2 at e
  split at e
  · cases e
    obtain rfl := ct.int2
    exact ⟨_, _, rfl, _, _, rfl, rfl, k _ (.bl _)⟩
  · cases e
theorem ct_eq : CtOp K (r2L fun x y H Q => rEq x y H Q ∨ rEqD K x y H Q) eqDD := fun H vs ds z Q ct e k => by
  unfold eqDD at e
  split at e
  · obtain ⟨b, e1, e⟩ := Option.bind_eq_some_iff.mp e
    cases e
    obtain ⟨v, u, rfl, c1, c2⟩ := ct.two
    rcases eqD_inv e1 with ⟨v', u', s1, s2, sc, rfl⟩ | ⟨s1, s2, rfl⟩
    · obtain rfl := c1.sc s1
      obtain rfl := c2.sc s2
      exact ⟨_, _, rfl, .inl ⟨sc, k _ (.bl _)⟩⟩
    · exact ⟨_, _, rfl, .inr ⟨_, _, c1.dp s1, c2.dp s2, s1, s2, k _ (.bl _)⟩⟩
  · cases e
end
section
variable {X : Cx} {a b c : Expr} {f g h : DE} {pos : Pos}
theorem tX_chain {K : PySem.W.Frag} {F F' : List D → Option D} {r r' : R2} (vo : CtOp K (r2L r) F) (vo' : CtOp K (r2L r') F') {σ : L2.St} {H : Hp} {Q : VK} (hh : tX K (chainE F F' f g h) σ H Q) : tChain r r' (tX K f) (tX K g) (tX K h) σ H Q := by
  obtain ⟨W, ρ, φ, res, ρ', s, hf, k⟩ := hh
  unfold chainE at hf
  obtain ⟨⟨x, ρ1⟩, e1, hf⟩ := Option.bind_eq_some_iff.mp hf
  obtain ⟨⟨y, ρ2⟩, e2, hf⟩ := Option.bind_eq_some_iff.mp hf
  obtain ⟨ds, e3, hf⟩ := Option.bind_eq_some_iff.mp hf
  obtain ⟨z, e4, hf⟩ := Option.bind_eq_some_iff.mp hf
  refine ⟨W, ρ, φ, x, ρ1, s, e1, fun v W1 H1 φ1 l o1 => ?_⟩
  refine ⟨W1, ρ1, φ1, y, ρ2, o1.ss, e2, fun v2 W2 H2 φ2 l2 o2 => ?_⟩
  have o := Out.two s o1 o2
  have ct := o.rx.ctR o.ss e3
  simp only at hf
  split at hf
  rotate_left
  · cases hf
  rename_i bb
  obtain ⟨x', y', q, q'⟩ := vo H2 _ ds _ (fun z H3 => ∃ k, z = .bl k ∧ (if k = true then tX K h σ H3 fun w' H4 => r' v2 w' H4 Q else Q (.bl false) H3)) ct e4 (fun w hw => by
    cases hw
    refine ⟨bb, rfl, ?_⟩
    cases bb with
    | true =>
      simp only [if_true] at hf ⊢
      obtain ⟨⟨t, ρ3⟩, e5, hf⟩ := Option.bind_eq_some_iff.mp hf
      obtain ⟨es, e6, hf⟩ := Option.bind_eq_some_iff.mp hf
      obtain ⟨y3, e7, hf⟩ := Option.bind_eq_some_iff.mp hf
      cases hf
      have s12 : OutT K W H (InF φ) σ ρ2 W2 H2 φ2 := o1.t.then s o2.t
      refine ⟨W2, ρ2, φ2, t, _, o2.ss, e5, fun v3 W3 H3 φ3 l3 o3 => ?_⟩
      have oo := Out.two o1.ss o2 o3
      obtain ⟨x'', y'', p, p'⟩ := vo' H3 _ es _ Q (oo.rx.ctR oo.ss e6) e7 fun w hw => k w W3 H3 φ3 [] ⟨s12.ev.trans s12.sub o3.ev, o3.ss, .rv (.fz hw.fz), (fun a h => nomatch h), (s12.then s o3.t).sub, (fun a h => nomatch h)⟩
      cases p
      exact p'
    | false =>
      simp only [Bool.false_eq_true, if_false] at hf ⊢
      have s12 : OutT K W H (InF φ) σ ρ2 W2 H2 φ2 := o1.t.then s o2.t
      cases hf
      exact k _ W2 H2 φ2 [] ⟨s12.ev, s12.ss, .rv (.fz (.bl _)), (fun a h => nomatch h), s12.sub, (fun a h => nomatch h)⟩)
  cases q
  exact q'
theorem px_chain {op op' : CmpOp} {r r' : R2} {F F' : List D → Option D} (ho : OpR X (compareOp op) r) (ho' : OpR X (compareOp op') r') (vo : CtOp X.K (r2L r) F) (vo' : CtOp X.K (r2L r') F') (ha : PX X a f) (hb : PX X b g) (hc : PX X c h)
    (hm : lastMarks [op, op'] [b, c] = false := by with_unfolding_all rfl) : PX X (.Compare a [op, op'] [b, c] pos) (chainE F F' f g h) := PE.mono (pe_chain ho ho' ha hb hc hm) fun _ _ _ q => tX_chain vo vo' q
theorem pxt_chain {op op' : CmpOp} {r r' : R2} {F F' : List D → Option D} (ho : OpR X (compareOp op) r) (ho' : OpR X (compareOp op') r') (vo : CtOp X.K (r2L r) F) (vo' : CtOp X.K (r2L r') F') (ha : PX X a f) (hb : PX X b g) (hc : PX X c h)
    (hm : lastMarks [op, op'] [b, c] = false := by with_unfolding_all rfl) : PXT X (.Compare a [op, op'] [b, c] pos) (bT (chainE F F' f g h)) := PT.mono (pt_chain ho ho' ha hb hc hm) fun _ _ _ q => tX_chain vo vo' (tX_bT q)
end
section
variable {K : PySem.W.Frag}
/-! is, is not -/
def noneD : D → Bool
  | .none => true
  | _ => false
def isD : List D → Option Bool
  | [d, .none] => some (noneD d)
  | [.bool a, .bool b] => some (decide (a = b))
  | _ => none
def isF := ctF fun ds => (isD ds).bind fun b => some (.bool b)
def isNF := ctF fun ds => (isD ds).bind fun b => some (.bool (!b))
def rIsAny : R2 := fun x y H Q => (y = .non ∧ Q (.bl (decide (x = .non))) H) ∨ (∃ a b : Bool, x = .bl a ∧ y = .bl b ∧ Q (.bl (decide (a = b))) H)
def rNotAny : R2 := fun x y H Q => (y = .non ∧ Q (.bl (!decide (x = .non))) H) ∨ (∃ a b : Bool, x = .bl a ∧ y = .bl b ∧ Q (.bl (!decide (a = b))) H)
theorem op_isB {X : Cx} : OpR X (compareOp .Is) rIsAny := OpR.or op_isN op_isBl
theorem op_notB {X : Cx} : OpR X (compareOp .IsNot) rNotAny := OpR.or op_notN op_notBl
theorem CtR.non_iff {H : Hp} {v : V} {d : D} (h : CtR K H v d) : decide (v = V.non) = noneD d := by
  cases h with
  | ct h => cases h <;> first | rfl | simp
  | lk h r => simp [noneD]
theorem isD_inv {H : Hp} {vs : List V} {ds : List D} {b : Bool} (ct : CtRA K H vs ds) (h : isD ds = some b) : (∃ x, vs = [x, .non] ∧ b = decide (x = .non)) ∨ ∃ a c : Bool, vs = [.bl a, .bl c] ∧ b = decide (a = c) := by
  unfold isD at h
  split at h
  · cases h
    obtain ⟨v, u, rfl, c1, c2⟩ := ct.two
    obtain rfl := c2.non_inv
    exact .inl ⟨v, rfl, c1.non_iff.symm⟩
  · cases h
    obtain ⟨v, u, rfl, c1, c2⟩ := ct.two
    obtain rfl := c1.bool_inv
    obtain rfl := c2.bool_inv
    exact .inr ⟨_, _, rfl, rfl⟩
  · cases h
theorem vop_is : VOp K (r2L rIsAny) isF := vop_ct fun H vs ds z Q ct e k => by
  obtain ⟨b, e1, e⟩ := Option.bind_eq_some_iff.mp e
  cases e
  rcases isD_inv ct e1 with ⟨x, rfl, rfl⟩ | ⟨a, c, rfl, rfl⟩
  · exact ⟨_, _, rfl, .inl ⟨rfl, k _ (.bl _)⟩⟩
  · exact ⟨_, _, rfl, .inr ⟨_, _, rfl, rfl, k _ (.bl _)⟩⟩
theorem vop_isN : VOp K (r2L rNotAny) isNF := vop_ct fun H vs ds z Q ct e k => by
  obtain ⟨b, e1, e⟩ := Option.bind_eq_some_iff.mp e
  cases e
  rcases isD_inv ct e1 with ⟨x, rfl, rfl⟩ | ⟨a, c, rfl, rfl⟩
  · exact ⟨_, _, rfl, .inl ⟨rfl, k _ (.bl _)⟩⟩
  · exact ⟨_, _, rfl, .inr ⟨_, _, rfl, rfl, k _ (.bl _)⟩⟩
/-! in, not in -/
def flatD : D → Bool
  | .none => true | .bool _ => true | .int _ => true | .str _ => true
  | _ => false
def inD : List D → Option Bool
  | [d, .list ds] => if SeqAt.shaped d && SeqAt.shaped (.list ds) then some (ds.any fun z => PyData.eqv z d) else none
  | [d, .tuple ds] => if flatD d && ds.all flatD then some (ds.any fun z => PyData.eqv z d) else none
  | _ => none
def inF := ctF fun ds => (inD ds).bind fun b => some (.bool b)
def notInF := ctF fun ds => (inD ds).bind fun b => some (.bool (!b))
def rInAny (K : PySem.W.Frag) : R2 := fun x y H Q => rInD K x y H Q ∨ rIn K false x y H Q
def rNotInAny (K : PySem.W.Frag) : R2 := fun x y H Q => rNotInD K x y H Q ∨ rIn K true x y H Q
theorem op_inB {X : Cx} (hu : X.A.units + 65 < cLine) : OpR X (compareOp .In) (rInAny X.K) := OpR.or (op_inD hu) op_in_seq
theorem op_notInB {X : Cx} (hu : X.A.units + 65 < cLine) : OpR X (compareOp .NotIn) (rNotInAny X.K) := OpR.or (op_notInD hu) op_notIn_seq
theorem Ct.flat {H : Hp} {v w : V} {d e : D} (h : Ct K H v d) (h2 : Ct K H w e) (f : flatD d = true) (f2 : flatD e = true) : flatV v = true ∧ eqV v w = PyData.eqv d e := by
  cases h <;> first | exact Bool.noConfusion (show false = true from f) | (cases h2 <;> first | exact Bool.noConfusion (show false = true from f2) | exact ⟨rfl, rfl⟩)
theorem CtA.flat {H : Hp} {x : V} {d : D} (h : Ct K H x d) (f : flatD d = true) : ∀ {vs : List V} {ds : List D}, CtA K H vs ds → ds.all flatD = true → vs.all flatV = true ∧ inV x vs = ds.any fun z => PyData.eqv z d
  | _, _, .nil, _ => ⟨rfl, rfl⟩
  | _, _, .cons h2 r, g => by
    rw [List.all_cons, Bool.and_eq_true] at g
    obtain ⟨g1, g2⟩ := CtA.flat h f r g.2
    obtain ⟨q1, q2⟩ := Ct.flat h2 h g.1 f
    refine ⟨by rw [List.all_cons, q1, g1]; rfl, ?_⟩
    unfold inV at g2 ⊢
    rw [List.any_cons, List.any_cons, q2, g2]
theorem inD_inv {H : Hp} {vs : List V} {ds : List D} {b : Bool} (ct : CtRA K H vs ds) (h : inD ds = some b) : ∃ x y, vs = [x, y] ∧ ((∃ d es, Dp K H x d ∧ Dp K H y (.list es) ∧ SeqAt.shaped d = true ∧ SeqAt.shaped (.list es) = true ∧ b = es.any fun z => PyData.eqv z d) ∨
    ∃ p xs, y = .ref p ∧ SqT K H p xs ∧ flatV x = true ∧ xs.all flatV = true ∧ b = inV x xs) := by
  unfold inD at h
  split at h
  · split at h
    · rename_i q
      cases h
      obtain ⟨q1, q2⟩ := Bool.and_eq_true_iff.mp q
      obtain ⟨v, u, rfl, c1, c2⟩ := ct.two
      exact ⟨_, _, rfl, .inl ⟨_, _, c1.dp q1, c2.dp q2, q1, q2, rfl⟩⟩
    · cases h
  · split at h
    · rename_i q
      cases h
      obtain ⟨q1, q2⟩ := Bool.and_eq_true_iff.mp q
      obtain ⟨v, u, rfl, c1, c2⟩ := ct.two
      obtain ⟨p, xs, rfl, h1, h2⟩ := c2.tup_inv
      cases c1 with
      | lk _ _ => cases q1
      | ct c1 =>
        obtain ⟨g1, g2⟩ := CtA.flat c1 q1 h2 q2
        exact ⟨_, _, rfl, .inr ⟨p, xs, rfl, h1, (Ct.flat c1 c1 q1 q1).1, g1, g2.symm⟩⟩
    · cases h
  · cases h
theorem vop_in : VOp K (r2L (rInAny K)) inF := vop_ct fun H vs ds z Q ct e k => by
  obtain ⟨b, e1, e⟩ := Option.bind_eq_some_iff.mp e
  cases e
  obtain ⟨x, y, rfl, h⟩ := inD_inv ct e1
  refine ⟨x, y, rfl, ?_⟩
  rcases h with ⟨d, es, h1, h2, h3, h4, rfl⟩ | ⟨p, xs, h1, h2, h3, h4, rfl⟩
  · exact .inl ⟨d, es, h1, h2, h3, h4, k _ (.bl _)⟩
  · exact .inr ⟨p, xs, h1, .inr h2, h3, h4, k _ (.bl _)⟩
theorem vop_notIn : VOp K (r2L (rNotInAny K)) notInF := vop_ct fun H vs ds z Q ct e k => by
  obtain ⟨b, e1, e⟩ := Option.bind_eq_some_iff.mp e
  cases e
  obtain ⟨x, y, rfl, h⟩ := inD_inv ct e1
  refine ⟨x, y, rfl, ?_⟩
  rcases h with ⟨d, es, h1, h2, h3, h4, rfl⟩ | ⟨p, xs, h1, h2, h3, h4, rfl⟩
  · exact .inl ⟨d, es, h1, h2, h3, h4, k _ (.bl _)⟩
  · exact .inr ⟨p, xs, h1, .inr h2, h3, h4, k _ (.bl _)⟩
/-! sorted, of ints -/
def insI (a : Int) : List Int → List Int
  | [] => [a]
  | b :: r => if a ≤ b then a :: b :: r else b :: insI a r
def sortI : List Int → List Int
  | [] => []
  | a :: r => insI a (sortI r)
theorem insI_perm (a : Int) : ∀ l : List Int, (insI a l).Perm (a :: l)
  | [] => .refl _
  | b :: r => by
    unfold insI
    split
    · exact .refl _
    · exact ((insI_perm a r).cons b).trans (.swap a b r)
theorem insI_sorted (a : Int) : ∀ l : List Int, l.Pairwise (· ≤ ·) → (insI a l).Pairwise (· ≤ ·)
  | [], _ => by unfold insI; exact List.pairwise_singleton _ _
  | b :: r, h => by
    unfold insI
    obtain ⟨h1, h2⟩ := List.pairwise_cons.mp h
    split
    · rename_i q
      exact List.pairwise_cons.mpr ⟨fun c hc => (List.mem_cons.mp hc).elim (fun e => e ▸ q) fun z => Int.le_trans q (h1 c z), h⟩
    · rename_i q
      refine List.pairwise_cons.mpr ⟨fun c hc => ?_, insI_sorted a r h2⟩
      rcases List.mem_cons.mp ((insI_perm a r).mem_iff.mp hc) with e | z
      · rw [e]; omega
      · exact h1 c z
theorem sortI_perm : ∀ l : List Int, (sortI l).Perm l
  | [] => .refl _
  | a :: r => (insI_perm a _).trans ((sortI_perm r).cons a)
theorem sortI_sorted : ∀ l : List Int, (sortI l).Pairwise (· ≤ ·)
  | [] => .nil
  | a :: r => insI_sorted a _ (sortI_sorted r)
def sortF : Rho → List Vl → Option Vl := fun ρ rs => (curA ρ rs).bind fun ds => match ds with
  | [.list xs] => (intsD xs).bind fun ns => some (.ow ((sortI ns).map .int))
  | _ => none
theorem vop_sorted : VOp K (rSortedI K) sortF := by
  intro W H σ ρ φ vs rs l res Q s rx dj e k
  unfold sortF at e
  obtain ⟨ds, e1, e⟩ := Option.bind_eq_some_iff.mp e
  have ct := rx.ctR s e1
  split at e
  · obtain ⟨ns, e2, e3⟩ := Option.bind_eq_some_iff.mp e
    cases e3
    obtain rfl := intsD_inv e2
    obtain ⟨v, rfl, c⟩ := ct.one
    obtain ⟨a, xs, rfl, h, r⟩ := c.list_inv
    obtain rfl := r.ints
    refine ⟨a, ns, rfl, h, fun ns' p hp hs np => ?_⟩
    obtain rfl : ns' = sortI ns := PySem.W.ksm_same (hp.trans (sortI_perm ns).symm) hs (sortI_sorted ns)
    exact new_list (FzA.ints _) s.wf k p np
  · cases e
end
end
end DL

namespace DL
open PySem PySem.Spec PyProof.Rows L2
noncomputable section

theorem RmG.hu {k : Nat} {A : Around} (h : RmG k A) : A.units + 70 < cLine := by have := h.room.un; omega
theorem RmG.hu64 {k : Nat} {A : Around} (h : RmG k A) : A.units + 64 < cLine := by have := h.room.un; omega
theorem RmG.hu65 {k : Nat} {A : Around} (h : RmG k A) : A.units + 65 < cLine := by have := h.room.un; omega
theorem Fun.kbd {K : PySem.W.Frag} {x qual : Str} {st : Stmt} {f : Addr} {fd : FuncData} {ps ks : List Str} {n : Nat} {pm : List Nat} (F : Fun K x qual st f fd)
    (h : ∀ (kV doc pp : Value) (an : Option Addr) (cdv ct : Value) (us ws : List Value), us.length = n → ws.length = ks.length → bindArgs (PySem.W.fnOf x qual (defArgs st) (defBody st) (defScope st) .none kV doc pp an cdv ct) ⟨us, ks.zip ws⟩ = pure (ps.zip (pick pm (us ++ ws)))) : KBd K fd ps ks n pm := by
  obtain ⟨oc, od, kV, doc, pp, an, cdv, ct, osl, rfl, lk, hcd⟩ := F.ex
  exact ⟨fun s us ws _ h1 h2 => .of_eq (h kV doc pp an cdv ct us ws h1 h2)⟩
/-- a block's names, tested -/
def blkB (N : List Str) (sc scope : Scope) (own : List (Str × Nat)) : Bool :=
  decide (scope.kind = .function) && (scope.names.all fun y => decide (scope.names.lookup y.1 = some y.2)) && (own.all fun p => decide (N[p.2]? = some p.1)) &&
  (scope.names.all fun y => if y.2 = .free then decide (sc.names.lookup y.1 = some .cell) || decide (sc.names.lookup y.1 = some .free) else true) &&
  (scope.names.all fun y => if y.2 = .local ∨ y.2 = .cell then (own.map (·.1)).contains y.1 || !(N.contains y.1) else true)
theorem blk_ok {N : List Str} {sc scope : Scope} {own : List (Str × Nat)} (h : blkB N sc scope own = true) : BlkOk N sc scope own := by
  unfold blkB at h
  simp only [Bool.and_eq_true, decide_eq_true_eq, List.all_eq_true] at h
  obtain ⟨⟨⟨⟨h1, h2⟩, h3⟩, h4⟩, h5⟩ := h
  refine ⟨h1, h2, h3, fun y hy e => ?_, fun y hy e => ?_⟩
  · have := h4 y hy
    rw [if_pos e, Bool.or_eq_true, decide_eq_true_eq, decide_eq_true_eq] at this
    exact this
  · have := h5 y hy
    rw [if_pos e, Bool.or_eq_true] at this
    rcases this with q | q
    · exact .inl (by simpa using q)
    · exact .inr (by simpa using q)
/-- how often a while-loop may go -/
theorem fuelX : ∃ n : Nat, 10 ^ 40 ≤ n := ⟨10 ^ 40, Nat.le_refl _⟩
def fuel : Nat := Classical.choose fuelX
theorem fuel_ge {n : Nat} (h : n ≤ 10 ^ 40) : n ≤ fuel := Nat.le_trans h (Classical.choose_spec fuelX)
end
end DL

namespace DL
open PySem PySem.Spec PyProof.Rows L2
noncomputable section

/-! ### the end: a law's function says true of the script -/
theorem law_end {K : PySem.W.Frag} {H : Hp} {a : Addr} {ns : List Int} {F : DE} (h : SqL K H a (ns.map V.int)) (e : ∃ ρ', F [some (.lk (ns.map .int))] = some (.fz (.bool true), ρ')) : spF K 1 F [.ref a] H (fun v _ => v = .bl true) E0 := by
  obtain ⟨ρ', e⟩ := e
  refine ⟨rfl, fun b => b = a ∧ ∃ o, H a = some o, [some (.lk (ns.map .int))], fun _ => [], .fz (.bool true), ρ', ?_, e, fun v W' H' φ' l o => ?_⟩
  · refine ⟨rfl, fun i vl q => ?_, fun _ _ => rfl, (fun _ _ _ z => nomatch z), fun b hb => ?_⟩
    · match i, q with
      | 0, q =>
        cases q
        refine ⟨_, rfl, .lk (xs := ns.map V.int) ?_ (FzA.ints _)⟩
        rcases h with (h | h) | h
        · exact .inl ⟨⟨rfl, _, h⟩, h⟩
        · exact .inr (.inl h)
        · exact .inr (.inr h)
      | i + 1, q => simp at q
    · obtain ⟨rfl, q⟩ := hb
      exact q
  · cases o.rx with
    | rv z => cases z with
      | fz z => cases z; rfl

/-! ### dens at work -/
section
variable {f g h : DE} {fs gs : DA} {F : Rho → List Vl → Option Vl} {ρ ρ1 ρ2 : Rho} {c c1 : DT} {s t : DS} {r : Vl} {i j n : Nat} {st : DTg} {sts : List DTg} {d e : D} {fi : DI} {lo hi : DO}
@[simp] theorem ap_cE : cE d ρ = some (.fz d, ρ) := rfl
@[simp] theorem ap_nilA : nilA ρ = some ([], ρ) := rfl
@[simp] theorem ap_consA : consA f fs ρ = (f ρ).bind fun p => (fs p.2).bind fun q => some (p.1 :: q.1, q.2) := rfl
@[simp] theorem ap_opE : opE F fs ρ = (fs ρ).bind fun p => (F p.2 p.1).bind fun z => some (z, p.2) := rfl
@[simp] theorem ap_lstE : lstE fs ρ = (fs ρ).bind fun p => (frzA p.1).bind fun ds => if ds.length ≤ 1000 then some (.ow ds, p.2) else none := rfl
@[simp] theorem ap_tupE : tupE fs ρ = (fs ρ).bind fun p => (frzA p.1).bind fun ds => if ds.length ≤ 1000 then some (.fz (.tuple ds), p.2) else none := rfl
@[simp] theorem ap_lst2E : lst2E fs ρ = (fs ρ).bind fun p => (owsA p.1).bind fun dss => if dss.length ≤ 1000 then some (.ow2 dss, p.2) else none := rfl
@[simp] theorem ap_tB : tB c ρ = (c ρ).bind fun p => some (.fz (.bool p.1), p.2) := rfl
@[simp] theorem ap_andT : andT c c1 ρ = (c ρ).bind fun p => if p.1 = true then c1 p.2 else some (false, p.2) := rfl
@[simp] theorem ap_orT : orT c c1 ρ = (c ρ).bind fun p => if p.1 = true then some (true, p.2) else c1 p.2 := rfl
@[simp] theorem ap_notT : notT c ρ = (c ρ).bind fun p => some (!p.1, p.2) := rfl
@[simp] theorem ap_ifE : ifE c f g ρ = (c ρ).bind fun p => if p.1 = true then f p.2 else g p.2 := rfl
@[simp] theorem ap_yesT : yesT ρ = some (true, ρ) := rfl
@[simp] theorem ap_nxS : nxS ρ = some (.nx ρ) := rfl
@[simp] theorem ap_dropS : dropS f ρ = (f ρ).bind fun p => some (.nx p.2) := rfl
@[simp] theorem ap_retS : retS f ρ = (f ρ).bind fun p => some (.rt p.1 p.2) := rfl
@[simp] theorem ap_ifS : ifS c s t ρ = (c ρ).bind fun p => if p.1 = true then s p.2 else t p.2 := rfl
@[simp] theorem ap_nevS : nevS ρ = none := rfl
@[simp] theorem ap_lenA : lenA n fs ρ = (fs ρ).bind fun p => if p.1.length = n then some p else none := rfl
@[simp] theorem ap_appA : appA fs gs ρ = (fs ρ).bind fun p => (gs p.2).bind fun q => some (p.1 ++ q.1, q.2) := rfl
@[simp] theorem ap_pickA {pm : List Nat} : pickA pm fs ρ = (fs ρ).bind fun p => some (pick pm p.1, p.2) := rfl
@[simp] theorem ap_isE {Ts : List TyC} : isE Ts f ρ = (f ρ).bind fun p => (curR p.2 p.1).bind fun d => some (.fz (.bool (Ts.any (isC (tyC d)))), p.2) := rfl
@[simp] theorem ap_noO : noO ρ = some (none, ρ) := rfl
@[simp] theorem ap_sliceE : sliceE f lo hi ρ = (f ρ).bind fun p => (lo p.2).bind fun q => (hi q.2).bind fun t => (sliceF t.2 p.1 q.1 t.1).bind fun z => some (z, t.2) := rfl
@[simp] theorem ap_methE {G : List D → List D → Option (List D × D)} : methE i G fs ρ = (ownAt ρ i).bind fun _ => (fs ρ).bind fun p => (frzA p.1).bind fun es => (ownAt p.2 i).bind fun ds => (G ds es).bind fun t => some (.fz t.2, p.2.set i (some (.ow t.1))) := rfl
@[simp] theorem ap_nameT : nameT i r ρ = some (ρ.set i (some r)) := rfl
@[simp] theorem ap_nameF_fz : nameF i (.fz d) ρ = some (ρ.set i (some (.fz d))) := rfl
@[simp] theorem ap_nameF_ow {ds : List D} : nameF i (.ow ds) ρ = some (ρ.set i (some (.fz (.list ds)))) := rfl
@[simp] theorem ap_nameF_ow2 {ds : List (List D)} : nameF i (.ow2 ds) ρ = some (ρ.set i (some (.fz (.list (ds.map .list))))) := rfl
@[simp] theorem ap_nameF_lk {ds : List D} : nameF i (.lk ds) ρ = some (ρ.set i (some (.lk ds))) := rfl
@[simp] theorem ap_tupT {ds : List D} : tupT sts (.fz (.tuple ds)) ρ = stL sts (ds.map .fz) ρ := rfl
@[simp] theorem ap_stL_nil : stL [] [] ρ = some ρ := rfl
@[simp] theorem ap_stL_cons {rs : List Vl} : stL (st :: sts) (r :: rs) ρ = (st r ρ).bind fun ρ1 => stL sts rs ρ1 := rfl
/-! what stands behind a step -/
def nmK (i : Nat) (ρ : Rho) : Option (Option Vl) → Option (Vl × Rho)
  | some (some (.fz d)) => some (.fz d, ρ)
  | some (some (.lk d)) => some (.lk d, ρ)
  | some (some (.tp d)) => some (.tp d, ρ)
  | some (some _) => some (.pk i, ρ)
  | _ => none
@[simp] theorem ap_nmE : nmE i ρ = nmK i ρ ρ[i]? := rfl
@[simp] theorem nmK_fz : nmK i ρ (some (some (.fz d))) = some (.fz d, ρ) := rfl
@[simp] theorem nmK_tp {ds : List D} : nmK i ρ (some (some (.tp ds))) = some (.tp ds, ρ) := rfl
@[simp] theorem nmK_lk {ds : List D} : nmK i ρ (some (some (.lk ds))) = some (.lk ds, ρ) := rfl
@[simp] theorem nmK_ow {ds : List D} : nmK i ρ (some (some (.ow ds))) = some (.pk i, ρ) := rfl
@[simp] theorem nmK_ow2 {ds : List (List D)} : nmK i ρ (some (some (.ow2 ds))) = some (.pk i, ρ) := rfl
def seqK (t : DS) : Fl → Option Fl
  | .nx ρ => t ρ
  | fl => some fl
@[simp] theorem ap_seqS : seqS s t ρ = (s ρ).bind (seqK t) := rfl
@[simp] theorem seqK_nx : seqK t (.nx ρ) = t ρ := rfl
@[simp] theorem seqK_rt : seqK t (.rt r ρ) = some (.rt r ρ) := rfl
@[simp] theorem seqK_bk : seqK t (.bk ρ) = some (.bk ρ) := rfl
@[simp] theorem seqK_ct : seqK t (.ct ρ) = some (.ct ρ) := rfl
def bK : Vl × Rho → Option (Bool × Rho) := fun p => match p.1 with
  | .fz (.bool b) => some (b, p.2)
  | _ => none
@[simp] theorem ap_bT : bT f ρ = (f ρ).bind bK := rfl
@[simp] theorem bK_b {b : Bool} : bK (.fz (.bool b), ρ) = some (b, ρ) := rfl
def asgK (st : DTg) : Vl × Rho → Option Fl := fun p => match p.1 with
  | .pk _ => none
  | r => (st r p.2).bind fun ρ' => some (.nx ρ')
@[simp] theorem ap_asgS : asgS f st ρ = (f ρ).bind (asgK st) := rfl
@[simp] theorem asgK_fz : asgK st (.fz d, ρ) = (st (.fz d) ρ).bind fun ρ' => some (.nx ρ') := rfl
@[simp] theorem asgK_ow {ds : List D} : asgK st (.ow ds, ρ) = (st (.ow ds) ρ).bind fun ρ' => some (.nx ρ') := rfl
@[simp] theorem asgK_ow2 {ds : List (List D)} : asgK st (.ow2 ds, ρ) = (st (.ow2 ds) ρ).bind fun ρ' => some (.nx ρ') := rfl
@[simp] theorem asgK_lk {ds : List D} : asgK st (.lk ds, ρ) = (st (.lk ds) ρ).bind fun ρ' => some (.nx ρ') := rfl
@[simp] theorem ap_parS : parS fs sts ρ = (fs ρ).bind fun p => if p.1.all notPk = true then (stL sts p.1 p.2).bind fun ρ' => some (.nx ρ') else none := rfl
@[simp] theorem notPk_fz : notPk (.fz d) = true := rfl
@[simp] theorem notPk_ow {ds : List D} : notPk (.ow ds) = true := rfl
@[simp] theorem notPk_ow2 {ds : List (List D)} : notPk (.ow2 ds) = true := rfl
@[simp] theorem notPk_lk {ds : List D} : notPk (.lk ds) = true := rfl
@[simp] theorem notPk_pk : notPk (.pk i) = false := rfl
def someK : Vl × Rho → Option (Option Int × Rho) := fun p => match p.1 with
  | .fz (.int i) => some (some i, p.2)
  | _ => none
@[simp] theorem ap_someO : someO f ρ = (f ρ).bind someK := rfl
@[simp] theorem someK_i {a : Int} : someK (.fz (.int a), ρ) = some (some a, ρ) := rfl
def frzK (i : Nat) (s : DS) (ρ : Rho) : Option (Option Vl) → Option Fl
  | some (some (.fz _)) => s ρ
  | some (some v) => (frz v).bind fun d => s (ρ.set i (some (.fz d)))
  | _ => s ρ
@[simp] theorem ap_frzS : frzS i s ρ = frzK i s ρ ρ[i]? := rfl
@[simp] theorem frzK_fz : frzK i s ρ (some (some (.fz d))) = s ρ := rfl
@[simp] theorem frzK_ow {ds : List D} : frzK i s ρ (some (some (.ow ds))) = s (ρ.set i (some (.fz (.list ds)))) := rfl
@[simp] theorem frzK_ow2 {ds : List (List D)} : frzK i s ρ (some (some (.ow2 ds))) = s (ρ.set i (some (.fz (.list (ds.map .list))))) := rfl
@[simp] theorem frzK_no : frzK i s ρ (some none) = s ρ := rfl
/-! what a value is -/
@[simp] theorem frz_fz : frz (.fz d) = some d := rfl
@[simp] theorem frz_ow {ds : List D} : frz (.ow ds) = some (.list ds) := rfl
@[simp] theorem frz_ow2 {ds : List (List D)} : frz (.ow2 ds) = some (.list (ds.map .list)) := rfl
@[simp] theorem frzA_nil : frzA [] = some [] := rfl
@[simp] theorem frzA_cons {rs : List Vl} : frzA (r :: rs) = (frz r).bind fun d => (frzA rs).bind fun ds => some (d :: ds) := by
  show (match frz r, frzA rs with
    | some d, some ds => some (d :: ds)
    | _, _ => none) = _
  cases frz r <;> cases frzA rs <;> rfl
@[simp] theorem owsA_nil : owsA [] = some [] := rfl
@[simp] theorem owsA_cons {ds : List D} {rs : List Vl} : owsA (.ow ds :: rs) = (owsA rs).bind fun t => some (ds :: t) := rfl
def pkK : Option (Option Vl) → Option D
  | some (some v) => curR0 v
  | _ => none
@[simp] theorem curR_fz : curR ρ (.fz d) = some d := rfl
@[simp] theorem curR_ow {ds : List D} : curR ρ (.ow ds) = some (.list ds) := rfl
@[simp] theorem curR_lk {ds : List D} : curR ρ (.lk ds) = some (.list ds) := rfl
@[simp] theorem curR_ow2 {ds : List (List D)} : curR ρ (.ow2 ds) = some (.list (ds.map .list)) := rfl
@[simp] theorem curR_pk : curR ρ (.pk i) = pkK ρ[i]? := by
  show ((at? ρ i).bind curR0) = _
  unfold at?
  cases ρ[i]? with
  | none => rfl
  | some v => cases v <;> rfl
@[simp] theorem pkK_fz : pkK (some (some (.fz d))) = some d := rfl
@[simp] theorem pkK_ow {ds : List D} : pkK (some (some (.ow ds))) = some (.list ds) := rfl
@[simp] theorem pkK_lk {ds : List D} : pkK (some (some (.lk ds))) = some (.list ds) := rfl
@[simp] theorem pkK_ow2 {ds : List (List D)} : pkK (some (some (.ow2 ds))) = some (.list (ds.map .list)) := rfl
@[simp] theorem cur_fz : cur ρ (.fz d) = some d := rfl
@[simp] theorem cur_ow {ds : List D} : cur ρ (.ow ds) = some (.list ds) := rfl
@[simp] theorem cur_ow2 {ds : List (List D)} : cur ρ (.ow2 ds) = some (.list (ds.map .list)) := rfl
def pkC : Option (Option Vl) → Option D
  | some (some v) => cur0 v
  | _ => none
@[simp] theorem cur_pk : cur ρ (.pk i) = pkC ρ[i]? := by
  show ((at? ρ i).bind cur0) = _
  unfold at?
  cases ρ[i]? with
  | none => rfl
  | some v => cases v <;> rfl
@[simp] theorem pkC_fz : pkC (some (some (.fz d))) = some d := rfl
@[simp] theorem pkC_ow {ds : List D} : pkC (some (some (.ow ds))) = some (.list ds) := rfl
@[simp] theorem pkC_ow2 {ds : List (List D)} : pkC (some (some (.ow2 ds))) = some (.list (ds.map .list)) := rfl
@[simp] theorem curA_nil : curA ρ [] = some [] := rfl
@[simp] theorem curA_cons {rs : List Vl} : curA ρ (r :: rs) = (curR ρ r).bind fun d => (curA ρ rs).bind fun ds => some (d :: ds) := rfl
def itK : Option (Option Vl) → Option (Bool × List D)
  | some (some v) => itm0 v
  | _ => none
@[simp] theorem itm_l {ds : List D} : itm ρ (.fz (.list ds)) = some (true, ds) := rfl
@[simp] theorem itm_t {ds : List D} : itm ρ (.fz (.tuple ds)) = some (false, ds) := rfl
@[simp] theorem itm_ow {ds : List D} : itm ρ (.ow ds) = some (true, ds) := rfl
@[simp] theorem itm_lk {ds : List D} : itm ρ (.lk ds) = some (true, ds) := rfl
@[simp] theorem itm_pk : itm ρ (.pk i) = itK ρ[i]? := by
  show ((at? ρ i).bind itm0) = _
  unfold at?
  cases ρ[i]? with
  | none => rfl
  | some v => cases v <;> rfl
@[simp] theorem itK_ow {ds : List D} : itK (some (some (.ow ds))) = some (true, ds) := rfl
@[simp] theorem itK_l {ds : List D} : itK (some (some (.fz (.list ds)))) = some (true, ds) := rfl
@[simp] theorem itK_t {ds : List D} : itK (some (some (.fz (.tuple ds)))) = some (false, ds) := rfl
def itTK : Option (Option Vl) → Option (Bool × List D)
  | some (some (.lk _)) => none
  | some (some v) => itm0 v
  | _ => none
@[simp] theorem itmT_l {ds : List D} : itmT ρ (.fz (.list ds)) = some (true, ds) := rfl
@[simp] theorem itmT_t {ds : List D} : itmT ρ (.fz (.tuple ds)) = some (false, ds) := rfl
@[simp] theorem itmT_ow {ds : List D} : itmT ρ (.ow ds) = some (true, ds) := rfl
@[simp] theorem itmT_pk : itmT ρ (.pk i) = itTK ρ[i]? := by
  unfold itmT
  show ((at? ρ i).bind _) = _
  unfold at?
  cases ρ[i]? with
  | none => rfl
  | some v => cases v with
    | none => rfl
    | some v => cases v <;> rfl
@[simp] theorem itTK_ow {ds : List D} : itTK (some (some (.ow ds))) = some (true, ds) := rfl
@[simp] theorem itTK_l {ds : List D} : itTK (some (some (.fz (.list ds)))) = some (true, ds) := rfl
@[simp] theorem itTK_t {ds : List D} : itTK (some (some (.fz (.tuple ds)))) = some (false, ds) := rfl
def ownK : Option (Option Vl) → Option (List D)
  | some (some (.ow ds)) => some ds
  | _ => none
@[simp] theorem ap_ownAt : ownAt ρ i = ownK ρ[i]? := rfl
@[simp] theorem ownK_ow {ds : List D} : ownK (some (some (.ow ds))) = some ds := rfl
@[simp] theorem at?_ap {v : Vl} (h : ρ[i]? = some (some v)) : at? ρ i = some v := by unfold at?; rw [h]
end
/-! the operations of ints -/
section
variable {ρ : Rho} {a b : Int}
@[simp] theorem addF_i : addF ρ [.fz (.int a), .fz (.int b)] = some (.fz (.int (a + b))) := rfl
@[simp] theorem subI_i : subI ρ [.fz (.int a), .fz (.int b)] = some (.fz (.int (a - b))) := rfl
@[simp] theorem mulF_i : mulF ρ [.fz (.int a), .fz (.int b)] = if mulOk a b = true then some (.fz (.int (a * b))) else none := by
  unfold mulF orF mulI ctF
  simp only [curA_cons, curA_nil, curR_fz, Option.bind_some, i2]
  cases mulOk a b <;> rfl
@[simp] theorem divI_i : divI ρ [.fz (.int a), .fz (.int b)] = if divOk a b = true then some (.fz (.int (a / b))) else none := by
  unfold divI ctF
  simp only [curA_cons, curA_nil, curR_fz, Option.bind_some, i2]
  cases divOk a b <;> rfl
@[simp] theorem modI_i : modI ρ [.fz (.int a), .fz (.int b)] = if 0 < b then some (.fz (.int (a % b))) else none := by
  unfold modI ctF
  simp only [curA_cons, curA_nil, curR_fz, Option.bind_some, i2]
  by_cases h : 0 < b
  · rw [if_pos h, if_pos (decide_eq_true h)]; rfl
  · rw [if_neg h, if_neg (by simpa using h)]; rfl
@[simp] theorem powI_i : powI ρ [.fz (.int a), .fz (.int b)] = if powOk a b = true then some (.fz (.int (a ^ b.toNat))) else none := by
  unfold powI ctF
  simp only [curA_cons, curA_nil, curR_fz, Option.bind_some, i2]
  cases powOk a b <;> rfl
@[simp] theorem negI_i : negI ρ [.fz (.int a)] = some (.fz (.int (-a))) := rfl
@[simp] theorem ltI_i : ltI ρ [.fz (.int a), .fz (.int b)] = some (.fz (.bool (decide (a < b)))) := rfl
@[simp] theorem leI_i : leI ρ [.fz (.int a), .fz (.int b)] = some (.fz (.bool (decide (a ≤ b)))) := rfl
@[simp] theorem gtI_i : gtI ρ [.fz (.int a), .fz (.int b)] = some (.fz (.bool (decide (b < a)))) := rfl
@[simp] theorem geI_i : geI ρ [.fz (.int a), .fz (.int b)] = some (.fz (.bool (decide (b ≤ a)))) := rfl
@[simp] theorem absF_i : absF ρ [.fz (.int a)] = some (.fz (.int (if a < 0 then -a else a))) := rfl
@[simp] theorem intF_i : intF ρ [.fz (.int a)] = some (.fz (.int a)) := rfl
@[simp] theorem intF_b {b : Bool} : intF ρ [.fz (.bool b)] = some (.fz (.int (if b then 1 else 0))) := rfl
@[simp] theorem maxF_i : maxF ρ [.fz (.int a), .fz (.int b)] = some (.fz (.int (if b > a then b else a))) := rfl
@[simp] theorem minF_i : minF ρ [.fz (.int a), .fz (.int b)] = some (.fz (.int (if b < a then b else a))) := rfl
@[simp] theorem divmodF_i : divmodF ρ [.fz (.int a), .fz (.int b)] = if divOk a b = true then some (.fz (.tuple [.int (a / b), .int (a % b)])) else none := rfl
@[simp] theorem eqF_i : eqF ρ [.fz (.int a), .fz (.int b)] = some (.fz (.bool (decide (a = b)))) := by
  unfold eqF ctF
  simp only [curA_cons, curA_nil, curR_fz, Option.bind_some, eqD]
  rfl
@[simp] theorem neF_i : neF ρ [.fz (.int a), .fz (.int b)] = some (.fz (.bool (!decide (a = b)))) := by
  unfold neF ctF
  simp only [curA_cons, curA_nil, curR_fz, Option.bind_some, eqD]
  rfl
end
end
end DL

namespace DL
open PySem PySem.Spec PyProof.Rows L2
noncomputable section

def nmG (i : Nat) : Option (Option Vl) → Vl
  | some (some (.pk _)) => .pk i
  | some (some v) => v
  | _ => .pk i
section
variable {ρ : Rho} {i j n : Nat} {d e : D} {ds es : List D} {r x y : Vl} {a b : Int}
@[simp] theorem nmG_fz : nmG i (some (some (.fz d))) = .fz d := rfl
@[simp] theorem nmG_ow : nmG i (some (some (.ow ds))) = .ow ds := rfl
@[simp] theorem nmG_ow2 {ds : List (List D)} : nmG i (some (some (.ow2 ds))) = .ow2 ds := rfl
@[simp] theorem nmG_lk : nmG i (some (some (.lk ds))) = .lk ds := rfl
theorem nml_nmG : nml ρ (nmG i ρ[i]?) = nml ρ (.pk i) ∨ (nml ρ (nmG i ρ[i]?) = nml ρ (.pk i)) := by
  refine .inl ?_
  show _ = at? ρ i
  unfold at?
  cases h : ρ[i]? with
  | none => show nml ρ (.pk i) = _; show at? ρ i = _; unfold at?; rw [h]
  | some v => cases v with
    | none => show at? ρ i = _; unfold at?; rw [h]
    | some v => cases v <;> first | rfl | (show at? ρ i = _; unfold at?; rw [h])
theorem nml_g : nml ρ (nmG i ρ[i]?) = nml ρ (.pk i) := nml_nmG.elim id id
theorem curR_g : curR ρ (nmG i ρ[i]?) = curR ρ (.pk i) := by unfold curR; rw [nml_g]
theorem itm_g : itm ρ (nmG i ρ[i]?) = itm ρ (.pk i) := by unfold itm; rw [nml_g]
theorem itmT_g : itmT ρ (nmG i ρ[i]?) = itmT ρ (.pk i) := by unfold itmT; rw [nml_g]
theorem ctF_g1 {F : List D → Option D} {rs : List Vl} : ctF F ρ (.pk i :: rs) = ctF F ρ (nmG i ρ[i]? :: rs) := by
  unfold ctF; rw [curA_cons, curA_cons, curR_g]
theorem ctF_g2 {F : List D → Option D} : ctF F ρ [x, .pk i] = ctF F ρ [x, nmG i ρ[i]?] := by
  unfold ctF; rw [curA_cons, curA_cons, curA_cons, curA_cons, curR_g]
@[simp] theorem lenF_g : lenF ρ [.pk i] = lenF ρ [nmG i ρ[i]?] := ctF_g1
@[simp] theorem sumF_g : sumF ρ [.pk i] = sumF ρ [nmG i ρ[i]?] := ctF_g1
@[simp] theorem maxF_g : maxF ρ [.pk i] = maxF ρ [nmG i ρ[i]?] := ctF_g1
@[simp] theorem minF_g : minF ρ [.pk i] = minF ρ [nmG i ρ[i]?] := ctF_g1
@[simp] theorem anyF_g : anyF ρ [.pk i] = anyF ρ [nmG i ρ[i]?] := ctF_g1
@[simp] theorem allF_g : allF ρ [.pk i] = allF ρ [nmG i ρ[i]?] := ctF_g1
@[simp] theorem sortF_g : sortF ρ [.pk i] = sortF ρ [nmG i ρ[i]?] := by unfold sortF; rw [curA_cons, curA_cons, curR_g]
@[simp] theorem listF_g : listF ρ [.pk i] = listF ρ [nmG i ρ[i]?] := by unfold listF; dsimp only; rw [itm_g]
@[simp] theorem tupleF_g : tupleF ρ [.pk i] = tupleF ρ [nmG i ρ[i]?] := by unfold tupleF; dsimp only; rw [itm_g]
@[simp] theorem eqF_g1 : eqF ρ [.pk i, y] = eqF ρ [nmG i ρ[i]?, y] := ctF_g1
@[simp] theorem eqF_g2 : eqF ρ [x, .pk i] = eqF ρ [x, nmG i ρ[i]?] := ctF_g2
@[simp] theorem neF_g1 : neF ρ [.pk i, y] = neF ρ [nmG i ρ[i]?, y] := ctF_g1
@[simp] theorem neF_g2 : neF ρ [x, .pk i] = neF ρ [x, nmG i ρ[i]?] := ctF_g2
@[simp] theorem inF_g2 : inF ρ [x, .pk i] = inF ρ [x, nmG i ρ[i]?] := ctF_g2
@[simp] theorem notInF_g2 : notInF ρ [x, .pk i] = notInF ρ [x, nmG i ρ[i]?] := ctF_g2
@[simp] theorem ixF_g : ixF ρ [.pk i, y] = ixF ρ [nmG i ρ[i]?, y] := by unfold ixF; dsimp only; rw [itm_g, curR_g]
@[simp] theorem sliceF_g {lo hi : Option Int} : sliceF ρ (.pk i) lo hi = sliceF ρ (nmG i ρ[i]?) lo hi := by unfold sliceF; rw [itm_g, curR_g]
@[simp] theorem addF_g1 : addF ρ [.pk i, y] = addF ρ [nmG i ρ[i]?, y] := by
  unfold addF orF addI addSF catF
  rw [ctF_g1, ctF_g1]
  simp only [itmT_g]
@[simp] theorem addF_g2 : addF ρ [x, .pk i] = addF ρ [x, nmG i ρ[i]?] := by
  unfold addF orF addI addSF catF
  rw [ctF_g2, ctF_g2]
  simp only [itmT_g]
@[simp] theorem mulF_g1 : mulF ρ [.pk i, y] = mulF ρ [nmG i ρ[i]?, y] := by
  unfold mulF orF mulI repF
  rw [ctF_g1]
  simp only [itmT_g]
/-! items -/
def ixL (ds : List D) (i : Int) : Option Vl := (ixN ds.length i).bind fun j => (ds[j]?).bind fun d => some (.fz d)
@[simp] theorem ixF_l : ixF ρ [.fz (.list ds), .fz (.int a)] = ixL ds a := rfl
@[simp] theorem ixF_t : ixF ρ [.fz (.tuple ds), .fz (.int a)] = ixL ds a := rfl
@[simp] theorem ixF_ow : ixF ρ [.ow ds, .fz (.int a)] = ixL ds a := rfl
@[simp] theorem ixF_lk : ixF ρ [.lk ds, .fz (.int a)] = ixL ds a := rfl
theorem ixL_nat {k : Nat} (h : ds[k]? = some d) : ixL ds (k : Int) = some (.fz d) := by
  have hk : k < ds.length := by
    by_cases q : k < ds.length
    · exact q
    · rw [List.getElem?_eq_none (by omega)] at h; cases h
  unfold ixL ixN
  rw [if_pos (Int.natCast_nonneg k), if_pos (by omega)]
  simp [h]
theorem ixL_at {a : Int} (h0 : 0 ≤ a) (h : ds[a.toNat]? = some d) : ixL ds a = some (.fz d) := by
  have := ixL_nat h
  rwa [Int.toNat_of_nonneg h0] at this
theorem ixL_last (h : ds.getLast? = some d) : ixL ds (-1) = some (.fz d) := by
  have hp : 0 < ds.length := by
    cases ds with
    | nil => cases h
    | cons => exact Nat.succ_pos _
  unfold ixL ixN
  rw [if_neg (by omega), if_pos (by omega)]
  have e : ((-1 : Int) + (ds.length : Int)).toNat = ds.length - 1 := by omega
  rw [Option.bind_some, e, ← List.getLast?_eq_getElem?, h]
  rfl
@[simp] theorem ixL_0 : ixL (d :: ds) 0 = some (.fz d) := ixL_nat (k := 0) rfl
@[simp] theorem ixL_1 {d2 : D} : ixL (d :: d2 :: ds) 1 = some (.fz d2) := ixL_nat (k := 1) rfl
@[simp] theorem ixL_2 {d2 d3 : D} : ixL (d :: d2 :: d3 :: ds) 2 = some (.fz d3) := ixL_nat (k := 2) rfl
/-! one operand -/
@[simp] theorem lenF_l : lenF ρ [.fz (.list ds)] = some (.fz (.int ds.length)) := rfl
@[simp] theorem lenF_t : lenF ρ [.fz (.tuple ds)] = some (.fz (.int ds.length)) := rfl
@[simp] theorem lenF_ow : lenF ρ [.ow ds] = some (.fz (.int ds.length)) := rfl
@[simp] theorem lenF_ow2 {ds : List (List D)} : lenF ρ [.ow2 ds] = some (.fz (.int ds.length)) := by
  show some (Vl.fz (.int ((ds.map PyData.list).length : Int))) = _
  rw [List.length_map]
@[simp] theorem lenF_lk : lenF ρ [.lk ds] = some (.fz (.int ds.length)) := rfl
def sumD (ds : List D) : Option Vl := (intsD ds).bind fun ns => some (.fz (.int ns.sum))
@[simp] theorem sumF_l : sumF ρ [.fz (.list ds)] = sumD ds := by unfold sumF ctF sumD; simp only [curA_cons, curA_nil, curR_fz, Option.bind_some]; cases intsD ds <;> rfl
@[simp] theorem sumF_ow : sumF ρ [.ow ds] = sumD ds := by unfold sumF ctF sumD; simp only [curA_cons, curA_nil, curR_ow, Option.bind_some]; cases intsD ds <;> rfl
@[simp] theorem sumF_lk : sumF ρ [.lk ds] = sumD ds := by unfold sumF ctF sumD; simp only [curA_cons, curA_nil, curR_lk, Option.bind_some]; cases intsD ds <;> rfl
@[simp] theorem sumD_map {ns : List Int} : sumD (ns.map .int) = some (.fz (.int ns.sum)) := by unfold sumD; rw [intsD_map]; rfl
@[simp] theorem sumD_take {ns : List Int} {k : Nat} : sumD ((ns.map PyData.int).take k) = some (.fz (.int (ns.take k).sum)) := by rw [← List.map_take, sumD_map]
@[simp] theorem sumD_drop {ns : List Int} {k : Nat} : sumD ((ns.map PyData.int).drop k) = some (.fz (.int (ns.drop k).sum)) := by rw [← List.map_drop, sumD_map]
@[simp] theorem sumD_nil : sumD [] = some (.fz (.int 0)) := rfl
def allD (ds : List D) : Option Vl := (boolsD ds).bind fun ns => some (.fz (.bool (ns.all id)))
def anyD (ds : List D) : Option Vl := (boolsD ds).bind fun ns => some (.fz (.bool (ns.any id)))
@[simp] theorem allF_l : allF ρ [.fz (.list ds)] = allD ds := by unfold allF ctF allD; simp only [curA_cons, curA_nil, curR_fz, Option.bind_some]; cases boolsD ds <;> rfl
@[simp] theorem allF_ow : allF ρ [.ow ds] = allD ds := by unfold allF ctF allD; simp only [curA_cons, curA_nil, curR_ow, Option.bind_some]; cases boolsD ds <;> rfl
@[simp] theorem anyF_l : anyF ρ [.fz (.list ds)] = anyD ds := by unfold anyF ctF anyD; simp only [curA_cons, curA_nil, curR_fz, Option.bind_some]; cases boolsD ds <;> rfl
@[simp] theorem anyF_ow : anyF ρ [.ow ds] = anyD ds := by unfold anyF ctF anyD; simp only [curA_cons, curA_nil, curR_ow, Option.bind_some]; cases boolsD ds <;> rfl
@[simp] theorem allD_map {ns : List Bool} : allD (ns.map .bool) = some (.fz (.bool (ns.all id))) := by unfold allD; rw [boolsD_map]; rfl
@[simp] theorem anyD_map {ns : List Bool} : anyD (ns.map .bool) = some (.fz (.bool (ns.any id))) := by unfold anyD; rw [boolsD_map]; rfl
@[simp] theorem listF_l : listF ρ [.fz (.list ds)] = some (.ow ds) := rfl
@[simp] theorem listF_t : listF ρ [.fz (.tuple ds)] = some (.ow ds) := rfl
@[simp] theorem listF_ow : listF ρ [.ow ds] = some (.ow ds) := rfl
@[simp] theorem listF_lk : listF ρ [.lk ds] = some (.ow ds) := rfl
@[simp] theorem tupleF_l : tupleF ρ [.fz (.list ds)] = some (.fz (.tuple ds)) := rfl
@[simp] theorem tupleF_t : tupleF ρ [.fz (.tuple ds)] = some (.fz (.tuple ds)) := rfl
@[simp] theorem tupleF_ow : tupleF ρ [.ow ds] = some (.fz (.tuple ds)) := rfl
@[simp] theorem tupleF_lk : tupleF ρ [.lk ds] = some (.fz (.tuple ds)) := rfl
@[simp] theorem sortF_l {ns : List Int} : sortF ρ [.fz (.list (ns.map .int))] = some (.ow ((sortI ns).map .int)) := by unfold sortF; simp [intsD_map]
@[simp] theorem sortF_ow {ns : List Int} : sortF ρ [.ow (ns.map .int)] = some (.ow ((sortI ns).map .int)) := by unfold sortF; simp [intsD_map]
/-! lists together -/
def catL (ds es : List D) : Option Vl := if ds.length + es.length ≤ maxLen then some (.ow (ds ++ es)) else none
def catT (ds es : List D) : Option Vl := if ds.length + es.length ≤ maxLen then some (.fz (.tuple (ds ++ es))) else none
theorem addF_cat {p q : List D} (hx : itmT ρ x = some (true, p)) (hy : itmT ρ y = some (true, q)) (h : addI ρ [x, y] = none) (h2 : addSF ρ [x, y] = none) : addF ρ [x, y] = catL p q := by
  unfold addF orF
  rw [h]
  dsimp only
  rw [h2]
  have e : catF ρ [x, y] = catL p q := by
    unfold catF catL
    dsimp only
    rw [hx, hy, Option.bind_some, Option.bind_some]
  rw [e]
  cases catL p q <;> rfl
theorem addF_catT {p q : List D} (hx : itmT ρ x = some (false, p)) (hy : itmT ρ y = some (false, q)) (h : addI ρ [x, y] = none) (h2 : addSF ρ [x, y] = none) : addF ρ [x, y] = catT p q := by
  unfold addF orF
  rw [h]
  dsimp only
  rw [h2]
  have e : catF ρ [x, y] = catT p q := by
    unfold catF catT
    dsimp only
    rw [hx, hy, Option.bind_some, Option.bind_some]
  rw [e]
  cases catT p q <;> rfl
@[simp] theorem addF_ll : addF ρ [.fz (.list ds), .fz (.list es)] = catL ds es := addF_cat rfl rfl rfl rfl
@[simp] theorem addF_lo : addF ρ [.fz (.list ds), .ow es] = catL ds es := addF_cat rfl rfl rfl rfl
@[simp] theorem addF_ol : addF ρ [.ow ds, .fz (.list es)] = catL ds es := addF_cat rfl rfl rfl rfl
@[simp] theorem addF_oo : addF ρ [.ow ds, .ow es] = catL ds es := addF_cat rfl rfl rfl rfl
@[simp] theorem addF_tt : addF ρ [.fz (.tuple ds), .fz (.tuple es)] = catT ds es := addF_catT rfl rfl rfl rfl
theorem catL_ok (h : ds.length + es.length ≤ 1000000) : catL ds es = some (.ow (ds ++ es)) := if_pos h
theorem catT_ok (h : ds.length + es.length ≤ 1000000) : catT ds es = some (.fz (.tuple (ds ++ es))) := if_pos h
def repL (ds : List D) (k : Int) : Option Vl := if ds.length * k.toNat ≤ maxLen ∧ smallI k = true then some (.ow (List.replicate k.toNat ds).flatten) else none
def repT (ds : List D) (k : Int) : Option Vl := if ds.length ≠ 0 ∧ 2 ≤ k ∧ k ≤ 1000 ∧ ds.length ≤ 1000 then some (.fz (.tuple (List.replicate k.toNat ds).flatten)) else none
@[simp] theorem mulF_l : mulF ρ [.fz (.list ds), .fz (.int a)] = repL ds a := rfl
@[simp] theorem mulF_ow : mulF ρ [.ow ds, .fz (.int a)] = repL ds a := rfl
@[simp] theorem mulF_t : mulF ρ [.fz (.tuple ds), .fz (.int a)] = repT ds a := rfl
theorem repL1 {k : Int} (h0 : k ≤ 1000000) (h1 : -1000000 ≤ k) : repL [d] k = some (.ow (List.replicate k.toNat d)) := by
  unfold repL
  rw [if_pos]
  · congr 2
    generalize k.toNat = n
    induction n with
    | zero => rfl
    | succ n ih => rw [List.replicate_succ, List.flatten_cons, ih]; rfl
  · refine ⟨?_, ?_⟩
    · show 1 * k.toNat ≤ 1000000
      omega
    · rw [smallI_eq]; exact decide_eq_true (by omega)
@[simp] theorem sliceF_l {lo hi : Option Int} : sliceF ρ (.fz (.list ds)) lo hi = some (.ow (cutD ds lo hi)) := rfl
@[simp] theorem sliceF_ow {lo hi : Option Int} : sliceF ρ (.ow ds) lo hi = some (.ow (cutD ds lo hi)) := rfl
@[simp] theorem sliceF_lk {lo hi : Option Int} : sliceF ρ (.lk ds) lo hi = some (.ow (cutD ds lo hi)) := rfl
@[simp] theorem sliceF_t {lo hi : Option Int} : sliceF ρ (.fz (.tuple ds)) lo hi = some (.fz (.tuple (cutD ds lo hi))) := rfl
theorem cutD_head (k : Nat) : cutD ds none (some (k : Int)) = ds.take k := by
  unfold cutD
  rw [HT.sIx_none, show HT.sIx ds.length ds.length (some (k : Int)) = min k ds.length from HT.sIx_nat _ _ k]
  show (ds.drop 0).take (min k ds.length - 0) = _
  rw [List.drop_zero, Nat.sub_zero, ← List.take_eq_take_min]
theorem cutD_tail (k : Nat) : cutD ds (some (k : Int)) none = ds.drop k := by
  unfold cutD
  rw [HT.sIx_none, show HT.sIx ds.length 0 (some (k : Int)) = min k ds.length from HT.sIx_nat _ _ k]
  by_cases h : k ≤ ds.length
  · rw [Nat.min_eq_left h]
    exact List.take_of_length_le (by rw [List.length_drop]; exact Nat.le_refl _)
  · rw [Nat.min_eq_right (by omega), Nat.sub_self, List.take_zero, List.drop_eq_nil_of_le (by omega)]
theorem cutD_both (k m : Nat) : cutD ds (some (k : Int)) (some (m : Int)) = (ds.take m).drop k := by
  unfold cutD
  rw [show HT.sIx ds.length 0 (some (k : Int)) = min k ds.length from HT.sIx_nat _ _ k, show HT.sIx ds.length ds.length (some (m : Int)) = min m ds.length from HT.sIx_nat _ _ m]
  rw [List.drop_take]
  by_cases h : k ≤ ds.length
  · rw [Nat.min_eq_left h]
    by_cases h2 : m ≤ ds.length
    · rw [Nat.min_eq_left h2]
    · rw [Nat.min_eq_right (by omega), List.take_of_length_le (by rw [List.length_drop]; exact Nat.le_refl _), List.take_of_length_le (by rw [List.length_drop]; omega)]
  · rw [Nat.min_eq_right (by omega : ds.length ≤ k), List.drop_eq_nil_of_le (by omega), List.drop_eq_nil_of_le (by omega), List.take_nil, List.take_nil]
/-! equal -/
theorem eqF_ap : eqF ρ [x, y] = (curR ρ x).bind fun d => (curR ρ y).bind fun e => (eqD d e).bind fun b => some (.fz (.bool b)) := by
  unfold eqF ctF
  simp only [curA_cons, curA_nil]
  cases curR ρ x with
  | none => rfl
  | some d => cases curR ρ y with
    | none => rfl
    | some e => simp only [Option.bind_some]; cases eqD d e <;> rfl
theorem neF_ap : neF ρ [x, y] = (curR ρ x).bind fun d => (curR ρ y).bind fun e => (eqD d e).bind fun b => some (.fz (.bool (!b))) := by
  unfold neF ctF
  simp only [curA_cons, curA_nil]
  cases curR ρ x with
  | none => rfl
  | some d => cases curR ρ y with
    | none => rfl
    | some e => simp only [Option.bind_some]; cases eqD d e <;> rfl
end
end
end DL

namespace DL
open PySem PySem.Spec PyProof.Rows L2
noncomputable section

def atK : Option (Option Vl) → Option Vl
  | some (some v) => some v
  | _ => none
section
variable {ρ ρ1 ρ2 os : Rho} {i j n N : Nat} {d e : D} {ds es : List D} {r x y : Vl} {a b : Int} {io : List Bool} {rs : List Vl} {F : DE} {fs : DA} {f g : DE} {s : DS} {fx : List Nat} {st : DTg} {fi : DI} {vl : Vl}
theorem at?_ap' : at? ρ i = atK ρ[i]? := by unfold at?; cases ρ[i]? with
  | none => rfl
  | some v => cases v <;> rfl
@[simp] theorem atK_some {v : Vl} : atK (some (some v)) = some v := rfl
@[simp] theorem atK_no : atK (some none) = none := rfl
@[simp] theorem ap_callE : callE io F fs ρ = (fs ρ).bind fun p => (bindA io p.1 p.2).bind fun q => (F q.1).bind fun t => if notPk t.1 = true then some (t.1, backA io p.1 t.2 q.2) else none := rfl
@[simp] theorem bindA_nil : bindA [] [] ρ = some ([], ρ) := rfl
@[simp] theorem bindA_pk : bindA (true :: io) (.pk i :: rs) ρ = (atK ρ[i]?).bind fun vl => (bindA io rs (ρ.set i none)).bind fun q => some (some vl :: q.1, q.2) := by rw [← at?_ap']; rfl
@[simp] theorem bindA_fz {b : Bool} : bindA (b :: io) (.fz d :: rs) ρ = (bindA io rs ρ).bind fun q => some (some (.fz d) :: q.1, q.2) := by cases b <;> rfl
@[simp] theorem bindA_lk {b : Bool} : bindA (b :: io) (.lk ds :: rs) ρ = (bindA io rs ρ).bind fun q => some (some (.lk ds) :: q.1, q.2) := rfl
@[simp] theorem bindA_owT : bindA (true :: io) (.ow ds :: rs) ρ = (bindA io rs ρ).bind fun q => some (some (.ow ds) :: q.1, q.2) := rfl
@[simp] theorem bindA_owF : bindA (false :: io) (.ow ds :: rs) ρ = (bindA io rs ρ).bind fun q => some (some (.fz (.list ds)) :: q.1, q.2) := rfl
@[simp] theorem bindA_ow2T {ds : List (List D)} : bindA (true :: io) (.ow2 ds :: rs) ρ = (bindA io rs ρ).bind fun q => some (some (.ow2 ds) :: q.1, q.2) := rfl
@[simp] theorem bindA_ow2F {ds : List (List D)} : bindA (false :: io) (.ow2 ds :: rs) ρ = (bindA io rs ρ).bind fun q => some (some (.fz (.list (ds.map .list))) :: q.1, q.2) := rfl
@[simp] theorem backA_nil : backA [] rs os ρ = ρ := rfl
@[simp] theorem backA_nil2 : backA io [] os ρ = ρ := by cases io <;> rfl
@[simp] theorem backA_pk : backA (true :: io) (.pk i :: rs) (some vl :: os) ρ = (backA io rs os ρ).set i (some vl) := rfl
@[simp] theorem backA_F {o : Option Vl} : backA (false :: io) (r :: rs) (o :: os) ρ = backA io rs os ρ := rfl
@[simp] theorem backA_fz {b : Bool} {o : Option Vl} : backA (b :: io) (.fz d :: rs) (o :: os) ρ = backA io rs os ρ := by cases b <;> rfl
@[simp] theorem backA_ow {b : Bool} {o : Option Vl} : backA (b :: io) (.ow ds :: rs) (o :: os) ρ = backA io rs os ρ := by cases b <;> rfl
@[simp] theorem backA_lk {b : Bool} {o : Option Vl} : backA (b :: io) (.lk ds :: rs) (o :: os) ρ = backA io rs os ρ := by cases b <;> rfl
def subJ (xi : Nat) (d : D) (i : Int) (ρ : Rho) : Option (Option Vl) → Option Rho
  | some (some (.ow ds)) => (ixN ds.length i).bind fun j => some (ρ.set xi (some (.ow (ds.set j d))))
  | _ => none
def subK (xi : Nat) (d : D) : Vl × Rho → Option Rho := fun p => match p.1 with
  | .fz (.int i) => subJ xi d i p.2 p.2[xi]?
  | _ => none
@[simp] theorem ap_subT : subT i g r ρ = (frz r).bind fun d => (atK ρ[i]?).bind fun _ => (g ρ).bind (subK i d) := by
  unfold subT
  rw [at?_ap']
  congr 1
  funext d
  congr 1
  funext _
  congr 1
  funext p
  obtain ⟨v, q⟩ := p
  unfold subK subJ
  cases v with
  | fz e =>
    cases e <;> try rfl
    dsimp only
    cases q[i]? with
    | none => rfl
    | some w => cases w with
      | none => rfl
      | some w => cases w <;> rfl
  | _ => rfl
@[simp] theorem subK_i : subK i d (.fz (.int a), ρ) = subJ i d a ρ ρ[i]? := rfl
@[simp] theorem subJ_ow : subJ i d a ρ (some (some (.ow ds))) = (ixN ds.length a).bind fun j => some (ρ.set i (some (.ow (ds.set j d)))) := rfl
theorem ixN_nat {k : Nat} (h : k < n) : ixN n (k : Int) = some k := by unfold ixN; rw [if_pos (Int.natCast_nonneg k), if_pos (by omega)]; rfl
theorem ixN_at (h0 : 0 ≤ a) (h : a < n) : ixN n a = some a.toNat := by unfold ixN; rw [if_pos h0, if_pos h]
@[simp] theorem ixN_00 : ixN (n + 1) 0 = some 0 := ixN_nat (k := 0) (Nat.succ_pos n)
@[simp] theorem ixN_01 : ixN (n + 1 + 1) 1 = some 1 := ixN_nat (k := 1) (by omega)
/-! a def's body -/
def fnK (fx : List Nat) (n : Nat) : Fl → Option (Vl × Rho)
  | .nx ρ' => some (.fz .none, maskR fx n ρ')
  | .rt (.pk i) ρ' => if fx.contains i then none else (atK ρ'[i]?).bind fun vl => some (vl, maskR fx n ρ')
  | .rt r ρ' => some (r, maskR fx n ρ')
  | _ => none
@[simp] theorem ap_fnE : fnE n fx N s ρ = if ρ.length = n then (s (ρ ++ List.replicate (N - n) none)).bind (fnK fx n) else none := by
  unfold fnE
  split
  · congr 1
    funext fl
    cases fl with
    | rt r ρ' => cases r <;> first | rfl | (unfold fnK; simp only [at?_ap'])
    | _ => rfl
  · rfl
@[simp] theorem fnK_nx : fnK fx n (.nx ρ) = some (.fz .none, maskR fx n ρ) := rfl
@[simp] theorem fnK_fz : fnK fx n (.rt (.fz d) ρ) = some (.fz d, maskR fx n ρ) := rfl
@[simp] theorem fnK_ow : fnK fx n (.rt (.ow ds) ρ) = some (.ow ds, maskR fx n ρ) := rfl
@[simp] theorem fnK_ow2 {ds : List (List D)} : fnK fx n (.rt (.ow2 ds) ρ) = some (.ow2 ds, maskR fx n ρ) := rfl
@[simp] theorem fnK_pk : fnK fx n (.rt (.pk i) ρ) = if fx.contains i = true then none else (atK ρ[i]?).bind fun vl => some (vl, maskR fx n ρ) := rfl
@[simp] theorem maskR_0 : maskR fx 0 ρ = [] := rfl
theorem maskR_1 : maskR fx 1 ρ = [if fx.contains 0 = true then atK ρ[0]? else none] := by unfold maskR; simp only [at?_ap']; rfl
theorem maskR_2 : maskR fx 2 ρ = [if fx.contains 0 = true then atK ρ[0]? else none, if fx.contains 1 = true then atK ρ[1]? else none] := by unfold maskR; simp only [at?_ap']; rfl
theorem maskR_3 : maskR fx 3 ρ = [if fx.contains 0 = true then atK ρ[0]? else none, if fx.contains 1 = true then atK ρ[1]? else none, if fx.contains 2 = true then atK ρ[2]? else none] := by unfold maskR; simp only [at?_ap']; rfl
theorem maskR_4 : maskR fx 4 ρ = [if fx.contains 0 = true then atK ρ[0]? else none, if fx.contains 1 = true then atK ρ[1]? else none, if fx.contains 2 = true then atK ρ[2]? else none, if fx.contains 3 = true then atK ρ[3]? else none] := by unfold maskR; simp only [at?_ap']; rfl
/-! views -/
@[simp] theorem ap_lfV : lfV f ρ = (f ρ).bind fun p => some (.lf p.1, p.2) := rfl
@[simp] theorem ap_nilV : nilV ρ = some ([], ρ) := rfl
@[simp] theorem ap_consV {f : DV} {fs : DVs} : consV f fs ρ = (f ρ).bind fun p => (fs p.2).bind fun q => some (p.1 :: q.1, q.2) := rfl
@[simp] theorem ap_dlV {f : DVs} : dlV f ρ = (f ρ).bind fun p => if p.1.length ≤ 1000 then some (.dl p.1, p.2) else none := rfl
@[simp] theorem ap_dtV {f : DVs} : dtV f ρ = (f ρ).bind fun p => if p.1.length ≤ 1000 then some (.dt p.1, p.2) else none := rfl
@[simp] theorem ap_reprV {f : DV} : reprV f ρ = (f ρ).bind fun p => (curT p.2 p.1).bind fun d => if reprOk d = true then some (.fz (.str d.shown), p.2) else none := rfl
@[simp] theorem ap_cmpV {G : D → D → Option Bool} {f g : DV} : cmpV G f g ρ = (f ρ).bind fun p => (g p.2).bind fun q => (curT q.2 p.1).bind fun d => (curT q.2 q.1).bind fun e => (G d e).bind fun b => some (.fz (.bool b), q.2) := rfl
@[simp] theorem curT_lf : curT ρ (.lf r) = cur ρ r := by unfold curT; rfl
@[simp] theorem curT_dl {ts : List VT} : curT ρ (.dl ts) = (curTs ρ ts).bind fun ds => some (.list ds) := by rw [curT]
@[simp] theorem curT_dt {ts : List VT} : curT ρ (.dt ts) = (curTs ρ ts).bind fun ds => some (.tuple ds) := by rw [curT]
@[simp] theorem curTs_nil : curTs ρ [] = some [] := by rw [curTs]
@[simp] theorem curTs_cons {t : VT} {ts : List VT} : curTs ρ (t :: ts) = (curT ρ t).bind fun d => (curTs ρ ts).bind fun ds => some (d :: ds) := by rw [curTs]
/-! iterables -/
def rngK1 : List D × Rho → Option (List D × Rho) := fun p => match p.1 with
  | [.int j] => if smallI j then some (rngD 0 j.toNat, p.2) else none
  | _ => none
@[simp] theorem ap_rngI1 : rngI1 fs ρ = (fs ρ).bind fun p => (curA p.2 p.1).bind fun ds => rngK1 (ds, p.2) := rfl
@[simp] theorem rngK1_i : rngK1 ([.int a], ρ) = if smallI a = true then some (rngD 0 a.toNat, ρ) else none := rfl
def rngK2 : List D × Rho → Option (List D × Rho) := fun p => match p.1 with
  | [.int i, .int j] => if smallI i && smallI j then some (rngD i (j - i).toNat, p.2) else none
  | _ => none
@[simp] theorem ap_rngI2 : rngI2 fs ρ = (fs ρ).bind fun p => (curA p.2 p.1).bind fun ds => rngK2 (ds, p.2) := rfl
@[simp] theorem rngK2_i : rngK2 ([.int a, .int b], ρ) = if (smallI a && smallI b) = true then some (rngD a (b - a).toNat, ρ) else none := rfl
def rngK3 : List D × Rho → Option (List D × Rho) := fun p => match p.1 with
  | [.int i, .int j, .int c] => if smallI i && smallI j && decide (c = -1) then some (rngDn i (i - j).toNat, p.2) else none
  | _ => none
@[simp] theorem ap_rngI3 : rngI3 fs ρ = (fs ρ).bind fun p => (curA p.2 p.1).bind fun ds => rngK3 (ds, p.2) := rfl
@[simp] theorem rngK3_i : rngK3 ([.int a, .int b, .int (-1)], ρ) = if (smallI a && smallI b) = true then some (rngDn a (a - b).toNat, ρ) else none := by
  show (if (smallI a && smallI b && decide ((-1 : Int) = -1)) = true then _ else _) = _
  rw [decide_eq_true rfl, Bool.and_true]
theorem smallI_of (h : -4611686018427387904 ≤ a) (h2 : a < 4611686018427387904) : smallI a = true := by rw [smallI_eq]; exact decide_eq_true ⟨h, h2⟩
def seqIK : Vl × Rho → Option (List D × Rho) := fun p => (frzL p.1).bind fun d => (seqD d).bind fun ds => some (ds, p.2)
@[simp] theorem ap_seqI : seqI f ρ = (f ρ).bind seqIK := rfl
@[simp] theorem seqIK_l : seqIK (.fz (.list ds), ρ) = some (ds, ρ) := rfl
@[simp] theorem seqIK_t : seqIK (.fz (.tuple ds), ρ) = some (ds, ρ) := rfl
@[simp] theorem seqIK_ow : seqIK (.ow ds, ρ) = some (ds, ρ) := rfl
@[simp] theorem seqIK_lk : seqIK (.lk ds, ρ) = some (ds, ρ) := rfl
def revIK : Vl × Rho → Option (List D × Rho) := fun p => (frz p.1).bind fun d => (seqD d).bind fun ds => some (ds.reverse, p.2)
@[simp] theorem ap_revI : revI f ρ = (f ρ).bind revIK := rfl
@[simp] theorem revIK_l : revIK (.fz (.list ds), ρ) = some (ds.reverse, ρ) := rfl
@[simp] theorem revIK_t : revIK (.fz (.tuple ds), ρ) = some (ds.reverse, ρ) := rfl
@[simp] theorem revIK_ow : revIK (.ow ds, ρ) = some (ds.reverse, ρ) := rfl
def zipK : List D × Rho → Option (List D × Rho) := fun p => match p.1 with
  | [.list a, .list b] => some (zipD a b, p.2)
  | [.tuple a, .tuple b] => some (zipD a b, p.2)
  | _ => none
@[simp] theorem ap_zipI : zipI fs ρ = (fs ρ).bind fun p => (frzA p.1).bind fun ds => zipK (ds, p.2) := rfl
@[simp] theorem zipK_l : zipK ([.list ds, .list es], ρ) = some (zipD ds es, ρ) := rfl
@[simp] theorem zipK_t : zipK ([.tuple ds, .tuple es], ρ) = some (zipD ds es, ρ) := rfl
def enumK : List D × Rho → Option (List D × Rho) := fun p => match p.1 with
  | [.list a] => some (enumD 0 a, p.2)
  | _ => none
@[simp] theorem ap_enumI : enumI fs ρ = (fs ρ).bind fun p => (frzA p.1).bind fun ds => enumK (ds, p.2) := rfl
@[simp] theorem enumK_l : enumK ([.list ds], ρ) = some (enumD 0 ds, ρ) := rfl
/-! loops -/
theorem ap_forS : forS fi st s ρ = (fi ρ).bind fun p => forL st s p.1 p.2 := rfl
theorem forL_nil : forL st s [] ρ = some (.nx ρ) := rfl
theorem forL_nx {ds : List D} (h : (st (.fz d) ρ).bind s = some (.nx ρ1)) : forL st s (d :: ds) ρ = forL st s ds ρ1 := by
  obtain ⟨ρ0, e1, e2⟩ := Option.bind_eq_some_iff.mp h
  rw [forL, e1, Option.bind_some, e2]
  rfl
theorem forL_ct {ds : List D} (h : (st (.fz d) ρ).bind s = some (.ct ρ1)) : forL st s (d :: ds) ρ = forL st s ds ρ1 := by
  obtain ⟨ρ0, e1, e2⟩ := Option.bind_eq_some_iff.mp h
  rw [forL, e1, Option.bind_some, e2]
  rfl
theorem forL_bk {ds : List D} (h : (st (.fz d) ρ).bind s = some (.bk ρ1)) : forL st s (d :: ds) ρ = some (.nx ρ1) := by
  obtain ⟨ρ0, e1, e2⟩ := Option.bind_eq_some_iff.mp h
  rw [forL, e1, Option.bind_some, e2]
  rfl
theorem forL_rt {ds : List D} (h : (st (.fz d) ρ).bind s = some (.rt r ρ1)) : forL st s (d :: ds) ρ = some (.rt r ρ1) := by
  obtain ⟨ρ0, e1, e2⟩ := Option.bind_eq_some_iff.mp h
  rw [forL, e1, Option.bind_some, e2]
  rfl
theorem forS_of {t : Option Fl} {ds : List D} (hi : fi ρ = some (ds, ρ1)) (h : forL st s ds ρ1 = t) : forS fi st s ρ = t := by rw [ap_forS, hi]; exact h
/-- by a word over the turns -/
theorem forL_inv {P : Nat → Rho → Prop} : ∀ (ds : List D) (k : Nat) (ρ : Rho), P k ρ → (∀ j d ρ, ds[j]? = some d → P (k + j) ρ → ∃ ρ1, ((st (.fz d) ρ).bind s = some (.nx ρ1) ∨ (st (.fz d) ρ).bind s = some (.ct ρ1)) ∧ P (k + j + 1) ρ1) → ∃ ρ1, forL st s ds ρ = some (.nx ρ1) ∧ P (k + ds.length) ρ1
  | [], k, ρ, h, _ => ⟨ρ, rfl, h⟩
  | d :: ds, k, ρ, h, go => by
    obtain ⟨ρ1, e, p⟩ := go 0 d ρ rfl h
    obtain ⟨ρ2, e2, p2⟩ := forL_inv ds (k + 1) ρ1 (by simpa using p) fun j d' ρ' hj hp => by
      have := go (j + 1) d' ρ' (by simpa using hj) (by rw [show k + (j + 1) = k + 1 + j by omega]; exact hp)
      rwa [show k + (j + 1) + 1 = k + 1 + j + 1 by omega] at this
    refine ⟨ρ2, ?_, by rw [List.length_cons, show k + (ds.length + 1) = k + 1 + ds.length by omega]; exact p2⟩
    rcases e with e | e
    · rw [forL_nx e]; exact e2
    · rw [forL_ct e]; exact e2
end
/-! comprehensions -/
section
variable {st : DTg} {c : DT} {f : DE} {vs : List Nat} {ρ : Rho} {fi : DI}
theorem ap_lcE : lcE fi st c f vs ρ = (fi ρ).bind fun p => if p.1.length ≤ 1000000 then (lcL st c f vs p.1 (wipeR p.2 vs)).bind fun q => some (.ow q.1, unwR vs p.2 q.2) else none := rfl
/-- an element after the other: the state goes along, P i acc ρ -/
theorem lcL_inv {P : List D → Nat → Rho → Prop} : ∀ (ds : List D) (k : Nat) (acc : List D) (ρ : Rho), P acc k ρ → (∀ j d acc ρ, ds[j]? = some d → P acc (k + j) ρ → ∃ ρ1 b ρ2, st (.fz d) ρ = some ρ1 ∧ c ρ1 = some (b, ρ2) ∧
      if b = true then ∃ r z ρ3, f ρ2 = some (r, ρ3) ∧ frz r = some z ∧ P (acc ++ [z]) (k + j + 1) (wipeR ρ3 vs) else P acc (k + j + 1) (wipeR ρ2 vs)) →
    ∃ out ρ1, lcL st c f vs ds ρ = some (out, ρ1) ∧ P (acc ++ out) (k + ds.length) ρ1
  | [], k, acc, ρ, h, _ => ⟨[], ρ, rfl, by rw [List.append_nil]; exact h⟩
  | d :: ds, k, acc, ρ, h, go => by
    obtain ⟨ρ1, b, ρ2, e1, e2, e3⟩ := go 0 d acc ρ rfl h
    have go' : ∀ j d' acc ρ, ds[j]? = some d' → P acc (k + 1 + j) ρ → ∃ ρ1 b ρ2, st (.fz d') ρ = some ρ1 ∧ c ρ1 = some (b, ρ2) ∧ if b = true then ∃ r z ρ3, f ρ2 = some (r, ρ3) ∧ frz r = some z ∧ P (acc ++ [z]) (k + 1 + j + 1) (wipeR ρ3 vs) else P acc (k + 1 + j + 1) (wipeR ρ2 vs) := fun j d' acc ρ' hj hp => by
      have := go (j + 1) d' acc ρ' (by simpa using hj) (by rw [show k + (j + 1) = k + 1 + j by omega]; exact hp)
      rwa [show k + (j + 1) + 1 = k + 1 + j + 1 by omega] at this
    rw [lcL, e1, Option.bind_some, e2, Option.bind_some]
    dsimp only
    cases b with
    | true =>
      rw [if_pos rfl] at e3 ⊢
      obtain ⟨r, z, ρ3, q1, q2, q3⟩ := e3
      obtain ⟨out, ρ4, o1, o2⟩ := lcL_inv ds (k + 1) (acc ++ [z]) (wipeR ρ3 vs) (by simpa using q3) go'
      refine ⟨z :: out, ρ4, ?_, ?_⟩
      · rw [q1, Option.bind_some]; dsimp only; rw [q2, Option.bind_some, o1]; rfl
      · rw [List.length_cons, show k + (ds.length + 1) = k + 1 + ds.length by omega, show acc ++ z :: out = acc ++ [z] ++ out by simp]
        exact o2
    | false =>
      rw [if_neg (by decide)] at e3 ⊢
      obtain ⟨out, ρ4, o1, o2⟩ := lcL_inv ds (k + 1) acc (wipeR ρ2 vs) (by simpa using e3) go'
      refine ⟨out, ρ4, o1, ?_⟩
      rw [List.length_cons, show k + (ds.length + 1) = k + 1 + ds.length by omega]
      exact o2
/-- without a condition, without a trace: a map -/
theorem lcL_map (h : D → D) : ∀ (ds : List D) (ρ : Rho), (∀ d ∈ ds, ∃ ρ1 ρ2 r ρ3, st (.fz d) ρ = some ρ1 ∧ c ρ1 = some (true, ρ2) ∧ f ρ2 = some (r, ρ3) ∧ frz r = some (h d) ∧ wipeR ρ3 vs = ρ) → lcL st c f vs ds ρ = some (ds.map h, ρ)
  | [], ρ, _ => rfl
  | d :: ds, ρ, go => by
    obtain ⟨ρ1, ρ2, r, ρ3, e1, e2, e3, e4, e5⟩ := go d List.mem_cons_self
    rw [lcL, e1, Option.bind_some, e2, Option.bind_some]
    dsimp only
    rw [if_pos rfl, e3, Option.bind_some]
    dsimp only
    rw [e4, Option.bind_some, e5, lcL_map h ds ρ fun d' hd => go d' (List.mem_cons_of_mem _ hd)]
    rfl
/-- with a condition -/
theorem lcL_fil (t : D → Bool) (h : D → D) : ∀ (ds : List D) (ρ : Rho), (∀ d ∈ ds, ∃ ρ1 ρ2, st (.fz d) ρ = some ρ1 ∧ c ρ1 = some (t d, ρ2) ∧ (t d = false → wipeR ρ2 vs = ρ) ∧ (t d = true → ∃ r ρ3, f ρ2 = some (r, ρ3) ∧ frz r = some (h d) ∧ wipeR ρ3 vs = ρ)) → lcL st c f vs ds ρ = some ((ds.filter t).map h, ρ)
  | [], ρ, _ => rfl
  | d :: ds, ρ, go => by
    obtain ⟨ρ1, ρ2, e1, e2, e3, e4⟩ := go d List.mem_cons_self
    have ih := lcL_fil t h ds ρ fun d' hd => go d' (List.mem_cons_of_mem _ hd)
    rw [lcL, e1, Option.bind_some, e2, Option.bind_some]
    dsimp only
    cases q : t d with
    | true =>
      obtain ⟨r, ρ3, q1, q2, q3⟩ := e4 q
      rw [if_pos rfl, q1, Option.bind_some]
      dsimp only
      rw [q2, Option.bind_some, q3, ih, List.filter_cons_of_pos q]
      rfl
    | false =>
      rw [if_neg (by decide), e3 q, ih, List.filter_cons_of_neg (by rw [q]; decide)]
theorem lcE_of {ds out : List D} {ρ1 ρ2 : Rho} (hi : fi ρ = some (ds, ρ1)) (hl : ds.length ≤ 1000000) (h : lcL st c f vs ds (wipeR ρ1 vs) = some (out, ρ2)) : lcE fi st c f vs ρ = some (.ow out, unwR vs ρ1 ρ2) := by
  rw [ap_lcE, hi, Option.bind_some]
  dsimp only
  rw [if_pos hl, h]
  rfl
/-- a map, the names' slots as they were -/
theorem lcE_map (g : D → D) {ds : List D} {ρ1 : Rho} (hi : fi ρ = some (ds, ρ1)) (hl : ds.length ≤ 1000000) (go : ∀ d ∈ ds, ∃ ρa ρb r ρc, st (.fz d) (wipeR ρ1 vs) = some ρa ∧ c ρa = some (true, ρb) ∧ f ρb = some (r, ρc) ∧ frz r = some (g d) ∧ wipeR ρc vs = wipeR ρ1 vs) : lcE fi st c f vs ρ = some (.ow (ds.map g), unwR vs ρ1 (wipeR ρ1 vs)) :=
  lcE_of hi hl (lcL_map g ds _ go)
theorem lcE_fil (t : D → Bool) (g : D → D) {ds : List D} {ρ1 : Rho} (hi : fi ρ = some (ds, ρ1)) (hl : ds.length ≤ 1000000) (go : ∀ d ∈ ds, ∃ ρa ρb, st (.fz d) (wipeR ρ1 vs) = some ρa ∧ c ρa = some (t d, ρb) ∧ (t d = false → wipeR ρb vs = wipeR ρ1 vs) ∧ (t d = true → ∃ r ρc, f ρb = some (r, ρc) ∧ frz r = some (g d) ∧ wipeR ρc vs = wipeR ρ1 vs)) :
    lcE fi st c f vs ρ = some (.ow ((ds.filter t).map g), unwR vs ρ1 (wipeR ρ1 vs)) :=
  lcE_of hi hl (lcL_fil t g ds _ go)
end
@[simp] theorem wipeR_nil {ρ : Rho} : wipeR ρ [] = ρ := rfl
@[simp] theorem wipeR_cons {ρ : Rho} {v : Nat} {vs : List Nat} : wipeR ρ (v :: vs) = (wipeR ρ vs).set v none := rfl
@[simp] theorem unwR_nil {ρ ρ0 : Rho} : unwR [] ρ0 ρ = ρ := rfl
@[simp] theorem unwR_cons {ρ ρ0 : Rho} {v : Nat} {vs : List Nat} : unwR (v :: vs) ρ0 ρ = (unwR vs ρ0 ρ).set v ((ρ0[v]?).getD none) := rfl
theorem rngD_iget {lo : Int} {n j : Nat} {d : D} (h : (rngD lo n)[j]? = some d) : j < n ∧ d = .int (lo + (j : Int)) := by
  unfold rngD at h
  rw [List.getElem?_map] at h
  by_cases q : j < n
  · rw [List.getElem?_range q] at h
    exact ⟨q, (Option.some.inj h).symm⟩
  · rw [List.getElem?_eq_none (by rw [List.length_range]; omega)] at h
    cases h
theorem rngD_mem {lo : Int} {n : Nat} {d : D} (h : d ∈ rngD lo n) : ∃ j : Nat, j < n ∧ d = .int (lo + (j : Int)) := by
  obtain ⟨j, hj⟩ := List.getElem?_of_mem h
  exact ⟨j, rngD_iget hj⟩
@[simp] theorem rngD_len {lo : Int} {n : Nat} : (rngD lo n).length = n := by unfold rngD; rw [List.length_map, List.length_range]
theorem rngDn_iget {lo : Int} {n j : Nat} {d : D} (h : (rngDn lo n)[j]? = some d) : j < n ∧ d = .int (lo - (j : Int)) := by
  unfold rngDn at h
  rw [List.getElem?_map] at h
  by_cases q : j < n
  · rw [List.getElem?_range q] at h
    exact ⟨q, (Option.some.inj h).symm⟩
  · rw [List.getElem?_eq_none (by rw [List.length_range]; omega)] at h
    cases h
theorem rngDn_mem {lo : Int} {n : Nat} {d : D} (h : d ∈ rngDn lo n) : ∃ j : Nat, j < n ∧ d = .int (lo - (j : Int)) := by
  obtain ⟨j, hj⟩ := List.getElem?_of_mem h
  exact ⟨j, rngDn_iget hj⟩
@[simp] theorem rngDn_len {lo : Int} {n : Nat} : (rngDn lo n).length = n := by unfold rngDn; rw [List.length_map, List.length_range]
end
end DL

namespace DL
open PySem PySem.Spec PyProof.Rows L2 HT
noncomputable section

/-! ### x[::-1] -/
section
variable {prog : Program} {w : World} {A : Around} {E : Value → Shared → Prop} {s : Shared}
theorem adjust_rev (n : Nat) : Builtin.Slice.sliceAdjust none none (-1) (n : Int) = ((n : Int) - 1, -1) := by
  unfold Builtin.Slice.sliceAdjust
  have h1 : ((-1 : Int) < 0) := by omega
  simp only [h1, if_true]
theorem places_rev (n : Nat) : Builtin.Slice.slicePlaces ((n : Int) - 1) (-1) (-1) = n := by
  unfold Builtin.Slice.slicePlaces
  have h1 : ¬ ((-1 : Int) > 0) := by omega
  simp only [h1, if_false]
  split
  · rename_i h; simp at h ⊢
  · rename_i h; simp at h ⊢; omega
theorem sliceApplied_rev {sl : Addr} {vs : Value} {n : Nat} {Q : Int × Int × Nat → Shared → Prop} (hs : s.heap.IsSliceOf sl .none .none vs) (pk : IsPart vs (some (-1))) (h : Q ((n : Int) - 1, -1, n) s) :
    wpAny (model prog w) A (Builtin.Slice.sliceApplied (.ref sl) (pure (n : Int))) Q E s := by
  obtain ⟨os, hos, hcs, hds⟩ := id hs
  unfold Builtin.Slice.sliceApplied Builtin.Slice.sliceFields
  refine wpAny_bind (wpAny_bind (wpAny_field hos hds (x := .none) rfl (wpAny_bind (wpAny_field hos hds (x := .none) rfl (wpAny_bind (wpAny_field hos hds (x := vs) rfl (wpAny_pure ?_)))))))
  refine wpAny_bind (slicePart_ pk ?_)
  show wpAny _ _ (if ((-1 : Int) == 0) = true then _ else _) _ _ s
  rw [if_neg (by decide)]
  refine wpAny_bind (slicePart_none (wpAny_bind (slicePart_none (wpAny_bind (wpAny_pure ?_)))))
  show wpAny _ _ (match Builtin.Slice.sliceAdjust none none (-1) (n : Int) with | (lo, hi) => pure (lo, (-1 : Int), Builtin.Slice.slicePlaces lo hi (-1))) _ _ s
  rw [adjust_rev n]
  show wpAny _ _ (pure ((n : Int) - 1, (-1 : Int), Builtin.Slice.slicePlaces ((n : Int) - 1) (-1) (-1))) _ _ s
  rw [places_rev]
  exact wpAny_pure h
theorem fm_congr {α β : Type} {f g : α → Option β} : ∀ l : List α, (∀ x ∈ l, f x = g x) → l.filterMap f = l.filterMap g
  | [], _ => rfl
  | a :: r, h => by
    rw [List.filterMap_cons, List.filterMap_cons, h a List.mem_cons_self, fm_congr r fun x hx => h x (List.mem_cons_of_mem _ hx)]
theorem pick_rev (xs : Array Value) : ((List.range xs.size).filterMap fun (m : Nat) => xs[(((xs.size : Int) - 1) + (m : Int) * (-1)).toNat]?).toArray = xs.toList.reverse.toArray := by
  have e : (List.range xs.size).filterMap (fun (m : Nat) => xs[(((xs.size : Int) - 1) + (m : Int) * (-1)).toNat]?) = ((List.range xs.size).map fun k => xs.size - 1 - k).filterMap fun m => xs[m]? := by
    rw [List.filterMap_map]
    refine fm_congr _ fun m hm => ?_
    have hm := List.mem_range.mp hm
    rw [show (((xs.size : Int) - 1) + (m : Int) * (-1)).toNat = xs.size - 1 - m by omega]
    rfl
  rw [e, PySem.W.krv_range, List.filterMap_reverse]
  congr 2
  have := PySem.W.krv_all xs
  exact this
theorem getItem_tuple_rev {t sl : Addr} {items : Array Value} {vs : Value} {Q : Value → Shared → Prop} (ht : IsTup s.heap t items) (hs : s.heap.IsSliceOf sl .none .none vs) (pk : IsPart vs (some (-1)))
    (h : Q (.ref s.heap.objs.size) { s with heap := s.heap.push { cls := .type "tuple", data := .seq items.toList.reverse.toArray } }) (hsz : items.size ≤ sizeLine) : wpAny (model prog w) A (getItem (.ref t) (.ref sl)) Q E s := by
  have htake : sizeOk (.seq items.toList.reverse.toArray) := by
    show items.toList.reverse.toArray.size ≤ sizeLine
    rw [List.size_toArray, List.length_reverse, Array.length_toList]
    exact hsz
  obtain ⟨os, hos, hcs, hds⟩ := id hs
  have hTs : s.TypeIs (.ref sl) "slice" := ⟨os, hos, hcs⟩
  unfold getItem
  try with_reducible refine wpAny_holding ?_
  first | refine wpAny_bind (wpAny_pure ?_) | skip
  refine wpAny_bind (wpAny_sequenceKey ht.typeIs (by decide) ?_)
  refine wpAny_bind (wpAny_callSpecial?_slot (name := Str.ofString "__getitem__") ht.typeIs PyProof.Rows.slot_tuple_getitem
    (wpAny_call_entry PyProof.Rows.slot_tuple_getitem ht.typeIs entry_tuple_getitem ?_ (args_tuple_getitem _ _)))
  show wpAny _ _ (Builtin.Tuple.tupleItemsOf (.ref t) >>= _) _ _ s
  refine wpAny_bind (tupleItemsOf_ ht ?_)
  refine wpAny_bind (wpAny_typeOf hTs ?_)
  rw [if_pos (by decide)]
  refine wpAny_bind (sliceApplied_rev hs pk ?_)
  have hno : ¬ ((((items.size : Int) - 1) == 0 && (-1 : Int) == 1 && items.size == items.size) = true) := by
    intro q
    rw [Bool.and_eq_true, Bool.and_eq_true] at q
    exact absurd q.1.2 (by decide)
  show wpAny _ _ (if (((items.size : Int) - 1) == 0 && (-1 : Int) == 1 && items.size == items.size) = true then _ else _) _ _ s
  rw [if_neg hno, pick_rev]
  first
    | exact wpAny_bind (m := Builtin.Tuple.tupleExact _) (wpAny_newObj_type (wpAny_pure ⟨_, rfl, wpAny_pure h⟩) htake)
    | exact wpAny_bind (m := Builtin.Tuple.tupleExact _) (wpAny_newObj_type (wpAny_bind (wpAny_pure (wpAny_pure ⟨_, rfl, wpAny_pure h⟩))) htake)
    | exact wpAny_bind (wpAny_bind (m := Builtin.Tuple.tupleExact _) (wpAny_newObj_type (wpAny_pure (wpAny_pure ⟨_, rfl, wpAny_pure h⟩)) htake))
    | exact wpAny_bind (wpAny_bind (m := Builtin.Tuple.tupleExact _) (wpAny_newObj_type (wpAny_pure ⟨_, rfl, wpAny_pure h⟩) htake))
end
section
variable {X : Cx}
def rRev (K : PySem.W.Frag) : V → Hp → VK → Prop := fun x H Q => ∃ a xs, x = .ref a ∧ ((SqL K H a xs ∧ ∀ p, H p = none → Q (.ref p) (upd H p (.lst xs.reverse))) ∨ (SqT K H a xs ∧ ∀ p, H p = none → Q (.ref p) (upd H p (.tup xs.reverse))))
theorem pe_rev {e : Expr} {te : TE} {k : Nat} {p1 p2 p3 pos : Pos} (he : PE X e te) : PE X (.Subscript e (.Slice none none (some (.UnaryOp .USub (.Constant (.int 1) k p1) p2)) p3) pos) (tUn (rRev X.K) te) := by
  refine ⟨fun pins s σ H Q I h => ?_⟩
  refine Subscript_ (thn (he.run pins s σ H _ I h) fun v s1 ⟨x, H1, I1, r1, q1⟩ => ?_)
  obtain ⟨a, xs, ex, hq⟩ := q1
  subst ex
  cases r1
  have hst : PO X (some (.UnaryOp .USub (.Constant (.int 1) k p1) p2)) (tPart (tUn (rU fun i => .int (-i)) (tC (.int 1)))) := po_some (pe_un un_neg pe_int)
  refine wpAny_Slice (thn (po_none.run pins s1 σ H1 (fun o H2 => o = none ∧ H2 = H1) I1 ⟨rfl, rfl⟩) fun vl s2 ⟨l, H2, I2, pl, el, e2⟩ => ?_)
  subst el e2
  refine thn (po_none.run pins s2 σ H2 (fun o H3 => o = none ∧ H3 = H2) I2 ⟨rfl, rfl⟩) fun vu s3 ⟨u, H3, I3, pu, eu, e3⟩ => ?_
  subst eu e3
  refine thn (hst.run pins s3 σ H3 (fun o H4 => o = some (-1) ∧ H4 = H3) I3 ⟨1, rfl, -1, rfl, rfl, rfl⟩) fun vs s4 ⟨o, H4, I4, ps, eo, e4⟩ => ?_
  subst eo e4
  have I5 : Inv X pins σ H4 { s4 with heap := s4.heap.push { cls := .type "slice", data := .fields #[vl, vu, vs] } } := I4.kept (t' := s4.toks) fun b ob q => Heap.get?_push_of_some _ q
  cases pl
  cases pu
  rcases hq with ⟨hx, q⟩ | ⟨hx, q⟩
  · obtain ⟨its, r, ht, hz⟩ := I5.list hx
    have hlen := r.length
    show wpAny (model X.prog X.w) X.A (subscriptTail e (.Slice none none (some (.UnaryOp .USub (.Constant (.int 1) k p1) p2)) p3) (.ref a) (.ref s4.heap.objs.size)) (EP X pins σ Q) X.xe _
    refine tail_any (ops := [.ref a, .ref s4.heap.objs.size]) ht.isList.typeIs (PySem.slot_list_getitem.lookup) ?_ (by with_unfolding_all rfl)
    refine wpAny_getItem_list_slice ht.isList (Heap.IsSliceOf.new _ .none .none vs) .none .none ps (by decide) ?_ (by rw [List.size_toArray]; omega)
    rw [PySem.W.krv_pick]
    refine ⟨.ref _, _, I5.laid (t' := s4.toks) (o := .lst xs.reverse) (fun b ob q => Heap.get?_push_of_some _ q) (Nat.le_refl _) ?_, rfl, q _ (I5.hok.fresh (Nat.le_refl _))⟩
    exact ⟨by rw [List.length_reverse]; exact hz, _, 0, r.reverse, Heap.get?_push_size _ rfl⟩
  · obtain ⟨its, r, ht, hz⟩ := I5.tuple hx
    have hlen := r.length
    show wpAny (model X.prog X.w) X.A (subscriptTail e (.Slice none none (some (.UnaryOp .USub (.Constant (.int 1) k p1) p2)) p3) (.ref a) (.ref s4.heap.objs.size)) (EP X pins σ Q) X.xe _
    refine tail_any (ops := [.ref a, .ref s4.heap.objs.size]) ht.typeIs PyProof.Rows.slot_tuple_getitem.lookup ?_ (by with_unfolding_all rfl)
    refine getItem_tuple_rev ht (Heap.IsSliceOf.new _ .none .none vs) ps ?_ (by rw [List.size_toArray]; omega)
    refine ⟨.ref _, _, I5.laid (t' := s4.toks) (o := .tup xs.reverse) (fun b ob q => Heap.get?_push_of_some _ q) (Nat.le_refl _) ?_, rfl, q _ (I5.hok.fresh (Nat.le_refl _))⟩
    exact ⟨by rw [List.length_reverse]; exact hz, _, r.reverse, IsTup.new _ _⟩
end
end
end DL

namespace DL
open PySem PySem.Spec PyProof.Rows L2
noncomputable section

def revF : Rho → List Vl → Option Vl := fun ρ rs => match rs with
  | [x] => (itm ρ x).bind fun p => if p.1 = true then some (.ow p.2.reverse) else some (.fz (.tuple p.2.reverse))
  | _ => none
theorem FzA.rev {K : PySem.W.Frag} {W : Addr → Prop} {H : Hp} {vs : List V} {ds : List D} (f : FzA K W H vs ds) : FzA K W H vs.reverse ds.reverse := f.reverse
theorem vop_rev {K : PySem.W.Frag} : VOp K (r1L (rRev K)) revF := by
  intro W H σ ρ φ vs rs l res Q s rx dj e k
  unfold revF at e
  split at e
  · rename_i x
    obtain ⟨⟨b, ds⟩, e1, e⟩ := Option.bind_eq_some_iff.mp e
    cases rx with
    | cons h t d =>
      cases t
      obtain ⟨a, xs, rfl, q1, f1⟩ := h.itm s e1
      cases b with
      | true =>
        simp only [if_true] at e q1
        cases e
        exact ⟨_, rfl, a, xs, rfl, .inl ⟨q1, new_list f1.reverse s.wf k⟩⟩
      | false =>
        simp only [Bool.false_eq_true, if_false] at e q1
        cases e
        exact ⟨_, rfl, a, xs, rfl, .inr ⟨q1, new_tuple f1.reverse s.wf k⟩⟩
  · cases e
section
variable {X : Cx} {e a b : Expr} {f g : DE} {pos p p1 p2 p3 : Pos} {k : Nat}
theorem px_rev (ha : PX X e f) : PX X (.Subscript e (.Slice none none (some (.UnaryOp .USub (.Constant (.int 1) k p1) p2)) p3) pos) (opE revF (consA f nilA)) := by
  refine PE.mono (pe_rev ha) ?_
  rintro σ H Q ⟨W, ρ, φ, r, ρ', s, hf, k⟩
  unfold opE consA nilA at hf
  obtain ⟨⟨rs, ρ2⟩, q1, hf⟩ := Option.bind_eq_some_iff.mp hf
  obtain ⟨z, e3, hf⟩ := Option.bind_eq_some_iff.mp hf
  cases hf
  obtain ⟨⟨x, ρ1⟩, e1, hf⟩ := Option.bind_eq_some_iff.mp q1
  cases hf
  refine ⟨W, ρ, φ, x, _, s, e1, fun v W1 H1 φ1 l o1 => ?_⟩
  have o : OutA X.K W H (InF φ) σ _ [x] [v] W1 H1 φ1 l := ⟨o1.ev, o1.ss, .one o1.rx, o1.dj, o1.sub, o1.subl⟩
  obtain ⟨x', q, q'⟩ := vop_rev W1 H1 σ _ φ1 [v] [x] _ _ Q o.ss o.rx o.dj e3 fun v W2 H2 l2 ev wf rv sub => k v W2 H2 _ l2 (o.op s ev wf rv sub)
  cases q
  exact q'
end
/-! ### list(range(..)), tuple(range(..)) -/
abbrev DR := Rho → Option ((Int × Int) × Rho)
def tXR (K : PySem.W.Frag) (f : DR) : L2.St → Hp → (Int → Int → Hp → Prop) → Prop := fun σ H Q => ∃ W ρ φ a b ρ', SS K W H σ ρ φ ∧ f ρ = some ((a, b), ρ') ∧ ∀ W' H' φ', OutT K W H (InF φ) σ ρ' W' H' φ' → Q a b H'
abbrev PXR (X : Cx) (e : Expr) (f : DR) : Prop := PRg X e (tXR X.K f)
theorem PRg.mono {X : Cx} {e : Expr} {t t' : L2.St → Hp → (Int → Int → Hp → Prop) → Prop} (h : PRg X e t) (m : ∀ σ H Q, t' σ H Q → t σ H Q) : PRg X e t' := fun pins s σ H Q I q => h pins s σ H Q I (m σ H Q q)
def rg1K : Vl × Rho → Option ((Int × Int) × Rho) := fun p => match p.1 with
  | .fz (.int n) => some ((0, n), p.2)
  | _ => none
def rg1E (f : DE) : DR := fun ρ => (f ρ).bind rg1K
def rg2K : Vl → Vl × Rho → Option ((Int × Int) × Rho) := fun x p => match x, p.1 with
  | .fz (.int m), .fz (.int n) => some ((m, n), p.2)
  | _, _ => none
def rg2E (f g : DE) : DR := fun ρ => (f ρ).bind fun p => (g p.2).bind (rg2K p.1)
theorem rgX : ∃ f : Int → Int → Bool, ∀ a b, f a b = decide (-4611686018427387904 ≤ a ∧ a < 4611686018427387904 ∧ -4611686018427387904 ≤ b ∧ b < 4611686018427387904 ∧ b - a ≤ 16777216) := ⟨fun a b => decide (-4611686018427387904 ≤ a ∧ a < 4611686018427387904 ∧ -4611686018427387904 ≤ b ∧ b < 4611686018427387904 ∧ b - a ≤ 16777216), fun _ _ => rfl⟩
def rgOk : Int → Int → Bool := Classical.choose rgX
theorem rgOk_eq (a b : Int) : rgOk a b = decide (-4611686018427387904 ≤ a ∧ a < 4611686018427387904 ∧ -4611686018427387904 ≤ b ∧ b < 4611686018427387904 ∧ b - a ≤ 16777216) := Classical.choose_spec rgX a b
theorem rgOk_of {a b : Int} (h : rgOk a b = true) : RgOk a b := by
  rw [rgOk_eq] at h
  have h := of_decide_eq_true h
  have e1 : (2 : Int) ^ 62 = 4611686018427387904 := by decide
  have e2 : (2 : Nat) ^ 24 = 16777216 := by decide
  refine ⟨?_, ?_, ?_, ?_, ?_⟩
  · rw [e1]; omega
  · rw [e1]; omega
  · rw [e1]; omega
  · rw [e1]; omega
  · rw [e2]; omega
theorem rgOk_small {a b : Int} (h : -1000000 ≤ a) (h2 : a ≤ 1000000) (h3 : -1000000 ≤ b) (h4 : b ≤ 1000000) : rgOk a b = true := by
  rw [rgOk_eq]
  exact decide_eq_true (by omega)
def lstRgE (f : DR) : DE := fun ρ => (f ρ).bind fun p => if rgOk p.1.1 p.1.2 = true then some (.ow (rngD p.1.1 (p.1.2 - p.1.1).toNat), p.2) else none
def tupRgE (f : DR) : DE := fun ρ => (f ρ).bind fun p => if rgOk p.1.1 p.1.2 = true then some (.fz (.tuple (rngD p.1.1 (p.1.2 - p.1.1).toNat)), p.2) else none
theorem fza_rg {K : PySem.W.Frag} {W : Addr → Prop} {H : Hp} (a b : Int) : FzA K W H (rgV a b) (rngD a (b - a).toNat) := by
  have := FzA.ints (K := K) (W := W) (H := H) ((List.range (b - a).toNat).map fun i => a + (i : Nat))
  unfold rgV rngD
  rw [List.map_map, List.map_map] at this
  exact this
section
variable {X : Cx} {e a b : Expr} {f g : DE} {fr : DR} {pos p : Pos}
theorem pxr_1 (hm : X.mg "range" = none) (ha : PX X a f) (hg : Gl X "range" := by rfl) (na : starEach [a] X.env = (false, eval a X.env) :: starEach [] X.env := by rfl) : PXR X (.Call (.Name "range" p) [a] [] pos) (rg1E f) := by
  refine PRg.mono (prg_1 hg hm ha na) ?_
  rintro σ H Q ⟨W, ρ, φ, i, j, ρ', s, hf, k⟩
  unfold rg1E at hf
  obtain ⟨⟨x, ρ1⟩, e1, hf⟩ := Option.bind_eq_some_iff.mp hf
  unfold rg1K at hf
  dsimp only at hf
  split at hf
  · cases hf
    refine ⟨W, ρ, φ, _, _, s, e1, fun v W1 H1 φ1 l o => ?_⟩
    cases o.rx with
    | rv z => cases z with
      | fz z => cases z; exact ⟨_, rfl, k W1 H1 φ1 o.t⟩
  · cases hf
theorem pxr_2 (hm : X.mg "range" = none) (ha : PX X a f) (hb : PX X b g) (hg : Gl X "range" := by rfl) (na : starEach [a, b] X.env = (false, eval a X.env) :: starEach [b] X.env := by rfl)
    (nb : starEach [b] X.env = (false, eval b X.env) :: starEach [] X.env := by rfl) (hp : (backTo pos (starEach [b] X.env)).any (·.1) = false := by rfl) : PXR X (.Call (.Name "range" p) [a, b] [] pos) (rg2E f g) := by
  refine PRg.mono (prg_2 hg hm ha hb na nb hp) ?_
  rintro σ H Q ⟨W, ρ, φ, i, j, ρ', s, hf, k⟩
  unfold rg2E at hf
  obtain ⟨⟨x, ρ1⟩, e1, hf⟩ := Option.bind_eq_some_iff.mp hf
  obtain ⟨⟨y, ρ2⟩, e2, hf⟩ := Option.bind_eq_some_iff.mp hf
  unfold rg2K at hf
  dsimp only at hf
  split at hf
  · cases hf
    refine ⟨W, ρ, φ, _, ρ1, s, e1, fun v W1 H1 φ1 l o => ?_⟩
    refine ⟨W1, ρ1, φ1, _, _, o.ss, e2, fun v2 W2 H2 φ2 l2 o2 => ?_⟩
    have hk := k W2 H2 φ2 (o.t.then s o2.t)
    cases o.rx with
    | rv z => cases z with
      | fz z =>
        cases z
        cases o2.rx with
        | rv z => cases z with
          | fz z => cases z; exact ⟨_, _, rfl, rfl, hk⟩
  · cases hf
theorem px_listRg (hc : X.calm = true) (hm : X.mg "list" = none) (he : PXR X e fr) (hg : Gl X "list" := by rfl) (na : starEach [e] X.env = (false, eval e X.env) :: starEach [] X.env := by rfl) : PX X (.Call (.Name "list" p) [e] [] pos) (lstRgE fr) := by
  refine PE.mono (pe_listRg hc hg hm he na) ?_
  rintro σ H Q ⟨W, ρ, φ, r, ρ', s, hf, k⟩
  unfold lstRgE at hf
  obtain ⟨⟨⟨i, j⟩, ρ1⟩, e1, hf⟩ := Option.bind_eq_some_iff.mp hf
  split at hf
  · rename_i hz
    cases hf
    refine ⟨W, ρ, φ, i, j, _, s, e1, fun W1 H1 φ1 o => ⟨rgOk_of hz, ?_⟩⟩
    have ot : OutA X.K W H (InF φ) σ _ [] [] W1 H1 φ1 [] := ⟨o.ev, o.ss, .nil, (fun a h => nomatch h), o.sub, (fun a h => nomatch h)⟩
    exact new_list (fp := fun a => a ∈ ([] : List Addr)) (fza_rg i j) o.ss.wf fun v W2 H2 l2 ev wf rv sub => k v W2 H2 φ1 l2 (ot.op s ev wf rv sub)
  · cases hf
theorem px_tupRg (hc : X.calm = true) (hm : X.mg "tuple" = none) (he : PXR X e fr) (hg : Gl X "tuple" := by rfl) (na : starEach [e] X.env = (false, eval e X.env) :: starEach [] X.env := by rfl) : PX X (.Call (.Name "tuple" p) [e] [] pos) (tupRgE fr) := by
  refine PE.mono (pe_tupRg hc hg hm he na) ?_
  rintro σ H Q ⟨W, ρ, φ, r, ρ', s, hf, k⟩
  unfold tupRgE at hf
  obtain ⟨⟨⟨i, j⟩, ρ1⟩, e1, hf⟩ := Option.bind_eq_some_iff.mp hf
  split at hf
  · rename_i hz
    cases hf
    refine ⟨W, ρ, φ, i, j, _, s, e1, fun W1 H1 φ1 o => ⟨rgOk_of hz, ?_⟩⟩
    have ot : OutA X.K W H (InF φ) σ _ [] [] W1 H1 φ1 [] := ⟨o.ev, o.ss, .nil, (fun a h => nomatch h), o.sub, (fun a h => nomatch h)⟩
    exact new_tuple (fp := fun a => a ∈ ([] : List Addr)) (fza_rg i j) o.ss.wf fun v W2 H2 l2 ev wf rv sub => k v W2 H2 φ1 l2 (ot.op s ev wf rv sub)
  · cases hf
end
/-! evaluation -/
section
variable {ρ : Rho} {ds : List D} {f g : DE} {fr : DR} {a b : Int} {i : Nat}
@[simp] theorem revF_g : revF ρ [.pk i] = revF ρ [nmG i ρ[i]?] := by unfold revF; dsimp only; rw [itm_g]
@[simp] theorem revF_l : revF ρ [.fz (.list ds)] = some (.ow ds.reverse) := rfl
@[simp] theorem revF_t : revF ρ [.fz (.tuple ds)] = some (.fz (.tuple ds.reverse)) := rfl
@[simp] theorem revF_ow : revF ρ [.ow ds] = some (.ow ds.reverse) := rfl
@[simp] theorem revF_lk : revF ρ [.lk ds] = some (.ow ds.reverse) := rfl
@[simp] theorem ap_rg1E : rg1E f ρ = (f ρ).bind rg1K := rfl
@[simp] theorem rg1K_i : rg1K (.fz (.int a), ρ) = some ((0, a), ρ) := rfl
@[simp] theorem ap_rg2E : rg2E f g ρ = (f ρ).bind fun p => (g p.2).bind (rg2K p.1) := rfl
@[simp] theorem rg2K_i : rg2K (.fz (.int a)) (.fz (.int b), ρ) = some ((a, b), ρ) := rfl
@[simp] theorem ap_lstRgE : lstRgE fr ρ = (fr ρ).bind fun p => if rgOk p.1.1 p.1.2 = true then some (.ow (rngD p.1.1 (p.1.2 - p.1.1).toNat), p.2) else none := rfl
@[simp] theorem ap_tupRgE : tupRgE fr ρ = (fr ρ).bind fun p => if rgOk p.1.1 p.1.2 = true then some (.fz (.tuple (rngD p.1.1 (p.1.2 - p.1.1).toNat)), p.2) else none := rfl
end
end
end DL

namespace DL
open PySem PySem.Spec PyProof.Rows L2
noncomputable section

/-! ### l.count(x), t.count(x), l.index(x), t.index(x) -/
def rCntD (K : PySem.W.Frag) (b : Bool) : V → List V → Hp → VK → Prop := fun x xs H Q => ∃ (a : Addr) (y : V) (d : D) (ds : List D), x = .ref a ∧ xs = [y] ∧ Dp K H (.ref a) (if b = true then .list ds else .tuple ds) ∧ Dp K H y d ∧
  SeqAt.shaped (.list ds) = true ∧ SeqAt.shaped d = true ∧ Q (.int (ds.countP fun z => PyData.eqv z d : Nat)) H
def rIdxD (K : PySem.W.Frag) (b : Bool) : V → List V → Hp → VK → Prop := fun x xs H Q => ∃ (a : Addr) (y : V) (d : D) (ds : List D) (j : Nat), x = .ref a ∧ xs = [y] ∧ Dp K H (.ref a) (if b = true then .list ds else .tuple ds) ∧ Dp K H y d ∧
  SeqAt.shaped (.list ds) = true ∧ SeqAt.shaped d = true ∧ SeqAt.dataPlace ds d = some j ∧ Q (.int (j : Nat)) H
section
variable {X : Cx}
theorem lay_list {ds : List D} (h : SeqAt.shaped (.list ds) = true) : PyData.canLayAll0 ds = true := SeqAt.canLay_of_shaped h
theorem plain_of {d : D} (h : PyData.canLay0 d = true) : d.plain = true := PyData.plain_of_canLay0 d h
theorem plainA_of {ds : List D} (h : PyData.canLayAll0 ds = true) : PyData.plainAll ds = true := by
  have := PyData.plain_of_canLay0 (.list ds) (by rw [PyData.canLay0]; exact h)
  rwa [PyData.plain] at this
theorem mt_cntL (hu : X.A.units + 65 < cLine) : MtR X "list.count" (rCntD X.K true) := by
  intro pins s σ H x xs v us Q I rx rxs h
  obtain ⟨a, y, d, ds, rfl, rfl, hl, hy, sl, sd, q⟩ := h
  cases rx
  obtain ⟨u, rfl, ru⟩ := rxs.one
  obtain ⟨bs, r1⟩ := Dp.reads I d y u hy ru
  rw [if_pos rfl] at hl
  cases hl with
  | lst hs ha =>
    obtain ⟨its, rv, pl, hz⟩ := I.list hs
    obtain ⟨as, h4⟩ := Dp.readsAll I ds _ its ha rv
    exact SeqAt.count_list_data (vs := its.toArray) pl.isList (show ReadsAll s.heap its.toArray.toList ds as from h4) r1 (plainA_of (lay_list sl)) (plain_of (SeqAt.canLay_of_shaped sd)) (room_in_shaped sd hu) ⟨.int _, H, I.tok _, ⟨_, rfl⟩, q⟩
theorem mt_cntT (hu : X.A.units + 65 < cLine) : MtR X "tuple.count" (rCntD X.K false) := by
  intro pins s σ H x xs v us Q I rx rxs h
  obtain ⟨a, y, d, ds, rfl, rfl, hl, hy, sl, sd, q⟩ := h
  cases rx
  obtain ⟨u, rfl, ru⟩ := rxs.one
  obtain ⟨bs, r1⟩ := Dp.reads I d y u hy ru
  rw [if_neg (by decide)] at hl
  cases hl with
  | tup hs ha =>
    obtain ⟨its, rv, pl, hz⟩ := I.tuple hs
    obtain ⟨as, h4⟩ := Dp.readsAll I ds _ its ha rv
    exact SeqAt.count_tuple_data (vs := its.toArray) pl (show ReadsAll s.heap its.toArray.toList ds as from h4) r1 (plainA_of (lay_list sl)) (plain_of (SeqAt.canLay_of_shaped sd)) (room_in_shaped sd hu) ⟨.int _, H, I.tok _, ⟨_, rfl⟩, q⟩
theorem mt_idxL (hu : X.A.units + 65 < cLine) : MtR X "list.index" (rIdxD X.K true) := by
  intro pins s σ H x xs v us Q I rx rxs h
  obtain ⟨a, y, d, ds, j, rfl, rfl, hl, hy, sl, sd, hp, q⟩ := h
  rw [if_pos rfl] at hl
  obtain ⟨h1, h2, h3⟩ := List.findIdx?_eq_some_iff_getElem.mp hp
  refine mt_indexD hu pins s σ H (.ref a) [y] v us Q I rx rxs ⟨a, y, d, ds, j, ds[j], rfl, rfl, hl, hy, sl, sd, List.getElem?_eq_getElem h1, h2, fun m z hm hz => ?_, q⟩
  have hml : m < ds.length := by omega
  rw [List.getElem?_eq_getElem hml] at hz
  cases hz
  have := h3 m hm
  simpa using this
theorem mt_idxT (hu : X.A.units + 65 < cLine) : MtR X "tuple.index" (rIdxD X.K false) := by
  intro pins s σ H x xs v us Q I rx rxs h
  obtain ⟨a, y, d, ds, j, rfl, rfl, hl, hy, sl, sd, hp, q⟩ := h
  cases rx
  obtain ⟨u, rfl, ru⟩ := rxs.one
  obtain ⟨bs, r1⟩ := Dp.reads I d y u hy ru
  rw [if_neg (by decide)] at hl
  cases hl with
  | tup hs ha =>
    obtain ⟨its, rv, ⟨⟨cls, dd, data, sls⟩, ho, hc, n, hd⟩, hz⟩ := I.tuple hs
    simp only at hc hd
    subst hc hd
    obtain ⟨as, h4⟩ := Dp.readsAll I ds _ its ha rv
    have rs : ReadsAll s.heap its.toArray.toList ds as := h4
    have hxs := plainA_of (lay_list sl)
    obtain ⟨hj, hit, hno⟩ := SeqAt.hit_at rs hxs hp
    have ei := SeqAt.items_plain (A := X.A) rs r1 hxs (plain_of (SeqAt.canLay_of_shaped sd)) (room_in_shaped sd hu)
    let ef : Nat → Bool := fun m => if hm : m < its.toArray.size then PyData.eqv (SeqAt.readOf s.heap its.toArray[m]) d else false
    have ee : ∀ m (hm : m < its.toArray.size), ef m = PyData.eqv (SeqAt.readOf s.heap its.toArray[m]) d := fun m hm => dif_pos hm
    refine call_meets PySem.F.slot_tuple_index ⟨_, ho, rfl⟩ PySem.F.entry_tuple_index (PySem.F.args_tuple_index_2 _ _)
      (SeqAt.tuple_index2_found a its.toArray n dd sls u ef j hj (Nat.zero_le _) hj (by rw [ee j hj]; exact hit) (fun m hm _ hmj => by rw [ee m hm]; exact hno m hm hmj)) ⟨ho, fun m hm => ?_, ?_⟩
    · rw [ee m hm]
      exact ei _ (Array.getElem_mem hm)
    · exact ⟨.int (j : Nat), H, I.tok _, ⟨_, rfl⟩, q⟩
end
def listD? : D → Bool
  | .list _ => true
  | _ => false
/-- o.m(a), o a list, by data alone -/
def dmE (G : List D → D → Option D) (f g : DE) : DE := fun ρ => (f ρ).bind fun p => (curR p.2 p.1).bind fun c => if listD? c = true then (g p.2).bind fun q => (curA q.2 [p.1, q.1]).bind fun ds => match ds with
  | [.list xs, d] => if SeqAt.shaped (.list xs) && SeqAt.shaped d then (G xs d).bind fun z => some (.fz z, q.2) else none
  | _ => none else none
def cntG : List D → D → Option D := fun xs d => some (.int (xs.countP fun z => PyData.eqv z d : Nat))
def idxG : List D → D → Option D := fun xs d => (SeqAt.dataPlace xs d).bind fun j => some (.int (j : Nat))
section
variable {X : Cx} {o e : Expr} {f g : DE} {name : Str} {apos cpos : Pos} {id : String}
/-- what such a method is -/
def DMeth (K : PySem.W.Frag) (r : V → List V → Hp → VK → Prop) (G : List D → D → Option D) : Prop := ∀ (H : Hp) (x y : V) (xs : List D) (d z : D) (Q : VK), CtR K H x (.list xs) → CtR K H y d → SeqAt.shaped (.list xs) = true → SeqAt.shaped d = true → G xs d = some z → (∀ v, Sc v z → Q v H) → r x [y] H Q
theorem dm_cnt {K : PySem.W.Frag} : DMeth K (rCntD K true) cntG := fun H x y xs d z Q hx hy s1 s2 e k => by
  cases e
  have h := hx.dp s1
  obtain ⟨a, ys, rfl, _, _⟩ := hx.list_inv
  exact ⟨a, y, d, xs, rfl, rfl, by rw [if_pos rfl]; exact h, hy.dp s2, s1, s2, k _ (.int _)⟩
theorem dm_idx {K : PySem.W.Frag} : DMeth K (rIdxD K true) idxG := fun H x y xs d z Q hx hy s1 s2 e k => by
  obtain ⟨j, e1, e⟩ := Option.bind_eq_some_iff.mp e
  cases e
  have h := hx.dp s1
  obtain ⟨a, ys, rfl, _, _⟩ := hx.list_inv
  exact ⟨a, y, d, xs, j, rfl, rfl, by rw [if_pos rfl]; exact h, hy.dp s2, s1, s2, e1, k _ (.int _)⟩
theorem px_dm {r : V → List V → Hp → VK → Prop} {G : List D → D → Option D} (slot : Slot "list" name id) (hty : typeOf (.builtin id) = pure (.type "method_descriptor")) (hm : MtR X id r) (dm : DMeth X.K r G) (ho : PX X o f) (ha : PX X e g)
    (hbase : attributeBase o name X.env (eval o X.env) = eval o X.env := by rfl)
    (hfew : ((backTo cpos (starEach [e] X.env)).all (fun x => !x.1) && (backToKw cpos (keywordEach [] X.env)).all (fun x => x.1.isSome)
      && decide ([e].length + ([] : List Keyword).length + (if ([] : List Keyword).isEmpty then 0 else 1) < 30)) = true := by rfl)
    (hline : (apos.endLine == cpos.line) = true := by rfl) (hs : starEach [e] X.env = (false, eval e X.env) :: starEach [] X.env := by rfl) (hplain : (backTo cpos (starEach [] X.env)).any (·.1) = false := by rfl) :
    PX X (.Call (.Attribute o name apos) [e] [] cpos) (dmE G f g) := by
  refine PE.mono (pe_bm PySem.F.plainAttrs_list slot hty hm ho (pa_cons ha pa_nil hs) hbase hfew hline hs hplain) ?_
  rintro σ H Q ⟨W, ρ, φ, res, ρ', s, hf, k⟩
  unfold dmE at hf
  obtain ⟨⟨x, ρ1⟩, e1, hf⟩ := Option.bind_eq_some_iff.mp hf
  obtain ⟨c, e2, hf⟩ := Option.bind_eq_some_iff.mp hf
  split at hf
  rotate_left
  · cases hf
  rename_i hc
  obtain ⟨⟨y, ρ2⟩, e3, hf⟩ := Option.bind_eq_some_iff.mp hf
  obtain ⟨ds, e4, hf⟩ := Option.bind_eq_some_iff.mp hf
  refine ⟨W, ρ, φ, x, ρ1, s, e1, fun v W1 H1 φ1 l1 o1 => ?_⟩
  refine ⟨?_, W1, ρ1, φ1, y, ρ2, o1.ss, e3, fun v2 W2 H2 φ2 l2 o2 => ?_⟩
  · have ct1 := o1.rx.ctR o1.ss e2
    cases c with
    | list xs =>
      obtain ⟨a, ys, rfl, h, _⟩ := ct1.list_inv
      exact .inl ⟨rfl, ys, h⟩
    | _ => cases hc
  have o := Out.two s o1 o2
  have ct := o.rx.ctR o.ss e4
  simp only at hf
  split at hf
  · split at hf
    · rename_i hq
      obtain ⟨z, e5, hf⟩ := Option.bind_eq_some_iff.mp hf
      cases hf
      obtain ⟨h1, h2⟩ := Bool.and_eq_true_iff.mp hq
      obtain ⟨v', u', ev, c1, c2⟩ := ct.two
      cases ev
      exact dm H2 v v2 _ _ z Q c1 c2 h1 h2 e5 fun w hw => k w W2 H2 φ2 [] ⟨o.ev, o.ss, .rv (.fz hw.fz), (fun a h => nomatch h), o.sub, (fun a h => nomatch h)⟩
    · cases hf
  · cases hf
end
/-! evaluation -/
section
variable {ρ : Rho} {f g : DE} {G : List D → D → Option D} {xs : List D} {d : D}
def dmK (G : List D → D → Option D) : List D × Rho → Option (Vl × Rho) := fun p => match p.1 with
  | [.list xs, d] => if SeqAt.shaped (.list xs) && SeqAt.shaped d then (G xs d).bind fun z => some (.fz z, p.2) else none
  | _ => none
@[simp] theorem ap_dmE : dmE G f g ρ = (f ρ).bind fun p => (curR p.2 p.1).bind fun c => if listD? c = true then (g p.2).bind fun q => (curA q.2 [p.1, q.1]).bind fun ds => dmK G (ds, q.2) else none := rfl
@[simp] theorem listD_l : listD? (.list xs) = true := rfl
@[simp] theorem dmK_l : dmK G ([.list xs, d], ρ) = if (SeqAt.shaped (.list xs) && SeqAt.shaped d) = true then (G xs d).bind fun z => some (.fz z, ρ) else none := rfl
end
end
end DL

namespace DL
open PySem PySem.Spec PyProof.Rows L2
open AutoSeq1 (wpAny_loadPart')
noncomputable section

/-! ### enumerate(t), t a tuple -/
theorem meets_enumT (l : Addr) (items : Array Value) (n : Nat) (dct : Option Addr) (sl : Array (Option Value)) :
    Meets (Builtin.«enumerate.__new__» ⟨[.type "enumerate", .ref l], []⟩) (fun _ R s => s.heap.get? l = some { cls := .type "tuple", dict := dct, data := .seq items n, slots := sl } ∧
      R (.ok (.ret (.ref (s.heap.push { cls := .type "tuple_iterator", data := .fields #[.ref l, .int 0 0] }).objs.size)))
        { s with heap := (s.heap.push { cls := .type "tuple_iterator", data := .fields #[.ref l, .int 0 0] }).push { cls := .type "enumerate", data := .fields #[.none, .bool false, .ref s.heap.objs.size, rawInt 0, .none, .none] } }) :=
  .of_wp fun prog w A R s h => by
    obtain ⟨hp, g, d, tk, os⟩ := s; obtain ⟨hl, h⟩ := h
    have hsub := sub_enumerate
    have hL : Heap.IsTuple (Shared.heap ⟨hp, g, d, tk, os⟩) l items := ⟨_, hl, rfl, n, rfl⟩
    wp_walk using wpAny_loadPart' hl
    refine wpAny_stack_any fun st => wpAny_pure ?_
    split
    · rename_i c _ _ _ _ _
      cases (c == Value.type "enumerate")
      · wp_walk using wpAny_loadPart' hl, wpAny_pyIter_tuple hL
        exact ⟨_, rfl, h⟩
      · wp_walk using wpAny_loadPart' hl, wpAny_pyIter_tuple hL
        exact ⟨_, rfl, h⟩
    · wp_walk using wpAny_loadPart' hl, wpAny_pyIter_tuple hL
      exact ⟨_, rfl, h⟩
theorem call_enumT {prog : Program} {w : World} {A : Around} {E : Value → Shared → Prop} {s : Shared} {l : Addr} {items : Array Value} {Q : Value → Shared → Prop} (hL : s.heap.IsTuple l items)
    (h : ∀ h', IsEnum h' (s.heap.objs.size + 1) s.heap.objs.size 0 .none → h'.IsTupleIter s.heap.objs.size l 0 → h'.objs.size = s.heap.objs.size + 2 →
      (∀ b o, s.heap.get? b = some o → h'.get? b = some o) → Q (.ref (s.heap.objs.size + 1)) { s with heap := h' }) :
    wpAny (model prog w) A (call (.type "enumerate") [.ref l]) Q E s := by
  obtain ⟨⟨c, dct, dt, sl⟩, hl, hc, n, hd⟩ := hL
  replace hc : c = .type "tuple" := hc
  replace hd : dt = .seq items n := hd
  subst hc hd
  refine callType_new F.called_enumerate (by decide) (F.typeCall_enumerate_1 _) (F.newCall_enumerate_1 _) (fun obj => F.args_object_init_2 obj _) F.entry_enumerate_new
    (meets_enumT l items n dct sl) ⟨hl, ?_⟩
  have hz : (s.heap.push { cls := .type "tuple_iterator", data := .fields #[.ref l, .int 0 0] }).objs.size = s.heap.objs.size + 1 := Heap.size_push ..
  show _ ∧ _
  rw [hz]
  have he : IsEnum ((s.heap.push { cls := .type "tuple_iterator", data := .fields #[.ref l, .int 0 0] }).push
      { cls := .type "enumerate", data := .fields #[.none, .bool false, .ref s.heap.objs.size, rawInt 0, .none, .none] }) (s.heap.objs.size + 1) s.heap.objs.size 0 .none := by
    have := Heap.get?_push_size (s.heap.push { cls := .type "tuple_iterator", data := .fields #[.ref l, .int 0 0] })
      (o := { cls := .type "enumerate", data := .fields #[.none, .bool false, .ref s.heap.objs.size, rawInt 0, .none, .none] }) rfl
    rw [hz] at this; exact this
  refine ⟨⟨_, he, rfl⟩, h _ he ⟨_, Heap.get?_push_of_some _ (Heap.get?_push_size _ rfl), rfl, rfl⟩ (by rw [Heap.size_push, hz]) fun b o x => Heap.get?_push_of_some _ (Heap.get?_push_of_some _ x)⟩
/-- the tuple at a, each item in a new pair -/
def IteT (K : PySem.W.Frag) (a : Addr) : It :=
  ⟨fun i H => ∃ (xs : List V) (x : V), SqT K H a xs ∧ xs[i]? = some x, fun i H v H' => ∃ T x, v = .ref T ∧ H T = none ∧ H' = upd H T (.tup [.int (i : Nat), x]) ∧ ∀ xs, SqT K H a xs → xs[i]? = some x, fun i H => ∃ xs : List V, SqT K H a xs ∧ xs.length ≤ i⟩
theorem turn_enumT {P : Program} {w : World} {K : PySem.W.Frag} {elts : List Expr} {kk : Nat} {tpos : Pos} (a e it : Addr) :
    Turn P w K (.Tuple elts kk tpos) (IteT K a) [e, it] e (fun i h => (∃ old, IsEnum h e it ((i : Nat) : Int) old) ∧ h.IsTupleIter it a i ∧ e ≠ it) where
  mem := by simp
  obj := fun i h st b hb => by
    obtain ⟨⟨old, he⟩, ⟨o, ho, hc, hd⟩, _⟩ := st
    have e' : b = e ∨ b = it := by simpa using hb
    rcases e' with z | z
    · rw [z]; exact ⟨_, he, fun v q => nomatch q⟩
    · rw [z]; exact ⟨o, ho, fun v q => by rw [hd] at q; cases q⟩
  keep := fun i h h' st k => let ⟨⟨old, he⟩, hi, hne⟩ := st; ⟨⟨old, k e (by simp) _ he⟩, hi.at fun o q => k it (by simp) o q, hne⟩
  item := by
    intro X hP hw hK hc i pins s σ H E I hf st hg
    subst hP hw hK
    obtain ⟨⟨old, he⟩, hit, hne⟩ := st
    obtain ⟨xs, x, hq, hx⟩ := hg
    obtain ⟨its, rv, p, hz⟩ := I.tuple hq
    obtain ⟨u, hu, ru⟩ := rv.get hx
    have pt : s.heap.IsTuple a its.toArray := p
    have hel : e < s.heap.objs.size := Heap.lt_size he
    have hil : it < s.heap.objs.size := by obtain ⟨_, q, _⟩ := hit; exact Heap.lt_size q
    have hat : a ≠ it := by
      obtain ⟨o, ho, hoc, _⟩ := hit
      obtain ⟨o2, ho2, hoc2, _⟩ := id pt
      intro z
      subst z
      rw [ho] at ho2
      cases ho2
      rw [hoc] at hoc2
      exact absurd hoc2 (by decide)
    have hae : a ≠ e := by
      obtain ⟨o2, ho2, hoc2, _⟩ := id pt
      intro z
      subst z
      have he' := id he
      unfold IsEnum at he'
      rw [he'] at ho2
      cases ho2
      have hoc3 : Value.type "enumerate" = Value.type "tuple" := hoc2
      exact absurd hoc3 (by decide)
    have hil2 : i < its.toArray.size := by
      have := (List.getElem?_eq_some_iff.mp hu).1
      simpa using this
    refine wpAny_pyNext_enum_itemD (Draws.tuple (A := X.A.in1) (I.ok.hd hc) it a hat its.toArray) he ⟨hit, pt⟩ hil2 hne (by simp [hne, Ne.symm hae]) fun y h' tk hy ho hst hT hsz hk => ?_
    have hy' : y = u := by
      have hy : its.toArray[i]? = some y := hy
      rw [List.getElem?_toArray, hu] at hy
      exact (Option.some.inj hy).symm
    subst hy'
    refine ⟨_, rfl, wpAny_letOwnedTupleGo_enum (s := { s with heap := h', toks := tk + 1 }) ho fun h'' he' sb => ?_⟩
    have hT2 : h''.get? s.heap.objs.size = some { cls := .type "tuple", data := .seq #[.int i tk, y] } := (sb.2 _ (Nat.ne_of_gt hel)).trans hT
    have new : ObjOk X.prog X.w (upd H s.heap.objs.size (.tup [.int (i : Nat), x])) h'' s.heap.objs.size (.tup [.int (i : Nat), x]) :=
      ⟨by show 2 ≤ sizeLine; decide, [.int i tk, y], .cons ⟨_, rfl⟩ (.cons ru .nil), ⟨_, hT2, rfl, _, rfl⟩⟩
    have I1 : Inv X pins σ (upd H s.heap.objs.size (.tup [.int (i : Nat), x])) { s with heap := h'', toks := tk + 1 } :=
      I.turnedNew (ch := [e, it]) (fun b ob hb q => (sb.2 b (fun z => hb (by simp [z]))).trans (hk b ob (fun z => hb (by simp [z])) (fun z => hb (by simp [z])) q)) hf (Nat.le_refl _) new
    refine ⟨.ref s.heap.objs.size, _, I1, rfl, ⟨_, x, rfl, I.hok.fresh (Nat.le_refl _), rfl, fun ys hy => by rw [I.tuple_inj hy hq]; exact hx⟩, ⟨⟨y, ?_⟩, hst.1.at fun o q => (sb.2 it (Ne.symm hne)).trans q, hne⟩, fun b hb => ?_⟩
    · have e1 : ((i + 1 : Nat) : Int) = (i : Int) + 1 := by omega
      rw [e1]; exact he'
    · have hb' : b < s.heap.objs.size := by
        have e' : b = e ∨ b = it := by simpa using hb
        rcases e' with z | z
        · rw [z]; exact hel
        · rw [z]; exact hil
      rw [upd_ne (Nat.ne_of_lt hb')]
      exact (hf b hb).1
  done := by
    intro X hP hw hK hc i pins s σ H E I hf st hg
    subst hP hw hK
    obtain ⟨⟨old, he⟩, hit, hne⟩ := st
    obtain ⟨xs, hq, hx⟩ := hg
    obtain ⟨its, rv, p, hz⟩ := I.tuple hq
    obtain ⟨f0, f1, f2, f3, f4, f5⟩ := hf it (by simp)
    have hl := rv.length
    have pt : s.heap.IsTuple a its.toArray := p
    have hat : a ≠ it := by
      obtain ⟨o, ho, hoc, _⟩ := hit
      obtain ⟨o2, ho2, hoc2, _⟩ := id pt
      intro z
      subst z
      rw [ho] at ho2
      cases ho2
      rw [hoc] at hoc2
      exact absurd hoc2 (by decide)
    have hT : s.TypeIs (.ref e) "enumerate" := ⟨_, he, rfl⟩
    unfold pyNext
    refine wpAny_bind (wpAny_attempt (wpAny_callSpecial?_slot (name := Str.ofString "__next__") hT F.slot_enumerate_next
      (wpAny_call_entry F.slot_enumerate_next hT F.entry_enumerate_next ?_ (F.args_enumerate_next_1 _))))
    show wpAny _ _ (field (.ref e) 2 >>= _) _ _ _
    refine wpAny_bind (wpAny_field he rfl (x := .ref it) rfl ?_)
    refine wpAny_bind (wpAny_nextOf_tuple_end (I.ok.hd hc) hit pt (by simp; omega) fun h' x he' hx' => ?_)
    obtain ⟨o, ho, hc'⟩ := hx'
    refine wpAny_bind (wpAny_isInstance (T := "StopIteration") (b := true) ⟨o, ho, hc'⟩ isSubtype_stop ?_)
    exact wpAny_pure ⟨rfl, I.turned (t' := s.toks) (fun b o hb q => he' b o hb q) f0 f1 f3 f4 f5⟩
  self := fun A i s Q E st h => let ⟨⟨_, he⟩, _⟩ := st; wpAny_pyIter_enum he h
def iEnu (K : PySem.W.Frag) (ta : TA) : TI := fun σ H R => ta σ H fun vs H1 => ∃ a xs, vs = [.ref a] ∧ ((SqL K H1 a xs ∧ R (Ite K a) H1) ∨ (SqT K H1 a xs ∧ R (IteT K a) H1))
theorem pi_enu {X : Cx} {e : Expr} {ta : TA} {p pos tpos : Pos} {elts : List Expr} {kk : Nat} (hg : Gl X "enumerate") (hm : X.mg "enumerate" = none) (ha : PA X [e] ta) (hs : starEach [e] X.env = [(false, eval e X.env)] := by rfl) :
    PI X (.Tuple elts kk tpos) (.Call (.Name "enumerate" p) [e] [] pos) (iEnu X.K ta) := by
  refine ⟨fun pins s σ H R I h => ?_⟩
  refine Call_ (ld_blt I hg hm boot_enumerate (PyProof.Rows.callWith_type1 (thn (ha.run pos pins s σ H _ I h) fun us s1 ⟨vs, H1, I1, r1, q1⟩ => ?_) hs rfl))
  obtain ⟨a, xs, ex, hq⟩ := q1
  subst ex
  cases r1 with
  | cons r rr =>
    cases rr
    cases r
    have fp : ∀ b ∈ [s1.heap.objs.size + 1, s1.heap.objs.size], FpOk X pins H1 b := fun b hb => by
      have e' : b = s1.heap.objs.size + 1 ∨ b = s1.heap.objs.size := by simpa using hb
      have hle : s1.heap.objs.size ≤ b := by
        rcases e' with z | z
        · rw [z]; exact Nat.le_add_right _ _
        · rw [z]; exact Nat.le_refl _
      exact I1.fpOk hle (I1.hok.fresh hle)
    rcases hq with ⟨hq, q⟩ | ⟨hq, q⟩
    · obtain ⟨its, rv, p', hz⟩ := I1.list hq
      refine call_enumerate_list p'.isList fun h' he hit hsz hk => wpAny_pyIter_enum he ?_
      have I2 : Inv X pins σ H1 { s1 with heap := h' } := I1.kept (t' := s1.toks) hk
      exact ⟨s1.heap.objs.size + 1, [s1.heap.objs.size + 1, s1.heap.objs.size], _, _, H1, rfl, I2, turn_enum a (s1.heap.objs.size + 1) s1.heap.objs.size, ⟨⟨.none, he⟩, hit, Nat.succ_ne_self _⟩, fp, q⟩
    · obtain ⟨its, rv, p', hz⟩ := I1.tuple hq
      refine call_enumT (show s1.heap.IsTuple a its.toArray from p') fun h' he hit hsz hk => wpAny_pyIter_enum he ?_
      have I2 : Inv X pins σ H1 { s1 with heap := h' } := I1.kept (t' := s1.toks) hk
      exact ⟨s1.heap.objs.size + 1, [s1.heap.objs.size + 1, s1.heap.objs.size], _, _, H1, rfl, I2, turn_enumT a (s1.heap.objs.size + 1) s1.heap.objs.size, ⟨⟨.none, he⟩, hit, Nat.succ_ne_self _⟩, fp, q⟩
section
variable {K : PySem.W.Frag} {W : Addr → Prop} {H : Hp}
theorem walks_enumT {a : Addr} {xs : List V} {as : List D} (wa : SqT K H a xs) (fa : FzA K W H xs as) : Walks K W H (IteT K a) (enumD 0 as) := by
  intro i W1 H1 x
  have wa1 := SqT.xt x wa
  refine ⟨fun d e => ?_, fun h => ⟨xs, wa1, by rw [enumD_length] at h; rw [fa.length]; exact h⟩⟩
  obtain ⟨p, e1, rfl⟩ := enumD_get e
  obtain ⟨v, g1, g2⟩ := fa.getD e1
  refine ⟨⟨xs, v, wa1, g1⟩, ?_⟩
  rintro y H2 ⟨T, x1, rfl, nT, rfl, h1⟩
  have q1 := h1 xs wa1
  rw [g1] at q1
  cases q1
  refine ⟨upd_up nT, pair_fz (upd_up nT) upd_same ?_ (g2.xt x)⟩
  rw [Nat.zero_add]
  exact .int _
end
/-- enumerate(x), x a list or a tuple -/
def enuI (fs : DA) : DI := fun ρ => (fs ρ).bind fun p => (frzA p.1).bind fun ds => match ds with
  | [.list a] => some (enumD 0 a, p.2)
  | [.tuple a] => some (enumD 0 a, p.2)
  | _ => none
section
variable {X : Cx} {pos p : Pos} {e : Expr} {elts : List Expr} {kk : Nat} {tpos : Pos} {fs : DA}
theorem pxi_enu (hm : X.mg "enumerate" = none) (ha : PXA X [e] fs) (hg : Gl X "enumerate" := by rfl) (hs : starEach [e] X.env = [(false, eval e X.env)] := by rfl) : PXI X (.Tuple elts kk tpos) (.Call (.Name "enumerate" p) [e] [] pos) (enuI fs) := by
  refine PI.mono (pi_enu hg hm ha hs) ?_
  rintro σ H R ⟨W, ρ, φ, ds, ρ', s, hf, k⟩
  unfold enuI at hf
  obtain ⟨⟨rs, ρ1⟩, e1, hf⟩ := Option.bind_eq_some_iff.mp hf
  obtain ⟨es, e2, hf⟩ := Option.bind_eq_some_iff.mp hf
  refine ⟨W, ρ, φ, rs, ρ1, s, e1, fun vs W1 H1 φ1 l o => ?_⟩
  obtain ⟨o2, fz⟩ := o.fix e2
  split at hf
  · cases hf
    obtain ⟨v, rfl, f1⟩ := fz.one'
    obtain ⟨a, xs, rfl, w1, h1, g1⟩ := f1.list_inv
    exact ⟨a, xs, rfl, .inl ⟨.of h1, k _ _ H1 φ1 o2 (walks_enum (fun _ _ x => x.sq w1 h1) g1)⟩⟩
  · cases hf
    obtain ⟨v, rfl, f1⟩ := fz.one'
    obtain ⟨a, xs, rfl, h1, g1⟩ := f1.tup_inv
    exact ⟨a, xs, rfl, .inr ⟨h1, k _ _ H1 φ1 o2 (walks_enumT h1 g1)⟩⟩
  · cases hf
end
/-! evaluation -/
def enuK : List D × Rho → Option (List D × Rho) := fun p => match p.1 with
  | [.list a] => some (enumD 0 a, p.2)
  | [.tuple a] => some (enumD 0 a, p.2)
  | _ => none
section
variable {ρ : Rho} {fs : DA} {ds : List D}
@[simp] theorem ap_enuI : enuI fs ρ = (fs ρ).bind fun p => (frzA p.1).bind fun ds => enuK (ds, p.2) := rfl
@[simp] theorem enuK_l : enuK ([.list ds], ρ) = some (enumD 0 ds, ρ) := rfl
@[simp] theorem enuK_t : enuK ([.tuple ds], ρ) = some (enumD 0 ds, ρ) := rfl
end
end
end DL

namespace DL
open PySem PySem.Spec PyProof.Rows L2
noncomputable section

/-! ### for x in (l1, l2, ..): .., the own lists l1, l2, .. changed under the name x -/
section
variable {K : PySem.W.Frag} {W W' : Addr → Prop} {H H' : Hp} {σ : L2.St} {ρ : Rho} {φ : Fp} {i j : Nat} {vl : Vl}
def mvF (φ : Fp) (i j : Nat) : Fp := fun k => if k = j then φ i else if k = i then [] else φ k
theorem mvF_in {a : Addr} (h : InF (mvF φ i j) a) : InF φ a := by
  obtain ⟨k, h⟩ := h
  unfold mvF at h
  split at h
  · exact ⟨_, h⟩
  · split at h
    · cases h
    · exact ⟨_, h⟩
theorem mvF_idx {a : Addr} {k : Nat} (h : a ∈ mvF φ i j k) : (k = j ∧ a ∈ φ i) ∨ (k ≠ j ∧ k ≠ i ∧ a ∈ φ k) := by
  unfold mvF at h
  split at h
  · rename_i q; exact .inl ⟨q, h⟩
  · rename_i q
    split at h
    · cases h
    · rename_i q2; exact .inr ⟨q, q2, h⟩
/-- the same object under another name -/
theorem SS.move (s : SS K W H σ ρ φ) (hi : ρ[i]? = some (some vl)) (e : σ[j]? = σ[i]?) (hj : j < ρ.length) (ij : i ≠ j) : SS K W H σ ((ρ.set i none).set j (some vl)) (mvF φ i j) where
  len := by rw [List.length_set, List.length_set, s.len]
  sl := fun k w q => by
    by_cases kj : k = j
    · subst kj
      rw [List.getElem?_set_self (by rw [List.length_set]; exact hj)] at q
      cases q
      obtain ⟨v, h1, h2⟩ := s.sl i vl hi
      refine ⟨v, e.trans h1, ?_⟩
      unfold mvF
      rw [if_pos rfl]
      exact h2
    · rw [List.getElem?_set_ne (Ne.symm kj)] at q
      by_cases ki : k = i
      · subst ki
        have hl : k < ρ.length := (List.getElem?_eq_some_iff.mp hi).1
        rw [List.getElem?_set_self hl] at q
        cases q
      · rw [List.getElem?_set_ne (Ne.symm ki)] at q
        obtain ⟨v, h1, h2⟩ := s.sl k w q
        refine ⟨v, h1, ?_⟩
        unfold mvF
        rw [if_neg kj, if_neg ki]
        exact h2
  em := fun k q => by
    unfold mvF
    by_cases kj : k = j
    · subst kj
      exact absurd (List.getElem?_set_self (by rw [List.length_set]; exact hj)) (q vl)
    · rw [if_neg kj]
      by_cases ki : k = i
      · rw [if_pos ki]
      · rw [if_neg ki]
        refine s.em k fun w z => q w ?_
        rw [List.getElem?_set_ne (Ne.symm kj), List.getElem?_set_ne (Ne.symm ki)]
        exact z
  dj := fun a b x ha hb => by
    rcases mvF_idx ha with ⟨a1, a2⟩ | ⟨a1, a2, a3⟩ <;> rcases mvF_idx hb with ⟨b1, b2⟩ | ⟨b1, b2, b3⟩
    · rw [a1, b1]
    · exact absurd (s.dj _ _ x a2 b3).symm b2
    · exact absurd (s.dj _ _ x a3 b2) a2
    · exact s.dj _ _ x a3 b3
  wf := s.wf
/-- a name bound to what is told nowhere -/
theorem SS.forget (s : SS K W H σ ρ φ) (y : Option V) : SS K W H (σ.set j y) (ρ.set j none) (fun k => if k = j then [] else φ k) where
  len := by rw [List.length_set, List.length_set, s.len]
  sl := fun k w q => by
    by_cases kj : k = j
    · subst kj
      by_cases hl : k < ρ.length
      · rw [List.getElem?_set_self hl] at q
        cases q
      · rw [List.getElem?_eq_none (by rw [List.length_set]; omega)] at q
        cases q
    · rw [List.getElem?_set_ne (Ne.symm kj)] at q
      obtain ⟨v, h1, h2⟩ := s.sl k w q
      refine ⟨v, ?_, ?_⟩
      · rw [List.getElem?_set_ne (Ne.symm kj)]; exact h1
      · rw [if_neg kj]; exact h2
  em := fun k q => by
    by_cases kj : k = j
    · show (if k = j then [] else φ k) = []
      rw [if_pos kj]
    · show (if k = j then [] else φ k) = []
      rw [if_neg kj]
      refine s.em k fun w z => q w ?_
      rw [List.getElem?_set_ne (Ne.symm kj)]
      exact z
  dj := fun a b x ha hb => by
    have f : ∀ k, x ∈ (if k = j then ([] : List Addr) else φ k) → x ∈ φ k := fun k h => by
      split at h
      · cases h
      · exact h
    exact s.dj a b x (f a ha) (f b hb)
  wf := s.wf
theorem forget_in {a : Addr} (h : InF (fun k => if k = j then [] else φ k) a) : InF φ a := by
  obtain ⟨k, h⟩ := h
  refine ⟨k, ?_⟩
  dsimp only at h
  split at h
  · cases h
  · exact h
end
def pks : List Vl → Option (List Nat)
  | [] => some []
  | .pk i :: r => (pks r).bind fun is => some (i :: is)
  | _ :: _ => none
def stepA (v i : Nat) (t : DS) : Fl → Option Fl
  | .nx ρ2 => (at? ρ2 v).bind fun vl2 => if i < ρ2.length then t ((ρ2.set v none).set i (some vl2)) else none
  | _ => none
def goA (v : Nat) (fx : List Nat) (fb : DS) : List Nat → DS
  | [], ρ => some (.nx ρ)
  | i :: is, ρ => if i ≠ v ∧ v < ρ.length ∧ fx.contains i = true then (at? ρ i).bind fun vl => (fb ((ρ.set i none).set v (some vl))).bind (stepA v i (goA v fx fb is)) else none
def forA (v : Nat) (fx : List Nat) (fs : DA) (fb : DS) : DS := fun ρ => (fs ρ).bind fun p => (pks p.1).bind fun is => if p.1.length ≤ 1000 ∧ (is.all fun i => fx.contains i) = true then goA v fx fb is p.2 else none
section
variable {K : PySem.W.Frag} {W : Addr → Prop} {H : Hp} {σ : L2.St}
theorem pks_get : ∀ {vs : List V} {rs : List Vl} {l : List Addr} {is : List Nat}, RXs K W H σ vs rs l → pks rs = some is → vs.length = is.length ∧ ∀ (k i : Nat), is[k]? = some i → ∃ x, vs[k]? = some x ∧ σ[i]? = some (some x)
  | _, _, _, _, .nil, e => by cases e; exact ⟨rfl, fun k i q => by simp at q⟩
  | _, _, _, _, .cons (r := r) h t d, e => by
    cases r with
    | pk i0 =>
      unfold pks at e
      obtain ⟨is, e1, e2⟩ := Option.bind_eq_some_iff.mp e
      cases e2
      obtain ⟨h1, h2⟩ := pks_get t e1
      refine ⟨by rw [List.length_cons, List.length_cons, h1], fun k i q => ?_⟩
      cases k with
      | zero =>
        rw [List.getElem?_cons_zero] at q
        cases q
        cases h with
        | rv h => cases h
        | pk h => exact ⟨_, rfl, h⟩
      | succ k =>
        rw [List.getElem?_cons_succ] at q
        exact h2 k i q
    | _ => cases e
end
section
variable {X : Cx} {pos p tpos : Pos} {es : List Expr} {x : Str} {fs : DA} {sts : List Stmt} {fb : DS} {fx fx' : List Nat} {x1 : Bool}
theorem px_forA (v : Nat) {x1} (hp : PassesOwn (model X.prog X.w) X.A X.env X.xe) (hc : X.calm = true) (hN : X.N.Nodup) (ha : PXA X es fs) (hb : PXSs X fx' sts fb) (hi : X.N[v]? = some x := by rfl)
    (hx : Loc X.env.scope x := by first | exact Or.inl rfl | exact Or.inr rfl) (hf : X.fn x = true ∨ X.env.scope.names.lookup x = some .local := by first | exact .inl rfl | exact .inr rfl | assumption)
    (hfx : ∀ i ∈ fx, i ∈ fx' ∧ i ≠ v := by decide) (hv : v ∈ fx' := by decide) (hs : ∀ x, foldedSetIterable (.Tuple es x1 tpos) X.env x = pure x := by intro _; rfl) : PXS X fx (.For (.Name x p) (.Tuple es x1 tpos) sts [] pos) (forA v fx' fs fb) := by
  refine PS.mono (ps_for hp hc (pi_tup (pe_tup ha)) (pg_name hN hi hx hf) hb hs) ?_
  rintro E σ H ⟨W, ρ, φ, fl, s, hfn, k⟩
  unfold forA at hfn
  obtain ⟨⟨rs, ρ1⟩, e1, hfn⟩ := Option.bind_eq_some_iff.mp hfn
  obtain ⟨is, e2, hfn⟩ := Option.bind_eq_some_iff.mp hfn
  split at hfn
  rotate_left
  · cases hfn
  rename_i hz
  obtain ⟨hz, hall⟩ := hz
  refine ⟨W, ρ, φ, rs, ρ1, s, e1, fun vs W1 H1 φ1 l o => ?_⟩
  obtain ⟨hlen, g⟩ := pks_get o.rx e2
  refine ⟨small_size (by rw [o.rx.length]; exact hz), fun q np => ⟨q, rfl, ⟨vs, .of upd_same⟩, ?_⟩⟩
  have up : ∀ a ob, H1 a = some ob → upd H1 q (.tup vs) a = some ob := fun a ob e => by rw [upd_ne (ne_of_none e np)]; exact e
  have s1 : SS X.K W1 (upd H1 q (.tup vs)) σ ρ1 φ1 := SS.grow o.ss up
  have o1 : OutS X.K W H (InF φ) σ fx ρ1 σ W1 (upd H1 q (.tup vs)) φ1 := ⟨o.ev.trans o.sub (Ev.grow (fp := InF φ1) up), s1, o.sub, fun _ _ => rfl⟩
  refine ⟨fun i m σ' H' => m + i = is.length ∧ ∃ W' ρ' φ', SS X.K W' H' σ' ρ' φ' ∧ Wxt W1 (upd H1 q (.tup vs)) W' H' ∧ (∀ j ∈ is, j ≠ v → σ'[j]? = σ[j]?) ∧ Want X.K W' H' (InF φ') σ' fx E fl ∧ goA v fx' fb (is.drop i) ρ' = some fl,
    ⟨is.length, rfl, W1, ρ1, φ1, s1, Wxt.refl .., fun _ _ _ => rfl, k.after s.hfp o1, hfn⟩, ?_⟩
  rintro i m σ' H' ⟨hm, W', ρ', φ', s', x', hσ, k', hf'⟩
  have sq : SqT X.K H' q vs := SqT.xt x' (.of upd_same)
  by_cases hil : i < is.length
  · rw [List.drop_eq_getElem_cons hil] at hf'
    have gi := g i is[i] (List.getElem?_eq_getElem hil)
    have hmem : is[i] ∈ is := List.getElem_mem hil
    generalize is[i] = ii at hf' gi hmem
    obtain ⟨y0, gy, gσ⟩ := gi
    unfold goA at hf'
    split at hf'
    rotate_left
    · cases hf'
    rename_i hg
    obtain ⟨hiv, hvl, hct⟩ := hg
    obtain ⟨vl, e3, hf'⟩ := Option.bind_eq_some_iff.mp hf'
    obtain ⟨flb, e4, hf'⟩ := Option.bind_eq_some_iff.mp hf'
    cases flb with
    | nx ρ2 =>
      unfold stepA at hf'
      obtain ⟨vl2, e5, hf'⟩ := Option.bind_eq_some_iff.mp hf'
      split at hf'
      rotate_left
      · cases hf'
      rename_i hil2
      have a3 := at?_some e3
      have a5 := at?_some e5
      refine .inr ⟨⟨vs, y0, sq, gy⟩, fun σ'' H'' => m - 1 + (i + 1) = is.length ∧ ∃ W' ρ' φ', SS X.K W' H'' σ'' ρ' φ' ∧ Wxt W1 (upd H1 q (.tup vs)) W' H'' ∧ (∀ j ∈ is, j ≠ v → σ''[j]? = σ[j]?) ∧ Want X.K W' H'' (InF φ') σ'' fx E fl ∧ goA v fx' fb (is.drop (i + 1)) ρ' = some fl, fun σ'' H'' h => ⟨m - 1, by omega, h⟩, fun y H2 hy => ?_⟩
      obtain ⟨rfl, hy⟩ := hy
      have ey := hy vs sq
      rw [gy] at ey
      cases ey
      have hσi : σ'[ii]? = some (some y0) := (hσ ii hmem hiv).trans gσ
      have hvσ : v < σ'.length := by rw [s'.len]; exact hvl
      -- the name stands for the list
      have sA := s'.forget (j := v) (some y0)
      have hA : (ρ'.set v none)[ii]? = some (some vl) := by rw [List.getElem?_set_ne (Ne.symm hiv)]; exact a3
      have sB := sA.move (i := ii) (j := v) hA (by rw [List.getElem?_set_self hvσ, List.getElem?_set_ne (Ne.symm hiv), hσi]) (by rw [List.length_set]; exact hvl) hiv
      have eB : ((ρ'.set v none).set ii none).set v (some vl) = (ρ'.set ii none).set v (some vl) := by
        rw [List.set_comm none none (Ne.symm hiv), List.set_set]
      rw [eB] at sB
      have inB : ∀ a, InF (mvF (fun k => if k = v then [] else φ' k) ii v) a → InF φ' a := fun a h => forget_in (mvF_in h)
      refine ⟨W', _, _, .nx ρ2, sB, e4, fun σ3 W3 H4 φ3 o3 => ?_⟩
      have c1 : σ3[v]? = some (some y0) := (o3.fx v hv).trans (List.getElem?_set_self hvσ)
      have c2 : σ3[ii]? = some (some y0) := by
        rw [o3.fx ii (by simpa using hct), List.getElem?_set_ne (Ne.symm hiv)]
        exact hσi
      have sC := o3.ss.move (i := v) (j := ii) a5 (c2.trans c1.symm) hil2 (Ne.symm hiv)
      have o4 : OutS X.K W' H2 (InF φ') σ' fx ((ρ2.set v none).set ii (some vl2)) σ3 W3 H4 (mvF φ3 v ii) :=
        ⟨o3.ev.mono fun a h => .inl (inB a h), sC, fun a h => (o3.sub a (mvF_in h)).imp (inB a) id, fun j hj => by
          obtain ⟨j1, j2⟩ := hfx j hj
          rw [o3.fx j j1, List.getElem?_set_ne (Ne.symm j2)]⟩
      refine ⟨by omega, W3, _, _, sC, x'.trans (o4.ev.xt s'.notW), fun j hj hjv => ?_, k'.after s'.hfp o4, hf'⟩
      by_cases jj : j = ii
      · rw [jj, c2, gσ]
      · have jf : j ∈ fx' := by simpa using List.all_eq_true.mp hall j hj
        rw [o3.fx j jf, List.getElem?_set_ne (Ne.symm hjv)]
        exact hσ j hj hjv
    | _ => cases hf'
  · have e : is.drop i = [] := List.drop_eq_nil_of_le (by omega)
    rw [e] at hf'
    cases hf'
    exact .inl ⟨⟨vs, sq, by omega⟩, k' σ' W' H' φ' (.refl s')⟩
/-- a, b, c = .. -/
theorem px_par3 (i j l : Nat) {y z : Str} {a b c : Expr} {px py pz pt pos : Pos} {kt k2 pt2} (hc : X.calm = true) (hN : X.N.Nodup) (ha : PXA X [a, b, c] fs) (hi : X.N[i]? = some x := by rfl) (hj : X.N[j]? = some y := by rfl) (hl : X.N[l]? = some z := by rfl)
    (hij : i ≠ j := by decide) (hil : i ≠ l := by decide) (hjl : j ≠ l := by decide)
    (hx : X.env.scope.names.lookup x = some .local := by rfl) (hy : X.env.scope.names.lookup y = some .local := by rfl) (hz : X.env.scope.names.lookup z = some .local := by rfl) (hfx : ∀ k ∈ fx, k ∉ [i, j, l] := by decide)
    (hw : swappedStores [.Tuple [.Name x px, .Name y py, .Name z pz] kt pt] (.Tuple [a, b, c] k2 pt2) X.env = pure (some [x, y, z]) := by rfl)
    (hs : swapsWithSole [.Tuple [.Name x px, .Name y py, .Name z pz] kt pt] (.Tuple [a, b, c] k2 pt2) pos.line X.env = pure false := by rfl) :
    PXS X fx (.Assign [.Tuple [.Name x px, .Name y py, .Name z pz] kt pt] (.Tuple [a, b, c] k2 pt2) pos) (parS fs [nameT i, nameT j, nameT l]) := by
  refine PS.mono (ps_par3 hc hN hi hj hl hij hil hjl hx hy hz ha hw hs) ?_
  intro E σ H h
  obtain ⟨W, ρ, φ, rs, ρ1, s, e1, k⟩ := tXA_par [i, j, l] hfx h
  refine ⟨W, ρ, φ, rs, ρ1, s, e1, fun vs W1 H1 φ1 lf o => ?_⟩
  obtain ⟨hl, q⟩ := k vs W1 H1 φ1 lf o
  match vs, hl with
  | [v, w, u], _ => exact ⟨v, w, u, rfl, q⟩
end
/-! evaluation -/
section
variable {v i : Nat} {fx is : List Nat} {fs : DA} {fb : DS} {ρ : Rho} {rs : List Vl}
@[simp] theorem pks_nil : pks [] = some [] := rfl
@[simp] theorem pks_cons : pks (.pk i :: rs) = (pks rs).bind fun is => some (i :: is) := rfl
@[simp] theorem goA_nil : goA v fx fb [] ρ = some (.nx ρ) := rfl
@[simp] theorem goA_cons : goA v fx fb (i :: is) ρ = if i ≠ v ∧ v < ρ.length ∧ fx.contains i = true then (atK ρ[i]?).bind fun vl => (fb ((ρ.set i none).set v (some vl))).bind (stepA v i (goA v fx fb is)) else none := by rw [goA, at?_ap']
@[simp] theorem stepA_nx {ρ2 : Rho} {t : DS} : stepA v i t (.nx ρ2) = (atK ρ2[v]?).bind fun vl2 => if i < ρ2.length then t ((ρ2.set v none).set i (some vl2)) else none := by rw [stepA, at?_ap']
@[simp] theorem ap_forA : forA v fx fs fb ρ = (fs ρ).bind fun p => (pks p.1).bind fun is => if p.1.length ≤ 1000 ∧ (is.all fun i => fx.contains i) = true then goA v fx fb is p.2 else none := rfl
end
end
end DL

namespace DL
open PySem PySem.Spec PyProof.Rows L2
noncomputable section
/-! ### x = y, the own list under the new name -/
def mvS (j i : Nat) : DS := fun ρ => if i ≠ j ∧ i < ρ.length then (at? ρ j).bind fun vl => some (.nx ((ρ.set j none).set i (some vl))) else none
section
variable {X : Cx} {pos p : Pos} {x y : Str} {fx : List Nat}
theorem px_mv (j i : Nat) {pos' : Pos} (hN : X.N.Nodup) (hj : X.N[j]? = some y := by rfl) (hv : Vis X.env.scope y := by first | exact Or.inl rfl | exact Or.inr (Or.inl rfl) | exact Or.inr (Or.inr rfl)) (hd : (y == ("__debug__" : Str)) = false := by decide)
    (hcd : (y == ("__classdict__" : Str)) = false := by decide) (hi : X.N[i]? = some x := by rfl) (hl : Loc X.env.scope x := by first | exact Or.inl rfl | exact Or.inr rfl) (hx : ∀ k ∈ fx, k ≠ i := by decide)
    (hs : swapsWith (.Name y p) (some (.Name x pos')) pos.line X.env = pure false := by rfl) (hf : X.fn x = true ∨ X.env.scope.names.lookup x = some .local := by first | exact .inl rfl | exact .inr rfl | assumption) : PXS X fx (.Assign [.Name x pos'] (.Name y p) pos) (mvS j i) := by
  refine PS.mono (ps_set hN hi hl (pe_var hj hv hd hcd) hs hf) ?_
  rintro E σ H ⟨W, ρ, φ, fl, s, hfn, k⟩
  unfold mvS at hfn
  split at hfn
  rotate_left
  · cases hfn
  rename_i hz
  obtain ⟨ij, il⟩ := hz
  obtain ⟨vl, e1, hfn⟩ := Option.bind_eq_some_iff.mp hfn
  cases hfn
  have a1 := at?_some e1
  obtain ⟨v, e2, _⟩ := s.sl j vl a1
  refine ⟨v, e2, ?_⟩
  have iσ : i < σ.length := by rw [s.len]; exact il
  have sA := s.forget (j := i) (some v)
  have hA : (ρ.set i none)[j]? = some (some vl) := by rw [List.getElem?_set_ne ij]; exact a1
  have sB := sA.move (i := j) (j := i) hA (by rw [List.getElem?_set_self iσ, List.getElem?_set_ne ij, e2]) (by rw [List.length_set]; exact il) (Ne.symm ij)
  have eB : ((ρ.set i none).set j none).set i (some vl) = (ρ.set j none).set i (some vl) := by
    rw [List.set_comm none none ij, List.set_set]
  rw [eB] at sB
  refine k _ W H _ ⟨Ev.refl .., sB, fun a h => .inl (forget_in (mvF_in h)), fun q hq => ?_⟩
  rw [List.getElem?_set_ne (Ne.symm (hx q hq))]
end
section
variable {i j : Nat} {ρ : Rho}
@[simp] theorem ap_mvS : mvS j i ρ = if i ≠ j ∧ i < ρ.length then (atK ρ[j]?).bind fun vl => some (.nx ((ρ.set j none).set i (some vl))) else none := by unfold mvS; rw [at?_ap']
end
end
end DL

namespace DL
open PySem PySem.Spec PyProof.Rows L2
noncomputable section
/-! tuples that tuple(list) made: known to have no names of their own, so their methods can be called -/
def rTupX (K : PySem.W.Frag) : List V → Hp → VK → Prop := fun vs H Q => ∃ p ys, vs = [.ref p] ∧ SqL K H p ys ∧ ∀ l (o : Obj), H l = none → o.cls = .type "tuple" → o.dict = none → Q (.ref l) (upd H l (.frz o (.tup ys)))
theorem call_tupleX {X : Cx} : CallR X (.type "tuple") (rTupX X.K) := by
  intro pins s σ H vs us Q inv r h
  obtain ⟨p, ys, rfl, sq, q⟩ := h
  obtain ⟨u, rfl, ru⟩ := vals1 r
  cases ru
  obtain ⟨ws, vw, pw, zw⟩ := inv.list sq
  have hw := vw.length
  refine call_tuple_list pw.isList (fun g kg => ?_) (by simp only [List.size_toArray]; omega)
  have inv1 : Inv X pins σ H { s with heap := g } := inv.kept (t' := s.toks) kg
  have nw : g.get? g.objs.size = none := Heap.get?_none_of_le (Nat.le_refl _)
  refine ⟨.ref g.objs.size, upd H g.objs.size (.frz { cls := .type "tuple", data := .seq ws.toArray } (.tup ys)), inv1.laid (t' := s.toks) (o := .frz { cls := .type "tuple", data := .seq ws.toArray } (.tup ys)) (fun b ob e => Heap.get?_push_of_some _ e) (Nat.le_refl _) ⟨Heap.get?_push_size _ rfl, zw, ws, vw, IsTup.new _ _⟩, rfl, q _ _ (inv1.hok.fresh (Nat.le_refl _)) rfl rfl⟩
theorem new_tp {K W H} {Q : VK} {xs ds} {fp : Addr → Prop} (f : FzA K W H xs ds) (wf : ∀ a, W a → ∃ o, H a = some o) (k : ∀ v W' H' l', Ev fp W H W' H' → (∀ a, W' a → ∃ o, H' a = some o) → RV K W' H' v (.tp ds) l' → (∀ a ∈ l', fp a ∨ H a = none) → Q v H') :
    ∀ p (o : Obj), H p = none → o.cls = .type "tuple" → o.dict = none → Q (.ref p) (upd H p (.frz o (.tup xs))) := fun p o np hc hd => by
  have up : ∀ a ob, H a = some ob → upd H p (.frz o (.tup xs)) a = some ob := fun a ob e => by rw [upd_ne (ne_of_none e np)]; exact e
  refine k (.ref p) W _ [] (Ev.grow up) (fun a w => ?_) (.tp ⟨o, upd_same, hc, hd⟩ (f.xt ⟨fun _ h => h, fun a ob e _ => up a ob e⟩)) fun a h => nomatch h
  obtain ⟨ob, e⟩ := wf a w
  exact ⟨ob, up a ob e⟩
def tupleX : Rho → List Vl → Option Vl := fun ρ rs => match rs with
  | [r] => (itm ρ r).bind fun p => if p.1 = true then some (.tp p.2) else none
  | _ => none
theorem vop_tupleX {K : PySem.W.Frag} : VOp K (rTupX K) tupleX := by
  intro W H σ ρ φ vs rs l res Q s rx dj e k
  unfold tupleX at e
  split at e
  · rename_i r
    obtain ⟨⟨b, ds⟩, e1, e⟩ := Option.bind_eq_some_iff.mp e
    split at e
    · rename_i hb
      cases e
      cases hb
      obtain ⟨v, l1, rfl, h1⟩ := rx.one'
      obtain ⟨a, xs, rfl, q1, f1⟩ := h1.itm s e1
      exact ⟨a, xs, rfl, q1, new_tp f1 s.wf k⟩
    · cases e
  · cases e
def tBMT (r : V → List V → Hp → VK → Prop) (to : TE) (t : TA) : TE := fun σ H Q => to σ H fun x H1 => (∃ a xs, x = .ref a ∧ Ktp H1 a xs) ∧ t σ H1 fun ys H2 => r x ys H2 Q
section
variable {X : Cx} {o e : Expr} {es : List Expr} {to : TE} {t : TA} {name : Str} {apos cpos : Pos} {id : String} {r : V → List V → Hp → VK → Prop} {f g : DE}
theorem pe_bmT (slot : Slot "tuple" name id) (hty : typeOf (.builtin id) = pure (.type "method_descriptor")) (hm : MtR X id r) (ho : PE X o to) (ha : PA X [e] t)
    (hbase : attributeBase o name X.env (eval o X.env) = eval o X.env)
    (hfew : ((backTo cpos (starEach [e] X.env)).all (fun x => !x.1) && (backToKw cpos (keywordEach [] X.env)).all (fun x => x.1.isSome)
      && decide ([e].length + ([] : List Keyword).length + (if ([] : List Keyword).isEmpty then 0 else 1) < 30)) = true)
    (hline : (apos.endLine == cpos.line) = true) (hs : starEach [e] X.env = (false, eval e X.env) :: starEach [] X.env) (hplain : (backTo cpos (starEach [] X.env)).any (·.1) = false) :
    PE X (.Call (.Attribute o name apos) [e] [] cpos) (tBMT r to t) := by
  constructor
  intro pins s σ H Q inv h
  refine wpAny_Call_method_late hbase hfew hline rfl (thn (ho.run pins s σ H _ inv h) ?_)
  rintro v s1 ⟨x, H1, inv1, r1, ⟨a, xs, rfl, ob, hk, hc, hd⟩, q1⟩
  cases r1
  have hg : s1.heap.get? a = some ob := (show ObjOk X.prog X.w H1 s1.heap a (.frz ob (.tup xs)) from inv1.hok a _ hk).1
  refine ⟨"tuple", id, PySem.F.plainAttrs_tuple, slot, hty, ⟨ob, hg, hc⟩, fun b eb => ?_, ?_⟩
  · cases eb
    exact ⟨ob, hg, hd⟩
  · have hA := ha.run cpos pins s1 σ H1 _ inv1 q1
    rw [hs] at hA ⊢
    refine Calls.callWith_builtin ?_ (Calls.evalArgs_plain ?_)
    · show (false || (backTo cpos (starEach [] X.env)).any (·.1)) = false
      rw [hplain]
      rfl
    · refine thn hA ?_
      rintro us s2 ⟨ys, H2, inv2, r2, q2⟩
      exact hm pins s2 σ H2 (.ref a) ys (.ref a) us Q inv2 (show L2.RelV (.ref a) (.ref a) from rfl) r2 q2
def dmT (G : List D → D → Option D) (f g : DE) : DE := fun ρ => (f ρ).bind fun p => match p.1 with
  | .tp xs => (g p.2).bind fun q => (curR q.2 q.1).bind fun d => if (SeqAt.shaped (.tuple xs) && SeqAt.shaped d) = true then (G xs d).bind fun z => some (.fz z, q.2) else none
  | _ => none
theorem dm_cntT {K : PySem.W.Frag} {H : Hp} {x y : V} {xs : List D} {d z : D} {Q : VK} (hx : Ct K H x (.tuple xs)) (hy : CtR K H y d) (s1 : SeqAt.shaped (.tuple xs) = true) (s2 : SeqAt.shaped d = true) (e : cntG xs d = some z) (k : ∀ v, Sc v z → Q v H) : rCntD K false x [y] H Q := by
  cases e
  have h := hx.dp (.inl s1)
  cases hx with
  | tup h1 h2 => exact ⟨_, y, d, xs, rfl, rfl, by rw [if_neg (by decide)]; exact h, hy.dp s2, s1, s2, k _ (.int _)⟩
theorem px_dmT (hu : X.A.units + 65 < cLine) (ho : PX X o f) (ha : PX X e g)
    (hbase : attributeBase o "count" X.env (eval o X.env) = eval o X.env := by rfl)
    (hfew : ((backTo cpos (starEach [e] X.env)).all (fun x => !x.1) && (backToKw cpos (keywordEach [] X.env)).all (fun x => x.1.isSome)
      && decide ([e].length + ([] : List Keyword).length + (if ([] : List Keyword).isEmpty then 0 else 1) < 30)) = true := by rfl)
    (hline : (apos.endLine == cpos.line) = true := by rfl) (hs : starEach [e] X.env = (false, eval e X.env) :: starEach [] X.env := by rfl) (hplain : (backTo cpos (starEach [] X.env)).any (·.1) = false := by rfl) :
    PX X (.Call (.Attribute o "count" apos) [e] [] cpos) (dmT cntG f g) := by
  refine PE.mono (pe_bmT PySem.F.slot_tuple_count PySem.F.type_tuple_count (mt_cntT hu) ho (pa_cons ha pa_nil hs) hbase hfew hline hs hplain) ?_
  rintro σ H Q ⟨W, ρ, φ, res, ρ', s, hf, k⟩
  unfold dmT at hf
  obtain ⟨⟨x, ρ1⟩, e1, hf⟩ := Option.bind_eq_some_iff.mp hf
  cases x with
  | tp xs =>
    simp only at hf
    obtain ⟨⟨y, ρ2⟩, e3, hf⟩ := Option.bind_eq_some_iff.mp hf
    obtain ⟨d, e4, hf⟩ := Option.bind_eq_some_iff.mp hf
    split at hf
    · rename_i hq
      obtain ⟨z, e5, hf⟩ := Option.bind_eq_some_iff.mp hf
      cases hf
      obtain ⟨h1, h2⟩ := Bool.and_eq_true_iff.mp hq
      refine ⟨W, ρ, φ, _, ρ1, s, e1, fun v W1 H1 φ1 l1 o1 => ?_⟩
      refine ⟨?_, W1, ρ1, φ1, y, ρ2, o1.ss, e3, fun v2 W2 H2 φ2 l2 o2 => ?_⟩
      · cases o1.rx with
        | rv hr => cases hr with
          | tp a b => exact ⟨_, _, rfl, a⟩
      have o := Out.two s o1 o2
      obtain ⟨v', u', la, lb, ev, c1, c2⟩ := o.rx.two
      cases ev
      have hx : Ct X.K H2 v (.tuple xs) := by
        cases c1 with
        | rv hr => exact RV.ct hr rfl
      exact dm_cntT hx (c2.ctR o.ss e4) h1 h2 e5 fun w hw => k w W2 H2 φ2 [] ⟨o.ev, o.ss, .rv (.fz hw.fz), (fun a h => nomatch h), o.sub, (fun a h => nomatch h)⟩
    · cases hf
  | _ => cases hf
end
/-! evaluation -/
section
variable {ρ : Rho} {f g : DE} {G : List D → D → Option D} {xs ds : List D} {d : D} {i : Nat}
@[simp] theorem tupleX_ow : tupleX ρ [.ow ds] = some (.tp ds) := rfl
@[simp] theorem tupleX_l : tupleX ρ [.fz (.list ds)] = some (.tp ds) := rfl
def dmTK (G : List D → D → Option D) (g : DE) : Vl × Rho → Option (Vl × Rho) := fun p => match p.1 with
  | .tp xs => (g p.2).bind fun q => (curR q.2 q.1).bind fun d => if (SeqAt.shaped (.tuple xs) && SeqAt.shaped d) = true then (G xs d).bind fun z => some (.fz z, q.2) else none
  | _ => none
@[simp] theorem ap_dmT : dmT G f g ρ = (f ρ).bind (dmTK G g) := rfl
@[simp] theorem dmTK_tp : dmTK G g (.tp xs, ρ) = (g ρ).bind fun q => (curR q.2 q.1).bind fun d => if (SeqAt.shaped (.tuple xs) && SeqAt.shaped d) = true then (G xs d).bind fun z => some (.fz z, q.2) else none := rfl
@[simp] theorem fnK_tp {fx : List Nat} {n : Nat} : fnK fx n (.rt (.tp ds) ρ) = some (.tp ds, maskR fx n ρ) := rfl
@[simp] theorem curR_tp : curR ρ (.tp ds) = some (.tuple ds) := rfl
@[simp] theorem notPk_tp : notPk (.tp ds) = true := rfl
@[simp] theorem bindA_tpT {io : List Bool} {rs : List Vl} : bindA (true :: io) (.tp ds :: rs) ρ = (bindA io rs ρ).bind fun q => some (some (.tp ds) :: q.1, q.2) := rfl
@[simp] theorem bindA_tpF {io : List Bool} {rs : List Vl} : bindA (false :: io) (.tp ds :: rs) ρ = (bindA io rs ρ).bind fun q => some (some (.fz (.tuple ds)) :: q.1, q.2) := rfl
@[simp] theorem backA_tp {b : Bool} {io : List Bool} {o : Option Vl} {rs : List Vl} {os : Rho} : backA (b :: io) (.tp ds :: rs) (o :: os) ρ = backA io rs os ρ := by cases b <;> rfl
end
end
end DL

namespace DL
open PySem PySem.Spec PyProof.Rows L2
noncomputable section
/-! the sum of a tuple of ints -/
theorem sum_tupG {prog : Program} {w : World} {A : Around} {E : Value → Shared → Prop} {s : Shared} {a : Addr} {ps : Array (Int × Tok)} {Q : Value → Shared → Prop} (hh : A.handled = none) (ht : s.heap.IsTuple a (intItems ps))
    (h : ∀ g tk u, (∀ b o, s.heap.get? b = some o → g.get? b = some o) → Q (.int (preSum (numAt ps) ps.size) u) { s with heap := g, toks := tk }) :
    wpAny (model prog w) A (call (.builtin "sum") [.ref a]) Q E s := by
  have lt : a < s.heap.objs.size := by obtain ⟨_, e, _⟩ := ht; exact Heap.lt_size e
  have sz : ∀ o : Obj, (s.heap.push o).objs.size = s.heap.objs.size + 1 := fun o => Heap.size_push ..
  refine call_sum_walkG (wpAny_pyIter_tuple ht ?_)
  refine ⟨_, [_, a], [_], _, _, _, numAt ps, rfl, Walks.tuple (A := A.in1) hh _ a (Nat.ne_of_lt lt) (intItems ps), ⟨⟨_, Heap.get?_push_size _ rfl, rfl, rfl⟩, ht.push _⟩, fun c hc => ?_, (fun _ _ => intItems_at), fun g tk u hk => ?_⟩
  · show c < (s.heap.push _).objs.size
    rw [sz]
    rcases List.mem_cons.mp hc with rfl | hc
    · exact Nat.lt_succ_self _
    · rcases List.mem_cons.mp hc with rfl | hc
      · exact Nat.lt_succ_of_lt lt
      · cases hc
  · have old : ∀ c o, s.heap.get? c = some o → g.get? c = some o := fun c o e => by
      refine hk c o (fun hm => ?_) (Heap.get?_push_of_some _ e)
      rcases List.mem_cons.mp hm with e1 | hm
      · have := Heap.lt_size e
        rw [e1] at this
        exact Nat.lt_irrefl _ this
      · cases hm
    have := h g tk u old
    simpa [intItems] using this
def rSumT (K : PySem.W.Frag) : List V → Hp → VK → Prop := fun vs H Q => ∃ (a : Addr) (ns : List Int), vs = [V.ref a] ∧ SqT K H a (ns.map V.int) ∧ Q (.int ns.sum) H
theorem cr_sumT {X : Cx} (hc : X.calm = true) : CallR X (.builtin "sum") (rSumT X.K) := by
  intro pins s σ H vs us Q inv r h
  obtain ⟨a, ns, rfl, hs, q⟩ := h
  obtain ⟨ws, vw, pw, zw⟩ := inv.tuple hs
  rw [Vals.ref1 r]
  have hi := vw.ints
  obtain ⟨ps, e⟩ := hi.allInts.items
  have hn : numsOf (intItems ps).toList = ns := by rw [← e]; exact hi.numsOf
  rw [nums_intItems] at hn
  have pt : s.heap.IsTuple a (intItems ps) := by
    rw [← e]
    exact pw
  refine sum_tupG (inv.ok.hd hc) pt fun g tk u hk => ?_
  have e2 : preSum (numAt ps) ps.size = ns.sum := by rw [preSum_eq, List.take_of_length_le (by simp), hn]
  rw [e2]
  exact ⟨.int _, H, inv.kept hk, ⟨_, rfl⟩, q⟩
def sumU := ctF fun ds => match ds with
  | [.tuple xs] => (intsD xs).bind fun ns => some (.int ns.sum)
  | _ => none
theorem vop_sumU {K : PySem.W.Frag} : VOp K (rSumT K) sumU := vop_ct fun H vs ds z Q ct e k => by
  (try dsimp only at e)
  split at e
  · obtain ⟨ns, e1, e⟩ := Option.bind_eq_some_iff.mp e
    cases e
    obtain rfl := intsD_inv e1
    obtain ⟨v, rfl, c⟩ := ct.one
    cases c with
    | ct c => cases c with
      | tup h r =>
        obtain rfl := r.ints
        exact ⟨_, ns, rfl, h, k _ (.int _)⟩
  · cases e
@[simp] theorem sumU_tp {ρ : Rho} {ds : List D} : sumU ρ [.tp ds] = sumD ds := by
  unfold sumU ctF sumD
  simp only [curA_cons, curA_nil, curR_tp, Option.bind_some]
  cases intsD ds <;> rfl
end
end DL

namespace DL
open PySem PySem.Spec PyProof.Rows L2
noncomputable section
/-! sorted, of lists of ints -/
def roI (xs : List Int) : D := .list (xs.map .int)
def insR (a : List Int) : List (List Int) → List (List Int)
  | [] => [a]
  | b :: r => if a ≤ b then a :: b :: r else b :: insR a r
def sortR : List (List Int) → List (List Int)
  | [] => []
  | a :: r => insR a (sortR r)
theorem insR_perm (a : List Int) : ∀ l : List (List Int), (insR a l).Perm (a :: l)
  | [] => .refl _
  | b :: r => by
    rw [insR]
    split
    · exact .refl _
    · exact ((insR_perm a r).cons b).trans (.swap a b r)
theorem leR_total (a b : List Int) : a ≤ b ∨ b ≤ a := List.le_total a b
theorem leR_trans {a b c : List Int} (h : a ≤ b) (h2 : b ≤ c) : a ≤ c := List.le_trans h h2
theorem leR_anti {a b : List Int} (h : a ≤ b) (h2 : b ≤ a) : a = b := List.le_antisymm h h2
theorem insR_sorted (a : List Int) : ∀ l : List (List Int), l.Pairwise (· ≤ ·) → (insR a l).Pairwise (· ≤ ·)
  | [], _ => by rw [insR]; exact List.pairwise_singleton _ _
  | b :: r, h => by
    rw [insR]
    obtain ⟨h1, h2⟩ := List.pairwise_cons.mp h
    split
    · rename_i q
      exact List.pairwise_cons.mpr ⟨fun c hc => (List.mem_cons.mp hc).elim (fun e => e ▸ q) fun z => leR_trans q (h1 c z), h⟩
    · rename_i q
      refine List.pairwise_cons.mpr ⟨fun c hc => ?_, insR_sorted a r h2⟩
      rcases List.mem_cons.mp ((insR_perm a r).mem_iff.mp hc) with e | z
      · rw [e]; exact (leR_total a b).resolve_left q
      · exact h1 c z
theorem sortR_perm : ∀ l : List (List Int), (sortR l).Perm l
  | [] => .refl _
  | a :: r => (insR_perm a _).trans ((sortR_perm r).cons a)
theorem sortR_sorted : ∀ l : List (List Int), (sortR l).Pairwise (· ≤ ·)
  | [] => .nil
  | a :: r => insR_sorted a _ (sortR_sorted r)
theorem sortR_unique : ∀ {k l : List (List Int)}, k.Perm l → k.Pairwise (· ≤ ·) → l.Pairwise (· ≤ ·) → k = l
  | [], l, p, _, _ => by rw [List.nil_perm.mp p]
  | a :: k, [], p, _, _ => by have := p.length_eq; cases this
  | a :: k, b :: l, p, h1, h2 => by
    obtain ⟨q1, r1⟩ := List.pairwise_cons.mp h1
    obtain ⟨q2, r2⟩ := List.pairwise_cons.mp h2
    have ab : a ≤ b := by
      rcases List.mem_cons.mp (p.mem_iff.mpr List.mem_cons_self) with e | z
      · exact e ▸ List.le_refl b
      · exact q1 b z
    have ba : b ≤ a := by
      rcases List.mem_cons.mp (p.mem_iff.mp List.mem_cons_self) with e | z
      · exact e ▸ List.le_refl a
      · exact q2 a z
    obtain rfl := leR_anti ab ba
    rw [sortR_unique (List.Perm.cons_inv p) r1 r2]
def lePR (p q : List Int × V) : Bool := decide (p.1 ≤ q.1)
theorem msort_fst (l : List (List Int × V)) : (l.mergeSort lePR).map (·.1) = sortR (l.map (·.1)) := by
  refine sortR_unique (((List.mergeSort_perm l lePR).map _).trans (sortR_perm _).symm) ?_ (sortR_sorted _)
  rw [List.pairwise_map]
  have h := List.pairwise_mergeSort (le := lePR) (fun a b c h1 h2 => decide_eq_true (leR_trans (of_decide_eq_true h1) (of_decide_eq_true h2))) (fun a b => by
    rcases leR_total a.1 b.1 with q | q
    · rw [show lePR a b = true from decide_eq_true q]; rfl
    · rw [show lePR b a = true from decide_eq_true q, Bool.or_true]) l
  exact h.imp fun q => of_decide_eq_true q
theorem zip_fst : ∀ {L : List (List Int)} {xs : List V}, L.length = xs.length → (L.zip xs).map (·.1) = L
  | [], [], _ => rfl
  | a :: L, x :: xs, h => by rw [List.zip_cons_cons, List.map_cons, zip_fst (by simpa using h)]
def rSortedR (K : PySem.W.Frag) : List V → Hp → VK → Prop := fun vs H Q => ∃ (a : Addr) (xs : List V) (L : List (List Int)), vs = [.ref a] ∧ SqL K H a xs ∧ L.length = xs.length ∧ DpAll K H xs (L.map roI) ∧ ∀ p, H p = none → Q (.ref p) (upd H p (.lst (((L.zip xs).mergeSort lePR).map (·.2))))
theorem each_zip : ∀ {L : List (List Int)} {xs : List V} {ws : List Value}, L.length = xs.length → Vals xs ws → PySem.W.EachIs (fun v (b : List Int × V) => RelV b.2 v) ws (L.zip xs)
  | [], [], _, _, .nil => .nil
  | a :: L, x :: xs, _, h, .cons r t => .cons r (each_zip (by simpa using h) t)
theorem vals_each : ∀ {bs : List (List Int × V)} {ws : List Value}, PySem.W.EachIs (fun v (b : List Int × V) => RelV b.2 v) ws bs → Vals (bs.map (·.2)) ws
  | _, _, .nil => .nil
  | _, _, .cons r t => .cons r (vals_each t)
theorem roI_depth (xs : List Int) : PyData.depth (roI xs) = 1 := by
  unfold roI
  rw [PyData.depth, PySem.W.depth_ints]
theorem cr_sortedR {X : Cx} (hu : X.A.units + 65 < cLine) : CallR X (.builtin "sorted") (rSortedR X.K) := by
  intro pins s σ H vs us Q inv r h
  obtain ⟨a, xs, L, rfl, hs, hl, dp, q⟩ := h
  rw [Vals.ref1 r]
  obtain ⟨ws, vw, pw, zw⟩ := inv.list hs
  obtain ⟨as, rd⟩ := Dp.readsAll inv _ xs ws dp vw
  have em : (L.zip xs).map (fun b => roI b.1) = L.map roI := by
    rw [← zip_fst hl, List.map_map, zip_fst hl]
    rfl
  rw [← em] at rd
  have lz : (L.zip xs).length = xs.length := by rw [List.length_zip, hl, Nat.min_self]
  refine PySem.W.sorted_data (enc := fun b : List Int × V => roI b.1) (R := fun v b => RelV b.2 v) pw.isList (each_zip hl vw) (PySem.W.readsAll_each _ rd) (PySem.W.AllAlike.of fun b c => ?_) (PySem.W.Sortable.others fun b => ⟨(fun e => nomatch e), fun _ e => nomatch e⟩) (by rw [lz]; exact zw) (fun b _ => by rw [roI_depth]; omega) fun out lo eo => ?_
  · show PySem.W.alike (.list _) (.list _) = true
    simp only [PySem.W.alike]
    exact PySem.W.alike_ints _ _
  · have el : PySem.W.dataLe false (fun b : List Int × V => roI b.1) = lePR := PySem.W.dataLe_rows (fun b : List Int × V => b.1)
    rw [el] at eo
    obtain ⟨ep, he⟩ := PyProof.Rows.sortedAll_at s.heap ws out.toArray
    have hz : (((L.zip xs).mergeSort lePR).map (·.2)).length ≤ sizeLine := by
      rw [List.length_map, List.length_mergeSort, lz]
      exact zw
    exact ⟨.ref _, _, inv.laid (t' := s.toks) (o := .lst (((L.zip xs).mergeSort lePR).map (·.2))) (fun _ _ => PyProof.Rows.sortedAll_old) (Nat.le_succ _) ⟨hz, out, ep, vals_each eo, he⟩, rfl, q _ (inv.hok.fresh (Nat.le_succ _))⟩
def rowsD : List D → Option (List (List Int))
  | [] => some []
  | .list xs :: r => (intsD xs).bind fun ns => (rowsD r).bind fun L => some (ns :: L)
  | _ => none
theorem rowsD_inv : ∀ {ds : List D} {L : List (List Int)}, rowsD ds = some L → ds = L.map roI
  | [], _, h => by cases h; rfl
  | .list xs :: r, _, h => by
    unfold rowsD at h
    obtain ⟨ns, e1, h⟩ := Option.bind_eq_some_iff.mp h
    obtain ⟨L, e2, h⟩ := Option.bind_eq_some_iff.mp h
    cases h
    rw [intsD_inv e1, rowsD_inv e2]
    rfl
  | .none :: _, _, h => by cases h
  | .bool _ :: _, _, h => by cases h
  | .int _ :: _, _, h => by cases h
  | .str _ :: _, _, h => by cases h
  | .tuple _ :: _, _, h => by cases h
  | .dict _ :: _, _, h => by cases h
@[simp] theorem rowsD_map : ∀ L : List (List Int), rowsD (L.map roI) = some L
  | [] => rfl
  | a :: L => by
    rw [List.map_cons]
    show (intsD (a.map .int)).bind _ = _
    rw [intsD_map, Option.bind_some, rowsD_map L]
    rfl
def sortLF : Rho → List Vl → Option Vl := fun ρ rs => match rs with
  | [r] => (itm ρ r).bind fun p => if p.1 = true then (rowsD p.2).bind fun L => some (.ow ((sortR L).map roI)) else none
  | _ => none
theorem ct_rows {K : PySem.W.Frag} {H : Hp} : ∀ {L : List (List Int)} {xs : List V}, CtA K H xs (L.map roI) → DpAll K H xs (L.map roI)
  | [], _, .nil => .nil
  | a :: L, _, .cons h t => .cons (h.dp (.inr (by
    unfold roI
    rw [PyData.canLay0]
    exact (lay_ints' a))) ) (ct_rows t)
where lay_ints' : ∀ ns : List Int, PyData.canLayAll0 (ns.map .int) = true
  | [] => rfl
  | n :: r => by rw [List.map_cons, PyData.canLayAll0, lay_ints' r]; rfl
theorem fz_zip {K : PySem.W.Frag} {W : Addr → Prop} {H : Hp} : ∀ {L : List (List Int)} {xs : List V}, FzA K W H xs (L.map roI) → L.length = xs.length ∧ ∀ b ∈ L.zip xs, Fz K W H b.2 (roI b.1)
  | [], _, .nil => ⟨rfl, fun b hb => nomatch hb⟩
  | a :: L, _, .cons h t => by
    obtain ⟨h1, h2⟩ := fz_zip t
    refine ⟨by rw [List.length_cons, List.length_cons, h1], fun b hb => ?_⟩
    rw [List.zip_cons_cons] at hb
    rcases List.mem_cons.mp hb with rfl | hb
    · exact h
    · exact h2 b hb
theorem fz_map {K : PySem.W.Frag} {W : Addr → Prop} {H : Hp} : ∀ {l : List (List Int × V)}, (∀ b ∈ l, Fz K W H b.2 (roI b.1)) → FzA K W H (l.map (·.2)) (l.map fun b => roI b.1)
  | [], _ => .nil
  | b :: l, h => .cons (h b List.mem_cons_self) (fz_map fun c hc => h c (List.mem_cons_of_mem _ hc))
theorem vop_sortedR {K : PySem.W.Frag} : VOp K (rSortedR K) sortLF := by
  intro W H σ ρ φ vs rs l res Q s rx dj e k
  unfold sortLF at e
  split at e
  · rename_i r
    obtain ⟨⟨b, ds⟩, e1, e⟩ := Option.bind_eq_some_iff.mp e
    split at e
    · rename_i hb
      cases hb
      obtain ⟨L, e2, e⟩ := Option.bind_eq_some_iff.mp e
      cases e
      obtain rfl := rowsD_inv e2
      obtain ⟨v, l1, rfl, h1⟩ := rx.one'
      obtain ⟨a, xs, rfl, q1, f1⟩ := h1.itm s e1
      obtain ⟨hl, hz⟩ := fz_zip f1
      refine ⟨a, xs, L, rfl, q1, hl, ct_rows f1.ct, new_list ?_ s.wf k⟩
      have em : ((L.zip xs).mergeSort lePR).map (fun b => roI b.1) = (sortR L).map roI := by
        have := msort_fst (L.zip xs)
        rw [zip_fst hl] at this
        rw [← this, List.map_map]
        rfl
      rw [← em]
      exact fz_map fun b hb => hz b (List.mem_mergeSort.mp hb)
    · cases e
  · cases e
@[simp] theorem sortLF_ow {ρ : Rho} {L : List (List Int)} : sortLF ρ [.ow (L.map roI)] = some (.ow ((sortR L).map roI)) := by
  show ((rowsD (L.map roI)).bind fun L => some (Vl.ow ((sortR L).map roI))) = _
  rw [rowsD_map]
  rfl
@[simp] theorem sortLF_l {ρ : Rho} {L : List (List Int)} : sortLF ρ [.fz (.list (L.map roI))] = some (.ow ((sortR L).map roI)) := by
  show ((rowsD (L.map roI)).bind fun L => some (Vl.ow ((sortR L).map roI))) = _
  rw [rowsD_map]
  rfl
end
end DL

namespace DL
open PySem PySem.Spec PyProof.Rows L2
noncomputable section
/-! the sum of a list or a tuple of ints -/
def sumB : Rho → List Vl → Option Vl := ctF fun ds => match ds with
  | [.tuple xs] => (intsD xs).bind fun ns => some (.int ns.sum)
  | [.list xs] => (intsD xs).bind fun ns => some (.int ns.sum)
  | _ => none
theorem vop_sumB {K : PySem.W.Frag} : VOp K (fun xs H Q => rSum K xs H Q ∨ rSumT K xs H Q) sumB := vop_ct fun H vs ds z Q ct e k => by
  (try dsimp only at e)
  split at e
  · obtain ⟨ns, e1, e⟩ := Option.bind_eq_some_iff.mp e
    cases e
    obtain rfl := intsD_inv e1
    obtain ⟨v, rfl, c⟩ := ct.one
    cases c with
    | ct c => cases c with
      | tup h r =>
        obtain rfl := r.ints
        exact .inr ⟨_, ns, rfl, h, k _ (.int _)⟩
  · obtain ⟨ns, e1, e⟩ := Option.bind_eq_some_iff.mp e
    cases e
    obtain rfl := intsD_inv e1
    obtain ⟨v, rfl, c⟩ := ct.one
    obtain ⟨a, xs, rfl, h, r⟩ := c.list_inv
    obtain rfl := r.ints
    exact .inl ⟨a, ns, rfl, h, k _ (.int _)⟩
  · cases e
theorem cr_sumB {X : Cx} (hc : X.calm = true) : CallR X (.builtin "sum") (fun xs H Q => rSum X.K xs H Q ∨ rSumT X.K xs H Q) := CallR.or (cr_sum hc) (cr_sumT hc)
@[simp] theorem sumB_l {ρ : Rho} {ds : List D} : sumB ρ [.fz (.list ds)] = sumD ds := by
  unfold sumB ctF sumD
  simp only [curA_cons, curA_nil, curR_fz, Option.bind_some]
  cases intsD ds <;> rfl
@[simp] theorem sumB_ow {ρ : Rho} {ds : List D} : sumB ρ [.ow ds] = sumD ds := by
  unfold sumB ctF sumD
  simp only [curA_cons, curA_nil, curR_ow, Option.bind_some]
  cases intsD ds <;> rfl
@[simp] theorem sumB_t {ρ : Rho} {ds : List D} : sumB ρ [.fz (.tuple ds)] = sumD ds := by
  unfold sumB ctF sumD
  simp only [curA_cons, curA_nil, curR_fz, Option.bind_some]
  cases intsD ds <;> rfl
end
end DL

namespace DL
open PySem PySem.Spec PyProof.Rows L2
noncomputable section
/-! set(l) of a list of ints -/
def nSet (w : World) : Obj := { cls := .type "set", dict := none, data := .set #[] 0 (.fresh 0 0 (!w.params.followText "set-order")) }
section
variable {P : Program} {w : World} {A : Around} {E : Value → Shared → Prop} {s : Shared}
set_option maxHeartbeats 3200000 in
theorem set_lisI {l : Addr} {its : Array Value} (ns : List Int) {Q : Value → Shared → Prop} (hh : A.handled = none) (hl : s.heap.IsList l its) (hit : IntsAre its.toList ns) (hb : ns.length + 1 < scanBound)
    (h : ∀ (g : Heap) (tk c : Nat), SetR w g s.heap.objs.size (fun j => decide (j ∈ ns)) c → c ≤ ns.length → (∀ b o, s.heap.get? b = some o → g.get? b = some o) → Q (.ref s.heap.objs.size) { s with heap := g, toks := tk }) :
    wpAny (model P w) A (call (.type "set") [.ref l]) Q E s := by
  have sz : its.size = ns.length := by
    have := IntsAre.length hit
    rwa [Array.length_toList] at this
  have ⟨c, tl, mro⟩ := F.called_set.mro
  have made := F.called_set.made; have sub := F.called_set.sub
  refine wpAny_call (codeAny_of_tree ?_); show wpAny _ _ (callAny (.type "set") _) _ _ _
  refine wpAny_pure ⟨Code.quiet_builtin _ (by decide +kernel), codeAny_builtin F.entry_type_call ?_⟩; rw [Around.under_plain (weight_type_call_type "set" [.ref l] []) rfl]
  have t1 := F.called_set.notType; have t2 := F.called_set.canCreate; have t3 := F.typeCall_set_1 (.ref l)
  repeat (any_goals (first | assumption | wp_step)) -- the new object
  refine codeAny_mono (code_set_led1 (.ref l) (E := E) (Q₁ := fun obj s₁ => obj = .ref s.heap.objs.size ∧ s₁ = { s with heap := s.heap.push (nSet w) }) ⟨rfl, rfl⟩) fun r s1 hr => ?_
  cases r with
  | error e => exact hr
  | ok fl => cases fl with
    | ret obj =>
      obtain ⟨rfl, rfl⟩ := hr
      have gS : (s.heap.push (nSet w)).get? s.heap.objs.size = some (nSet w) := Heap.get?_push_size _ rfl
      have tS : Shared.TypeIs { s with heap := s.heap.push (nSet w) } (.ref s.heap.objs.size) "set" := ⟨_, gS, rfl⟩
      have i1 := F.called_set.init.lookup; have i2 := F.called_set.init.bind (.ref s.heap.objs.size)
      repeat (any_goals (first | assumption | wp_step)) -- its filling
      refine codeAny_mono (codeAny_call_builtin (R := wants (fun r s₂ => r = .none ∧ ∃ g tk c, s₂ = { s with heap := g, toks := tk } ∧ SetR w g s.heap.objs.size (fun j => decide (j ∈ ns)) c ∧ c ≤ ns.length ∧ (∀ b o, s.heap.get? b = some o → g.get? b = some o)) E) F.called_set.init.plain F.entry_set_init (check_set_init_1 tS ?_)) fun r2 s2 hr2 => ?_
      · obtain ⟨⟨ocls, odict, odata, oslots⟩, ol, cl, nl, dl⟩ := hl
        simp only at cl dl
        subst cl; subst dl
        have ol2 : (s.heap.push (nSet w)).get? l = some { cls := .type "list", dict := odict, data := .seq its nl, slots := oslots } := Heap.get?_push_of_some _ ol
        have u1 := F.sub_list_set; have u2 := F.sub_list_frozenset
        have u3 : (Value.type "list" == Value.type "dict") = false := by decide
        have l2 : (s.heap.push (nSet w)).IsList l its := ⟨_, ol2, rfl, nl, rfl⟩
        unfold Builtin.«set.__init__» noKeywords Builtin.Frozenset.updateFrom
        generalize hPI : pyIter = PI; wp_walk
        subst hPI; refine wpAny_pyIter_list l2 ?_
        refine wpAny_bind (wpAny_runValue ?_)
        have lt : l < s.heap.objs.size := Heap.lt_size ol
        have h3 : A.in1.in1.in1.handled = none := by simp [hh]
        have z1 : (s.heap.push (nSet w)).objs.size = s.heap.objs.size + 1 := Heap.size_push ..
        have ne : l ≠ (s.heap.push (nSet w)).objs.size := by rw [z1]; exact Nat.ne_of_lt (Nat.lt_succ_of_lt lt)
        have nf : s.heap.objs.size ∉ [(s.heap.push (nSet w)).objs.size, l] := by
          rw [z1]
          intro q
          rcases List.mem_cons.mp q with q | q
          · exact absurd q (Nat.ne_of_lt (Nat.lt_succ_self _))
          · exact absurd (List.mem_singleton.mp q) (Nat.ne_of_gt lt)
        have val : ∀ (i : Nat) (v : Value), its[i]? = some v → ∃ k t, ns[i]? = some k ∧ v = .int k t := fun i v hv => by
          have hi : i < ns.length := by rw [← sz]; exact (Array.getElem?_eq_some_iff.mp hv).1
          obtain ⟨t, e⟩ := PyProof.Rows.IntsAre.int_at hit i v (by rw [Array.getElem?_toList]; exact hv)
          refine ⟨ns[i], t, List.getElem?_eq_getElem hi, ?_⟩
          rw [e, List.getD_eq_getElem?_getD, List.getElem?_eq_getElem hi]
          rfl
        refine set_update_ints ((Walks.list h3 _ l ne its).toS) s.heap.objs.size nf ns sz hb val (its.size - 0) 0 _ (by omega) (Nat.zero_le _) ⟨⟨_, Heap.get?_push_size _ rfl, rfl, rfl⟩, l2.push _⟩ ?start ?fin
        case start =>
          exact ⟨0, Nat.le_refl 0, setR_new_at (Heap.get?_push_of_some _ gS)⟩
        case fin =>
          rintro ⟨g, g2, d, tk, os⟩ c' hm hc' hS'
          have eg : g2 = s.gens := hm.gens
          have ed : d = s.drawn := hm.drawn
          have eo : os = s.os := hm.os
          subst eg; subst ed; subst eo
          refine wpAny_pure ?_
          show wpAny _ _ (ret Value.none) _ _ _
          rw [sz] at hc'
          refine wpAny_pure ⟨rfl, g, tk, c', rfl, hS', hc', fun b o e => ?_⟩
          have b0 : b < s.heap.objs.size := Heap.lt_size e
          refine hm.heap b o (fun q => ?_) (Heap.get?_push_of_some _ (Heap.get?_push_of_some _ e))
          rcases List.mem_cons.mp q with q | q
          · exact absurd q (Nat.ne_of_lt b0)
          · exact absurd ((List.mem_singleton.mp q).trans z1) (Nat.ne_of_lt (Nat.lt_succ_of_lt b0))
      · cases r2 with
        | error e => exact hr2
        | ok fl2 => cases fl2 with
          | ret r =>
            obtain ⟨rfl, g, tk, c', rfl, hS', hc', hk'⟩ := hr2
            repeat (any_goals (first | assumption | wp_step)) -- done
            exact h _ _ _ hS' hc' hk'
          | _ => exact hr2.elim
    | _ => exact hr.elim
end
/-- the set -/
theorem cr_setI {X : Cx} (hc : X.calm = true) : CallR X (.type "set") (fun vs H Q => ∃ (a : Addr) (ns : List Int), vs = [V.ref a] ∧ (SqL X.K H a (ns.map V.int) ∨ SqT X.K H a (ns.map V.int)) ∧ ns.length < 64 ∧ ∀ (q : Addr) (c : Nat), c ≤ ns.length → H q = none → Q (.ref q) (upd H q (SetO X.w q (fun j => decide (j ∈ ns)) c))) := by
  intro pins s σ H vs us Q inv r h
  obtain ⟨a, ns, rfl, hs, few, q⟩ := h
  rw [Vals.ref1 r]
  have sb : ns.length + 1 < scanBound := by unfold scanBound; omega
  have fin : ∀ (g : Heap) (tk c : Nat), SetR X.w g s.heap.objs.size (fun j => decide (j ∈ ns)) c → c ≤ ns.length → (∀ b o, s.heap.get? b = some o → g.get? b = some o) → EP X pins σ Q (.ref s.heap.objs.size) { s with heap := g, toks := tk } := fun g tk c hS hcn k =>
    ⟨.ref _, upd H s.heap.objs.size (SetO X.w s.heap.objs.size (fun j => decide (j ∈ ns)) c), inv.laid (t' := tk) k (Nat.le_refl _) (setO_new hS), rfl, q _ c hcn (inv.hok.fresh (Nat.le_refl _))⟩
  rcases hs with hs | hs
  · obtain ⟨ws, vw, pw, zw⟩ := inv.list hs
    exact set_lisI ns (inv.ok.hd hc) pw.isList vw.ints sb fin
  · obtain ⟨ws, vw, pw, zw⟩ := inv.tuple hs
    exact call_set_tupI ns (inv.ok.hd hc) (show s.heap.IsTuple a ws.toArray from pw) vw.ints sb fin
/-! sorted(set(x)) -/
def insU (a : Int) : List Int → List Int
  | [] => [a]
  | b :: r => if a < b then a :: b :: r else if a = b then b :: r else b :: insU a r
def ssI : List Int → List Int
  | [] => []
  | a :: r => insU a (ssI r)
theorem insU_mem {a k : Int} : ∀ {l : List Int}, k ∈ insU a l ↔ k = a ∨ k ∈ l
  | [] => by rw [insU]; simp
  | b :: r => by
    rw [insU]
    split
    · simp
    · split
      · rename_i q
        subst q
        simp
      · rw [List.mem_cons, insU_mem (l := r), List.mem_cons]
        constructor
        · rintro (h | h | h)
          · exact .inr (.inl h)
          · exact .inl h
          · exact .inr (.inr h)
        · rintro (h | h | h)
          · exact .inr (.inl h)
          · exact .inl h
          · exact .inr (.inr h)
theorem insU_up {a : Int} : ∀ {l : List Int}, l.Pairwise (· < ·) → (insU a l).Pairwise (· < ·)
  | [], _ => by rw [insU]; exact List.pairwise_singleton _ _
  | b :: r, h => by
    obtain ⟨h1, h2⟩ := List.pairwise_cons.mp h
    rw [insU]
    split
    · rename_i q
      refine List.pairwise_cons.mpr ⟨fun c hc => ?_, h⟩
      rcases List.mem_cons.mp hc with rfl | hc
      · exact q
      · have := h1 c hc; omega
    · split
      · exact h
      · refine List.pairwise_cons.mpr ⟨fun c hc => ?_, insU_up h2⟩
        rcases insU_mem.mp hc with rfl | hc
        · omega
        · exact h1 c hc
theorem ssI_mem {k : Int} : ∀ {l : List Int}, k ∈ ssI l ↔ k ∈ l
  | [] => Iff.rfl
  | a :: r => by rw [ssI, insU_mem, ssI_mem, List.mem_cons]
theorem ssI_up : ∀ {l : List Int}, (ssI l).Pairwise (· < ·)
  | [] => List.Pairwise.nil
  | a :: r => insU_up ssI_up
theorem up_unique : ∀ {k l : List Int}, k.Pairwise (· < ·) → l.Pairwise (· < ·) → (∀ x, x ∈ k ↔ x ∈ l) → k = l
  | [], [], _, _, _ => rfl
  | [], b :: l, _, _, h => by have := (h b).mpr List.mem_cons_self; cases this
  | a :: k, [], _, _, h => by have := (h a).mp List.mem_cons_self; cases this
  | a :: k, b :: l, h1, h2, h => by
    obtain ⟨p1, q1⟩ := List.pairwise_cons.mp h1
    obtain ⟨p2, q2⟩ := List.pairwise_cons.mp h2
    have e : a = b := by
      rcases List.mem_cons.mp ((h a).mp List.mem_cons_self) with z | z
      · exact z
      · rcases List.mem_cons.mp ((h b).mpr List.mem_cons_self) with y | y
        · exact y.symm
        · have := p1 b y
          have := p2 a z
          omega
    subst e
    rw [up_unique q1 q2 fun x => ?_]
    constructor
    · intro hx
      rcases List.mem_cons.mp ((h x).mp (List.mem_cons_of_mem _ hx)) with z | z
      · have := p1 x hx; omega
      · exact z
    · intro hx
      rcases List.mem_cons.mp ((h x).mpr (List.mem_cons_of_mem _ hx)) with z | z
      · have := p2 x hx; omega
      · exact z
def intsB : D → Option (List Int)
  | .list xs => intsD xs
  | .tuple xs => intsD xs
  | _ => none
def ssF : Rho → List Vl → Option Vl := fun ρ rs => match rs with
  | [r] => (curR ρ r).bind fun d => (intsB d).bind fun ns => if ns.length < 64 then some (.ow ((ssI ns).map .int)) else none
  | _ => none
theorem px_sset {X : Cx} {e : Expr} {fs : DA} {p1 p2 pos pos2 : Pos} (hc : X.calm = true) (hg : Gl X "sorted") (hm : X.mg "sorted" = none) (hg2 : Gl X "set") (hm2 : X.mg "set" = none) (ha : PXA X [e] fs)
    (he : starEach [e] X.env = (false, eval e X.env) :: starEach [] X.env := by rfl) (hpl : (backTo pos2 (starEach [] X.env)).any (·.1) = false := by rfl) (hpl2 : (backTo pos (starEach [] X.env)).any (·.1) = false := by rfl)
    (he2 : starEach [.Call (.Name "set" p2) [e] [] pos2] X.env = (false, eval (.Call (.Name "set" p2) [e] [] pos2) X.env) :: starEach [] X.env := by rfl) :
    PX X (.Call (.Name "sorted" p1) [.Call (.Name "set" p2) [e] [] pos2] [] pos) (opE ssF fs) := by
  refine PE.mono (pe_callB (cr_sortedSet hc) hg hm (by decide) (pa_cons (pe_callTy (cr_setI hc) hg2 hm2 PyProof.Rows.boot_set ha (by decide) (by decide) he hpl) pa_nil he2) (by decide) (by decide) he2 hpl2) ?_
  rintro σ H Q ⟨W, ρ, φ, r, ρ', s, hf, k⟩
  unfold opE at hf
  obtain ⟨⟨rs, ρ1⟩, e1, hf⟩ := Option.bind_eq_some_iff.mp hf
  obtain ⟨z, e2, hf⟩ := Option.bind_eq_some_iff.mp hf
  cases hf
  refine ⟨W, ρ, φ, rs, ρ1, s, e1, fun vs W1 H1 φ1 l o => ?_⟩
  match rs, e1, e2, o with
  | [], _, e2, _ => cases e2
  | _ :: _ :: _, _, e2, _ => cases e2
  | [r0], e1, e2, o =>
    replace e2 : ((curR ρ1 r0).bind fun d => (intsB d).bind fun ns => if ns.length < 64 then some (Vl.ow ((ssI ns).map .int)) else none) = some _ := e2
    obtain ⟨d, e3, e2⟩ := Option.bind_eq_some_iff.mp e2
    obtain ⟨ns, e4, e2⟩ := Option.bind_eq_some_iff.mp e2
    split at e2
    · rename_i few
      cases e2
      obtain ⟨v, l1, rfl, h1⟩ := o.rx.one'
      have ct := h1.ctR o.ss e3
      have hv : ∃ a, v = .ref a ∧ (SqL X.K H1 a (ns.map V.int) ∨ SqT X.K H1 a (ns.map V.int)) := by
        cases d with
        | list xs =>
          obtain ⟨a, ys, rfl, h, c⟩ := ct.list_inv
          obtain rfl := intsD_inv e4
          obtain rfl := c.ints
          exact ⟨a, rfl, .inl h⟩
        | tuple xs =>
          obtain rfl := intsD_inv e4
          cases ct with
          | ct c => cases c with
            | tup h c =>
              obtain rfl := c.ints
              exact ⟨_, rfl, .inr h⟩
        | none => cases e4
        | bool => cases e4
        | int => cases e4
        | str => cases e4
        | dict => cases e4
      obtain ⟨a, rfl, sq⟩ := hv
      refine ⟨a, ns, rfl, sq, few, fun q c hcn hq => ?_⟩
      refine ⟨q, _, c, rfl, upd_same, by omega, fun xs p pw mem _ hp => ?_⟩
      have hx : xs = ssI ns := up_unique pw ssI_up fun x => by rw [mem x, ssI_mem, decide_eq_true_eq]
      subst hx
      have hpq : p ≠ q := fun z => by rw [z, upd_same] at hp; cases hp
      have hp1 : H1 p = none := by rw [upd_ne hpq] at hp; exact hp
      have up : ∀ b ob, H1 b = some ob → upd (upd H1 q (SetO X.w q (fun j => decide (j ∈ ns)) c)) p (.lst ((ssI ns).map V.int)) b = some ob := fun b ob e => by
        rw [upd_ne (ne_of_none e hp1), upd_ne (ne_of_none e hq)]
        exact e
      refine k (.ref p) W1 _ φ1 [p] (o.op s (Ev.grow up) (fun b w => ?_) (.ow upd_same (fun w => ?_) (FzA.ints _)) fun b hb => ?_)
      · obtain ⟨ob, e⟩ := o.ss.wf b w
        exact ⟨ob, up b ob e⟩
      · obtain ⟨ob, e⟩ := o.ss.wf p w
        rw [hp1] at e
        cases e
      · obtain rfl := List.mem_singleton.mp hb
        exact .inr hp1
    · cases e2
@[simp] theorem ssF_l {ρ : Rho} {ns : List Int} (h : ns.length < 64) : ssF ρ [.fz (.list (ns.map .int))] = some (.ow ((ssI ns).map .int)) := by
  show ((intsD (ns.map .int)).bind fun ns => if ns.length < 64 then some (Vl.ow ((ssI ns).map .int)) else none) = _
  rw [intsD_map, Option.bind_some, if_pos h]
@[simp] theorem ssF_t {ρ : Rho} {ns : List Int} (h : ns.length < 64) : ssF ρ [.fz (.tuple (ns.map .int))] = some (.ow ((ssI ns).map .int)) := by
  show ((intsD (ns.map .int)).bind fun ns => if ns.length < 64 then some (Vl.ow ((ssI ns).map .int)) else none) = _
  rw [intsD_map, Option.bind_some, if_pos h]
end
end DL

namespace DL
open PySem PySem.Spec PyProof.Rows L2
noncomputable section
/-! len(set(x)) -/
theorem cr_lenSet {X : Cx} : CallR X (.builtin "len") (fun vs H Q => ∃ (a : Addr) (S : Int → Bool) (n : Nat), vs = [V.ref a] ∧ H a = some (SetO X.w a S n) ∧ n < 64 ∧ ∀ ks : List Int, ks.Nodup → (∀ k, S k = true ↔ k ∈ ks) → ks.length = n → Q (.int n) H) := by
  intro pins s σ H vs us Q I r h
  obtain ⟨a, S, n, rfl, ha, h64, q⟩ := h
  have R := setO_get I ha
  rw [Vals.ref1 r]
  obtain ⟨o, es, ep, t, ho, hex, hd, g, nd, hm, hb, hf, hn, _⟩ := R
  refine call_len_set ho hex hd hf (by rw [hn] <;> omega) ⟨.int n, H, I.tok _, ⟨_, by rw [hn]⟩, q _ nd hm ?_⟩
  rw [List.length_map, Array.length_toList, hn]
theorem nodup_le : ∀ {l m : List Int}, l.Nodup → (∀ x, x ∈ l → x ∈ m) → l.length ≤ m.length
  | [], _, _, _ => Nat.zero_le _
  | a :: l, m, h, s => by
    obtain ⟨h1, h2⟩ := List.nodup_cons.mp h
    obtain ⟨m1, m2, rfl⟩ := List.append_of_mem (s a List.mem_cons_self)
    have := nodup_le (l := l) (m := m1 ++ m2) h2 fun x hx => by
      have := s x (List.mem_cons_of_mem _ hx)
      rw [List.mem_append, List.mem_cons] at this
      rw [List.mem_append]
      rcases this with q | rfl | q
      · exact .inl q
      · exact absurd hx h1
      · exact .inr q
    rw [List.length_append] at this
    rw [List.length_cons, List.length_append, List.length_cons]
    omega
theorem ssI_nodup {l : List Int} : (ssI l).Nodup := (ssI_up (l := l)).imp fun h q => by omega
theorem ssI_card {l m : List Int} (h : m.Nodup) (e : ∀ x, x ∈ m ↔ x ∈ l) : (ssI l).length = m.length :=
  Nat.le_antisymm (nodup_le ssI_nodup fun x hx => (e x).mpr (ssI_mem.mp hx)) (nodup_le h fun x hx => ssI_mem.mpr ((e x).mp hx))
def lsF : Rho → List Vl → Option Vl := fun ρ rs => match rs with
  | [r] => (curR ρ r).bind fun d => (intsB d).bind fun ns => if ns.length < 64 then some (.fz (.int ((ssI ns).length : Nat))) else none
  | _ => none
theorem px_lset {X : Cx} {e : Expr} {fs : DA} {p1 p2 pos pos2 : Pos} (hc : X.calm = true) (hg : Gl X "len") (hm : X.mg "len" = none) (hg2 : Gl X "set") (hm2 : X.mg "set" = none) (ha : PXA X [e] fs)
    (he : starEach [e] X.env = (false, eval e X.env) :: starEach [] X.env := by rfl) (hpl : (backTo pos2 (starEach [] X.env)).any (·.1) = false := by rfl) (hpl2 : (backTo pos (starEach [] X.env)).any (·.1) = false := by rfl)
    (he2 : starEach [.Call (.Name "set" p2) [e] [] pos2] X.env = (false, eval (.Call (.Name "set" p2) [e] [] pos2) X.env) :: starEach [] X.env := by rfl) :
    PX X (.Call (.Name "len" p1) [.Call (.Name "set" p2) [e] [] pos2] [] pos) (opE lsF fs) := by
  refine PE.mono (pe_callB cr_lenSet hg hm (by decide) (pa_cons (pe_callTy (cr_setI hc) hg2 hm2 PyProof.Rows.boot_set ha (by decide) (by decide) he hpl) pa_nil he2) (by decide) (by decide) he2 hpl2) ?_
  rintro σ H Q ⟨W, ρ, φ, r, ρ', s, hf, k⟩
  unfold opE at hf
  obtain ⟨⟨rs, ρ1⟩, e1, hf⟩ := Option.bind_eq_some_iff.mp hf
  obtain ⟨z, e2, hf⟩ := Option.bind_eq_some_iff.mp hf
  cases hf
  refine ⟨W, ρ, φ, rs, ρ1, s, e1, fun vs W1 H1 φ1 l o => ?_⟩
  match rs, e1, e2, o with
  | [], _, e2, _ => cases e2
  | _ :: _ :: _, _, e2, _ => cases e2
  | [r0], e1, e2, o =>
    replace e2 : ((curR ρ1 r0).bind fun d => (intsB d).bind fun ns => if ns.length < 64 then some (Vl.fz (.int ((ssI ns).length : Nat))) else none) = some _ := e2
    obtain ⟨d, e3, e2⟩ := Option.bind_eq_some_iff.mp e2
    obtain ⟨ns, e4, e2⟩ := Option.bind_eq_some_iff.mp e2
    split at e2
    · rename_i few
      cases e2
      obtain ⟨v, l1, rfl, h1⟩ := o.rx.one'
      have ct := h1.ctR o.ss e3
      have hv : ∃ a, v = .ref a ∧ (SqL X.K H1 a (ns.map V.int) ∨ SqT X.K H1 a (ns.map V.int)) := by
        cases d with
        | list xs =>
          obtain ⟨a, ys, rfl, h, c⟩ := ct.list_inv
          obtain rfl := intsD_inv e4
          obtain rfl := c.ints
          exact ⟨a, rfl, .inl h⟩
        | tuple xs =>
          obtain rfl := intsD_inv e4
          cases ct with
          | ct c => cases c with
            | tup h c =>
              obtain rfl := c.ints
              exact ⟨_, rfl, .inr h⟩
        | none => cases e4
        | bool => cases e4
        | int => cases e4
        | str => cases e4
        | dict => cases e4
      obtain ⟨a, rfl, sq⟩ := hv
      refine ⟨a, ns, rfl, sq, few, fun q c hcn hq => ?_⟩
      refine ⟨q, _, c, rfl, upd_same, by omega, fun ks nd mem hl => ?_⟩
      have hcard : (ssI ns).length = c := by
        rw [ssI_card nd fun x => by rw [← mem x, decide_eq_true_eq]]
        exact hl
      have up : ∀ b ob, H1 b = some ob → upd H1 q (SetO X.w q (fun j => decide (j ∈ ns)) c) b = some ob := fun b ob e => by
        rw [upd_ne (ne_of_none e hq)]
        exact e
      rw [hcard] at k
      refine k (.int c) W1 _ φ1 [] (o.op s (Ev.grow up) (fun b w => ?_) (.fz (.int _)) fun b hb => ?_)
      · obtain ⟨ob, e⟩ := o.ss.wf b w
        exact ⟨ob, up b ob e⟩
      · cases hb
    · cases e2
@[simp] theorem lsF_l {ρ : Rho} {ns : List Int} (h : ns.length < 64) : lsF ρ [.fz (.list (ns.map .int))] = some (.fz (.int ((ssI ns).length : Nat))) := by
  show ((intsD (ns.map .int)).bind fun ns => if ns.length < 64 then some (Vl.fz (.int ((ssI ns).length : Nat))) else none) = _
  rw [intsD_map, Option.bind_some, if_pos h]
@[simp] theorem lsF_ow {ρ : Rho} {ns : List Int} (h : ns.length < 64) : lsF ρ [.ow (ns.map .int)] = some (.fz (.int ((ssI ns).length : Nat))) := by
  show ((intsD (ns.map .int)).bind fun ns => if ns.length < 64 then some (Vl.fz (.int ((ssI ns).length : Nat))) else none) = _
  rw [intsD_map, Option.bind_some, if_pos h]
@[simp] theorem lsF_t {ρ : Rho} {ns : List Int} (h : ns.length < 64) : lsF ρ [.fz (.tuple (ns.map .int))] = some (.fz (.int ((ssI ns).length : Nat))) := by
  show ((intsD (ns.map .int)).bind fun ns => if ns.length < 64 then some (Vl.fz (.int ((ssI ns).length : Nat))) else none) = _
  rw [intsD_map, Option.bind_some, if_pos h]
@[simp] theorem lsF_g {ρ : Rho} {i : Nat} : lsF ρ [.pk i] = lsF ρ [nmG i ρ[i]?] := by unfold lsF; dsimp only; rw [curR_g]
@[simp] theorem ssF_g {ρ : Rho} {i : Nat} : ssF ρ [.pk i] = ssF ρ [nmG i ρ[i]?] := by unfold ssF; dsimp only; rw [curR_g]
end
end DL

namespace DL
open PySem PySem.Spec PyProof.Rows L2
open PySem.W (ktu_apart)
noncomputable section
/-! list(zip(x, y)) of lists of ints -/
theorem zip_no_len : typeLookup (.type "zip") "__len__" = pure none := by rw [typeLookup_type, builtinLookup_eq_fast]; kernel_rfl
theorem zip_no_hint : typeLookup (.type "zip") "__length_hint__" = pure none := by rw [typeLookup_type, builtinLookup_eq_fast]; kernel_rfl
/-- the pairs so far -/
structure LZ (H1 H : Hp) (S : Addr) (ns ms : List Int) (bs : List Addr) : Prop where
  up : ∀ c o, H1 c = some o → H c = some o
  s0 : H1 S = none
  s : H S = some (.lst (bs.map V.ref))
  nw : ∀ b ∈ bs, H1 b = none ∧ b ≠ S
  tp : ∀ (j : Nat) b, bs[j]? = some b → H b = some (.tup [.int (ns.getD j 0), .int (ms.getD j 0)])
/-- the zip -/
def ZSt (h : Heap) (z TI TO i1 i2 l1 l2 S : Addr) (i : Nat) : Prop :=
  IsPair h TI (.ref i1) (.ref i2) ∧ h.IsListIter i1 l1 i ∧ h.IsListIter i2 l2 i ∧ (∃ o, h.get? TO = some o) ∧
    ((IsZip h z TI TO .none ∧ ∃ a b, IsPair h TO a b) ∨ ∃ T f oT, IsZipHeld h z TI TO T f ∧ h.get? T = some oT ∧ T ≠ z ∧ T ≠ i1 ∧ T ≠ i2 ∧ T ≠ S)
theorem sqL_grow {K : PySem.W.Frag} {H H' : Hp} {a : Addr} {xs : List V} (h : SqL K H a xs) (up : ∀ c o, H c = some o → H' c = some o) : SqL K H' a xs := by
  rcases h with h | h
  · rcases h with h | ⟨o, h⟩
    · exact .inl (.inl (up _ _ h))
    · exact .inl (.inr ⟨o, up _ _ h⟩)
  · exact .inr h
section
variable {X : Cx} {A : Around} {R : Result → Shared → Prop} {pins : List (Addr × Obj)} {σ : L2.St} {z TI TO i1 i2 l1 l2 S : Addr} {ns ms : List Int} {H1 : Hp}
theorem lz_get {ns : List Int} {its : List Value} (h : Vals (ns.map V.int) its) {i : Nat} (hi : i < ns.length) : ∃ u, its.toArray[i]? = some u ∧ RelV (.int (ns.getD i 0)) u := by
  have e : (ns.map V.int)[i]? = some (.int (ns.getD i 0)) := by
    rw [List.getElem?_map, List.getElem?_eq_getElem hi, List.getD_eq_getElem?_getD, List.getElem?_eq_getElem hi]
    rfl
  obtain ⟨u, hu, ru⟩ := h.get e
  exact ⟨u, by rw [List.getElem?_toArray]; exact hu, ru⟩
set_option maxHeartbeats 1600000 in
theorem lz_loop (hh : A.handled = none) (D : ZipApart z TI TO i1 i2 l1 l2) (sp : S ≠ z ∧ S ≠ TI ∧ S ≠ TO ∧ S ≠ i1 ∧ S ≠ i2) (hn : ns.length < 1000) (hm : ms.length < 1000)
    (q1 : SqL X.K H1 l1 (ns.map V.int)) (q2 : SqL X.K H1 l2 (ms.map V.int))
    (hR : ∀ s' H' bs, Inv X pins σ H' s' → LZ H1 H' S ns ms bs → bs.length = min ns.length ms.length → R (.ok (.ret .none)) s') :
    ∀ (k i : Nat) (s : Shared) (H : Hp) (bs : List Addr), min ns.length ms.length - i = k → i ≤ min ns.length ms.length → bs.length = i → Inv X pins σ H s → LZ H1 H S ns ms bs →
      (∀ c ∈ [z, TI, TO, i1, i2], FpOk X pins H c) → ZSt s.heap z TI TO i1 i2 l1 l2 S i → codeAny (model X.prog X.w) A (.builtin "list.extend.loop" ⟨[.ref S, .ref z, .none], []⟩) R s := by
  intro k
  induction k with
  | zero =>
    intro i s H bs hk hi hb I L hf st
    have hin : i = min ns.length ms.length := by omega
    obtain ⟨hTI, h1, h2, ⟨oTO, gTO⟩, hz⟩ := st
    obtain ⟨its, rv, p1, _⟩ := I.list (sqL_grow q1 L.up)
    obtain ⟨its2, rv2, p2, _⟩ := I.list (sqL_grow q2 L.up)
    have n1 := rv.length
    have n2 := rv2.length
    rw [List.length_map] at n1 n2
    have hend : its.toArray[i]? = none ∨ its2.toArray[i]? = none := by
      rw [List.getElem?_toArray, List.getElem?_toArray]
      rcases Nat.le_total ns.length ms.length with h | h
      · exact .inl (List.getElem?_eq_none (by omega))
      · exact .inr (List.getElem?_eq_none (by omega))
    refine codeAny_builtin F.entry_extend_loop ?_
    rw [Around.under_plainId F.plain_extend_loop _]
    show wpAny _ A.in1 (pyNext (.ref z) >>= _) _ _ s
    have fin : ∀ h', (∀ c o, c ∉ [z, TI, TO, i1, i2] → s.heap.get? c = some o → h'.get? c = some o) → R (.ok (.ret .none)) { s with heap := h' } := fun h' hk =>
      hR _ H bs (I.turnedL (t' := s.toks) hk hf) L (by omega)
    rcases hz with ⟨hz, a, b, hTO⟩ | ⟨T, f, oT, hz, hT, r1, r2, r3, r4⟩
    · refine wpAny_bind (wpAny_pyNext_zip_end (show A.in1.handled = none from hh) D hz hTI hTO h1 h2 p1.isList p2.isList hend fun h' hk => wpAny_pure (fin h' fun c o hc e => ?_))
      simp only [List.mem_cons, List.not_mem_nil, or_false, not_or] at hc
      exact hk c o hc.1 hc.2.2.1 hc.2.2.2.1 hc.2.2.2.2 e
    · refine wpAny_bind (wpAny_pyNext_zip_end_held (show A.in1.handled = none from hh) D hz hT hTI h1 h2 p1.isList p2.isList hend fun h' hk => wpAny_pure (fin h' fun c o hc e => ?_))
      simp only [List.mem_cons, List.not_mem_nil, or_false, not_or] at hc
      exact hk c o hc.1 hc.2.2.2.1 hc.2.2.2.2 e
  | succ k ih =>
    intro i s H bs hk hi hb I L hf st
    obtain ⟨hTI, h1, h2, ⟨oTO, gTO⟩, hz⟩ := st
    obtain ⟨its, rv, p1, _⟩ := I.list (sqL_grow q1 L.up)
    obtain ⟨its2, rv2, p2, _⟩ := I.list (sqL_grow q2 L.up)
    obtain ⟨u, hu, ru⟩ := lz_get rv (i := i) (by omega)
    obtain ⟨u2, hu2, ru2⟩ := lz_get rv2 (i := i) (by omega)
    refine codeAny_builtin F.entry_extend_loop ?_
    rw [Around.under_plainId F.plain_extend_loop _]
    show wpAny _ A.in1 (pyNext (.ref z) >>= _) _ _ s
    have fresh : ∀ {c o}, s.heap.get? c = some o → s.heap.objs.size ≠ c := fun e => Nat.ne_of_gt (Heap.lt_size e)
    have f1 : s.heap.objs.size ≠ i1 := let ⟨_, e, _⟩ := h1; fresh e
    have f2 : s.heap.objs.size ≠ i2 := let ⟨_, e, _⟩ := h2; fresh e
    have f3 : s.heap.objs.size ≠ z := by
      rcases hz with ⟨hz, _⟩ | ⟨_, _, _, hz, _⟩
      · exact fresh hz
      · exact fresh hz
    obtain ⟨zS, itS, nS, rS, eS⟩ := I.hok S _ L.s
    have f4 : s.heap.objs.size ≠ S := fresh eS
    -- the step
    have go : ∀ (h' : Heap), IsPair h' s.heap.objs.size u u2 → (∀ c o, c ∉ [z, TI, TO, i1, i2] → s.heap.get? c = some o → h'.get? c = some o) → ZSt h' z TI TO i1 i2 l1 l2 S (i + 1) →
        wpAny (model X.prog X.w) A.in1 (updateSeq S (·.push (.ref s.heap.objs.size)) >>= fun _ => again (.builtin "list.extend.loop" ⟨[.ref S, .ref z, .none], []⟩))
          (fun fin s' => match fin with | .done f => R (.ok f) s' | .again c' => c'.quiet = true ∧ codeAny (model X.prog X.w) A c' R s') (fun e s' => R (.error e) s') { s with heap := h' } := by
      intro h' hp hk st'
      have hS0 : H s.heap.objs.size = none := I.hok.fresh (Nat.le_refl _)
      have new : ObjOk X.prog X.w (upd H s.heap.objs.size (.tup [.int (ns.getD i 0), .int (ms.getD i 0)])) h' s.heap.objs.size (.tup [.int (ns.getD i 0), .int (ms.getD i 0)]) :=
        ⟨by show 2 ≤ sizeLine; decide, [u, u2], .cons ru (.cons ru2 .nil), ⟨_, hp, rfl, _, rfl⟩⟩
      have I1 : Inv X pins σ (upd H s.heap.objs.size (.tup [.int (ns.getD i 0), .int (ms.getD i 0)])) { s with heap := h' } := I.turnedNew (t' := s.toks) hk hf (Nat.le_refl _) new
      have eS1 : h'.get? S = some _ := hk S _ (by
        simp only [List.mem_cons, List.not_mem_nil, or_false, not_or]
        exact sp) eS
      have lS : itS.length = bs.length := by
        have := rS.length
        rw [List.length_map] at this
        exact this.symm
      refine wpAny_bind (wpAny_updateSeq eS1 rfl (wpAny_pure ⟨plainId_quiet F.plain_extend_loop _, ?_⟩) (by rw [List.size_toArray, lS, sizeLine_eq]; omega) (by rw [Array.size_push, List.size_toArray, lS, sizeLine_eq]; omega))
      have hSs : (upd H s.heap.objs.size (.tup [.int (ns.getD i 0), .int (ms.getD i 0)])) S = some (.lst (bs.map V.ref)) := by rw [upd_ne (Ne.symm f4)]; exact L.s
      have g1 := Heap.get?_update_self (Obj.mapSeq (·.push (Value.ref s.heap.objs.size))) eS1 rfl
      have newS : ObjOk X.prog X.w (upd (upd H s.heap.objs.size (.tup [.int (ns.getD i 0), .int (ms.getD i 0)])) S (.lst ((bs ++ [s.heap.objs.size]).map V.ref))) (h'.update S (Obj.mapSeq (·.push (Value.ref s.heap.objs.size)))) S (.lst ((bs ++ [s.heap.objs.size]).map V.ref)) := by
        have ea : (itS ++ [Value.ref s.heap.objs.size]).toArray = itS.toArray.push (.ref s.heap.objs.size) := by simp
        refine ⟨by rw [List.length_map, List.length_append, sizeLine_eq]; show _ + 1 ≤ _; omega, itS ++ [.ref s.heap.objs.size], if (itS.toArray.push (Value.ref s.heap.objs.size)).size == itS.toArray.size then nS else nS + 1, ?_, ?_⟩
        · rw [List.map_append]
          exact rS.append (.cons rfl .nil)
        · rw [ea]
          exact g1
      have I2 := I1.write (t' := s.toks) (h' := h'.update S (Obj.mapSeq (·.push (Value.ref s.heap.objs.size)))) (by rw [hSs]; trivial) (.inl rfl) (fun b v hb e => (Heap.get?_update_other _ _ (Ne.symm hb)).trans e) ⟨_, g1⟩ newS
      refine ih (i + 1) _ _ (bs ++ [s.heap.objs.size]) (by omega) (by omega) (by rw [List.length_append, hb]; rfl) I2 ⟨fun c o e => ?_, L.s0, upd_same, fun b hb => ?_, fun j b e => ?_⟩ (fun c hc => ?_) ?_
      · have e1 := L.up c o e
        have c1 : c ≠ S := fun q => by
          subst q
          rw [L.s0] at e
          cases e
        rw [upd_ne c1, upd_ne (ne_of_none e1 hS0)]
        exact e1
      · rcases List.mem_append.mp hb with hb | hb
        · exact L.nw b hb
        · obtain rfl := List.mem_singleton.mp hb
          refine ⟨?_, f4⟩
          cases q : H1 s.heap.objs.size with
          | none => rfl
          | some o => rw [L.up _ _ q] at hS0; cases hS0
      · by_cases hj : j < bs.length
        · rw [List.getElem?_append_left hj] at e
          have e1 := L.tp j b e
          have hbm : b ∈ bs := List.mem_of_getElem? e
          rw [upd_ne (L.nw b hbm).2, upd_ne (ne_of_none e1 hS0)]
          exact e1
        · rw [List.getElem?_append_right (by omega)] at e
          have j0 : j = i := by
            by_cases q : j - bs.length = 0
            · omega
            · rw [List.getElem?_eq_none (by show 1 ≤ _; omega)] at e; cases e
          subst j0
          rw [hb, Nat.sub_self] at e
          have e := Option.some.inj e
          subst e
          rw [upd_ne f4, upd_same]
      · obtain ⟨a1, a2⟩ := hf c hc
        have cS : c ≠ S := fun q => by
          subst q
          rw [L.s] at a1
          cases a1
        have cT : c ≠ s.heap.objs.size := fun q => by
          simp only [List.mem_cons, List.not_mem_nil, or_false] at hc
          rcases hc with rfl | rfl | rfl | rfl | rfl
          · exact f3 q.symm
          · exact fresh hTI q.symm
          · exact fresh gTO q.symm
          · exact f1 q.symm
          · exact f2 q.symm
        exact ⟨by rw [upd_ne cS, upd_ne cT]; exact a1, a2⟩
      · obtain ⟨t1, t2, t3, ⟨o5, t5⟩, t4⟩ := st'
        have ks : ∀ c o, c ≠ S → h'.get? c = some o → (h'.update S (Obj.mapSeq (·.push (Value.ref s.heap.objs.size)))).get? c = some o := fun c o hc e => (Heap.get?_update_other _ _ (Ne.symm hc)).trans e
        refine ⟨ks _ _ sp.2.1.symm t1, t2.at fun o e => ks _ o sp.2.2.2.1.symm e, t3.at fun o e => ks _ o sp.2.2.2.2.symm e, ⟨o5, ks _ _ sp.2.2.1.symm t5⟩, ?_⟩
        rcases t4 with ⟨hz, a, b, hTO⟩ | ⟨T, f, oT, hz, hT, r1, r2, r3, r4⟩
        · exact .inl ⟨ks _ _ sp.1.symm hz, a, b, ks _ _ sp.2.2.1.symm hTO⟩
        · exact .inr ⟨T, f, oT, ks _ _ sp.1.symm hz, ks _ _ r4 hT, r1, r2, r3, r4⟩
    rcases hz with ⟨hz, a, b, hTO⟩ | ⟨T, f, oT, hz, hT, r1, r2, r3, r4⟩
    · refine wpAny_bind (wpAny_pyNext_zip_item D hz hTI hTO h1 h2 p1.isList p2.isList hu hu2 fun h' a1 a2 a3 a4 a5 a6 hk => ?_)
      refine go h' a5 (fun c o hc e => ?_) ⟨hk _ _ D.TIz D.TITO D.TIi1 D.TIi2 hTI, a3, a4, ⟨_, a2⟩, .inr ⟨s.heap.objs.size, false, _, a1, a5, f3, f1, f2, f4⟩⟩
      simp only [List.mem_cons, List.not_mem_nil, or_false, not_or] at hc
      exact hk c o hc.1 hc.2.2.1 hc.2.2.2.1 hc.2.2.2.2 e
    · refine wpAny_bind (wpAny_pyNext_zip_item_held D hz hT hTI h1 h2 p1.isList p2.isList hu hu2 fun h' a1 a3 a4 a5 a6 hk => ?_)
      refine go h' a5 (fun c o hc e => ?_) ⟨hk _ _ D.TIz D.TIi1 D.TIi2 hTI, a3, a4, ⟨_, hk _ _ D.TOz D.TOi1 D.TOi2 gTO⟩, .inr ⟨T, true, oT, a1, hk _ _ r1 r2 r3 hT, r1, r2, r3, r4⟩⟩
      simp only [List.mem_cons, List.not_mem_nil, or_false, not_or] at hc
      exact hk c o hc.1 hc.2.2.2.1 hc.2.2.2.2 e
theorem zst_type {s : Shared} {i : Nat} (st : ZSt s.heap z TI TO i1 i2 l1 l2 S i) : s.TypeIs (.ref z) "zip" := by
  obtain ⟨_, _, _, _, hz⟩ := st
  rcases hz with ⟨hz, _⟩ | ⟨_, _, _, hz, _⟩
  · exact ⟨_, hz, rfl⟩
  · exact ⟨_, hz, rfl⟩
theorem zst_iter {s : Shared} {A : Around} {E : Value → Shared → Prop} {i : Nat} {Q : Value → Shared → Prop} (st : ZSt s.heap z TI TO i1 i2 l1 l2 S i) (hz : IsZip s.heap z TI TO .none) (h : Q (.ref z) s) : wpAny (model X.prog X.w) A (pyIter (.ref z)) Q E s := wpAny_pyIter_zip hz h
theorem zst_keep {h h' : Heap} {i : Nat} (sp : S ≠ z ∧ S ≠ TI ∧ S ≠ TO ∧ S ≠ i1 ∧ S ≠ i2) (st : ZSt h z TI TO i1 i2 l1 l2 S i) (ks : ∀ c o, c ≠ S → h.get? c = some o → h'.get? c = some o) : ZSt h' z TI TO i1 i2 l1 l2 S i := by
  obtain ⟨t1, t2, t3, ⟨o5, t5⟩, t4⟩ := st
  refine ⟨ks _ _ sp.2.1.symm t1, t2.at fun o e => ks _ o sp.2.2.2.1.symm e, t3.at fun o e => ks _ o sp.2.2.2.2.symm e, ⟨o5, ks _ _ sp.2.2.1.symm t5⟩, ?_⟩
  rcases t4 with ⟨hz, a, b, hTO⟩ | ⟨T, f, oT, hz, hT, r1, r2, r3, r4⟩
  · exact .inl ⟨ks _ _ sp.1.symm hz, a, b, ks _ _ sp.2.2.1.symm hTO⟩
  · exact .inr ⟨T, f, oT, ks _ _ sp.1.symm hz, ks _ _ r4 hT, r1, r2, r3, r4⟩
theorem upd_id {H : Hp} {a : Addr} {o : HO} (h : H a = some o) : upd H a o = H := by
  funext b
  by_cases q : b = a
  · rw [q, upd_same, h]
  · rw [upd_ne q]
set_option maxHeartbeats 1600000 in
theorem lz_init {s : Shared} {H : Hp} (hh : A.handled = none) (D : ZipApart z TI TO i1 i2 l1 l2) (sp : S ≠ z ∧ S ≠ TI ∧ S ≠ TO ∧ S ≠ i1 ∧ S ≠ i2) (hn : ns.length < 1000) (hm : ms.length < 1000)
    (q1 : SqL X.K H1 l1 (ns.map V.int)) (q2 : SqL X.K H1 l2 (ms.map V.int))
    (hR : ∀ s' H' bs, Inv X pins σ H' s' → LZ H1 H' S ns ms bs → bs.length = min ns.length ms.length → R (.ok (.ret .none)) s')
    (I : Inv X pins σ H s) (L : LZ H1 H S ns ms []) (hf : ∀ c ∈ [z, TI, TO, i1, i2], FpOk X pins H c) (st : ZSt s.heap z TI TO i1 i2 l1 l2 S 0) (hz0 : IsZip s.heap z TI TO .none) :
    wpAny (model X.prog X.w) A.in1 (Builtin.«list.__init__» ⟨[.ref S, .ref z], []⟩)
      (fun fin s' => match fin with | .done f => R (.ok f) s' | .again c' => c'.quiet = true ∧ codeAny (model X.prog X.w) A c' R s') (fun e s' => R (.error e) s') s := by
  obtain ⟨zS, itS, nS, rS, eS⟩ := I.hok S _ L.s
  have e0 : itS = [] := by
    have := rS.length
    cases itS with
    | nil => rfl
    | cons a r => simp at this
  subst e0
  have hS : s.heap.get? S = some { cls := .type "list", data := .seq #[] nS } := eS
  show wpAny _ A.in1 (do let old ← Builtin.List.listItems (.ref S); Builtin.List.listUpdate (.ref S) (fun _ => #[]); letGo old.toList.reverse; Builtin.List.listExtendWith (.ref S) (.ref z) .none) _ _ s
  refine wpAny_bind ?_
  unfold Builtin.List.listItems
  refine wpAny_bind (wpAny_seqItems hS rfl (wpAny_pure ?_))
  show wpAny _ A.in1 (updateSeq S (fun _ => #[]) >>= fun _ => letGo (#[] : Array Value).toList.reverse >>= fun _ => Builtin.List.listExtendWith (.ref S) (.ref z) .none) _ _ s
  refine wpAny_bind (wpAny_updateSeq hS rfl ?_)
  have hS₁ := Heap.get?_update_self (Obj.mapSeq (fun _ => (#[] : Array Value))) hS rfl
  have oth1 : ∀ b o, b ≠ S → s.heap.get? b = some o → (s.heap.update S (Obj.mapSeq (fun _ => (#[] : Array Value)))).get? b = some o :=
    fun b o hb e => (Heap.get?_update_other _ _ (Ne.symm hb)).trans e
  refine wpAny_bind (wpAny_letGo ?_)
  have st1 := zst_keep sp st oth1
  unfold Builtin.List.listExtendWith
  refine wpAny_bind (wpAny_typeOf (T := "zip") (zst_type (s := { s with heap := s.heap.update S (Obj.mapSeq (fun _ => (#[] : Array Value))) }) st1) ?_)
  have h1 : Builtin.List.listSameRef (.ref S) (.ref z) = false := by simp [Builtin.List.listSameRef, sp.1]
  have h2 : (Value.type "zip" == Value.type "list") = false := by decide
  have h3 : (Value.type "zip" == Value.type "tuple") = false := by decide
  simp only [h1, h2, h3, Bool.or_false, Bool.false_eq_true, if_false]
  refine wpAny_bind (wpAny_pyIter_zip (oth1 _ _ sp.1.symm hz0) ?_)
  refine wpAny_bind (wpAny_holding ?_)
  unfold Builtin.List.listLengthHint
  refine wpAny_bind (wpAny_specialOf (zst_type (s := { s with heap := s.heap.update S (Obj.mapSeq (fun _ => (#[] : Array Value))) }) st1) zip_no_len ?_)
  show wpAny _ A.in1 (specialOf (Value.ref z) (Str.ofString "__length_hint__") >>= _) _ _ _
  refine wpAny_bind (wpAny_specialOf (zst_type (s := { s with heap := s.heap.update S (Obj.mapSeq (fun _ => (#[] : Array Value))) }) st1) zip_no_hint ?_)
  refine wpAny_pure ?_
  show wpAny _ A.in1 (rule "list.extend.makes-room" >>= fun _ => Builtin.List.listTouch (.ref S) >>= fun _ =>
    again (.builtin "list.extend.loop" ⟨[.ref S, .ref z, .none], []⟩)) _ _ _
  refine wpAny_bind (wpAny_rule ?_)
  refine wpAny_bind ?_
  show wpAny _ A.in1 (updateSeq S (·.push .none) >>= fun _ => updateSeq S (·.pop)) _ _ _
  refine wpAny_bind (wpAny_updateSeq hS₁ rfl ?_)
  have hS₂ := Heap.get?_update_self (Obj.mapSeq (·.push Value.none)) hS₁ rfl
  refine wpAny_updateSeq (hz := by seq_fits) hS₂ rfl ?_
  have hS₃ := Heap.get?_update_self (Obj.mapSeq (·.pop)) hS₂ rfl
  have oth : ∀ b o, b ≠ S → s.heap.get? b = some o → (((s.heap.update S (Obj.mapSeq (fun _ => (#[] : Array Value)))).update S (Obj.mapSeq (·.push Value.none))).update S (Obj.mapSeq (·.pop))).get? b = some o :=
    fun b o hb e => (Heap.get?_update_other _ _ (Ne.symm hb)).trans ((Heap.get?_update_other _ _ (Ne.symm hb)).trans (oth1 b o hb e))
  have new : ObjOk X.prog X.w (upd H S (.lst [])) (((s.heap.update S (Obj.mapSeq (fun _ => (#[] : Array Value)))).update S (Obj.mapSeq (·.push Value.none))).update S (Obj.mapSeq (·.pop))) S (.lst []) :=
    ⟨Nat.zero_le _, [], _, .nil, hS₃⟩
  have I2 := I.write (t' := s.toks) (by rw [L.s]; trivial) (.inl rfl) oth ⟨_, hS₃⟩ new
  rw [show upd H S (HO.lst []) = H from upd_id L.s] at I2
  exact wpAny_pure ⟨plainId_quiet F.plain_extend_loop _, lz_loop hh D sp hn hm q1 q2 hR _ 0 _ H [] rfl (Nat.zero_le _) rfl I2 L hf (zst_keep sp st oth)⟩
set_option maxHeartbeats 1600000 in
theorem call_list_zip {A : Around} {E : Value → Shared → Prop} {s : Shared} {H : Hp} {Q : Value → Shared → Prop} (hh : A.handled = none) (D : ZipApart z TI TO i1 i2 l1 l2) (hn : ns.length < 1000) (hm : ms.length < 1000)
    (q1 : SqL X.K H l1 (ns.map V.int)) (q2 : SqL X.K H l2 (ms.map V.int)) (I : Inv X pins σ H s) (hf : ∀ c ∈ [z, TI, TO, i1, i2], FpOk X pins H c)
    (hz0 : IsZip s.heap z TI TO .none) (t1 : IsPair s.heap TI (.ref i1) (.ref i2)) (u2 : s.heap.IsListIter i1 l1 0) (u3 : s.heap.IsListIter i2 l2 0) (t5 : IsPair s.heap TO .none .none)
    (hQ : ∀ s' H' S bs, H S = none → Inv X pins σ H' s' → LZ H H' S ns ms bs → bs.length = min ns.length ms.length → Q (.ref S) s') :
    wpAny (model X.prog X.w) A (call (.type "list") [.ref z]) Q E s := by
  refine callType_codes (Q₁ := fun obj s₁ => obj = .ref s.heap.objs.size ∧ s₁ = { s with heap := s.heap.push { cls := .type "list", data := .seq #[] } }) F.called_list (F.typeCall_list_1 _) F.entry_list_init
    (code_list_new _ ⟨rfl, rfl⟩) fun obj s₁ h₁ => ?_
  obtain ⟨rfl, rfl⟩ := h₁
  have hS : (s.heap.push { cls := .type "list", data := .seq #[] }).get? s.heap.objs.size = some { cls := .type "list", data := .seq #[] } := Heap.get?_push_size _ rfl
  have hS0 : H s.heap.objs.size = none := I.hok.fresh (Nat.le_refl _)
  have I1 : Inv X pins σ (upd H s.heap.objs.size (.lst [])) { s with heap := s.heap.push { cls := .type "list", data := .seq #[] } } :=
    I.laid (t' := s.toks) (fun b o e => Heap.get?_push_of_some _ e) (Nat.le_refl _) (show ObjOk X.prog X.w _ _ _ (.lst []) from ⟨Nat.zero_le _, [], _, .nil, hS⟩)
  obtain ⟨o1, t2, _⟩ := id u2
  obtain ⟨o2, t3, _⟩ := id u3
  have ne : ∀ {c o}, s.heap.get? c = some o → s.heap.objs.size ≠ c := fun e => Nat.ne_of_gt (Heap.lt_size e)
  have sp : s.heap.objs.size ≠ z ∧ s.heap.objs.size ≠ TI ∧ s.heap.objs.size ≠ TO ∧ s.heap.objs.size ≠ i1 ∧ s.heap.objs.size ≠ i2 := ⟨ne hz0, ne t1, ne t5, ne t2, ne t3⟩
  have up : ∀ c o, H c = some o → upd H s.heap.objs.size (.lst []) c = some o := fun c o e => by rw [upd_ne (ne_of_none e hS0)]; exact e
  refine ⟨⟨_, hS, rfl⟩, F.args_list_init_2 _ _, lz_init (A := A.in1) hh D sp hn hm q1 q2 (fun s' H' bs I' L' hl => ⟨rfl, hQ s' H' _ bs hS0 I' L' hl⟩) I1 ⟨up, hS0, upd_same, (fun b hb => absurd hb List.not_mem_nil), fun j b e => by simp at e⟩ (fun c hc => ?_) (zst_keep sp (⟨t1, u2, u3, ⟨_, t5⟩, .inl ⟨hz0, _, _, t5⟩⟩ : ZSt s.heap z TI TO i1 i2 l1 l2 _ 0) fun c o _ e => Heap.get?_push_of_some _ e) (Heap.get?_push_of_some _ hz0)⟩
  obtain ⟨a1, a2⟩ := hf c hc
  refine ⟨?_, a2⟩
  rw [upd_ne (fun q => ?_)]
  · exact a1
  · simp only [List.mem_cons, List.not_mem_nil, or_false] at hc
    rcases hc with rfl | rfl | rfl | rfl | rfl
    · exact sp.1 q.symm
    · exact sp.2.1 q.symm
    · exact sp.2.2.1 q.symm
    · exact sp.2.2.2.1 q.symm
    · exact sp.2.2.2.2 q.symm
end
/-- list(zip(x, y)), own -/
def lzE (fs : DA) : DE := fun ρ => (fs ρ).bind fun p => (frzA p.1).bind fun ds => match ds with
  | [.list xs, .list ys] => (intsD xs).bind fun ns => (intsD ys).bind fun ms => if ns.length < 1000 ∧ ms.length < 1000 then some (.ow (zipD xs ys), p.2) else none
  | _ => none
theorem fza_zip {K : PySem.W.Frag} {W : Addr → Prop} {H : Hp} {ns ms : List Int} : ∀ (bs : List Addr) (i : Nat), bs.length = min (ns.length - i) (ms.length - i) → (∀ (j : Nat) b, bs[j]? = some b → H b = some (.tup [.int (ns.getD (i + j) 0), .int (ms.getD (i + j) 0)])) → FzA K W H (bs.map V.ref) (zipD ((ns.drop i).map .int) ((ms.drop i).map .int))
  | [], i, hl, _ => by
    rw [List.length_nil] at hl
    have : (ns.drop i = [] ∨ ms.drop i = []) := by
      by_cases q : ns.length - i = 0
      · exact .inl (List.drop_eq_nil_of_le (by omega))
      · exact .inr (List.drop_eq_nil_of_le (by omega))
    rcases this with e | e
    · rw [e]
      exact .nil
    · rw [e]
      cases (ns.drop i).map PyData.int with
      | nil => exact .nil
      | cons a r => exact .nil
  | b :: bs, i, hl, h => by
    rw [List.length_cons] at hl
    have h1 : i < ns.length := by omega
    have h2 : i < ms.length := by omega
    rw [List.drop_eq_getElem_cons h1, List.drop_eq_getElem_cons h2, List.map_cons, List.map_cons, List.map_cons, zipD]
    have hb := h 0 b rfl
    rw [Nat.add_zero, List.getD_eq_getElem?_getD, List.getElem?_eq_getElem h1, List.getD_eq_getElem?_getD, List.getElem?_eq_getElem h2] at hb
    refine .cons (.tup (.inl (.inl hb)) (.cons (.int _) (.cons (.int _) .nil))) (fza_zip bs (i + 1) (by omega) fun j c e => ?_)
    have := h (j + 1) c (by simpa using e)
    rwa [show i + (j + 1) = i + 1 + j by omega] at this
theorem fza_inv {K : PySem.W.Frag} {W : Addr → Prop} {H : Hp} : ∀ {xs : List V} {ns : List Int}, FzA K W H xs (ns.map .int) → xs = ns.map V.int
  | _, [], .nil => rfl
  | _, n :: ns, .cons h t => by
    cases h
    rw [fza_inv t, List.map_cons]
theorem px_lzip {X : Cx} {e e2 : Expr} {fs : DA} {p p2 pos q : Pos} (hc : X.calm = true) (hg : Gl X "list") (hm : X.mg "list" = none) (hg2 : Gl X "zip") (hm2 : X.mg "zip" = none) (ha : PXA X [e, e2] fs)
    (hs : starEach [e, e2] X.env = (false, eval e X.env) :: starEach [e2] X.env := by rfl) (hpl : (backTo q (starEach [e2] X.env)).any (·.1) = false := by rfl)
    (na : starEach [.Call (.Name "zip" p2) [e, e2] [] q] X.env = (false, eval (.Call (.Name "zip" p2) [e, e2] [] q) X.env) :: starEach [] X.env := by rfl) :
    PX X (.Call (.Name "list" p) [.Call (.Name "zip" p2) [e, e2] [] q] [] pos) (lzE fs) := by
  refine ⟨fun pins s σ H Q I h => ?_⟩
  obtain ⟨W, ρ, φ, r, ρ', ss, hf, k⟩ := h
  unfold lzE at hf
  obtain ⟨⟨rs, ρ1⟩, e1, hf⟩ := Option.bind_eq_some_iff.mp hf
  obtain ⟨es, e2', hf⟩ := Option.bind_eq_some_iff.mp hf
  split at hf
  · rename_i xs ys
    obtain ⟨ns, e3, hf⟩ := Option.bind_eq_some_iff.mp hf
    obtain ⟨ms, e4, hf⟩ := Option.bind_eq_some_iff.mp hf
    split at hf
    · rename_i few
      cases hf
      obtain rfl := intsD_inv e3
      obtain rfl := intsD_inv e4
      refine Call_ (ld_blt I hg hm boot_list (PyProof.Rows.callWith_type1 (args_cons ?_ na) na))
      refine Call_ (ld_blt I hg2 hm2 PyProof.Rows.boot_zip (PyProof.Rows.callWith_type1 (thn (ha.run q pins s σ H (fun vs H1 => ∃ W1 φ1 l, OutA X.K W H (InF φ) σ ρ1 rs vs W1 H1 φ1 l) I ⟨W, ρ, φ, rs, ρ1, ss, e1, fun vs W1 H1 φ1 l o => ⟨W1, φ1, l, o⟩⟩) fun us s1 ⟨vs, H1, I1, r1, q1⟩ => ?_) hs hpl))
      obtain ⟨W1, φ1, l, o⟩ := q1
      obtain ⟨o2, fz⟩ := o.fix e2'
      obtain ⟨v, u, rfl, f1, f2⟩ := fz.two
      obtain ⟨a, xv, rfl, w1, h1, g1⟩ := f1.list_inv
      obtain ⟨b, yv, rfl, w2, h2, g2⟩ := f2.list_inv
      obtain rfl := fza_inv g1
      obtain rfl := fza_inv g2
      have sq1 : SqL X.K H1 a (ns.map V.int) := .of h1
      have sq2 : SqL X.K H1 b (ms.map V.int) := .of h2
      cases r1 with
      | cons r rr =>
        cases rr with
        | cons r' rr =>
          cases rr
          cases r
          cases r'
          have fresh5 : ∀ c, c ∈ [s1.heap.objs.size + 4, s1.heap.objs.size + 2, s1.heap.objs.size + 3, s1.heap.objs.size, s1.heap.objs.size + 1] → FpOk X pins H1 c := fun c hcm => by
            have e' : c = s1.heap.objs.size + 4 ∨ c = s1.heap.objs.size + 2 ∨ c = s1.heap.objs.size + 3 ∨ c = s1.heap.objs.size ∨ c = s1.heap.objs.size + 1 := by simpa using hcm
            have hle : s1.heap.objs.size ≤ c := by
              rcases e' with z | z | z | z | z
              · rw [z]; exact Nat.le_add_right _ _
              · rw [z]; exact Nat.le_add_right _ _
              · rw [z]; exact Nat.le_add_right _ _
              · rw [z]; exact Nat.le_refl _
              · rw [z]; exact Nat.le_add_right _ _
            exact I1.fpOk hle (I1.hok.fresh hle)
          obtain ⟨its, rv, p1, _⟩ := I1.list sq1
          obtain ⟨its2, rv2, p2', _⟩ := I1.list sq2
          refine call_zip_2 p1.isList p2'.isList fun h' hz hTI hTO g3 g4 hsz hk => args_nil ?_
          have I2 : Inv X pins σ H1 { s1 with heap := h' } := I1.kept (t' := s1.toks) hk
          refine call_list_zip (s := { s1 with heap := h' }) (I2.ok.hd hc) (ktu_apart s1.heap.objs.size a b p1.lt p2'.lt) few.1 few.2 sq1 sq2 I2 fresh5 hz hTI g3 g4 hTO fun s' H' S bs hS I' L hl => ?_
          have ot : OutA X.K W H (InF φ) σ _ [] [] (Or W1 l) H1 φ1 [] := ⟨o2.ev, o2.ss, .nil, (fun a h => nomatch h), o2.sub, (fun a h => nomatch h)⟩
          have hf := fza_zip (K := X.K) (W := Or W1 l) (H := H') (ns := ns) (ms := ms) bs 0 (by rw [hl]; rfl) fun j c e => by rw [Nat.zero_add]; exact L.tp j c e
          refine ⟨.ref S, H', I', rfl, k (.ref S) (Or W1 l) H' φ1 [S] (ot.op ss (Ev.grow L.up) (fun b w => ?_) (.ow L.s (fun w => ?_) hf) fun b hb => ?_)⟩
          · obtain ⟨ob, e⟩ := o2.ss.wf b w
            exact ⟨ob, L.up _ _ e⟩
          · obtain ⟨ob, e⟩ := o2.ss.wf S w
            rw [hS] at e
            cases e
          · obtain rfl := List.mem_singleton.mp hb
            exact .inr hS
    · cases hf
  · cases hf
def lzK : List D × Rho → Option (Vl × Rho) := fun p => match p.1 with
  | [.list xs, .list ys] => (intsD xs).bind fun ns => (intsD ys).bind fun ms => if ns.length < 1000 ∧ ms.length < 1000 then some (.ow (zipD xs ys), p.2) else none
  | _ => none
@[simp] theorem ap_lzE {fs : DA} {ρ : Rho} : lzE fs ρ = (fs ρ).bind fun p => (frzA p.1).bind fun ds => lzK (ds, p.2) := rfl
theorem lzK_ok {ρ : Rho} {ns ms : List Int} (h : ns.length < 1000) (h2 : ms.length < 1000) : lzK ([.list (ns.map .int), .list (ms.map .int)], ρ) = some (.ow (zipD (ns.map .int) (ms.map .int)), ρ) := by
  unfold lzK
  dsimp only
  rw [intsD_map, intsD_map, Option.bind_some, Option.bind_some, if_pos ⟨h, h2⟩]
end
end DL

namespace DL
open PySem PySem.Spec PyProof.Rows L2
noncomputable section
/-! a function that calls itself: the lowest turn is never told -/
theorem fn_none {P : Program} {w : World} {K : PySem.W.Frag} {mg : Str → Option Value} {base : Heap} {k : Nat} {f : Addr} {fd : FuncData} {ps : List Str} : FnG P w K mg base CX0 k f fd ps (spF K ps.length fun _ => none) :=
  ⟨fun vs H Q E h => h.1, fun A outer s H args us vs Q E hr en hb hv h => by
    obtain ⟨_, W, ρ, φ, r, ρ', ss, hf, _⟩ := h
    cases hf⟩
/-! an own list looked at as fixed, for a number; all other own ones are hidden -/
def onlyF : Option Vl → Option Vl
  | some (.fz d) => some (.fz d)
  | _ => none
def hidR (i : Nat) (ds : List D) (ρ : Rho) : Rho := (ρ.map onlyF).set i (some (.fz (.list ds)))
def hidE (i : Nat) (f : DE) : DE := fun ρ => match ρ[i]? with
  | some (some (.ow ds)) => (f (hidR i ds ρ)).bind fun p => match p.1 with
    | .fz (.int n) => some (.fz (.int n), ρ)
    | _ => none
  | _ => none
section
variable {K : PySem.W.Frag} {W : Addr → Prop} {H : Hp} {σ : L2.St} {ρ : Rho} {φ : Fp}
theorem SS.hid (s : SS K W H σ ρ φ) {i : Nat} {ds : List D} (e : ρ[i]? = some (some (.ow ds))) : SS K (Or W (φ i)) H σ (hidR i ds ρ) (fun _ => []) := by
  obtain ⟨v, e1, rv⟩ := s.sl i _ e
  have hl : i < ρ.length := (List.getElem?_eq_some_iff.mp e).1
  refine ⟨by unfold hidR; rw [List.length_set, List.length_map]; exact s.len, fun j w q => ?_, fun _ _ => rfl, fun _ _ _ h => absurd h List.not_mem_nil, ?_⟩
  rotate_left
  · rintro a (h | h)
    · exact s.wf a h
    · obtain ⟨_, o, q, _⟩ := s.own ⟨i, h⟩
      exact ⟨o, q⟩
  unfold hidR at q
  by_cases hj : i = j
  · subst hj
    rw [List.getElem?_set_self (by rw [List.length_map]; exact hl)] at q
    cases q
    exact ⟨v, e1, .fz (rv.frz (fun _ h => .inl h) (fun b h => .inr h) rfl)⟩
  · rw [List.getElem?_set_ne hj, List.getElem?_map] at q
    cases r : ρ[j]? with
    | none => rw [r] at q; cases q
    | some x =>
      rw [r] at q
      cases x with
      | none => cases q
      | some y =>
        cases y with
        | fz d =>
          cases q
          obtain ⟨u, h1, h2⟩ := s.sl j _ r
          have h3 : Fz K W H u d := by
            generalize φ j = l at h2
            cases h2 with
            | fz f => exact f
          exact ⟨u, h1, .fz (h3.xt Wxt.or)⟩
        | _ => cases q
end
section
variable {X : Cx} {e : Expr} {f : DE}
theorem px_hid (i : Nat) (h : PX X e f) : PX X e (hidE i f) := PE.mono h fun σ H Q ht => by
  obtain ⟨W, ρ, φ, r, ρ', s, hf, k⟩ := ht
  unfold hidE at hf
  split at hf
  rotate_left
  · cases hf
  rename_i ds e1
  obtain ⟨⟨r0, ρ1⟩, e2, hf⟩ := Option.bind_eq_some_iff.mp hf
  refine ⟨_, _, _, r0, ρ1, s.hid e1, e2, fun v W' H' φ' l o => ?_⟩
  dsimp only at hf
  split at hf
  rotate_left
  · cases hf
  rename_i n
  cases hf
  have up : ∀ a ob, H a = some ob → H' a = some ob := fun a ob q => o.ev.keep a ob q fun z => by
    obtain ⟨_, z⟩ := z
    cases z
  have hv : v = .int n := by
    have rx := o.rx
    cases rx with
    | rv rx =>
      cases rx with
      | fz fz => cases fz; rfl
  subst hv
  exact k _ W H' φ [] ⟨Ev.grow up, s.grow up, .rv (.fz (.int _)), (fun a h => nomatch h), fun a h => .inl h, fun a h => nomatch h⟩
end
theorem hid_ok {i : Nat} {f : DE} {ρ ρ1 : Rho} {ds : List D} {n : Int} (e : ρ[i]? = some (some (.ow ds))) (h : f (hidR i ds ρ) = some (.fz (.int n), ρ1)) : hidE i f ρ = some (.fz (.int n), ρ) := by
  unfold hidE
  rw [e]
  dsimp only
  rw [h]
  rfl
end
end DL

set_option maxHeartbeats 1000000
namespace DL
open PySem
open PySem.Sem (wp)
/-! zip of a tuple and a list -/
/-- what an iterator does at the list or tuple it goes over -/
structure Stp (IsI : Heap → Nat → Prop) (IsS : Heap → Prop) (it l : Addr) (items : Array Value) : Prop where
  ki : ∀ {h h' : Heap} {i : Nat} {c : Addr}, IsI h i → Heap.ExtBut c h h' → it ≠ c → IsI h' i
  ks : ∀ {h h' : Heap} {c : Addr}, IsS h → Heap.ExtBut c h h' → l ≠ c → IsS h'
  ka : ∀ {h h' : Heap} {i : Nat}, IsI h i → (∀ o, h.get? it = some o → h'.get? it = some o) → IsI h' i
  lt : ∀ {h : Heap} {i : Nat}, IsI h i → it < h.objs.size
  go : ∀ {prog : Program} {w : World} {A : Around} {E : Value → Shared → Prop} {s : Shared} {i : Nat} {x : Value} {Q : Value → Shared → Prop}, IsI s.heap i → IsS s.heap → items[i]? = some x →
    (∀ h', IsI h' (i + 1) → Heap.SameBut it s.heap h' → Q x { s with heap := h' }) → wpAny (model prog w) A (Builtin.SmallTypes.nextOf (.ref it)) Q E s
  no : ∀ {prog : Program} {w : World} {A : Around} {E : Value → Shared → Prop} {s : Shared} {i : Nat} {Q : Value → Shared → Prop}, A.handled = none → IsI s.heap i → IsS s.heap → items[i]? = none →
    (∀ h' e, Heap.ExtBut it s.heap h' → (∃ o, h'.get? e = some o ∧ o.cls = .type "StopIteration") → E (.ref e) { s with heap := h' }) → wpAny (model prog w) A (Builtin.SmallTypes.nextOf (.ref it)) Q E s
theorem stp_list {it l : Addr} {items : Array Value} : Stp (fun h i => h.IsListIter it l i) (fun h => h.IsList l items) it l items where
  ki := fun x e n => x.extBut e n
  ks := fun x e n => x.extBut e n
  ka := fun x e => x.at e
  lt := fun x => by obtain ⟨_, e, _⟩ := x; exact Heap.lt_size e
  go := fun a b c d => wpAny_nextOf_list_item a b c d
  no := fun a b c d e => wpAny_nextOf_list_end a b c d e
theorem stp_tuple {it l : Addr} {items : Array Value} : Stp (fun h i => h.IsTupleIter it l i) (fun h => h.IsTuple l items) it l items where
  ki := fun x e n => x.extBut e n
  ks := fun x e n => x.extBut e n
  ka := fun x e => x.at e
  lt := fun x => by obtain ⟨_, e, _⟩ := x; exact Heap.lt_size e
  go := fun a b c d => RZ.nextOf_tuple_item a b c d
  no := fun a b c d e => RZ.nextOf_tuple_end a b c d e
section
variable {prog : Program} {w : World} {A : Around} {E : Value → Shared → Prop} {s : Shared} {I1 I2 : Heap → Nat → Prop} {S1 S2 : Heap → Prop} {z TI TO i1 i2 l1 l2 : Addr} {k1 k2 : Nat} {xs ys : Array Value}
theorem zg_item (p1 : Stp I1 S1 i1 l1 xs) (p2 : Stp I2 S2 i2 l2 ys) {x y a b : Value} {Q : Value → Shared → Prop} (D : ZipApart z TI TO i1 i2 l1 l2)
    (hz : IsZip s.heap z TI TO .none) (hTI : IsPair s.heap TI (.ref i1) (.ref i2)) (hTO : IsPair s.heap TO a b)
    (h1 : I1 s.heap k1) (h2 : I2 s.heap k2) (hl1 : S1 s.heap) (hl2 : S2 s.heap) (hx : xs[k1]? = some x) (hy : ys[k2]? = some y)
    (hQ : ∀ h', IsZip h' z TI TO (rawInt s.heap.objs.size) → IsPair h' TO x y → I1 h' (k1 + 1) → I2 h' (k2 + 1) → IsPair h' s.heap.objs.size x y → h'.objs.size = s.heap.objs.size + 1 →
      (∀ c o, c ≠ z → c ≠ TO → c ≠ i1 → c ≠ i2 → s.heap.get? c = some o → h'.get? c = some o) → Q (.ref s.heap.objs.size) { s with heap := h' }) :
    wpAny (model prog w) A (Builtin.«zip.__next__» ⟨[.ref z], []⟩) (fun fin s' => ∃ v, fin = .done (.ret v) ∧ Q v s') E s := by
  show wpAny _ _ (field (.ref z) 2 >>= _) _ _ _
  refine wpAny_bind (wpAny_field hz rfl (x := .bool false) rfl ?_)
  show wpAny _ _ (field (.ref z) 3 >>= _) _ _ _
  refine wpAny_bind (wpAny_field hz rfl (x := .ref TI) rfl ?_)
  refine wpAny_bind (wpAny_seqItems hTI rfl ?_)
  show wpAny _ _ (Builtin.SmallTypes.ownedTupleIsFree (.ref z) >>= _) _ _ _
  refine wpAny_bind ?_
  unfold Builtin.SmallTypes.ownedTupleIsFree
  refine wpAny_bind (wpAny_field hz rfl (x := .none) rfl (wpAny_pure ?_))
  simp only [if_true]
  refine wpAny_bind (wpAny_rule ?_)
  refine wpAny_bind (wpAny_field hz rfl (x := .ref TO) rfl ?_)
  refine wpAny_bind (wpAny_setField_rec hz (by simp) fun g1 y1 b1 => ?_)
  replace y1 : IsZip g1 z TI TO .ellipsis := y1
  refine wpAny_bind ?_
  simp only [List.zipIdx_cons, List.zipIdx_nil, List.forIn_cons, List.forIn_nil]
  refine wpAny_bind (wpAny_bind (wpAny_onRaise ?_))
  show wpAny _ _ (Builtin.SmallTypes.nextOf (.ref i1) >>= _) _ _ _
  refine wpAny_bind (p1.go (p1.ki h1 b1.extBut D.i1z) (p1.ks hl1 b1.extBut D.l1z) hx fun g2 n1 b2 => wpAny_pure ?_)
  have t2 : IsPair g2 TO a b := b2.extBut _ _ D.TOi1 (b1.extBut _ _ D.TOz hTO)
  refine wpAny_bind (wpAny_seqItems t2 rfl ?_)
  refine wpAny_bind (wpAny_updateSeq_pair t2 fun g3 t3 b3 => ?_)
  replace t3 : IsPair g3 TO x b := t3
  refine wpAny_bind (wpAny_letGo (wpAny_pure ?_))
  refine wpAny_bind (wpAny_bind (wpAny_onRaise ?_))
  show wpAny _ _ (Builtin.SmallTypes.nextOf (.ref i2) >>= _) _ _ _
  refine wpAny_bind (p2.go (p2.ki (p2.ki (p2.ki h2 b1.extBut D.i2z) b2.extBut D.i12.symm) b3.extBut D.TOi2.symm)
    (p2.ks (p2.ks (p2.ks hl2 b1.extBut D.l2z) b2.extBut D.l2i1) b3.extBut D.l2TO) hy fun g4 n2 b4 => wpAny_pure ?_)
  have t4 : IsPair g4 TO x b := b4.extBut _ _ D.TOi2 t3
  refine wpAny_bind (wpAny_seqItems t4 rfl ?_)
  refine wpAny_bind (wpAny_updateSeq_pair t4 fun g5 t5 b5 => ?_)
  replace t5 : IsPair g5 TO x y := t5
  refine wpAny_bind (wpAny_letGo (wpAny_pure (wpAny_pure ?_)))
  refine wpAny_bind (wpAny_seqItems t5 rfl ?_)
  refine wpAny_bind (wpAny_newTuple ?_)
  have sz : g5.objs.size = s.heap.objs.size := by rw [b5.1, b4.1, b3.1, b2.1, b1.1]
  have y5 : IsZip g5 z TI TO .ellipsis := b5.extBut _ _ D.TOz.symm (b4.extBut _ _ D.i2z.symm (b3.extBut _ _ D.TOz.symm (b2.extBut _ _ D.i1z.symm y1)))
  have k5 : ∀ c o, c ≠ z → c ≠ TO → c ≠ i1 → c ≠ i2 → s.heap.get? c = some o → g5.get? c = some o := fun c o c1 c2 c3 c4 e =>
    b5.extBut _ _ c2 (b4.extBut _ _ c4 (b3.extBut _ _ c2 (b2.extBut _ _ c3 (b1.extBut _ _ c1 e))))
  have m1 : I1 g5 (k1 + 1) := p1.ki (p1.ki (p1.ki n1 b3.extBut D.TOi1.symm) b4.extBut D.i12) b5.extBut D.TOi1.symm
  have m2 : I2 g5 (k2 + 1) := p2.ki n2 b5.extBut D.TOi2.symm
  have zl : z < g5.objs.size := Heap.lt_size y5
  show wpAny _ _ (Builtin.SmallTypes.ownedTupleHandOut (.ref z) (.ref g5.objs.size) >>= _) _ _ _
  refine wpAny_bind ?_
  unfold Builtin.SmallTypes.ownedTupleHandOut
  have y6 : IsZip (g5.push { cls := .type "tuple", data := .seq #[x, y] }) z TI TO .ellipsis := Heap.get?_push_of_some _ y5
  refine wpAny_bind (wpAny_setField_rec y6 (by simp) fun g7 y7 b7 => ?_)
  replace y7 : IsZip g7 z TI TO (rawInt g5.objs.size) := y7
  refine wpAny_setField_rec y7 (by simp) fun g8 y8 b8 => ?_
  replace y8 : IsZip g8 z TI TO (rawInt g5.objs.size) := y8
  have up : ∀ c o, c ≠ z → g5.get? c = some o → g8.get? c = some o := fun c o c1 e => b8.extBut _ _ c1 (b7.extBut _ _ c1 (Heap.get?_push_of_some _ e))
  have t8 : IsPair g8 g5.objs.size x y := b8.extBut _ _ (Nat.ne_of_gt zl) (b7.extBut _ _ (Nat.ne_of_gt zl) (Heap.get?_push_size _ rfl))
  have s8 : g8.objs.size = g5.objs.size + 1 := by rw [b8.1, b7.1, Heap.size_push]
  rw [sz] at y8 t8 s8
  refine wpAny_pure ⟨_, rfl, ?_⟩
  show Q (.ref g5.objs.size) _
  rw [sz]
  exact hQ g8 y8 (up _ _ D.TOz t5) (p1.ka m1 fun o e => up _ o D.i1z e) (p2.ka m2 fun o e => up _ o D.i2z e) t8 s8 fun c o c1 c2 c3 c4 e => up c o c1 (k5 c o c1 c2 c3 c4 e)
theorem zg_end (p1 : Stp I1 S1 i1 l1 xs) (p2 : Stp I2 S2 i2 l2 ys) {a b : Value} {Q : Fin → Shared → Prop} (hh : A.handled = none) (D : ZipApart z TI TO i1 i2 l1 l2)
    (hz : IsZip s.heap z TI TO .none) (hTI : IsPair s.heap TI (.ref i1) (.ref i2)) (hTO : IsPair s.heap TO a b)
    (h1 : I1 s.heap k1) (h2 : I2 s.heap k2) (hl1 : S1 s.heap) (hl2 : S2 s.heap) (hend : xs[k1]? = none ∨ ys[k2]? = none)
    (hE : ∀ h' e, (∀ c o, c ≠ z → c ≠ TO → c ≠ i1 → c ≠ i2 → s.heap.get? c = some o → h'.get? c = some o) → (∃ o, h'.get? e = some o ∧ o.cls = .type "StopIteration") → E (.ref e) { s with heap := h' }) :
    wpAny (model prog w) A (Builtin.«zip.__next__» ⟨[.ref z], []⟩) Q E s := by
  show wpAny _ _ (field (.ref z) 2 >>= _) _ _ _
  refine wpAny_bind (wpAny_field hz rfl (x := .bool false) rfl ?_)
  show wpAny _ _ (field (.ref z) 3 >>= _) _ _ _
  refine wpAny_bind (wpAny_field hz rfl (x := .ref TI) rfl ?_)
  refine wpAny_bind (wpAny_seqItems hTI rfl ?_)
  show wpAny _ _ (Builtin.SmallTypes.ownedTupleIsFree (.ref z) >>= _) _ _ _
  refine wpAny_bind ?_
  unfold Builtin.SmallTypes.ownedTupleIsFree
  refine wpAny_bind (wpAny_field hz rfl (x := .none) rfl (wpAny_pure ?_))
  simp only [if_true]
  refine wpAny_bind (wpAny_rule ?_)
  refine wpAny_bind (wpAny_field hz rfl (x := .ref TO) rfl ?_)
  refine wpAny_bind (wpAny_setField_rec hz (by simp) fun g1 y1 b1 => ?_)
  replace y1 : IsZip g1 z TI TO .ellipsis := y1
  refine wpAny_bind ?_
  simp only [List.zipIdx_cons, List.zipIdx_nil, List.forIn_cons, List.forIn_nil]
  refine wpAny_bind (wpAny_bind (wpAny_onRaise ?_))
  show wpAny _ _ (Builtin.SmallTypes.nextOf (.ref i1) >>= _) _ _ _
  cases hx : xs[k1]? with
  | none =>
    refine wpAny_bind (p1.no hh (p1.ki h1 b1.extBut D.i1z) (p1.ks hl1 b1.extBut D.l1z) hx fun g2 e b2 he => ?_)
    obtain ⟨oe, hoe, hce⟩ := he
    have y2 : IsZip g2 z TI TO .ellipsis := b2 _ _ D.i1z.symm y1
    have ez : e ≠ z := fun q => by subst q; rw [y2] at hoe; cases hoe; simp at hce
    refine wpAny_setField_rec y2 (by simp) fun g3 _ b3 => hE g3 e (fun c o c1 _ c3 _ q => b3.extBut _ _ c1 (b2 _ _ c3 (b1.extBut _ _ c1 q))) ⟨oe, b3.extBut _ _ ez hoe, hce⟩
  | some x =>
    have hy : ys[k2]? = none := by rcases hend with h | h; rw [hx] at h; cases h; exact h
    refine wpAny_bind (p1.go (p1.ki h1 b1.extBut D.i1z) (p1.ks hl1 b1.extBut D.l1z) hx fun g2 n1 b2 => wpAny_pure ?_)
    have t2 : IsPair g2 TO a b := b2.extBut _ _ D.TOi1 (b1.extBut _ _ D.TOz hTO)
    refine wpAny_bind (wpAny_seqItems t2 rfl ?_)
    refine wpAny_bind (wpAny_updateSeq_pair t2 fun g3 t3 b3 => ?_)
    refine wpAny_bind (wpAny_letGo (wpAny_pure ?_))
    refine wpAny_bind (wpAny_bind (wpAny_onRaise ?_))
    show wpAny _ _ (Builtin.SmallTypes.nextOf (.ref i2) >>= _) _ _ _
    refine wpAny_bind (p2.no hh (p2.ki (p2.ki (p2.ki h2 b1.extBut D.i2z) b2.extBut D.i12.symm) b3.extBut D.TOi2.symm)
      (p2.ks (p2.ks (p2.ks hl2 b1.extBut D.l2z) b2.extBut D.l2i1) b3.extBut D.l2TO) hy fun g4 e b4 he => ?_)
    obtain ⟨oe, hoe, hce⟩ := he
    have y4 : IsZip g4 z TI TO .ellipsis := b4 _ _ D.i2z.symm (b3.extBut _ _ D.TOz.symm (b2.extBut _ _ D.i1z.symm y1))
    have ez : e ≠ z := fun q => by subst q; rw [y4] at hoe; cases hoe; simp at hce
    refine wpAny_setField_rec y4 (by simp) fun g5 _ b5 => hE g5 e (fun c o c1 c2 c3 c4 q => b5.extBut _ _ c1 (b4 _ _ c4 (b3.extBut _ _ c2 (b2.extBut _ _ c3 (b1.extBut _ _ c1 q))))) ⟨oe, b5.extBut _ _ ez hoe, hce⟩
theorem zg_next (p1 : Stp I1 S1 i1 l1 xs) (p2 : Stp I2 S2 i2 l2 ys) {x y a b : Value} {Q : Option Value → Shared → Prop} (D : ZipApart z TI TO i1 i2 l1 l2)
    (hz : IsZip s.heap z TI TO .none) (hTI : IsPair s.heap TI (.ref i1) (.ref i2)) (hTO : IsPair s.heap TO a b)
    (h1 : I1 s.heap k1) (h2 : I2 s.heap k2) (hl1 : S1 s.heap) (hl2 : S2 s.heap) (hx : xs[k1]? = some x) (hy : ys[k2]? = some y)
    (hQ : ∀ h', IsZip h' z TI TO (rawInt s.heap.objs.size) → IsPair h' TO x y → I1 h' (k1 + 1) → I2 h' (k2 + 1) → IsPair h' s.heap.objs.size x y → h'.objs.size = s.heap.objs.size + 1 →
      (∀ c o, c ≠ z → c ≠ TO → c ≠ i1 → c ≠ i2 → s.heap.get? c = some o → h'.get? c = some o) → Q (some (.ref s.heap.objs.size)) { s with heap := h' }) :
    wpAny (model prog w) A (pyNext (.ref z)) Q E s := by
  have hT : s.TypeIs (.ref z) "zip" := ⟨_, hz, rfl⟩
  unfold pyNext
  exact wpAny_bind (wpAny_attempt (wpAny_callSpecial?_slot (name := Str.ofString "__next__") hT F.slot_zip_next
    (wpAny_call_entry F.slot_zip_next hT F.entry_zip_next
      (zg_item p1 p2 D hz hTI hTO h1 h2 hl1 hl2 hx hy fun h' a1 a2 a3 a4 a5 a6 a7 => wpAny_pure (hQ h' a1 a2 a3 a4 a5 a6 a7)) (F.args_zip_next_1 _))))
theorem zg_stop (p1 : Stp I1 S1 i1 l1 xs) (p2 : Stp I2 S2 i2 l2 ys) {a b : Value} {Q : Option Value → Shared → Prop} (hh : A.handled = none) (D : ZipApart z TI TO i1 i2 l1 l2)
    (hz : IsZip s.heap z TI TO .none) (hTI : IsPair s.heap TI (.ref i1) (.ref i2)) (hTO : IsPair s.heap TO a b)
    (h1 : I1 s.heap k1) (h2 : I2 s.heap k2) (hl1 : S1 s.heap) (hl2 : S2 s.heap) (hend : xs[k1]? = none ∨ ys[k2]? = none)
    (hQ : ∀ h', (∀ c o, c ≠ z → c ≠ TO → c ≠ i1 → c ≠ i2 → s.heap.get? c = some o → h'.get? c = some o) → Q none { s with heap := h' }) : wpAny (model prog w) A (pyNext (.ref z)) Q E s := by
  have hT : s.TypeIs (.ref z) "zip" := ⟨_, hz, rfl⟩
  unfold pyNext
  refine wpAny_bind (wpAny_attempt (wpAny_callSpecial?_slot (name := Str.ofString "__next__") hT F.slot_zip_next
    (wpAny_call_entry F.slot_zip_next hT F.entry_zip_next (zg_end p1 p2 hh D hz hTI hTO h1 h2 hl1 hl2 hend fun h' e hk he => ?_) (F.args_zip_next_1 _))))
  obtain ⟨o, ho, hc⟩ := he
  refine wpAny_bind (wpAny_isInstance (T := "StopIteration") (b := true) ⟨o, ho, hc⟩ isSubtype_stop ?_)
  exact wpAny_pure (hQ _ hk)
end
/-! the call zip(tuple, list) -/
abbrev zm1 (h : Heap) (l1 : Addr) : Heap := h.push { cls := .type "tuple_iterator", data := .fields #[.ref l1, .int 0 0] }
abbrev zm2 (h : Heap) (l1 l2 : Addr) : Heap := (zm1 h l1).push { cls := .type "list_iterator", data := .fields #[.ref l2, .int 0 0] }
abbrev zm3 (h : Heap) (l1 l2 : Addr) : Heap := (zm2 h l1 l2).push { cls := .type "tuple", data := .seq #[.ref h.objs.size, .ref (zm1 h l1).objs.size] }
abbrev zm4 (h : Heap) (l1 l2 : Addr) : Heap := (zm3 h l1 l2).push { cls := .type "tuple", data := .seq #[.none, .none] }
abbrev zm5 (h : Heap) (l1 l2 : Addr) : Heap := (zm4 h l1 l2).push { cls := .type "zip", data := .fields #[.none, .bool false, .bool false, .ref (zm2 h l1 l2).objs.size, .ref (zm3 h l1 l2).objs.size] }
theorem zm_new (l1 l2 : Addr) (xs ys : Array Value) :
    Meets (Builtin.«zip.__new__» ⟨[.type "zip", .ref l1, .ref l2], []⟩) (fun _ R s => s.heap.IsTuple l1 xs ∧ s.heap.IsList l2 ys ∧
      R (.ok (.ret (.ref (zm4 s.heap l1 l2).objs.size))) { s with heap := zm5 s.heap l1 l2 }) :=
  .of_wp fun prog w A R s h => by
    obtain ⟨hp, g, d, tk, os⟩ := s; obtain ⟨hl1, hl2, h⟩ := h
    have hsub := sub_zip
    have hL1 : Heap.IsTuple (Shared.heap ⟨hp, g, d, tk, os⟩) l1 xs := hl1
    have hL2 : Heap.IsList (Shared.heap ⟨hp.push { cls := .type "tuple_iterator", data := .fields #[.ref l1, .int 0 0] }, g, d, tk, os⟩) l2 ys := Heap.IsList.push hl2 _
    wp_walk using wpAny_pyIter_tuple hL1, wpAny_pyIter_list hL2
    exact ⟨_, rfl, h⟩
section
variable {prog : Program} {w : World} {A : Around} {E : Value → Shared → Prop} {s : Shared}
theorem call_zipM {l1 l2 : Addr} {xs ys : Array Value} {Q : Value → Shared → Prop} (hl1 : s.heap.IsTuple l1 xs) (hl2 : s.heap.IsList l2 ys)
    (h : ∀ h', IsZip h' (s.heap.objs.size + 4) (s.heap.objs.size + 2) (s.heap.objs.size + 3) .none → IsPair h' (s.heap.objs.size + 2) (.ref s.heap.objs.size) (.ref (s.heap.objs.size + 1)) →
      IsPair h' (s.heap.objs.size + 3) .none .none → h'.IsTupleIter s.heap.objs.size l1 0 → h'.IsListIter (s.heap.objs.size + 1) l2 0 → h'.objs.size = s.heap.objs.size + 5 →
      (∀ c o, s.heap.get? c = some o → h'.get? c = some o) → Q (.ref (s.heap.objs.size + 4)) { s with heap := h' }) :
    wpAny (model prog w) A (call (.type "zip") [.ref l1, .ref l2]) Q E s := by
  refine callType_new F.called_zip (by decide) (F.typeCall_zip_2 _ _) (F.newCall_zip_2 _ _) (fun obj => F.args_object_init_3 obj _ _) F.entry_zip_new
    (zm_new l1 l2 xs ys) ⟨hl1, hl2, ?_⟩
  have z1 : (zm1 s.heap l1).objs.size = s.heap.objs.size + 1 := Heap.size_push ..
  have z2 : (zm2 s.heap l1 l2).objs.size = s.heap.objs.size + 2 := by rw [Heap.size_push, z1]
  have z3 : (zm3 s.heap l1 l2).objs.size = s.heap.objs.size + 3 := by rw [Heap.size_push, z2]
  have z4 : (zm4 s.heap l1 l2).objs.size = s.heap.objs.size + 4 := by rw [Heap.size_push, z3]
  have z5 : (zm5 s.heap l1 l2).objs.size = s.heap.objs.size + 5 := by rw [Heap.size_push, z4]
  have g5 : (zm5 s.heap l1 l2).get? (zm4 s.heap l1 l2).objs.size = some _ := Heap.get?_push_size _ rfl
  have g4 : (zm5 s.heap l1 l2).get? (zm3 s.heap l1 l2).objs.size = some _ := Heap.get?_push_of_some _ (Heap.get?_push_size _ rfl)
  have g3 : (zm5 s.heap l1 l2).get? (zm2 s.heap l1 l2).objs.size = some _ := Heap.get?_push_of_some _ (Heap.get?_push_of_some _ (Heap.get?_push_size _ rfl))
  have g2 : (zm5 s.heap l1 l2).get? (zm1 s.heap l1).objs.size = some _ := Heap.get?_push_of_some _ (Heap.get?_push_of_some _ (Heap.get?_push_of_some _ (Heap.get?_push_size _ rfl)))
  have g1 : (zm5 s.heap l1 l2).get? s.heap.objs.size = some _ := Heap.get?_push_of_some _ (Heap.get?_push_of_some _ (Heap.get?_push_of_some _ (Heap.get?_push_of_some _ (Heap.get?_push_size _ rfl))))
  show _ ∧ _
  rw [z2, z3, z4] at g5
  rw [z1, z2] at g3
  rw [z3] at g4
  rw [z1] at g2
  rw [z4]
  exact ⟨⟨_, g5, rfl⟩, h _ g5 g3 g4 ⟨_, g1, rfl, rfl⟩ ⟨_, g2, rfl, rfl⟩ z5 fun c o q =>
    Heap.get?_push_of_some _ (Heap.get?_push_of_some _ (Heap.get?_push_of_some _ (Heap.get?_push_of_some _ (Heap.get?_push_of_some _ q))))⟩
end
section
open PySem.Spec PyProof.Rows L2
/-- the tuple at a and the list at b, turn by turn -/
def ItzM (K : PySem.W.Frag) (a b : Addr) : It :=
  ⟨fun i H => ∃ (xs ys : List V) (x y : V), SqT K H a xs ∧ SqL K H b ys ∧ xs[i]? = some x ∧ ys[i]? = some y,
    fun i H v H' => ∃ T x y, v = .ref T ∧ H T = none ∧ H' = upd H T (.tup [x, y]) ∧ (∀ xs, SqT K H a xs → xs[i]? = some x) ∧ ∀ ys, SqL K H b ys → ys[i]? = some y,
    fun i H => ∃ xs ys : List V, SqT K H a xs ∧ SqL K H b ys ∧ (xs.length ≤ i ∨ ys.length ≤ i)⟩
theorem turn_zipM {P : Program} {w : World} {K : PySem.W.Frag} {elts : List Expr} {kk : Nat} {tpos : Pos} {a b z TI TO i1 i2 : Addr} (D : ZipApart z TI TO i1 i2 a b) :
    Turn P w K (.Tuple elts kk tpos) (ItzM K a b) [z, TI, TO, i1, i2] z (fun i h => IsZip h z TI TO .none ∧ IsPair h TI (.ref i1) (.ref i2) ∧ (∃ x y, IsPair h TO x y) ∧ h.IsTupleIter i1 a i ∧ h.IsListIter i2 b i) where
  mem := by simp
  obj := fun i h st c hc => by
    obtain ⟨hz, hTI, ⟨x, y, hTO⟩, ⟨o1, e1, _, d1⟩, ⟨o2, e2, _, d2⟩⟩ := st
    have e' : c = z ∨ c = TI ∨ c = TO ∨ c = i1 ∨ c = i2 := by simpa using hc
    rcases e' with q | q | q | q | q
    · rw [q]; exact ⟨_, hz, fun v q => nomatch q⟩
    · rw [q]; exact ⟨_, hTI, fun v q => nomatch q⟩
    · rw [q]; exact ⟨_, hTO, fun v q => nomatch q⟩
    · rw [q]; exact ⟨o1, e1, fun v q => by rw [d1] at q; cases q⟩
    · rw [q]; exact ⟨o2, e2, fun v q => by rw [d2] at q; cases q⟩
  keep := fun i h h' st k => by
    obtain ⟨hz, hTI, ⟨x, y, hTO⟩, h1, h2⟩ := st
    exact ⟨k z (by simp) _ hz, k TI (by simp) _ hTI, ⟨x, y, k TO (by simp) _ hTO⟩, h1.at fun o q => k i1 (by simp) o q, h2.at fun o q => k i2 (by simp) o q⟩
  item := by
    intro X hP hw hK hc i pins s σ H E I hf st hg
    subst hP hw hK
    obtain ⟨hz, hTI, ⟨x0, y0, hTO⟩, h1, h2⟩ := st
    obtain ⟨xs, ys, x, y, hqx, hqy, hx, hy⟩ := hg
    obtain ⟨its, rv, p, _⟩ := I.tuple hqx
    obtain ⟨its2, rv2, p2, _⟩ := I.list hqy
    obtain ⟨u, hu, ru⟩ := rv.get hx
    obtain ⟨u2, hu2, ru2⟩ := rv2.get hy
    have hzl : z < s.heap.objs.size := Heap.lt_size hz
    refine zg_next (stp_tuple (it := i1) (l := a) (items := its.toArray)) (stp_list (it := i2) (l := b) (items := its2.toArray)) D hz hTI hTO h1 h2 p p2.isList (x := u) (y := u2) (by simpa using hu) (by simpa using hu2) fun h' z' TO' h1' h2' hT hsz hk => ?_
    refine ⟨_, rfl, wpAny_letOwnedTupleGo_zip (s := { s with heap := h' }) z' fun h'' z'' sb => ?_⟩
    have hT2 : h''.get? s.heap.objs.size = some { cls := .type "tuple", data := .seq #[u, u2] } := (sb.2 _ (Nat.ne_of_gt hzl)).trans hT
    have new : ObjOk X.prog X.w (upd H s.heap.objs.size (.tup [x, y])) h'' s.heap.objs.size (.tup [x, y]) :=
      ⟨by show 2 ≤ sizeLine; decide, [u, u2], .cons ru (.cons ru2 .nil), ⟨_, hT2, rfl, _, rfl⟩⟩
    have I1 : Inv X pins σ (upd H s.heap.objs.size (.tup [x, y])) { s with heap := h'' } :=
      I.turnedNew (t' := s.toks) (ch := [z, TI, TO, i1, i2]) (fun c o hb q => (sb.2 c (fun q' => hb (by simp [q']))).trans (hk c o (fun q' => hb (by simp [q'])) (fun q' => hb (by simp [q'])) (fun q' => hb (by simp [q'])) (fun q' => hb (by simp [q'])) q)) hf (Nat.le_refl _) new
    refine ⟨.ref s.heap.objs.size, _, I1, rfl, ⟨_, x, y, rfl, I.hok.fresh (Nat.le_refl _), rfl, fun l hl => by rw [I.tuple_inj hl hqx]; exact hx, fun l hl => by rw [I.list_inj hl hqy]; exact hy⟩, ⟨z'', ?_, ⟨u, u2, ?_⟩, ?_, ?_⟩, fun c hcm => ?_⟩
    · exact (sb.2 _ D.TIz).trans (hk _ _ D.TIz D.TITO D.TIi1 D.TIi2 hTI)
    · exact (sb.2 _ D.TOz).trans TO'
    · exact Heap.IsTupleIter.at h1' fun o q => (sb.2 _ D.i1z).trans q
    · exact Heap.IsListIter.at h2' fun o q => (sb.2 _ D.i2z).trans q
    · have hlt : c < s.heap.objs.size := by
        have e' : c = z ∨ c = TI ∨ c = TO ∨ c = i1 ∨ c = i2 := by simpa using hcm
        rcases e' with q | q | q | q | q
        · rw [q]; exact hzl
        · rw [q]; exact Heap.lt_size hTI
        · rw [q]; exact Heap.lt_size hTO
        · rw [q]; obtain ⟨_, e1, _⟩ := h1; exact Heap.lt_size e1
        · rw [q]; obtain ⟨_, e2, _⟩ := h2; exact Heap.lt_size e2
      rw [upd_ne (Nat.ne_of_lt hlt)]
      exact (hf c hcm).1
  done := by
    intro X hP hw hK hc i pins s σ H E I hf st hg
    subst hP hw hK
    obtain ⟨hz, hTI, ⟨x0, y0, hTO⟩, h1, h2⟩ := st
    obtain ⟨xs, ys, hqx, hqy, hend⟩ := hg
    obtain ⟨its, rv, p, _⟩ := I.tuple hqx
    obtain ⟨its2, rv2, p2, _⟩ := I.list hqy
    have l1 := rv.length
    have l2 := rv2.length
    have he : its.toArray[i]? = none ∨ its2.toArray[i]? = none := by
      rcases hend with q | q
      · exact .inl (by simp; omega)
      · exact .inr (by simp; omega)
    exact zg_stop (stp_tuple (it := i1) (l := a) (items := its.toArray)) (stp_list (it := i2) (l := b) (items := its2.toArray)) (I.ok.hd hc) D hz hTI hTO h1 h2 p p2.isList he fun h' hk => ⟨rfl, I.turnedL (t' := s.toks) (ch := [z, TI, TO, i1, i2]) (fun c o hb q =>
      hk c o (fun q' => hb (by simp [q'])) (fun q' => hb (by simp [q'])) (fun q' => hb (by simp [q'])) (fun q' => hb (by simp [q'])) q) hf⟩
  self := fun A i s Q E st h => wpAny_pyIter_zip st.1 h
def iZipM (K : PySem.W.Frag) (ta : TA) : TI := fun σ H R => ta σ H fun vs H1 => ∃ a b xs ys, vs = [.ref a, .ref b] ∧ SqT K H1 a xs ∧ SqL K H1 b ys ∧ R (ItzM K a b) H1
theorem pi_zipM {X : Cx} {e e2 : Expr} {ta : TA} {p pos tpos : Pos} {elts : List Expr} {kk : Nat} (hg : Gl X "zip") (hm : X.mg "zip" = none) (ha : PA X [e, e2] ta)
    (hs : starEach [e, e2] X.env = (false, eval e X.env) :: starEach [e2] X.env := by rfl) (hpl : (backTo pos (starEach [e2] X.env)).any (·.1) = false := by rfl) :
    PI X (.Tuple elts kk tpos) (.Call (.Name "zip" p) [e, e2] [] pos) (iZipM X.K ta) := by
  refine ⟨fun pins s σ H R I h => ?_⟩
  refine Call_ (ld_blt I hg hm PyProof.Rows.boot_zip (PyProof.Rows.callWith_type1 (thn (ha.run pos pins s σ H _ I h) fun us s1 ⟨vs, H1, I1, r1, q1⟩ => ?_) hs hpl))
  obtain ⟨a, b, xs, ys, ex, hqx, hqy, q⟩ := q1
  subst ex
  cases r1 with
  | cons r rr =>
    cases rr with
    | cons r' rr =>
      cases rr
      cases r
      cases r'
      have fresh5 : ∀ c, c ∈ [s1.heap.objs.size + 4, s1.heap.objs.size + 2, s1.heap.objs.size + 3, s1.heap.objs.size, s1.heap.objs.size + 1] → FpOk X pins H1 c := fun c hcm => by
        have hle : s1.heap.objs.size ≤ c := by
          simp only [List.mem_cons, List.not_mem_nil, or_false] at hcm
          omega
        exact I1.fpOk hle (I1.hok.fresh hle)
      obtain ⟨its, rv, p1, _⟩ := I1.tuple hqx
      obtain ⟨its2, rv2, p2, _⟩ := I1.list hqy
      obtain ⟨o1, ho1, _⟩ := id p1
      refine call_zipM (show s1.heap.IsTuple a its.toArray from p1) p2.isList fun h' hz hTI hTO h1 h2 hsz hk => wpAny_pyIter_zip hz ?_
      have I2 : Inv X pins σ H1 { s1 with heap := h' } := I1.kept (t' := s1.toks) hk
      exact ⟨s1.heap.objs.size + 4, [s1.heap.objs.size + 4, s1.heap.objs.size + 2, s1.heap.objs.size + 3, s1.heap.objs.size, s1.heap.objs.size + 1], _, _, H1, rfl, I2, turn_zipM (PySem.W.ktu_apart s1.heap.objs.size a b (Heap.lt_size ho1) p2.lt), ⟨hz, hTI, ⟨_, _, hTO⟩, h1, h2⟩, fresh5, q⟩
noncomputable section
variable {K : PySem.W.Frag} {W W1 : Addr → Prop} {H H1 : Hp}
theorem walks_zipM {a b : Addr} {xs ys : List V} {as bs : List D} (wa : SqT K H a xs) (wb : ∀ W1 H1, Wxt W H W1 H1 → SqL K H1 b ys) (fa : FzA K W H xs as) (fb : FzA K W H ys bs) : Walks K W H (ItzM K a b) (zipD as bs) := by
  intro i W1 H1 x
  have wa1 := SqT.xt x wa
  refine ⟨fun d e => ?_, fun h => ⟨xs, ys, wa1, wb W1 H1 x, ?_⟩⟩
  · obtain ⟨p, q, e1, e2, rfl⟩ := zipD_get e
    obtain ⟨v, g1, g2⟩ := fa.getD e1
    obtain ⟨u, g3, g4⟩ := fb.getD e2
    refine ⟨⟨xs, ys, v, u, wa1, wb W1 H1 x, g1, g3⟩, ?_⟩
    rintro y H2 ⟨T, x1, x2, rfl, nT, rfl, h1, h2⟩
    have q1 := h1 xs wa1
    have q2 := h2 ys (wb W1 H1 x)
    rw [g1] at q1
    rw [g3] at q2
    cases q1
    cases q2
    exact ⟨upd_up nT, pair_fz (upd_up nT) upd_same (g2.xt x) (g4.xt x)⟩
  · rw [zipD_length] at h
    rw [fa.length, fb.length]
    omega
/-- zip(a, b): two lists, two tuples, or a tuple and a list -/
def zipX (fs : DA) : DI := fun ρ => (fs ρ).bind fun p => (frzA p.1).bind fun ds => match ds with
  | [.list a, .list b] => some (zipD a b, p.2)
  | [.tuple a, .tuple b] => some (zipD a b, p.2)
  | [.tuple a, .list b] => some (zipD a b, p.2)
  | _ => none
variable {X : Cx} {pos p : Pos} {e e2 : Expr} {elts : List Expr} {kk : Nat} {tpos : Pos} {fs : DA}
theorem pxi_zipX (hm : X.mg "zip" = none) (ha : PXA X [e, e2] fs) (hg : Gl X "zip" := by rfl) (hs : starEach [e, e2] X.env = (false, eval e X.env) :: starEach [e2] X.env := by rfl) (hpl : (backTo pos (starEach [e2] X.env)).any (·.1) = false := by rfl) :
    PXI X (.Tuple elts kk tpos) (.Call (.Name "zip" p) [e, e2] [] pos) (zipX fs) := by
  refine ⟨fun pins s σ H R I h => ?_⟩
  obtain ⟨W, ρ, φ, ds, ρ', ss, hf, k⟩ := h
  unfold zipX at hf
  obtain ⟨⟨rs, ρ1⟩, e1, hf⟩ := Option.bind_eq_some_iff.mp hf
  obtain ⟨es, q2, hf⟩ := Option.bind_eq_some_iff.mp hf
  dsimp only at hf
  split at hf
  · refine (pxi_zip hm ha hg hs hpl).run pins s σ H R I ⟨W, ρ, φ, ds, ρ', ss, ?_, k⟩
    unfold zipI
    rw [e1, Option.bind_some, q2, Option.bind_some]
    exact hf
  · refine (pxi_zip hm ha hg hs hpl).run pins s σ H R I ⟨W, ρ, φ, ds, ρ', ss, ?_, k⟩
    unfold zipI
    rw [e1, Option.bind_some, q2, Option.bind_some]
    exact hf
  · cases hf
    refine (pi_zipM hg hm ha hs hpl).run pins s σ H R I ⟨W, ρ, φ, rs, _, ss, e1, fun vs W1 H1 φ1 l o => ?_⟩
    obtain ⟨o2, fz⟩ := o.fix q2
    obtain ⟨v, u, rfl, f1, f2⟩ := fz.two
    obtain ⟨a, xs, rfl, h1, g1⟩ := f1.tup_inv
    obtain ⟨b, ys, rfl, w2, h2, g2⟩ := f2.list_inv
    exact ⟨a, b, xs, ys, rfl, h1, .of h2, k _ _ H1 φ1 o2 (walks_zipM h1 (fun _ _ x => x.sq w2 h2) g1 g2)⟩
  · cases hf
def zipXK : List D × Rho → Option (List D × Rho) := fun p => match p.1 with
  | [.list a, .list b] => some (zipD a b, p.2)
  | [.tuple a, .tuple b] => some (zipD a b, p.2)
  | [.tuple a, .list b] => some (zipD a b, p.2)
  | _ => none
variable {ρ : Rho} {ds es : List D}
@[simp] theorem ap_zipX : zipX fs ρ = (fs ρ).bind fun p => (frzA p.1).bind fun ds => zipXK (ds, p.2) := rfl
@[simp] theorem zipXK_l : zipXK ([.list ds, .list es], ρ) = some (zipD ds es, ρ) := rfl
@[simp] theorem zipXK_t : zipXK ([.tuple ds, .tuple es], ρ) = some (zipD ds es, ρ) := rfl
@[simp] theorem zipXK_m : zipXK ([.tuple ds, .list es], ρ) = some (zipD ds es, ρ) := rfl
end
end
end DL

namespace DL

/-! ### sums -/
def sm : Nat → (Nat → Int) → Int
  | 0, _ => 0
  | n + 1, f => sm n f + f n
theorem sm_congr {f g : Nat → Int} : ∀ {n : Nat}, (∀ i, i < n → f i = g i) → sm n f = sm n g
  | 0, _ => rfl
  | n + 1, h => by rw [sm, sm, sm_congr fun i hi => h i (by omega), h n (by omega)]
theorem sm_zero {f : Nat → Int} : ∀ {n : Nat}, (∀ i, i < n → f i = 0) → sm n f = 0
  | 0, _ => rfl
  | n + 1, h => by rw [sm, sm_zero fun i hi => h i (by omega), h n (by omega)]; rfl
theorem sm_add {f g : Nat → Int} : ∀ {n : Nat}, sm n (fun i => f i + g i) = sm n f + sm n g
  | 0 => rfl
  | n + 1 => by rw [sm, sm, sm, sm_add]; omega
theorem sm_sub {f g : Nat → Int} : ∀ {n : Nat}, sm n (fun i => f i - g i) = sm n f - sm n g
  | 0 => rfl
  | n + 1 => by rw [sm, sm, sm, sm_sub]; omega
theorem sm_neg {f : Nat → Int} : ∀ {n : Nat}, sm n (fun i => -f i) = -sm n f
  | 0 => rfl
  | n + 1 => by rw [sm, sm, sm_neg]; omega
theorem sm_mul {f : Nat → Int} {c : Int} : ∀ {n : Nat}, sm n (fun i => c * f i) = c * sm n f
  | 0 => by rw [sm, sm, Int.mul_zero]
  | n + 1 => by rw [sm, sm, sm_mul, Int.mul_add]
theorem sm_mul_r {f : Nat → Int} {c : Int} {n : Nat} : sm n (fun i => f i * c) = sm n f * c := by
  rw [Int.mul_comm, ← sm_mul]
  exact sm_congr fun i _ => Int.mul_comm _ _
theorem sm_swap {f : Nat → Nat → Int} {m : Nat} : ∀ {n : Nat}, sm n (fun i => sm m fun j => f i j) = sm m fun j => sm n fun i => f i j
  | 0 => (sm_zero fun _ _ => rfl).symm
  | n + 1 => by
    rw [sm, sm_swap, ← sm_add]
    rfl
theorem sm_succ' {f : Nat → Int} : ∀ {n : Nat}, sm (n + 1) f = f 0 + sm n fun i => f (i + 1)
  | 0 => by rw [sm, sm, sm]; omega
  | n + 1 => by rw [sm, sm_succ', sm]; omega
theorem sm_split {f : Nat → Int} {m : Nat} : ∀ {n : Nat}, sm (m + n) f = sm m f + sm n fun i => f (m + i)
  | 0 => by rw [sm, Nat.add_zero]; omega
  | n + 1 => by rw [show m + (n + 1) = m + n + 1 by omega, sm, sm_split, sm]; omega
/-- one alone counts -/
theorem sm_one {f : Nat → Int} {k : Nat} : ∀ {n : Nat}, k < n → (∀ i, i < n → i ≠ k → f i = 0) → sm n f = f k
  | 0, h, _ => by omega
  | n + 1, h, z => by
    rw [sm]
    by_cases e : k = n
    · subst e
      rw [sm_zero fun i hi => z i (by omega) (by omega)]; omega
    · rw [sm_one (by omega) fun i hi q => z i (by omega) q, z n (by omega) fun q => e q.symm]; omega
theorem sm_le {f g : Nat → Int} : ∀ {n : Nat}, (∀ i, i < n → f i ≤ g i) → sm n f ≤ sm n g
  | 0, _ => Int.le_refl _
  | n + 1, h => by
    have := sm_le (f := f) (g := g) (n := n) fun i hi => h i (by omega)
    have := h n (by omega)
    rw [sm, sm]; omega
theorem sm_const {c : Int} : ∀ {n : Nat}, sm n (fun _ => c) = n * c
  | 0 => by rw [sm]; simp
  | n + 1 => by rw [sm, sm_const, Int.natCast_succ, Int.add_mul, Int.one_mul]
theorem sum_append (a b : List Int) : (a ++ b).sum = a.sum + b.sum := by
  induction a with
  | nil => simp
  | cons x r ih => rw [List.cons_append, List.sum_cons, List.sum_cons, ih]; omega
theorem sum_range {f : Nat → Int} : ∀ n : Nat, ((List.range n).map f).sum = sm n f
  | 0 => rfl
  | n + 1 => by rw [List.range_succ, List.map_append, sum_append, sum_range n, sm]; simp
/-! ### choices -/
def ch : Nat → Nat → Nat
  | _, 0 => 1
  | 0, _ + 1 => 0
  | n + 1, k + 1 => ch n k + ch n (k + 1)
@[simp] theorem ch_0 (n : Nat) : ch n 0 = 1 := by cases n <;> rfl
@[simp] theorem ch_z (k : Nat) : ch 0 (k + 1) = 0 := rfl
theorem ch_s (n k : Nat) : ch (n + 1) (k + 1) = ch n k + ch n (k + 1) := rfl
theorem ch_big : ∀ {n k : Nat}, n < k → ch n k = 0
  | 0, k + 1, _ => rfl
  | n + 1, k + 1, h => by rw [ch_s, ch_big (by omega), ch_big (by omega)]
@[simp] theorem ch_self : ∀ n : Nat, ch n n = 1
  | 0 => rfl
  | n + 1 => by rw [ch_s, ch_self n, ch_big (Nat.lt_succ_self n)]
theorem ch_pos : ∀ {n k : Nat}, k ≤ n → 0 < ch n k
  | n, 0, _ => by rw [ch_0]; omega
  | n + 1, k + 1, h => by rw [ch_s]; have := ch_pos (n := n) (k := k) (by omega); omega
/-- (k + 1) C(n, k + 1) = (n - k) C(n, k) -/
theorem ch_step : ∀ n k : Nat, (k + 1) * ch n (k + 1) + k * ch n k = n * ch n k
  | 0, k => by cases k <;> simp
  | n + 1, 0 => by
    have h := ch_step n 0
    rw [ch_0, Nat.zero_mul, Nat.zero_add, Nat.one_mul, Nat.mul_one] at h
    rw [ch_s, ch_0, ch_0, Nat.zero_mul, Nat.zero_add, Nat.one_mul, Nat.mul_one]
    omega
  | n + 1, k + 1 => by
    have h1 := ch_step n k
    have h2 := ch_step n (k + 1)
    rw [ch_s n (k + 1), ch_s n k]
    generalize ch n k = a at *
    generalize ch n (k + 1) = b at *
    generalize ch n (k + 1 + 1) = c at *
    have e1 : (k + 1 + 1) * (b + c) = (k + 1) * b + b + (k + 1 + 1) * c := by rw [Nat.mul_add, Nat.add_mul (k + 1) 1 b, Nat.one_mul]
    have e2 : (k + 1) * (a + b) = k * a + a + (k + 1) * b := by rw [Nat.mul_add, Nat.add_mul k 1 a, Nat.one_mul]
    have e3 : (n + 1) * (a + b) = n * a + n * b + a + b := by rw [Nat.add_mul, Nat.mul_add, Nat.one_mul]; omega
    rw [e1, e2, e3]
    omega
theorem ch_step' {n k : Nat} (h : k ≤ n) : (k + 1) * ch n (k + 1) = (n - k) * ch n k := by
  have := ch_step n k
  rw [Nat.sub_mul]
  omega
theorem ch_sym : ∀ {n k : Nat}, k ≤ n → ch n k = ch n (n - k)
  | n, 0, _ => by rw [ch_0, Nat.sub_zero, ch_self]
  | n + 1, k + 1, h => by
    by_cases e : k = n
    · subst e; rw [ch_self, Nat.sub_self, ch_0]
    · have h1 := ch_sym (n := n) (k := k) (by omega)
      have h2 := ch_sym (n := n) (k := k + 1) (by omega)
      rw [ch_s, h1, h2, show n + 1 - (k + 1) = n - (k + 1) + 1 by omega, ch_s, show n - (k + 1) + 1 = n - k by omega]
      omega
theorem ch_le2 : ∀ n k : Nat, ch n k ≤ 2 ^ n
  | n, 0 => by rw [ch_0]; exact Nat.one_le_two_pow
  | 0, k + 1 => by simp
  | n + 1, k + 1 => by
    have := ch_le2 n k
    have := ch_le2 n (k + 1)
    rw [ch_s, Nat.pow_succ]; omega
/-! ### there and back -/
def sg (k : Nat) : Int := if k % 2 = 0 then 1 else -1
theorem sg_s (k : Nat) : sg (k + 1) = -sg k := by
  unfold sg
  by_cases h : k % 2 = 0
  · rw [if_pos h, if_neg (by omega)]
  · rw [if_neg h, if_pos (by omega)]; rfl
theorem sg_sq (k : Nat) : sg k * sg k = 1 := by unfold sg; split <;> rfl
theorem sg_add : ∀ a b : Nat, sg (a + b) = sg a * sg b
  | a, 0 => by show sg a = sg a * 1; rw [Int.mul_one]
  | a, b + 1 => by rw [← Nat.add_assoc, sg_s, sg_s, sg_add a b, Int.mul_neg]
def tf (N m a : Nat) : Int := sm N fun l => sg (l + a) * (ch l a * ch m l)
theorem tf_0 (N a : Nat) (h : 0 < N) : tf N 0 a = if a = 0 then 1 else 0 := by
  unfold tf
  rw [sm_one h fun i hi q => ?_]
  · cases a with
    | zero => rfl
    | succ a => rw [ch_z]; simp
  · cases i with
    | zero => exact absurd rfl q
    | succ i => rw [ch_z]; simp
theorem tf_s (N m a : Nat) (h : m + 1 < N) : tf N (m + 1) a = match a with
    | 0 => 0
    | a + 1 => tf N m a := by
  obtain ⟨M, rfl⟩ : ∃ M, N = M + 1 := ⟨N - 1, by omega⟩
  have last : ∀ f : Nat → Int, sm (M + 1) (fun l => f l * (ch m l : Int)) = sm M fun l => f l * (ch m l : Int) := fun f => by
    rw [sm, ch_big (by omega : m < M)]; simp
  -- C(m + 1, l + 1) falls into two
  have e : tf (M + 1) (m + 1) a = sm M (fun l => sg (l + 1 + a) * ch (l + 1) a * ch m l) + tf (M + 1) m a := by
    unfold tf
    rw [sm_succ', sm_succ' (f := fun l => sg (l + a) * (ch l a * ch m l))]
    rw [show (sm M fun i => sg (i + 1 + a) * (ch (i + 1) a * ch (m + 1) (i + 1))) = sm M (fun l => sg (l + 1 + a) * ch (l + 1) a * ch m l) + sm M fun i => sg (i + 1 + a) * (ch (i + 1) a * ch m (i + 1)) by
      rw [← sm_add]
      refine sm_congr fun i _ => ?_
      rw [ch_s]
      push_cast
      rw [Int.mul_add, Int.mul_add, Int.mul_assoc]]
    rw [ch_0, ch_0]
    omega
  rw [e]
  cases a with
  | zero =>
    dsimp only
    unfold tf
    have q : sm M (fun l => sg (l + 1 + 0) * ch (l + 1) 0 * ch m l) = -sm (M + 1) fun l => sg (l + 0) * (ch l 0 * ch m l) := by
      rw [show (fun l => sg (l + 0) * ((ch l 0 : Int) * (ch m l : Int))) = fun l => (sg (l + 0) * ch l 0) * (ch m l : Int) by funext l; rw [Int.mul_assoc], last, ← sm_neg]
      refine sm_congr fun i _ => ?_
      rw [show i + 1 + 0 = i + 1 by omega, show i + 0 = i by omega, sg_s, ch_0, ch_0, Int.neg_mul, Int.neg_mul]
    rw [q]; omega
  | succ a =>
    dsimp only
    have q : sm M (fun l => sg (l + 1 + (a + 1)) * ch (l + 1) (a + 1) * ch m l) = sm M (fun l => sg (l + a) * ch l a * ch m l) + sm M fun l => -(sg (l + (a + 1)) * ch l (a + 1) * ch m l) := by
      rw [← sm_add]
      refine sm_congr fun i _ => ?_
      rw [ch_s, show i + 1 + (a + 1) = i + a + 1 + 1 by omega, show i + (a + 1) = i + a + 1 by omega, sg_s, sg_s]
      push_cast
      rw [Int.neg_neg, Int.mul_add, Int.add_mul, Int.neg_mul, Int.neg_mul, Int.neg_neg]
    have z1 : tf (M + 1) m (a + 1) = sm M fun l => sg (l + (a + 1)) * ch l (a + 1) * ch m l := by
      unfold tf
      rw [← last]
      exact sm_congr fun i _ => (Int.mul_assoc _ _ _).symm
    have z2 : tf (M + 1) m a = sm M fun l => sg (l + a) * ch l a * ch m l := by
      unfold tf
      rw [← last]
      exact sm_congr fun i _ => (Int.mul_assoc _ _ _).symm
    rw [q, z1, z2, sm_neg]; omega
theorem tf_eq : ∀ (N m a : Nat), m < N → tf N m a = if m = a then 1 else 0
  | N, 0, a, h => by
    rw [tf_0 N a h]
    cases a <;> rfl
  | N, m + 1, 0, h => by rw [tf_s N m 0 h]; rfl
  | N, m + 1, a + 1, h => by
    rw [tf_s N m (a + 1) h]
    dsimp only
    rw [tf_eq N m a (by omega)]
    by_cases e : m = a
    · rw [if_pos e, if_pos (by omega)]
    · rw [if_neg e, if_neg (by omega)]
/-- what is summed by choices -/
def alS (n : Nat) (x : Nat → Int) (a : Nat) : Int := sm n fun l => ch l a * x l
def juS (n : Nat) (x : Nat → Int) (a : Nat) : Int := sm n fun l => sg (l + a) * ch l a * x l
theorem ju_al {n : Nat} {x : Nat → Int} {a : Nat} (h : a < n) : juS n (alS n x) a = x a := by
  unfold juS alS
  have e : (sm n fun l => sg (l + a) * ch l a * sm n fun m => (ch m l : Int) * x m) = sm n fun m => tf n m a * x m := by
    rw [show (fun l => sg (l + a) * (ch l a : Int) * sm n fun m => (ch m l : Int) * x m) = fun l => sm n fun m => sg (l + a) * (ch l a * ch m l) * x m by
      funext l
      rw [← sm_mul]
      refine sm_congr fun m _ => ?_
      simp only [Int.mul_assoc], sm_swap]
    refine sm_congr fun m _ => ?_
    unfold tf
    exact sm_mul_r
  rw [e, sm_one h fun i hi q => by rw [tf_eq n i a hi, if_neg q, Int.zero_mul], tf_eq n a a h, if_pos rfl, Int.one_mul]
theorem al_ju {n : Nat} {x : Nat → Int} {a : Nat} (h : a < n) : alS n (juS n x) a = x a := by
  unfold juS alS
  have e : (sm n fun l => (ch l a : Int) * sm n fun m => sg (m + l) * (ch m l : Int) * x m) = sm n fun m => sg (m + a) * tf n m a * x m := by
    rw [show (fun l => (ch l a : Int) * sm n fun m => sg (m + l) * (ch m l : Int) * x m) = fun l => sm n fun m => sg (m + a) * (sg (l + a) * (ch l a * ch m l)) * x m by
      funext l
      rw [← sm_mul]
      refine sm_congr fun m _ => ?_
      have s : sg (m + a) * sg (l + a) = sg (m + l) := by
        rw [sg_add, sg_add, sg_add, show sg m * sg a * (sg l * sg a) = sg m * sg l * (sg a * sg a) by simp only [Int.mul_assoc, Int.mul_left_comm, Int.mul_comm], sg_sq, Int.mul_one]
      rw [← Int.mul_assoc (sg (m + a)), s]
      simp only [Int.mul_assoc, Int.mul_left_comm], sm_swap]
    refine sm_congr fun m _ => ?_
    unfold tf
    rw [← sm_mul]
    exact sm_mul_r
  rw [e, sm_one h fun i hi q => by rw [tf_eq n i a hi, if_neg q, Int.mul_zero, Int.zero_mul], tf_eq n a a h, if_pos rfl, Int.mul_one]
  rw [show sg (a + a) = 1 by unfold sg; rw [if_pos (by omega)], Int.one_mul]
end DL

namespace DL
open PySem PySem.Spec PyProof.Rows L2
/-! a function of ints on data -/
def iv (F : Int → Int) : D → D
  | .int i => .int (F i)
  | d => d
@[simp] theorem iv_i {F : Int → Int} {i : Int} : iv F (.int i) = .int (F i) := rfl
theorem iv_map {F : Int → Int} (ns : List Int) : (ns.map PyData.int).map (iv F) = (ns.map F).map .int := by rw [List.map_map, List.map_map]; rfl
theorem iv_rng {F : Int → Int} {lo : Int} {n : Nat} : (rngD lo n).map (iv F) = ((List.range n).map fun t : Nat => F (lo + (t : Int))).map .int := by unfold rngD; rw [List.map_map, List.map_map]; rfl
theorem sumD_rng {F : Int → Int} {lo : Int} {n : Nat} : sumD ((rngD lo n).map (iv F)) = some (.fz (.int (sm n fun t => F (lo + (t : Int))))) := by rw [iv_rng, sumD_map, sum_range]
/-- a list or a tuple -/
def sq (c : Bool) (ds : List D) : D := if c = true then .list ds else .tuple ds
@[simp] theorem sq_t {ds : List D} : sq true ds = .list ds := rfl
@[simp] theorem sq_f {ds : List D} : sq false ds = .tuple ds := rfl
theorem divOk_of {a j : Int} (h : 0 < j) (h2 : j < 115792089237316195423570985008687907853269984665640564039457584007913129639936) : divOk a j = true := by
  rw [divOk_eq]
  have : j.natAbs.log2 < 9000 := by
    refine (Nat.log2_lt (by omega)).mpr ?_
    have e2 : j.natAbs < 2 ^ 256 := by
      have : (2 : Nat) ^ 256 = 115792089237316195423570985008687907853269984665640564039457584007913129639936 := by decide
      omega
    exact Nat.lt_of_lt_of_le e2 (Nat.pow_le_pow_right (by decide) (by decide))
  simp [h, this]
theorem mulOk_l {a b : Int} (h : -18446744073709551616 < a) (h2 : a < 18446744073709551616) : mulOk a b = true := by
  rw [mulOk_eq]
  rw [decide_eq_true (by omega : a.natAbs < 18446744073709551616)]
  rfl
theorem mulOk_r {a b : Int} (h : -18446744073709551616 < b) (h2 : b < 18446744073709551616) : mulOk a b = true := by
  rw [mulOk_eq]
  rw [decide_eq_true (by omega : b.natAbs < 18446744073709551616), Bool.or_true]
  rfl
theorem powOk_of {a b : Int} (h0 : 0 ≤ b) (h1 : b ≤ 1000000) (h2 : -18446744073709551616 < a) (h3 : a < 18446744073709551616) : powOk a b = true := by
  rw [powOk_eq, decide_eq_true h0, decide_eq_true h1, decide_eq_true (by omega : a.natAbs < 18446744073709551616)]
  rfl
theorem allTrue : ∀ n : Nat, ((List.replicate n true).all id) = true
  | 0 => rfl
  | n + 1 => by rw [List.replicate_succ, List.all_cons, allTrue n]; rfl
theorem appG_ok {ds : List D} {d : D} (h : ds.length ≤ 1000000) : appG ds [d] = some (ds ++ [d], .none) := by
  unfold appG
  exact if_pos h
/-- nothing but a division -/
theorem ch_div {n k : Nat} (h : k ≤ n) : ((ch n k : Int) * ((n : Int) - k)) / ((k : Int) + 1) = ch n (k + 1) := by
  have e := ch_step' h
  have e2 : (ch n k : Int) * ((n : Int) - k) = ((k : Int) + 1) * ch n (k + 1) := by
    have : ((k + 1 : Nat) : Int) * ch n (k + 1) = ((n - k : Nat) : Int) * ch n k := by rw [← Int.natCast_mul, ← Int.natCast_mul, e]
    rw [Int.ofNat_sub h] at this
    push_cast at this
    rw [this, Int.mul_comm]
  rw [e2, Int.mul_ediv_cancel_left _ (by omega)]
end DL

namespace DL
open PySem PySem.Spec PyProof.Rows L2
noncomputable section
/-! data that is shown and compared without trouble -/
structure Rp (k n : Nat) (d : D) : Prop where
  sh : PyData.showable d = true
  nd : PyData.hasDict d = false
  dp : PyData.depth d ≤ k
  sz : shB d ≤ n
  ly : PyData.canLay0 d = true
theorem Rp.int {i : Int} (h : -(2 ^ 250) < i) (h2 : i < 2 ^ 250) : Rp 0 1921 (.int i) := by
  refine ⟨?_, rfl, Nat.le_refl _, ?_, rfl⟩
  · show decide (i.natAbs.log2 < 1920) = true
    refine decide_eq_true ?_
    by_cases z : i.natAbs = 0
    · rw [z]; decide
    · have : i.natAbs.log2 < 250 := by
        refine (Nat.log2_lt z).mpr ?_
        have e : (2 : Nat) ^ 250 = ((2 : Int) ^ 250).toNat := by decide
        omega
      omega
  · unfold shB
    split <;> omega
theorem Rp.bool {b : Bool} : Rp 0 1921 (.bool b) := ⟨rfl, rfl, Nat.le_refl _, by unfold shB; omega, rfl⟩
theorem Rp.none : Rp 0 1921 .none := ⟨rfl, rfl, Nat.le_refl _, by unfold shB; omega, rfl⟩
theorem Rp.mono {k n k' n' : Nat} {d : D} (h : Rp k n d) (h1 : k ≤ k') (h2 : n ≤ n') : Rp k' n' d := ⟨h.sh, h.nd, Nat.le_trans h.dp h1, Nat.le_trans h.sz h2, h.ly⟩
theorem rpA {k n : Nat} : ∀ {ds : List D}, (∀ d ∈ ds, Rp k n d) → PyData.showableAll ds = true ∧ PyData.hasDictAll ds = false ∧ PyData.depthAll ds ≤ k ∧ shBA ds ≤ ds.length * (n + 2) ∧ PyData.canLayAll0 ds = true
  | [], _ => ⟨rfl, rfl, Nat.zero_le _, by unfold shBA; simp, rfl⟩
  | d :: ds, h => by
    obtain ⟨h1, h2, h3, h4, h5⟩ := rpA (ds := ds) fun d hd => h d (List.mem_cons_of_mem _ hd)
    have q := h d List.mem_cons_self
    refine ⟨?_, ?_, ?_, ?_, ?_⟩
    · rw [PyData.showableAll, q.sh, h1]; rfl
    · rw [PyData.hasDictAll, q.nd, h2]; rfl
    · rw [PyData.depthAll]; exact Nat.max_le.mpr ⟨q.dp, h3⟩
    · rw [shBA, List.length_cons, Nat.succ_mul]
      have := q.sz
      omega
    · rw [PyData.canLayAll0, q.ly, h5]; rfl
theorem Rp.list {k n m : Nat} {ds : List D} (h : ∀ d ∈ ds, Rp k n d) (hl : ds.length ≤ m) : Rp (k + 1) (m * (n + 2) + 3) (.list ds) := by
  obtain ⟨h1, h2, h3, h4, h5⟩ := rpA h
  refine ⟨?_, ?_, ?_, ?_, ?_⟩
  · rw [PyData.showable]; exact h1
  · rw [PyData.hasDict]; exact h2
  · rw [PyData.depth]; omega
  · rw [shB]
    have := Nat.mul_le_mul_right (n + 2) hl
    omega
  · rw [PyData.canLay0]; exact h5
theorem Rp.tuple {k n m : Nat} {ds : List D} (h : ∀ d ∈ ds, Rp k n d) (hl : ds.length ≤ m) : Rp (k + 1) (m * (n + 2) + 3) (.tuple ds) := by
  obtain ⟨h1, h2, h3, h4, h5⟩ := rpA h
  refine ⟨?_, ?_, ?_, ?_, ?_⟩
  · rw [PyData.showable]; exact h1
  · rw [PyData.hasDict]; exact h2
  · rw [PyData.depth]; omega
  · rw [shB]
    have := Nat.mul_le_mul_right (n + 2) hl
    omega
  · rw [PyData.canLay0]; exact h5
theorem Rp.ok {k n : Nat} {d : D} (h : Rp k n d) (hk : k ≤ 64) (hn : n ≤ 16000000) : reprOk d = true := by
  unfold reprOk
  rw [h.sh, h.nd, decide_eq_true (Nat.le_trans h.dp hk), decide_eq_true (Nat.le_trans h.sz hn)]
  rfl
theorem Rp.shaped {k n : Nat} {d : D} (h : Rp k n d) (hk : k ≤ 64) : SeqAt.shaped d = true := by
  unfold SeqAt.shaped
  rw [h.ly, decide_eq_true (Nat.le_trans h.dp hk)]
  rfl
theorem Rp.eqD {k n : Nat} {d : D} (h : Rp k n d) (hk : k ≤ 64) : eqD d d = some true := by
  have s := h.shaped hk
  have r := SeqAt.eqv_refl d h.ly
  cases d with
  | none => rfl
  | str x => unfold DL.eqD; simp
  | _ => unfold DL.eqD; simp [s, r]
/-- ints below a bound -/
theorem Rp.ints {ns : List Int} {m : Nat} (h : ∀ i ∈ ns, -(2 ^ 250) < i ∧ i < 2 ^ 250) (hl : ns.length ≤ m) : Rp 1 (m * 1923 + 3) (.list (ns.map .int)) := by
  refine Rp.list (k := 0) (n := 1921) (fun d hd => ?_) (by rw [List.length_map]; exact hl)
  obtain ⟨i, hi, rfl⟩ := List.mem_map.mp hd
  exact Rp.int (h i hi).1 (h i hi).2
theorem lay_ints : ∀ ns : List Int, PyData.canLayAll0 (ns.map .int) = true ∧ PyData.depthAll (ns.map .int) = 0
  | [] => ⟨rfl, rfl⟩
  | n :: r => by
    obtain ⟨h1, h2⟩ := lay_ints r
    rw [List.map_cons]
    refine ⟨?_, ?_⟩
    · rw [PyData.canLayAll0, h1]; rfl
    · rw [PyData.depthAll, h2]; rfl
theorem eqD_lay {d : D} (h1 : PyData.canLay0 d = true) (h2 : PyData.depth d ≤ 64) : eqD d d = some true := by
  have s : SeqAt.shaped d = true := by
    unfold SeqAt.shaped
    rw [h1, decide_eq_true h2]
    rfl
  have r := SeqAt.eqv_refl d h1
  cases d with
  | none => rfl
  | str x => unfold DL.eqD; simp
  | _ => unfold DL.eqD; simp [s, r]
theorem eqD_ints (ns : List Int) : eqD (.list (ns.map .int)) (.list (ns.map .int)) = some true := by
  obtain ⟨h1, h2⟩ := lay_ints ns
  refine eqD_lay ?_ ?_
  · rw [PyData.canLay0]; exact h1
  · rw [PyData.depth, h2]; decide
section
variable {ρ : Rho} {i : Nat} {a : Int} {d : D} {g : DE} {fs : DA} {G : List D → List D → Option (List D × D)} {x y : Vl}
@[simp] theorem neF_ss {s : Str} : neF ρ [.fz (.str s), .fz (.str s)] = some (.fz (.bool false)) := by
  rw [neF_ap, curR_fz, Option.bind_some, Option.bind_some]
  unfold eqD
  simp
@[simp] theorem eqF_ss {s : Str} : eqF ρ [.fz (.str s), .fz (.str s)] = some (.fz (.bool true)) := by
  rw [eqF_ap, curR_fz, Option.bind_some, Option.bind_some]
  unfold eqD
  simp
/-! x[i].append(..) -/
def own2K : Option (Option Vl) → Option (List (List D))
  | some (some (.ow2 ds)) => some ds
  | _ => none
@[simp] theorem own2K_ow2 {ds : List (List D)} : own2K (some (some (.ow2 ds))) = some ds := rfl
def put2K (i : Nat) (x : List (List D)) (d : D) (ρ : Rho) : Option (Option Vl) → Option (Vl × Rho)
  | some none => some (.fz d, ρ.set i (some (.ow2 x)))
  | _ => none
@[simp] theorem put2K_no {x : List (List D)} : put2K i x d ρ (some none) = some (.fz d, ρ.set i (some (.ow2 x))) := rfl
def m2K (i : Nat) (G : List D → List D → Option (List D × D)) (fs : DA) : Vl × Rho → Option (Vl × Rho) := fun q => match q.1 with
  | .fz (.int a) => (own2K q.2[i]?).bind fun dss => (ixN dss.length a).bind fun j => (dss[j]?).bind fun ds => (fs (q.2.set i none)).bind fun p => (frzA p.1).bind fun es => (G ds es).bind fun t => put2K i (dss.set j t.1) t.2 p.2 p.2[i]?
  | _ => none
theorem own2At_ap : own2At ρ i = own2K ρ[i]? := rfl
@[simp] theorem ap_meth2E : meth2E i g G fs ρ = (own2K ρ[i]?).bind fun _ => (g ρ).bind (m2K i G fs) := by
  unfold meth2E
  rw [own2At_ap]
  congr 1
@[simp] theorem m2K_i : m2K i G fs (.fz (.int a), ρ) = (own2K ρ[i]?).bind fun dss => (ixN dss.length a).bind fun j => (dss[j]?).bind fun ds => (fs (ρ.set i none)).bind fun p => (frzA p.1).bind fun es => (G ds es).bind fun t => put2K i (dss.set j t.1) t.2 p.2 p.2[i]? := rfl
end
theorem pick_1 {d : Vl} : pick [0] [d] = [d] := rfl
theorem pick_01 {d e : Vl} : pick [0, 1] [d, e] = [d, e] := rfl
theorem pick_10 {d e : Vl} : pick [1, 0] [d, e] = [e, d] := rfl
theorem sm_abs {f : Nat → Int} {B : Int} : ∀ {n : Nat}, (∀ i, i < n → -B ≤ f i ∧ f i ≤ B) → -(n * B) ≤ sm n f ∧ sm n f ≤ n * B
  | 0, _ => by simp [sm]
  | n + 1, h => by
    have h1 := sm_abs (f := f) (B := B) (n := n) fun i hi => h i (by omega)
    have h2 := h n (by omega)
    rw [sm, Int.natCast_succ, Int.add_mul, Int.one_mul]
    omega
end
end DL

namespace DL
open PySem PySem.Spec PyProof.Rows L2
noncomputable section
/-- a while-loop of k turns -/
theorem whileL_run {c : DT} {s : DS} {P : Nat → Rho → Prop} {Q : Rho → Prop} (go : ∀ k ρ, P (k + 1) ρ → ∃ ρ1 ρ2, c ρ = some (true, ρ1) ∧ (s ρ1 = some (.nx ρ2) ∨ s ρ1 = some (.ct ρ2)) ∧ P k ρ2) (stop : ∀ ρ, P 0 ρ → ∃ ρ1, c ρ = some (false, ρ1) ∧ Q ρ1) :
    ∀ (n k : Nat) (ρ : Rho), k < n → P k ρ → ∃ ρ1, whileL c s n ρ = some (.nx ρ1) ∧ Q ρ1
  | 0, k, ρ, h, _ => absurd h (Nat.not_lt_zero _)
  | n + 1, 0, ρ, h, p => by
    obtain ⟨ρ1, e, q⟩ := stop ρ p
    refine ⟨ρ1, ?_, q⟩
    rw [whileL, e, Option.bind_some]
    rfl
  | n + 1, k + 1, ρ, h, p => by
    obtain ⟨ρ1, ρ2, e1, e2, p2⟩ := go k ρ p
    obtain ⟨ρ3, e3, q⟩ := whileL_run go stop n k ρ2 (by omega) p2
    refine ⟨ρ3, ?_, q⟩
    rw [whileL, e1, Option.bind_some]
    dsimp only
    rw [if_pos rfl]
    rcases e2 with e2 | e2 <;> (rw [e2]; exact e3)
/-- the test leaves the slots as they are -/
theorem whileL_p {c : DT} {s : DS} {P : Nat → Rho → Prop} {Q : Rho → Prop} (go : ∀ k ρ, P (k + 1) ρ → c ρ = some (true, ρ) ∧ ∃ ρ2, (s ρ = some (.nx ρ2) ∨ s ρ = some (.ct ρ2)) ∧ P k ρ2) (stop : ∀ ρ, P 0 ρ → c ρ = some (false, ρ) ∧ Q ρ)
    (n k : Nat) (ρ : Rho) (h : k < n) (p : P k ρ) : ∃ ρ1, whileL c s n ρ = some (.nx ρ1) ∧ Q ρ1 :=
  whileL_run (fun k ρ p => let ⟨h1, ρ2, h2, h3⟩ := go k ρ p; ⟨ρ, ρ2, h1, h2, h3⟩) (fun ρ p => let ⟨h1, h2⟩ := stop ρ p; ⟨ρ, h1, h2⟩) n k ρ h p
theorem fuel_big {k : Nat} (h : k < 1000000000000) : k < fuel := by
  have := fuel_ge (n := 1000000000001) (by decide)
  omega
/-! lists of ints by their places -/
def xat (xs : List Int) (i : Nat) : Int := xs.getD i 0
theorem xat_get {xs : List Int} {i : Nat} (h : i < xs.length) : (xs.map PyData.int)[i]? = some (.int (xat xs i)) := by
  rw [List.getElem?_map, List.getElem?_eq_getElem h]
  unfold xat
  rw [List.getD_eq_getElem?_getD, List.getElem?_eq_getElem h]
  rfl
theorem ix_sq {ρ : Rho} {c : Bool} {xs : List Int} {i : Nat} (h : i < xs.length) : ixF ρ [.fz (sq c (xs.map .int)), .fz (.int (i : Int))] = some (.fz (.int (xat xs i))) := by
  cases c
  · rw [sq_f, ixF_t]; exact ixL_nat (xat_get h)
  · rw [sq_t, ixF_l]; exact ixL_nat (xat_get h)
theorem len_sq {ρ : Rho} {c : Bool} {xs : List Int} : lenF ρ [.fz (sq c (xs.map .int))] = some (.fz (.int xs.length)) := by cases c <;> simp
theorem xat_map {f : Nat → Int} {n t : Nat} (h : t < n) : xat ((List.range n).map f) t = f t := by
  unfold xat
  rw [List.getD_eq_getElem?_getD, List.getElem?_map, List.getElem?_range h]
  rfl
theorem xat_all (xs : List Int) : (List.range xs.length).map (xat xs) = xs := by
  refine List.ext_getElem (by rw [List.length_map, List.length_range]) fun i h1 h2 => ?_
  rw [List.getElem_map, List.getElem_range]
  unfold xat
  rw [List.getD_eq_getElem?_getD, List.getElem?_eq_getElem h2]
  rfl
/-- of a pair -/
def pv2 (F : Int → Int → Int) : D → D
  | .tuple [.int i, .int j] => .int (F i j)
  | d => d
theorem enum_ints : ∀ (ns : List Int) (k : Nat), enumD k (ns.map .int) = (List.range ns.length).map fun t => .tuple [.int ((k + t : Nat) : Int), .int (xat ns t)]
  | [], k => rfl
  | n :: r, k => by
    rw [List.map_cons, enumD, enum_ints r (k + 1), List.length_cons, List.range_succ_eq_map, List.map_cons, List.map_map]
    congr 1
    refine List.map_congr_left fun t _ => ?_
    show PyData.tuple [.int ((k + 1 + t : Nat) : Int), .int (xat r t)] = .tuple [.int ((k + (t + 1) : Nat) : Int), .int (xat (n :: r) (t + 1))]
    rw [show k + 1 + t = k + (t + 1) by omega]
    rfl
theorem enum_mem {ns : List Int} {d : D} (h : d ∈ enumD 0 (ns.map .int)) : ∃ t : Nat, t < ns.length ∧ d = .tuple [.int (t : Int), .int (xat ns t)] := by
  rw [enum_ints] at h
  obtain ⟨t, ht, rfl⟩ := List.mem_map.mp h
  exact ⟨t, List.mem_range.mp ht, by rw [Nat.zero_add]⟩
theorem zip_ints : ∀ (xs ys : List Int), xs.length = ys.length → zipD (xs.map .int) (ys.map .int) = (List.range xs.length).map fun t => .tuple [.int (xat xs t), .int (xat ys t)]
  | [], [], _ => rfl
  | x :: xs, y :: ys, h => by
    rw [List.map_cons, List.map_cons, zipD, zip_ints xs ys (by simpa using h), List.length_cons, List.range_succ_eq_map, List.map_cons, List.map_map]
    rfl
theorem zip_mem {xs ys : List Int} (hl : xs.length = ys.length) {d : D} (h : d ∈ zipD (xs.map .int) (ys.map .int)) : ∃ t, t < xs.length ∧ d = .tuple [.int (xat xs t), .int (xat ys t)] := by
  rw [zip_ints xs ys hl] at h
  obtain ⟨t, ht, rfl⟩ := List.mem_map.mp h
  exact ⟨t, List.mem_range.mp ht, rfl⟩
/-! a row of numbers by its function -/
def vec (n : Nat) (f : Nat → Int) : List Int := (List.range n).map f
theorem vec_len {n : Nat} {f : Nat → Int} : (vec n f).length = n := by unfold vec; rw [List.length_map, List.length_range]
theorem xat_vec {n i : Nat} {f : Nat → Int} (h : i < n) : xat (vec n f) i = f i := xat_map h
theorem vec_xat (xs : List Int) : vec xs.length (xat xs) = xs := xat_all xs
theorem vec_at {n i : Nat} {f : Nat → Int} (h : i < n) : ((vec n f).map PyData.int)[i]? = some (.int (f i)) := by
  unfold vec
  rw [List.getElem?_map, List.getElem?_map, List.getElem?_range h]
  rfl
theorem vec_set {n i : Nat} {f : Nat → Int} {x : Int} : ((vec n f).map PyData.int).set i (.int x) = (vec n fun j => if j = i then x else f j).map .int := by
  refine List.ext_getElem (by rw [List.length_set, List.length_map, List.length_map, vec_len, vec_len]) fun j h1 h2 => ?_
  rw [List.getElem_set, List.getElem_map, List.getElem_map]
  unfold vec
  rw [List.getElem_map, List.getElem_map, List.getElem_range]
  by_cases e : j = i
  · rw [if_pos e.symm, if_pos e]
  · rw [if_neg (fun q => e q.symm), if_neg e]
theorem vec_congr {n : Nat} {f g : Nat → Int} (h : ∀ i, i < n → f i = g i) : vec n f = vec n g := List.map_congr_left fun i hi => h i (List.mem_range.mp hi)
theorem vec_rep {n : Nat} {c : Int} : (List.replicate n (PyData.int c)) = (vec n fun _ => c).map .int := by
  unfold vec
  rw [List.map_map]
  refine List.ext_getElem (by rw [List.length_replicate, List.length_map, List.length_range]) fun j h1 h2 => ?_
  rw [List.getElem_replicate, List.getElem_map]
  rfl
theorem vec_succ {n : Nat} {f : Nat → Int} : (vec (n + 1) f).map PyData.int = (vec n f).map PyData.int ++ [.int (f n)] := by
  unfold vec
  rw [List.range_succ, List.map_append, List.map_append]
  rfl
theorem sum_vec {n : Nat} {f : Nat → Int} : (vec n f).sum = sm n f := sum_range n
theorem eqF_vec {ρ : Rho} {xs : List Int} : eqF ρ [.ow (xs.map .int), .ow (xs.map .int)] = some (.fz (.bool true)) := by
  rw [eqF_ap, curR_ow, Option.bind_some, Option.bind_some, eqD_ints]
  rfl
theorem eqF_vecA {ρ : Rho} {xs : List Int} : eqF ρ [.ow (xs.map .int), .fz (.list (xs.map .int))] = some (.fz (.bool true)) := by
  rw [eqF_ap, curR_ow, curR_fz, Option.bind_some, Option.bind_some, eqD_ints]
  rfl
theorem eqF_vecB {ρ : Rho} {xs : List Int} : eqF ρ [.fz (.list (xs.map .int)), .ow (xs.map .int)] = some (.fz (.bool true)) := by
  rw [eqF_ap, curR_ow, curR_fz, Option.bind_some, Option.bind_some, eqD_ints]
  rfl
theorem eqF_vecC {ρ : Rho} {xs : List Int} : eqF ρ [.fz (.list (xs.map .int)), .fz (.list (xs.map .int))] = some (.fz (.bool true)) := by
  rw [eqF_ap, curR_fz, Option.bind_some, Option.bind_some, eqD_ints]
  rfl
theorem neF_vec {ρ : Rho} {xs : List Int} : neF ρ [.ow (xs.map .int), .ow (xs.map .int)] = some (.fz (.bool false)) := by
  rw [neF_ap, curR_ow, Option.bind_some, Option.bind_some, eqD_ints]
  rfl
theorem neF_vecA {ρ : Rho} {xs : List Int} : neF ρ [.ow (xs.map .int), .fz (.list (xs.map .int))] = some (.fz (.bool false)) := by
  rw [neF_ap, curR_ow, curR_fz, Option.bind_some, Option.bind_some, eqD_ints]
  rfl
theorem neF_vecB {ρ : Rho} {xs : List Int} : neF ρ [.fz (.list (xs.map .int)), .ow (xs.map .int)] = some (.fz (.bool false)) := by
  rw [neF_ap, curR_ow, curR_fz, Option.bind_some, Option.bind_some, eqD_ints]
  rfl
theorem neF_vecC {ρ : Rho} {xs : List Int} : neF ρ [.fz (.list (xs.map .int)), .fz (.list (xs.map .int))] = some (.fz (.bool false)) := by
  rw [neF_ap, curR_fz, Option.bind_some, Option.bind_some, eqD_ints]
  rfl
theorem Rp.two {k n : Nat} {d e : D} (h1 : Rp k n d) (h2 : Rp k n e) : Rp (k + 1) (2 * (n + 2) + 3) (.list [d, e]) := Rp.list (fun x hx => by
    rcases List.mem_cons.mp hx with rfl | hx
    · exact h1
    · obtain rfl := List.mem_singleton.mp hx
      exact h2) (Nat.le_refl 2)
theorem Rp.three {k n : Nat} {d e f : D} (h1 : Rp k n d) (h2 : Rp k n e) (h3 : Rp k n f) : Rp (k + 1) (3 * (n + 2) + 3) (.list [d, e, f]) := Rp.list (fun x hx => by
    rcases List.mem_cons.mp hx with rfl | hx
    · exact h1
    · rcases List.mem_cons.mp hx with rfl | hx
      · exact h2
      · obtain rfl := List.mem_singleton.mp hx
        exact h3) (Nat.le_refl 3)
def Bd (B : Int) (xs : List Int) : Prop := ∀ x ∈ xs, -B ≤ x ∧ x ≤ B
theorem Bd.xat {B : Int} {xs : List Int} (h : Bd B xs) {i : Nat} (hi : i < xs.length) : -B ≤ xat xs i ∧ xat xs i ≤ B := by
  have : DL.xat xs i = xs[i] := by unfold DL.xat; rw [List.getD_eq_getElem?_getD, List.getElem?_eq_getElem hi]; rfl
  rw [this]
  exact h _ (List.getElem_mem hi)
theorem Bd.rp {B : Int} {xs : List Int} {m : Nat} (h : Bd B xs) (hB : B < 2 ^ 250) (hl : xs.length ≤ m) : Rp 1 (m * 1923 + 3) (.list (xs.map .int)) := Rp.ints (fun i hi => by have := h i hi; omega) hl
theorem Bd.mono {B C : Int} {xs : List Int} (h : Bd B xs) (hB : B ≤ C) : Bd C xs := fun i hi => by have := h i hi; omega
theorem Bd.vec {n : Nat} {f : Nat → Int} {B : Int} (h : ∀ i, i < n → -B ≤ f i ∧ f i ≤ B) : Bd B (vec n f) := fun x hx => by
  obtain ⟨i, hi, rfl⟩ := List.mem_map.mp hx
  exact h i (List.mem_range.mp hi)
theorem mul_abs {a b A B : Int} (ha : 0 ≤ a ∧ a ≤ A) (hb : -B ≤ b ∧ b ≤ B) : -(A * B) ≤ a * b ∧ a * b ≤ A * B := by
  have hB : 0 ≤ B := by omega
  have h1 : a * b ≤ a * B := Int.mul_le_mul_of_nonneg_left hb.2 ha.1
  have h2 : a * B ≤ A * B := Int.mul_le_mul_of_nonneg_right ha.2 hB
  have h3 : a * (-B) ≤ a * b := Int.mul_le_mul_of_nonneg_left hb.1 ha.1
  rw [Int.mul_neg] at h3
  omega
end
end DL

namespace DL
open PySem PySem.Spec PyProof.Rows L2
noncomputable section
/-! equality of rows of ints -/
theorem eqvA_ints : ∀ xs ys : List Int, PyData.eqvAll (xs.map .int) (ys.map .int) = decide (xs = ys)
  | [], [] => by rw [List.map_nil, PyData.eqvAll]; rfl
  | [], y :: ys => by rw [List.map_nil, List.map_cons, PyData.eqvAll]; rfl
  | x :: xs, [] => by rw [List.map_nil, List.map_cons, PyData.eqvAll]; rfl
  | x :: xs, y :: ys => by
    rw [List.map_cons, List.map_cons, PyData.eqvAll, eqvA_ints xs ys, PyData.eqv]
    by_cases e : x = y
    · subst e; simp
    · simp [e]
theorem eqv_lI (xs ys : List Int) : PyData.eqv (.list (xs.map .int)) (.list (ys.map .int)) = decide (xs = ys) := by rw [PyData.eqv, eqvA_ints]
theorem eqv_tI (xs ys : List Int) : PyData.eqv (.tuple (xs.map .int)) (.tuple (ys.map .int)) = decide (xs = ys) := by rw [PyData.eqv, eqvA_ints]
theorem sh_lI (xs : List Int) : SeqAt.shaped (.list (xs.map .int)) = true := by
  obtain ⟨h1, h2⟩ := lay_ints xs
  unfold SeqAt.shaped
  rw [PyData.canLay0, h1, PyData.depth, h2]
  rfl
theorem sh_tI (xs : List Int) : SeqAt.shaped (.tuple (xs.map .int)) = true := by
  obtain ⟨h1, h2⟩ := lay_ints xs
  unfold SeqAt.shaped
  rw [PyData.canLay0, h1, PyData.depth, h2]
  rfl
theorem eqD_lI (xs ys : List Int) : eqD (.list (xs.map .int)) (.list (ys.map .int)) = some (decide (xs = ys)) := by
  unfold eqD
  simp only [sh_lI, eqv_lI, Bool.and_self, if_pos]
theorem eqD_tI (xs ys : List Int) : eqD (.tuple (xs.map .int)) (.tuple (ys.map .int)) = some (decide (xs = ys)) := by
  unfold eqD
  simp only [sh_tI, eqv_tI, Bool.and_self, if_pos]
theorem neD_lI (xs ys : List Int) : neD (.list (xs.map .int)) (.list (ys.map .int)) = some (!decide (xs = ys)) := by
  unfold neD
  rw [eqD_lI]
  rfl
/-- not the empty row -/
theorem neD_e (xs : List Int) : neD (.list (xs.map .int)) (.list []) = some (decide (0 < xs.length)) := by
  rw [show (PyData.list []) = .list (([] : List Int).map .int) from rfl, neD_lI]
  cases xs <;> simp
/-! rows of rows of ints -/
def tuI (ns : List Int) : D := .tuple (ns.map .int)
def liI (ns : List Int) : D := .list (ns.map .int)
theorem lay_tus : ∀ L : List (List Int), PyData.canLayAll0 (L.map tuI) = true ∧ PyData.depthAll (L.map tuI) ≤ 1
  | [] => ⟨rfl, by rw [List.map_nil, PyData.depthAll]; decide⟩
  | n :: r => by
    obtain ⟨h1, h2⟩ := lay_tus r
    obtain ⟨g1, g2⟩ := lay_ints n
    rw [List.map_cons]
    refine ⟨?_, ?_⟩
    · rw [PyData.canLayAll0, h1, tuI, PyData.canLay0, g1]; rfl
    · rw [PyData.depthAll, tuI, PyData.depth, g2]; omega
theorem lay_lis : ∀ L : List (List Int), PyData.canLayAll0 (L.map liI) = true ∧ PyData.depthAll (L.map liI) ≤ 1
  | [] => ⟨rfl, by rw [List.map_nil, PyData.depthAll]; decide⟩
  | n :: r => by
    obtain ⟨h1, h2⟩ := lay_lis r
    obtain ⟨g1, g2⟩ := lay_ints n
    rw [List.map_cons]
    refine ⟨?_, ?_⟩
    · rw [PyData.canLayAll0, h1, liI, PyData.canLay0, g1]; rfl
    · rw [PyData.depthAll, liI, PyData.depth, g2]; omega
theorem sh_ltu (L : List (List Int)) : SeqAt.shaped (.list (L.map tuI)) = true := by
  obtain ⟨h1, h2⟩ := lay_tus L
  unfold SeqAt.shaped
  rw [PyData.canLay0, h1, PyData.depth, decide_eq_true (show PyData.depthAll (L.map tuI) + 1 ≤ 64 by omega)]
  rfl
theorem sh_lli (L : List (List Int)) : SeqAt.shaped (.list (L.map liI)) = true := by
  obtain ⟨h1, h2⟩ := lay_lis L
  unfold SeqAt.shaped
  rw [PyData.canLay0, h1, PyData.depth, decide_eq_true (show PyData.depthAll (L.map liI) + 1 ≤ 64 by omega)]
  rfl
theorem sh_tu (x : List Int) : SeqAt.shaped (tuI x) = true := sh_tI x
theorem sh_li (x : List Int) : SeqAt.shaped (liI x) = true := sh_lI x
theorem cnt_tu (L : List (List Int)) (x : List Int) : cntG (L.map tuI) (tuI x) = some (.int (L.count x : Nat)) := by
  unfold cntG
  congr 3
  rw [List.countP_map, List.count]
  refine List.countP_congr fun z _ => ?_
  show PyData.eqv (tuI z) (tuI x) = true ↔ _
  rw [tuI, tuI, eqv_tI]
  simp
theorem idx_tu (L : List (List Int)) (x : List Int) (h : x ∈ L) : idxG (L.map tuI) (tuI x) = some (.int (L.idxOf x : Nat)) := by
  unfold idxG SeqAt.dataPlace
  have : (L.map tuI).findIdx? (fun y => PyData.eqv y (tuI x)) = some (L.idxOf x) := by
    rw [List.findIdx?_map]
    have e : ((fun y => PyData.eqv y (tuI x)) ∘ tuI) = fun z => z == x := by
      funext z
      show PyData.eqv (tuI z) (tuI x) = _
      rw [tuI, tuI, eqv_tI]
      rw [Bool.eq_iff_iff]; simp
    rw [e]
    unfold List.idxOf
    rw [List.findIdx?_eq_some_iff_findIdx_eq]
    exact ⟨List.findIdx_lt_length_of_exists ⟨x, h, by simp⟩, rfl⟩
  rw [this]
  rfl
/-! all rows that come of a row by taking one after the other out of it -/
def mixes : Nat → List Int → List (List Int)
  | 0, _ => [[]]
  | n + 1, l => (List.range (n + 1)).flatMap fun i => (mixes n (l.eraseIdx i)).map (l.getD i 0 :: ·)
theorem mixes_mem {n i : Nat} {l r : List Int} (hi : i < n + 1) (h : r ∈ mixes n (l.eraseIdx i)) : xat l i :: r ∈ mixes (n + 1) l := by
  rw [mixes, List.mem_flatMap]
  exact ⟨i, List.mem_range.mpr hi, List.mem_map.mpr ⟨r, h, rfl⟩⟩
theorem mixes_len : ∀ {n : Nat} {l r : List Int}, r ∈ mixes n l → r.length = n
  | 0, l, r, h => by rw [mixes, List.mem_singleton] at h; subst h; rfl
  | n + 1, l, r, h => by
    rw [mixes, List.mem_flatMap] at h
    obtain ⟨i, _, h⟩ := h
    obtain ⟨r', h', rfl⟩ := List.mem_map.mp h
    rw [List.length_cons, mixes_len h']
theorem erase_map {α β : Type} (f : α → β) : ∀ (l : List α) (i : Nat), (l.map f).eraseIdx i = (l.eraseIdx i).map f
  | [], _ => rfl
  | a :: l, 0 => rfl
  | a :: l, i + 1 => by rw [List.map_cons, List.eraseIdx_cons_succ, List.eraseIdx_cons_succ, List.map_cons, erase_map f l i]
theorem popAt_ok {xs : List Int} {i : Nat} (h : i < xs.length) (h2 : xs.length < 1000000000) : popAtG (xs.map PyData.int) [.int (i : Int)] = some ((xs.eraseIdx i).map .int, .int (xat xs i)) := by
  unfold popAtG
  dsimp only
  rw [if_pos (smallI_of (by omega) (by omega))]
  have e : seqIndex? (i : Int) (xs.map PyData.int).length = some i := by
    unfold seqIndex?
    rw [List.length_map]
    simp
    omega
  rw [e, Option.bind_some, xat_get h, Option.bind_some, erase_map]
/-! one after the other in another sequence -/
theorem sm_perm {n : Nat} {f : Nat → Int} {σ : Nat → Nat} (h1 : ∀ b, b < n → σ b < n) (h2 : ∀ a b, a < n → b < n → σ a = σ b → a = b) (h3 : ∀ c, c < n → ∃ b, b < n ∧ σ b = c) : sm n (fun b => f (σ b)) = sm n f := by
  have e1 : sm n (fun b => f (σ b)) = sm n fun b => sm n fun c => if σ b = c then f c else 0 := sm_congr fun b hb => by
    rw [sm_one (h1 b hb) fun i _ q => if_neg (fun z => q z.symm), if_pos rfl]
  rw [e1, sm_swap]
  refine sm_congr fun c hc => ?_
  obtain ⟨b, hb, rfl⟩ := h3 c hc
  rw [sm_one hb fun i hi q => if_neg fun z => q (h2 i b hi hb z), if_pos rfl]
/-- a comprehension without a condition, the state as it was, by places -/
theorem lcE_tab {fi : DI} {st : DTg} {c : DT} {f : DE} {vs : List Nat} {ρ ρ1 : Rho} {n : Nat} {F G : Nat → D} (hi : fi ρ = some ((List.range n).map F, ρ1)) (hn : n ≤ 1000000)
    (go : ∀ j, j < n → ∃ ρa r, st (.fz (F j)) (wipeR ρ1 vs) = some ρa ∧ c ρa = some (true, ρa) ∧ f ρa = some (r, ρa) ∧ frz r = some (G j) ∧ wipeR ρa vs = wipeR ρ1 vs) :
    lcE fi st c f vs ρ = some (.ow ((List.range n).map G), unwR vs ρ1 (wipeR ρ1 vs)) := by
  have gen : ∀ k, k ≤ n → lcL st c f vs ((List.range k).map fun j => F (n - k + j)) (wipeR ρ1 vs) = some ((List.range k).map fun j => G (n - k + j), wipeR ρ1 vs) := by
    intro k
    induction k with
    | zero => intro _; rfl
    | succ k ih =>
      intro hk
      obtain ⟨ρa, r, e1, e2, e3, e4, e5⟩ := go (n - (k + 1)) (by omega)
      rw [List.range_succ_eq_map, List.map_cons, List.map_cons, List.map_map, List.map_map, Nat.add_zero, lcL, e1, Option.bind_some, e2, Option.bind_some]
      dsimp only
      rw [if_pos rfl, e3, Option.bind_some]
      dsimp only
      rw [e4, Option.bind_some, e5]
      have h := ih (by omega)
      have q : ∀ j, n - (k + 1) + (j + 1) = n - k + j := fun j => by omega
      have c1 : (fun j => F (n - (k + 1) + j)) ∘ Nat.succ = fun j => F (n - k + j) := funext fun j => congrArg F (q j)
      have c2 : (fun j => G (n - (k + 1) + j)) ∘ Nat.succ = fun j => G (n - k + j) := funext fun j => congrArg G (q j)
      rw [c1, c2, h]
      rfl
  have := gen n (Nat.le_refl n)
  rw [Nat.sub_self] at this
  simp only [Nat.zero_add] at this
  exact lcE_of hi (by rw [List.length_map, List.length_range]; exact hn) this
/-- the state goes along -/
theorem lcE_go {fi : DI} {st : DTg} {c : DT} {f : DE} {vs : List Nat} {ρ ρ1 : Rho} {ds : List D} {P : List D → Nat → Rho → Prop} (hi : fi ρ = some (ds, ρ1)) (hn : ds.length ≤ 1000000) (h0 : P [] 0 (wipeR ρ1 vs))
    (go : ∀ j d acc ρ, ds[j]? = some d → P acc j ρ → ∃ ρa ρb r z ρc, st (.fz d) ρ = some ρa ∧ c ρa = some (true, ρb) ∧ f ρb = some (r, ρc) ∧ frz r = some z ∧ P (acc ++ [z]) (j + 1) (wipeR ρc vs)) :
    ∃ out ρ2, lcE fi st c f vs ρ = some (.ow out, unwR vs ρ1 ρ2) ∧ P out ds.length ρ2 := by
  obtain ⟨out, ρ2, e, p⟩ := lcL_inv (P := P) (st := st) (c := c) (f := f) (vs := vs) ds 0 [] (wipeR ρ1 vs) h0 fun j d acc ρ hd hp => by
    rw [Nat.zero_add] at hp ⊢
    obtain ⟨ρa, ρb, r, z, ρc, e1, e2, e3, e4, e5⟩ := go j d acc ρ hd hp
    exact ⟨ρa, true, ρb, e1, e2, by rw [if_pos rfl]; exact ⟨r, z, ρc, e3, e4, e5⟩⟩
  rw [List.nil_append, Nat.zero_add] at p
  exact ⟨out, ρ2, lcE_of hi hn e, p⟩
theorem rngD_tab {lo : Int} {n : Nat} : rngD lo n = (List.range n).map fun j : Nat => PyData.int (lo + (j : Int)) := rfl
theorem ints_tab (xs : List Int) : xs.map PyData.int = (List.range xs.length).map fun j => PyData.int (xat xs j) := by
  conv => lhs; rw [← xat_all xs]
  rw [List.map_map]
  rfl
end
end DL

namespace DL
open PySem PySem.Spec PyProof.Rows L2
noncomputable section
/-! chains -/
def chainK (F' : List D → Option D) (h : DE) (y : Vl) (ρ : Rho) : D → Option (Vl × Rho)
  | .bool b => if b = true then (h ρ).bind fun t => (curA t.2 [y, t.1]).bind fun es => (F' es).bind fun z => some (.fz z, t.2) else some (.fz (.bool false), ρ)
  | _ => none
section
variable {F F' : List D → Option D} {f g h : DE} {ρ : Rho} {y : Vl} {a b : Int}
@[simp] theorem ap_chainE : chainE F F' f g h ρ = (f ρ).bind fun p => (g p.2).bind fun q => (curA q.2 [p.1, q.1]).bind fun ds => (F ds).bind (chainK F' h q.1 q.2) := by
  have e : ∀ (q : Vl × Rho), (fun z : D => (match z with
    | .bool b => if b = true then (h q.2).bind fun t => (curA t.2 [q.1, t.1]).bind fun es => (F' es).bind fun y => some (.fz y, t.2) else some (.fz (.bool false), q.2)
    | _ => none : Option (Vl × Rho))) = chainK F' h q.1 q.2 := fun q => by
    funext z
    cases z <;> rfl
  show ((f ρ).bind fun p => (g p.2).bind fun q => (curA q.2 [p.1, q.1]).bind fun ds => (F ds).bind fun z => _) = _
  simp only [← e]
  all_goals rfl
@[simp] theorem chainK_t : chainK F' h y ρ (.bool true) = (h ρ).bind fun t => (curA t.2 [y, t.1]).bind fun es => (F' es).bind fun z => some (.fz z, t.2) := rfl
@[simp] theorem chainK_f : chainK F' h y ρ (.bool false) = some (.fz (.bool false), ρ) := rfl
@[simp] theorem chainK_b {c : Bool} : chainK F' h y ρ (.bool c) = if c = true then (h ρ).bind fun t => (curA t.2 [y, t.1]).bind fun es => (F' es).bind fun z => some (.fz z, t.2) else some (.fz (.bool false), ρ) := rfl
@[simp] theorem leD_i : leD [.int a, .int b] = some (.bool (decide (a ≤ b))) := rfl
@[simp] theorem ltD_i : ltD [.int a, .int b] = some (.bool (decide (a < b))) := rfl
@[simp] theorem gtD_i : gtD [.int a, .int b] = some (.bool (decide (b < a))) := rfl
@[simp] theorem geD_i : geD [.int a, .int b] = some (.bool (decide (b ≤ a))) := rfl
end
/-! rows sorted, all orders -/
theorem sort_same {a b : List Int} (h : a.Perm b) (hb : b.Pairwise (· ≤ ·)) : sortI a = b := PySem.W.ksm_same ((sortI_perm a).trans h) (sortI_sorted a) hb
def upto (n : Nat) : List Int := (List.range n).map fun k : Nat => (k : Int)
theorem upto_len {n : Nat} : (upto n).length = n := by unfold upto; rw [List.length_map, List.length_range]
theorem upto_rng {n : Nat} : rngD 0 n = (upto n).map .int := by
  unfold rngD upto
  rw [List.map_map]
  refine List.map_congr_left fun k _ => ?_
  rw [Int.zero_add]
  rfl
theorem upto_mem {n : Nat} {i : Int} : i ∈ upto n ↔ 0 ≤ i ∧ i < n := by
  unfold upto
  rw [List.mem_map]
  constructor
  · rintro ⟨k, hk, rfl⟩
    have := List.mem_range.mp hk
    omega
  · rintro ⟨h1, h2⟩
    exact ⟨i.toNat, List.mem_range.mpr (by omega), by omega⟩
theorem upto_sorted (n : Nat) : (upto n).Pairwise (· ≤ ·) := by
  unfold upto
  rw [List.pairwise_map]
  refine List.Pairwise.imp ?_ (List.pairwise_lt_range (n := n))
  intro a b h
  omega
theorem erase_perm : ∀ (l : List Int) (i : Nat) (h : i < l.length), (l[i] :: l.eraseIdx i).Perm l
  | a :: l, 0, _ => List.Perm.refl _
  | a :: l, i + 1, h => by
    rw [List.eraseIdx_cons_succ, List.getElem_cons_succ]
    exact (List.Perm.swap ..).trans ((erase_perm l i (by simpa using h)).cons a)
theorem mixes_perm : ∀ {n : Nat} {l r : List Int}, l.length = n → r ∈ mixes n l → r.Perm l
  | 0, l, r, hl, h => by
    rw [mixes, List.mem_singleton] at h
    subst h
    rw [List.length_eq_zero_iff.mp hl]
  | n + 1, l, r, hl, h => by
    rw [mixes, List.mem_flatMap] at h
    obtain ⟨i, hi, h⟩ := h
    have hi := List.mem_range.mp hi
    obtain ⟨r', h', rfl⟩ := List.mem_map.mp h
    have ih := mixes_perm (by rw [List.length_eraseIdx_of_lt (by omega)]; omega) h'
    have e : l.getD i 0 = l[i] := by rw [List.getD_eq_getElem?_getD, List.getElem?_eq_getElem (by omega)]; rfl
    rw [e]
    exact (ih.cons _).trans (erase_perm l i (by omega))
/-- an order of n things -/
structure IsOrd (os : List Int) : Prop where
  so : sortI os = upto os.length
  bd : ∀ i ∈ os, 0 ≤ i ∧ i < os.length
theorem IsOrd.of_perm {n : Nat} {os : List Int} (h : os.Perm (upto n)) : IsOrd os := by
  have hl : os.length = n := by rw [h.length_eq, upto_len]
  refine ⟨by rw [hl]; exact sort_same h (upto_sorted n), fun i hi => ?_⟩
  rw [hl]
  exact upto_mem.mp (h.mem_iff.mp hi)
end
end DL

namespace DL
open PySem PySem.Spec PyProof.Rows L2
noncomputable section
theorem flat_ints : ∀ ns : List Int, (ns.map PyData.int).all flatD = true
  | [] => rfl
  | n :: r => by rw [List.map_cons, List.all_cons, flat_ints r]; rfl
theorem any_ints (k : Int) : ∀ ns : List Int, ((ns.map PyData.int).any fun z => PyData.eqv z (.int k)) = decide (k ∈ ns)
  | [] => by simp
  | n :: r => by
    rw [List.map_cons, List.any_cons, any_ints k r]
    have : PyData.eqv (.int n) (.int k) = (n == k) := by rw [PyData.eqv]
    rw [this]
    by_cases e : n = k
    · subst e; simp
    · simp [e, Ne.symm e]
theorem sh_int (k : Int) : SeqAt.shaped (.int k) = true := rfl
theorem inD_l {k : Int} {ns : List Int} : inD [.int k, .list (ns.map .int)] = some (decide (k ∈ ns)) := by
  unfold inD
  dsimp only
  rw [sh_int, sh_lI, any_ints]
  rfl
theorem inD_t {k : Int} {ns : List Int} : inD [.int k, .tuple (ns.map .int)] = some (decide (k ∈ ns)) := by
  unfold inD
  dsimp only
  rw [if_pos (by rw [flat_ints]; rfl), any_ints]
theorem inF_l {ρ : Rho} {k : Int} {ns : List Int} : inF ρ [.fz (.int k), .fz (.list (ns.map .int))] = some (.fz (.bool (decide (k ∈ ns)))) := by
  unfold inF ctF
  simp only [curA_cons, curA_nil, curR_fz, Option.bind_some, inD_l]
theorem inF_t {ρ : Rho} {k : Int} {ns : List Int} : inF ρ [.fz (.int k), .fz (.tuple (ns.map .int))] = some (.fz (.bool (decide (k ∈ ns)))) := by
  unfold inF ctF
  simp only [curA_cons, curA_nil, curR_fz, Option.bind_some, inD_t]
theorem notInF_l {ρ : Rho} {k : Int} {ns : List Int} : notInF ρ [.fz (.int k), .fz (.list (ns.map .int))] = some (.fz (.bool (!decide (k ∈ ns)))) := by
  unfold notInF ctF
  simp only [curA_cons, curA_nil, curR_fz, Option.bind_some, inD_l]
theorem notInF_t {ρ : Rho} {k : Int} {ns : List Int} : notInF ρ [.fz (.int k), .fz (.tuple (ns.map .int))] = some (.fz (.bool (!decide (k ∈ ns)))) := by
  unfold notInF ctF
  simp only [curA_cons, curA_nil, curR_fz, Option.bind_some, inD_t]
theorem extG_ok {ds zs : List D} (h : ds.length + zs.length ≤ 1000000) : extG ds [.list zs] = some (ds ++ zs, .none) := if_pos h
/-- a comprehension with a condition, by places -/
theorem lcE_tabF {fi : DI} {st : DTg} {c : DT} {f : DE} {vs : List Nat} {ρ ρ1 : Rho} {α : Type} {L : List α} {F G : α → D} {T : α → Bool} (hi : fi ρ = some (L.map F, ρ1)) (hn : L.length ≤ 1000000)
    (go : ∀ a ∈ L, ∃ ρa r, st (.fz (F a)) (wipeR ρ1 vs) = some ρa ∧ c ρa = some (T a, ρa) ∧ wipeR ρa vs = wipeR ρ1 vs ∧ (T a = true → f ρa = some (r, ρa) ∧ frz r = some (G a))) :
    lcE fi st c f vs ρ = some (.ow ((L.filter T).map G), unwR vs ρ1 (wipeR ρ1 vs)) := by
  have gen : ∀ L' : List α, (∀ a ∈ L', a ∈ L) → lcL st c f vs (L'.map F) (wipeR ρ1 vs) = some ((L'.filter T).map G, wipeR ρ1 vs) := by
    intro L'
    induction L' with
    | nil => intro _; rfl
    | cons a r ih =>
      intro h
      obtain ⟨ρa, v, e1, e2, e3, e4⟩ := go a (h a List.mem_cons_self)
      rw [List.map_cons, lcL, e1, Option.bind_some, e2, Option.bind_some]
      dsimp only
      have ih' := ih fun b hb => h b (List.mem_cons_of_mem _ hb)
      cases q : T a with
      | true =>
        obtain ⟨e5, e6⟩ := e4 q
        rw [if_pos rfl, e5, Option.bind_some]
        dsimp only
        rw [e6, Option.bind_some, e3, ih', List.filter_cons_of_pos q]
        rfl
      | false => rw [if_neg (by decide), e3, ih', List.filter_cons_of_neg (by rw [q]; decide)]
  exact lcE_of hi (by rw [List.length_map]; exact hn) (gen L fun _ h => h)
/-- without one -/
theorem lcE_tabL {fi : DI} {st : DTg} {c : DT} {f : DE} {vs : List Nat} {ρ ρ1 : Rho} {α : Type} {L : List α} {F G : α → D} (hi : fi ρ = some (L.map F, ρ1)) (hn : L.length ≤ 1000000)
    (go : ∀ a ∈ L, ∃ ρa r, st (.fz (F a)) (wipeR ρ1 vs) = some ρa ∧ c ρa = some (true, ρa) ∧ wipeR ρa vs = wipeR ρ1 vs ∧ f ρa = some (r, ρa) ∧ frz r = some (G a)) :
    lcE fi st c f vs ρ = some (.ow (L.map G), unwR vs ρ1 (wipeR ρ1 vs)) := by
  have := lcE_tabF (T := fun _ => true) (L := L) (F := F) (G := G) (fi := fi) (st := st) (c := c) (f := f) (vs := vs) hi hn fun a ha => by
    obtain ⟨ρa, r, e1, e2, e3, e4⟩ := go a ha
    exact ⟨ρa, r, e1, e2, e3, fun _ => e4⟩
  rwa [show L.filter (fun _ => true) = L from List.filter_eq_self.mpr fun _ _ => rfl] at this
/-- a loop over a list, by the part that is behind -/
theorem forL_parts {st : DTg} {s : DS} {α : Type} {F : α → D} {P : List α → Rho → Prop} {W : List α} (go : ∀ pre a suf ρ, W = pre ++ a :: suf → P pre ρ → ∃ ρ1, ((st (.fz (F a)) ρ).bind s = some (.nx ρ1) ∨ (st (.fz (F a)) ρ).bind s = some (.ct ρ1)) ∧ P (pre ++ [a]) ρ1) {ρ : Rho} (h0 : P [] ρ) :
    ∃ ρ1, forL st s (W.map F) ρ = some (.nx ρ1) ∧ P W ρ1 := by
  have gen : ∀ (L pre : List α) (ρ : Rho), W = pre ++ L → P pre ρ → ∃ ρ1, forL st s (L.map F) ρ = some (.nx ρ1) ∧ P W ρ1 := by
    intro L
    induction L with
    | nil => intro pre ρ h p; rw [List.append_nil] at h; subst h; exact ⟨ρ, rfl, p⟩
    | cons a r ih =>
      intro pre ρ h p
      obtain ⟨ρ1, e, p1⟩ := go pre a r ρ h p
      obtain ⟨ρ2, e2, p2⟩ := ih (pre ++ [a]) ρ1 (by rw [h, List.append_assoc]; rfl) p1
      refine ⟨ρ2, ?_, p2⟩
      rw [List.map_cons]
      rcases e with e | e
      · rw [forL_nx e]; exact e2
      · rw [forL_ct e]; exact e2
  exact gen W [] ρ rfl h0
end
end DL

namespace DL
open PySem PySem.Spec PyProof.Rows L2
/-! sums by choices, there and back -/
def ss (f : Nat → Int) (a : Nat) : Int := sm (a + 1) fun i => ch a i * f i
def bk (f : Nat → Int) (a : Nat) : Int := sm (a + 1) fun i => sg (a + i) * ch a i * f i
theorem sm_moreS {f : Nat → Int} {n m : Nat} (h : n ≤ m) (hz : ∀ i, n ≤ i → f i = 0) : sm m f = sm n f := by
  obtain ⟨d, rfl⟩ : ∃ d, m = n + d := ⟨m - n, by omega⟩
  rw [sm_split, sm_zero (f := fun i => f (n + i)) fun i _ => hz _ (by omega), Int.add_zero]
theorem ss_more {f : Nat → Int} {a m : Nat} (h : a < m) : ss f a = sm m fun i => ch a i * f i := (sm_moreS h fun i hi => by rw [ch_big (show a < i by omega)]; simp).symm
theorem bk_more {f : Nat → Int} {a m : Nat} (h : a < m) : bk f a = sm m fun i => sg (a + i) * ch a i * f i := (sm_moreS h fun i hi => by rw [ch_big (show a < i by omega)]; simp).symm
theorem ss_congr {f g : Nat → Int} {a : Nat} (h : ∀ i, i ≤ a → f i = g i) : ss f a = ss g a := sm_congr fun i hi => by rw [h i (by omega)]
theorem bk_congr {f g : Nat → Int} {a : Nat} (h : ∀ i, i ≤ a → f i = g i) : bk f a = bk g a := sm_congr fun i hi => by rw [h i (by omega)]
theorem tf_sg (N k i : Nat) (h : k < N) : (sm N fun j => sg (k + j) * ch k j * ch j i) = if k = i then 1 else 0 := by
  have e := tf_eq N k i h
  unfold tf at e
  have : (sm N fun j => sg (k + j) * (ch k j : Int) * ch j i) = sg (k + i) * sm N fun j => sg (j + i) * ((ch j i : Int) * ch k j) := by
    rw [← sm_mul]
    refine sm_congr fun j _ => ?_
    have s : sg (k + j) = sg (k + i) * sg (j + i) := by
      rw [sg_add, sg_add, sg_add, show sg k * sg i * (sg j * sg i) = sg k * sg j * (sg i * sg i) by simp only [Int.mul_assoc, Int.mul_left_comm, Int.mul_comm], sg_sq, Int.mul_one]
    rw [s]
    simp only [Int.mul_assoc, Int.mul_left_comm, Int.mul_comm]
  rw [this, e]
  by_cases q : k = i
  · rw [if_pos q, q, Int.mul_one]
    unfold sg
    rw [if_pos (by omega)]
  · rw [if_neg q, Int.mul_zero]
theorem bk_ss {f : Nat → Int} {a : Nat} : bk (ss f) a = f a := by
  have e : bk (ss f) a = sm (a + 1) fun i => (sm (a + 1) fun j => sg (a + j) * ch a j * ch j i) * f i := by
    unfold bk
    rw [sm_congr (g := fun j => sm (a + 1) fun i => sg (a + j) * ch a j * ch j i * f i) fun j hj => by
      rw [ss_more (show j < a + 1 by omega), ← sm_mul]
      exact sm_congr fun i _ => by simp only [Int.mul_assoc], sm_swap]
    exact sm_congr fun i _ => sm_mul_r
  rw [e, sm_one (k := a) (by omega) fun i hi q => by rw [tf_sg _ _ _ (by omega), if_neg fun z => q z.symm, Int.zero_mul], tf_sg _ _ _ (by omega), if_pos rfl, Int.one_mul]
theorem ss_bk {f : Nat → Int} {a : Nat} : ss (bk f) a = f a := by
  have e : ss (bk f) a = sm (a + 1) fun i => sg (a + i) * (sm (a + 1) fun j => sg (a + j) * ch a j * ch j i) * f i := by
    unfold ss
    rw [sm_congr (g := fun j => sm (a + 1) fun i => sg (a + i) * (sg (a + j) * ch a j * ch j i) * f i) fun j hj => by
      rw [bk_more (show j < a + 1 by omega), ← sm_mul]
      refine sm_congr fun i _ => ?_
      have s : sg (j + i) = sg (a + i) * sg (a + j) := by
        rw [sg_add, sg_add, sg_add, show sg a * sg i * (sg a * sg j) = sg j * sg i * (sg a * sg a) by simp only [Int.mul_assoc, Int.mul_left_comm, Int.mul_comm], sg_sq, Int.mul_one]
      rw [s]
      simp only [Int.mul_assoc, Int.mul_left_comm, Int.mul_comm], sm_swap]
    refine sm_congr fun i _ => ?_
    rw [Int.mul_assoc, ← sm_mul_r, ← sm_mul]
    exact sm_congr fun j _ => by simp only [Int.mul_assoc, Int.mul_left_comm, Int.mul_comm]
  rw [e, sm_one (k := a) (by omega) fun i hi q => by rw [tf_sg _ _ _ (by omega), if_neg fun z => q z.symm, Int.mul_zero, Int.zero_mul], tf_sg _ _ _ (by omega), if_pos rfl, Int.mul_one]
  rw [show sg (a + a) = 1 by unfold sg; rw [if_pos (by omega)], Int.one_mul]
/-! differences -/
def dv (f : Nat → Int) : Nat → Nat → Int
  | 0, j => f j
  | t + 1, j => dv f t (j + 1) - dv f t j
/-- by heads -/
theorem dv_ss {f : Nat → Int} : ∀ (t j : Nat), dv (ss f) t j = ss (fun k => f (k + t)) j
  | 0, j => rfl
  | t + 1, j => by
    rw [dv, dv_ss t, dv_ss t, ss_more (show j < j + 1 + 1 by omega)]
    unfold ss
    rw [← sm_sub, sm_succ', ch_0, ch_0, Int.sub_self, Int.zero_add]
    refine sm_congr fun i _ => ?_
    show (ch (j + 1) (i + 1) : Int) * f (i + 1 + t) - (ch j (i + 1) : Int) * f (i + 1 + t) = ch j i * f (i + (t + 1))
    rw [ch_s, Int.natCast_add, Int.add_mul, Int.add_sub_cancel, show i + 1 + t = i + (t + 1) by omega]
theorem ss_0 {f : Nat → Int} : ss f 0 = f 0 := by
  unfold ss
  rw [sm, sm, ch_0]
  simp
theorem dv_0 {f : Nat → Int} (t : Nat) : dv (ss f) t 0 = f t := by
  rw [dv_ss, ss_0, Nat.zero_add]
theorem dv_bk {f : Nat → Int} (t : Nat) : dv f t 0 = bk f t := by
  have : f = ss (bk f) := funext fun a => ss_bk.symm
  conv => lhs; rw [this]
  exact dv_0 t
theorem dv_congr {f g : Nat → Int} : ∀ {t j : Nat}, (∀ i, i ≤ j + t → f i = g i) → dv f t j = dv g t j
  | 0, j, h => h j (by omega)
  | t + 1, j, h => by
    rw [dv, dv, dv_congr (t := t) (j := j + 1) fun i hi => h i (by omega), dv_congr (t := t) (j := j) fun i hi => h i (by omega)]
/-- sums of all before: a place further -/
theorem ss_sum {f : Nat → Int} (n : Nat) : sm n (ss f) = sm n fun k => ch n (k + 1) * f k := by
  induction n with
  | zero => rfl
  | succ n ih =>
    rw [sm, ih, ss_more (show n < n + 1 by omega)]
    have e : (sm n fun k => (ch n (k + 1) : Int) * f k) = sm (n + 1) fun k => (ch n (k + 1) : Int) * f k := by
      rw [sm, ch_big (Nat.lt_succ_self n)]
      simp
    rw [e, ← sm_add]
    refine sm_congr fun k _ => ?_
    rw [ch_s, Int.natCast_add, Int.add_mul, Int.add_comm]
theorem ch_pow : ∀ n k : Nat, ch n k ≤ n ^ k
  | 0, 0 => by decide
  | 0, k + 1 => by rw [ch_big (Nat.succ_pos k)]; exact Nat.zero_le _
  | n + 1, 0 => by rw [ch_0]; exact Nat.le_refl _
  | n + 1, k + 1 => by
    have h1 := ch_pow n k
    have h2 := ch_pow n (k + 1)
    have h3 : n ^ k ≤ (n + 1) ^ k := Nat.pow_le_pow_left (Nat.le_succ n) k
    rw [ch_s, Nat.pow_succ, Nat.mul_add, Nat.mul_one]
    have h4 : n ^ (k + 1) ≤ (n + 1) ^ k * n := by rw [Nat.pow_succ]; exact Nat.mul_le_mul_right n h3
    omega
theorem mulOk_bigS {a b : Int} {p q : Nat} (h1 : a.natAbs < 2 ^ p) (h2 : b.natAbs < 2 ^ q) (h : p + q ≤ 1000000) : mulOk a b = true := by
  rw [mulOk_eq]
  by_cases ha : a.natAbs = 0
  · rw [ha]; simp
  by_cases hb : b.natAbs = 0
  · rw [hb]; simp
  have g1 := (Nat.log2_lt ha).mpr h1
  have g2 := (Nat.log2_lt hb).mpr h2
  rw [decide_eq_true (show a.natAbs.log2 + b.natAbs.log2 < 1000000 by omega)]
  simp
/-! powers by heads -/
def sp : Nat → Nat → Int
  | 0, k => if k = 0 then 1 else 0
  | p + 1, 0 => 0
  | p + 1, k + 1 => (k + 1) * (sp p (k + 1) + sp p k)
theorem sp_big : ∀ {p k : Nat}, p < k → sp p k = 0
  | 0, k, h => if_neg (by omega)
  | p + 1, 0, h => absurd h (Nat.not_lt_zero _)
  | p + 1, k + 1, h => by rw [sp, sp_big (p := p) (k := k + 1) (by omega), sp_big (p := p) (k := k) (by omega)]; simp
theorem sp_self_pos : ∀ p, 0 < sp p p
  | 0 => by decide
  | p + 1 => by
    rw [sp, sp_big (Nat.lt_succ_self p), Int.zero_add]
    exact Int.mul_pos (by omega) (sp_self_pos p)
theorem ch_upS (n k : Nat) : (n : Int) * ch n k = k * ch n k + (k + 1) * ch n (k + 1) := by
  have h := ch_step n k
  have h' : ((k + 1 : Nat) : Int) * ch n (k + 1) + k * ch n k = n * ch n k := by exact_mod_cast h
  rw [← h', Int.natCast_add]
  exact Int.add_comm _ _
theorem sp_pow : ∀ p n : Nat, ss (sp p) n = (n : Int) ^ p
  | 0, n => by
    unfold ss
    rw [sm_one (k := 0) (by omega) fun i _ q => by rw [show sp 0 i = 0 from if_neg q, Int.mul_zero], ch_0]
    rfl
  | p + 1, n => by
    rw [Int.pow_succ, ← sp_pow p n, ss_more (show n < n + 2 by omega), sm_succ', show sp (p + 1) 0 = 0 from rfl, Int.mul_zero, Int.zero_add, ss_more (show n < n + 1 by omega), Int.mul_comm, ← sm_mul]
    have e : ∀ k, (n : Int) * ((ch n k : Int) * sp p k) = k * ch n k * sp p k + (k + 1) * ch n (k + 1) * sp p k := fun k => by
      rw [← Int.mul_assoc, ch_upS, Int.add_mul]
    have e2 : ∀ k, (ch n (k + 1) : Int) * sp (p + 1) (k + 1) = ((k + 1 : Nat) : Int) * ch n (k + 1) * sp p (k + 1) + (k + 1) * ch n (k + 1) * sp p k := fun k => by
      rw [sp, Int.natCast_add, Int.mul_add, Int.mul_add]
      simp only [Int.mul_assoc, Int.mul_left_comm, Int.mul_comm, Int.natCast_one]
    rw [sm_congr fun k _ => e k, sm_congr fun k _ => e2 k, sm_add, sm_add]
    congr 1
    have s : (sm (n + 1) fun k => ((k + 1 : Nat) : Int) * ch n (k + 1) * sp p (k + 1)) = sm (n + 2) fun k => (k : Int) * ch n k * sp p k := by
      rw [sm_succ' (n := n + 1) (f := fun k => (k : Int) * ch n k * sp p k)]
      simp
    rw [s, sm_moreS (n := n + 1) (m := n + 2) (by omega) fun i hi => by rw [ch_big (show n < i by omega)]; simp]
theorem sp_bd : ∀ p k : Nat, k ≤ 24 → 0 ≤ sp p k ∧ sp p k ≤ 50 ^ p
  | 0, k, _ => by
    rw [sp]
    split <;> decide
  | p + 1, 0, _ => ⟨Int.le_refl _, Int.pow_nonneg (by decide)⟩
  | p + 1, k + 1, h => by
    obtain ⟨a1, a2⟩ := sp_bd p (k + 1) h
    obtain ⟨b1, b2⟩ := sp_bd p k (by omega)
    rw [sp, Int.pow_succ]
    generalize (50 : Int) ^ p = B at *
    refine ⟨Int.mul_nonneg (by omega) (by omega), ?_⟩
    have h1 : ((k : Int) + 1) * (sp p (k + 1) + sp p k) ≤ 25 * (sp p (k + 1) + sp p k) := Int.mul_le_mul_of_nonneg_right (by omega) (by omega)
    omega
end DL


namespace DL
open PySem PySem.Spec PyProof.Rows L2
/-! part rows: tables, lists -/
def stp (f : Nat → Nat) (i : Nat) : Nat → Nat → Nat
  | 0, j => f j
  | t + 1, j => f j + if i ≤ j then stp f i t (j - i) else 0
def bt : Nat → Nat → Nat
  | 0, j => if j = 0 then 1 else 0
  | i + 1, j => stp (bt i) (i + 1) j j
theorem stp_fuel {f : Nat → Nat} {i : Nat} (hi : 0 < i) : ∀ {t u j : Nat}, j ≤ t → j ≤ u → stp f i t j = stp f i u j
  | 0, 0, j, _, _ => rfl
  | 0, u + 1, j, h, _ => by
    obtain rfl : j = 0 := by omega
    rw [stp, stp, if_neg (by omega)]; rfl
  | t + 1, 0, j, _, h => by
    obtain rfl : j = 0 := by omega
    rw [stp, stp, if_neg (by omega)]; rfl
  | t + 1, u + 1, j, h1, h2 => by
    rw [stp, stp]
    by_cases h : i ≤ j
    · rw [if_pos h, if_pos h, stp_fuel hi (t := t) (u := u) (by omega) (by omega)]
    · rw [if_neg h, if_neg h]
theorem bt_s (i j : Nat) : bt (i + 1) j = bt i j + if i + 1 ≤ j then bt (i + 1) (j - (i + 1)) else 0 := by
  rw [bt]
  cases j with
  | zero => rw [stp, if_neg (by omega)]; rfl
  | succ j =>
    rw [stp]
    by_cases h : i + 1 ≤ j + 1
    · rw [if_pos h, if_pos h]
      show _ = _ + stp (bt i) (i + 1) (j + 1 - (i + 1)) (j + 1 - (i + 1))
      rw [stp_fuel (by omega) (t := j) (u := j + 1 - (i + 1)) (by omega) (Nat.le_refl _)]
    · rw [if_neg h, if_neg h]
theorem bt_lt {i j : Nat} (h : j < i + 1) : bt (i + 1) j = bt i j := by rw [bt_s, if_neg (by omega)]; rfl
theorem bt_up {j : Nat} : ∀ d, bt (j + d) j = bt j j
  | 0 => rfl
  | d + 1 => by rw [← Nat.add_assoc, bt_lt (by omega), bt_up d]
theorem bt_big {i j : Nat} (h : j ≤ i) : bt i j = bt j j := by
  obtain ⟨d, rfl⟩ : ∃ d, i = j + d := ⟨i - j, by omega⟩
  exact bt_up d
theorem bt_min (t m : Nat) : bt (min t m) t = bt m t := by
  by_cases h : t ≤ m
  · rw [Nat.min_eq_left h, bt_big h]
  · rw [Nat.min_eq_right (by omega)]
theorem bt_0 : ∀ i, bt i 0 = 1
  | 0 => rfl
  | i + 1 => by rw [bt_lt (by omega), bt_0 i]
theorem bt_mono (i j : Nat) : bt i j ≤ bt (i + 1) j := by rw [bt_s]; omega
/-- rows with so many parts -/
def mop (n k : Nat) : Nat := if k = 0 then (if n = 0 then 1 else 0) else if k ≤ n then bt k (n - k) else 0
theorem mop_dif {n k : Nat} (h : k + 1 ≤ n) : bt (k + 1) n = bt k n + mop n (k + 1) := by
  rw [bt_s, if_pos h]
  unfold mop
  rw [if_neg (by omega), if_pos h]
theorem mop_rec {t k : Nat} (ht : 0 < t) (hk : 0 < k) : mop t k = mop (t - 1) (k - 1) + if k ≤ t then mop (t - k) k else 0 := by
  obtain ⟨k, rfl⟩ : ∃ j, k = j + 1 := ⟨k - 1, by omega⟩
  obtain ⟨t, rfl⟩ : ∃ j, t = j + 1 := ⟨t - 1, by omega⟩
  rw [Nat.add_sub_cancel, Nat.add_sub_cancel]
  by_cases h : k + 1 ≤ t + 1
  · rw [if_pos h]
    have e1 : mop (t + 1) (k + 1) = bt (k + 1) (t - k) := by
      unfold mop
      rw [if_neg (by omega), if_pos h, show t + 1 - (k + 1) = t - k by omega]
    have e2 : mop (t + 1 - (k + 1)) (k + 1) = if k + 1 ≤ t - k then bt (k + 1) (t - k - (k + 1)) else 0 := by
      unfold mop
      rw [if_neg (by omega), show t + 1 - (k + 1) = t - k by omega]
    have e3 : mop t k = bt k (t - k) := by
      unfold mop
      by_cases hk0 : k = 0
      · subst hk0
        rw [if_pos rfl]
        rfl
      · rw [if_neg hk0, if_pos (by omega)]
    rw [e1, e2, e3, bt_s]
  · rw [if_neg h]
    unfold mop
    rw [if_neg (by omega), if_neg h]
    by_cases hk0 : k = 0
    · omega
    · rw [if_neg hk0, if_neg (by omega)]
def sN' (f : Nat → Nat) : Nat → Nat
  | 0 => 0
  | n + 1 => sN' f n + f n
theorem mop_sum (n : Nat) : ∀ m, m ≤ n → sN' (mop n) (m + 1) = bt m n
  | 0, _ => by
    show 0 + mop n 0 = bt 0 n
    unfold mop bt
    rw [if_pos rfl, Nat.zero_add]
  | m + 1, h => by
    rw [sN', mop_sum n m (by omega), mop_dif h]
/-- unlike rows: even, odd -/
def ut : Nat → Nat → Nat × Nat
  | 0, j => if j = 0 then (1, 0) else (0, 0)
  | i + 1, j => if i + 1 ≤ j then ((ut i j).1 + (ut i (j - (i + 1))).2, (ut i j).2 + (ut i (j - (i + 1))).1) else ut i j
/-- the lists, breadth first -/
def lastP (l : List Int) : Int := l.getLastD 0
def mostP (d : Int) (x : List Int × Int) : Int := if x.1 = [] then x.2 else min x.2 (lastP x.1 - d)
def extP (d : Int) (x : List Int × Int) : List (List Int × Int) := (List.range (mostP d x).toNat).map fun i : Nat => (x.1 ++ [1 + (i : Int)], x.2 - (1 + (i : Int)))
def LV (d : Int) (t : Nat) : Nat → List (List Int × Int)
  | 0 => [([], (t : Int))]
  | n + 1 => (LV d t n).flatMap (extP d)
def doneP (x : List Int × Int) : Bool := decide (x.2 = 0)
def FD (d : Int) (t : Nat) : Nat → List (List Int)
  | 0 => []
  | n + 1 => FD d t n ++ ((LV d t n).filter doneP).map (·.1)
def RWS (d : Int) (t : Nat) : List (List Int) := FD d t (t + 1)
def sqr (row : List Int) : Nat := ((List.range row.length).filter fun i : Nat => decide ((i : Int) < xat row i)).length
def turnP (row : List Int) : List Int := (List.range ((if 0 < row.length then xat row 0 else 0)).toNat).map fun i : Nat => ((row.filter fun p => decide (1 + (i : Int) ≤ p)).length : Int)
def okRow (t : Nat) (row : List Int) : Bool := decide (row.length ≤ 30) && decide (row.sum = (t : Int)) && (row.all fun x => decide (1 ≤ x ∧ x ≤ 200)) && (List.range (row.length - 1)).all fun i => decide (xat row (i + 1) ≤ xat row i)
def ckL (d : Int) (t : Nat) : Bool := (LV d t (t + 1)).isEmpty && ((List.range (t + 2)).all fun n => decide ((LV d t n).length ≤ 2000) && decide ((FD d t n).length ≤ 2000) && (LV d t n).all fun x => decide (x.1.length ≤ 100) && decide (0 ≤ x.2 ∧ x.2 ≤ 200) && x.1.all fun y => decide (-1000 ≤ y ∧ y ≤ 1000)) && (RWS d t).all (okRow t)
def noRep (times : Nat) (row : List Int) : Bool := row.all fun p => decide (¬ times ≤ row.count p)
def noDiv (times : Nat) (row : List Int) : Bool := row.all fun p => decide (¬ p % (times : Int) = 0)
def ck18 (t : Nat) : Bool := let R := RWS 0 t
  decide (bt t t ≤ 2000)
  && ((List.range 4).all fun i => decide ((R.filter (noRep (2 + i))).length = (R.filter (noDiv (2 + i))).length))
  && decide ((R.filter (noRep 2)).length = (ut t t).1 + (ut t t).2)
  && (t == 0 || decide ((R.filter fun row => decide (¬ (1 : Int) ∈ row)).length + bt (t - 1) (t - 1) = bt t t))
  && ((List.range 6).all fun i => decide ((R.map fun row => row.count ((1 + i : Nat) : Int)).sum = sN' (fun o => bt (t - (1 + i) * (1 + o)) (t - (1 + i) * (1 + o))) (t / (1 + i))))
  && decide ((R.map fun row => row.count (1 : Int)).sum = (R.map fun row => (ssI row).length).sum)
  && ((List.range 5).all fun s => decide ((R.filter fun row => decide (sqr row = s)).length = if s * s ≤ t then sN' (fun h => bt s h * bt s (t - s * s - h)) (t - s * s + 1) else 0))
def flatP (k : Nat) (row : List Int) : List Int := (List.range row.length).map fun i => xat row i - (k : Int) + 1 + (i : Int)
def ck30 (t : Nat) : Bool := let U := RWS 1 t
  decide ((ut t t).1 + (ut t t).2 ≤ 2000)
  && (List.range 8).all fun k => let V := U.filter fun row => decide (row.length = k)
    decide (V.length = if k * (k - 1) / 2 ≤ t then mop (t - k * (k - 1) / 2) k else 0)
    && V.all fun row => decide (flatP k row = (sortI (flatP k row)).reverse) && (flatP k row).all (fun x => decide (1 ≤ x)) && decide (ssI (turnP row) = (List.range k).map fun i : Nat => 1 + (i : Int)) && decide ((turnP row).length ≤ 60)
end DL

namespace DL
open PySem PySem.Spec PyProof.Rows L2
set_option maxHeartbeats 0
theorem cL18 : (List.range 19).all (ckL 0) = true := by decide +kernel
theorem c18 : (List.range 19).all ck18 = true := by decide +kernel
theorem cL30 : (List.range 31).all (ckL 1) = true := by decide +kernel
theorem c30 : (List.range 31).all ck30 = true := by decide +kernel
end DL

set_option maxHeartbeats 4000000
namespace DL
open PySem PySem.Spec PyProof.Rows L2
noncomputable section
def topS (i : Nat) : Stmt := PySem.Challenge.pw_twowaycounts_k58_whole_part_rows_counted.main.body.getD i (.Pass ⟨0, 0, 0, 0⟩)
abbrev s__law_pot : Stmt := topS 38
theorem sc__law_pot : FnScope ["script", "k", "cell", "some"] ["script", "k"] (defScope s__law_pot) := ⟨rfl, rfl, rfl, by decide +kernel, rfl, by decide +kernel, by decide +kernel⟩
abbrev s__law_draw : Stmt := topS 39
theorem sc__law_draw : FnScope ["pot", "sides", "digit"] ["pot", "sides"] (defScope s__law_draw) := ⟨rfl, rfl, rfl, by decide +kernel, rfl, by decide +kernel, by decide +kernel⟩
abbrev s__law_is : Stmt := topS 41
theorem sc__law_is : FnScope ["told", "due", "alike", "at"] ["told", "due"] (defScope s__law_is) := ⟨rfl, rfl, rfl, by decide +kernel, rfl, by decide +kernel, by decide +kernel⟩
abbrev s_is_integer : Stmt := topS 1
theorem sc_is_integer : FnScope ["value"] ["value"] (defScope s_is_integer) := ⟨rfl, rfl, rfl, by decide +kernel, rfl, by decide +kernel, by decide +kernel⟩
abbrev s_is_within : Stmt := topS 2
theorem sc_is_within : FnScope ["value", "least", "most"] ["value", "least", "most"] (defScope s_is_within) := ⟨rfl, rfl, rfl, by decide +kernel, rfl, by decide +kernel, by decide +kernel⟩
abbrev s_want_total : Stmt := topS 18
theorem sc_want_total : FnScope ["total"] ["total"] (defScope s_want_total) := ⟨rfl, rfl, rfl, by decide +kernel, rfl, by decide +kernel, by decide +kernel⟩
abbrev s_want_bound : Stmt := topS 19
theorem sc_want_bound : FnScope ["bound"] ["bound"] (defScope s_want_bound) := ⟨rfl, rfl, rfl, by decide +kernel, rfl, by decide +kernel, by decide +kernel⟩
abbrev s_bounded_table : Stmt := topS 20
theorem sc_bounded_table : FnScope ["total", "found", "part", "late", "here"] ["total"] (defScope s_bounded_table) := ⟨rfl, rfl, rfl, by decide +kernel, rfl, by decide +kernel, by decide +kernel⟩
abbrev s_many_bounded : Stmt := topS 25
theorem sc_many_bounded : FnScope ["total", "most"] ["total", "most"] (defScope s_many_bounded) := ⟨rfl, rfl, rfl, by decide +kernel, rfl, by decide +kernel, by decide +kernel⟩
abbrev s_many_of_parts : Stmt := topS 26
theorem sc_many_of_parts : FnScope ["total", "parts", "table"] ["total", "parts"] (defScope s_many_of_parts) := ⟨rfl, rfl, rfl, by decide +kernel, rfl, by decide +kernel, by decide +kernel⟩
abbrev s_count_of : Stmt := topS 21
theorem sc_count_of : FnScope ["total"] ["total"] (defScope s_count_of) := ⟨rfl, rfl, rfl, by decide +kernel, rfl, by decide +kernel, by decide +kernel⟩
abbrev s_many_part_rows : Stmt := topS 24
theorem sc_many_part_rows : FnScope ["total"] ["total"] (defScope s_many_part_rows) := ⟨rfl, rfl, rfl, by decide +kernel, rfl, by decide +kernel, by decide +kernel⟩
abbrev s__law_total_right : Stmt := topS 42
theorem sc__law_total_right : FnScope ["pot", "own", "part", "with_it", "less", "few", "total", "parts", "most", "here", "size"] ["pot"] (defScope s__law_total_right) := ⟨rfl, rfl, rfl, by decide +kernel, rfl, by decide +kernel, by decide +kernel⟩
abbrev s_want_listed : Stmt := topS 13
theorem sc_want_listed : FnScope ["count", "what"] ["count", "what"] (defScope s_want_listed) := ⟨rfl, rfl, rfl, by decide +kernel, rfl, by decide +kernel, by decide +kernel⟩
abbrev s_rows_with : Stmt := topS 22
theorem sc_rows_with : FnScope ["total", "found", "here", "late", "row", "left", "most", "part"] ["total"] (defScope s_rows_with) := ⟨rfl, rfl, rfl, by decide +kernel, rfl, by decide +kernel, by decide +kernel⟩
abbrev s_part_rows : Stmt := topS 27
theorem sc_part_rows : FnScope ["total"] ["total"] (defScope s_part_rows) := ⟨rfl, rfl, rfl, by decide +kernel, rfl, by decide +kernel, by decide +kernel⟩
abbrev s_unlike_table : Stmt := topS 33
theorem sc_unlike_table : FnScope ["total", "found", "part", "here", "near", "far"] ["total"] (defScope s_unlike_table) := ⟨rfl, rfl, rfl, by decide +kernel, rfl, by decide +kernel, by decide +kernel⟩
abbrev s_many_unlike : Stmt := topS 35
theorem sc_many_unlike : FnScope ["total"] ["total"] (defScope s_many_unlike) := ⟨rfl, rfl, rfl, by decide +kernel, rfl, by decide +kernel, by decide +kernel⟩
abbrev s_is_list : Stmt := topS 3
theorem sc_is_list : FnScope ["value"] ["value"] (defScope s_is_list) := ⟨rfl, rfl, rfl, by decide +kernel, rfl, by decide +kernel, by decide +kernel⟩
abbrev s_is_part_row_value : Stmt := topS 16
theorem sc_is_part_row_value : FnScope ["value", "one", "near", "far"] ["value"] (defScope s_is_part_row_value) := ⟨rfl, rfl, rfl, by decide +kernel, rfl, by decide +kernel, by decide +kernel⟩
abbrev s_want_part_row : Stmt := topS 17
theorem sc_want_part_row : FnScope ["row"] ["row"] (defScope s_want_part_row) := ⟨rfl, rfl, rfl, by decide +kernel, rfl, by decide +kernel, by decide +kernel⟩
abbrev s_square_in : Stmt := topS 30
theorem sc_square_in : FnScope ["row", "at", "part"] ["row"] (defScope s_square_in) := ⟨rfl, rfl, rfl, by decide +kernel, rfl, by decide +kernel, by decide +kernel⟩
abbrev s_square_of : Stmt := topS 31
theorem sc_square_of : FnScope ["row"] ["row"] (defScope s_square_of) := ⟨rfl, rfl, rfl, by decide +kernel, rfl, by decide +kernel, by decide +kernel⟩
abbrev s__law_lists_right : Stmt := topS 43
theorem sc__law_lists_right : FnScope ["pot", "rows", "near", "far", "size", "side", "here", "total", "times", "left", "due", "row", "often", "part"] ["pot"] (defScope s__law_lists_right) := ⟨rfl, rfl, rfl, by decide +kernel, rfl, by decide +kernel, by decide +kernel⟩
abbrev s_unlike_with : Stmt := topS 34
theorem sc_unlike_with : FnScope ["total", "found", "here", "late", "row", "left", "most", "part"] ["total"] (defScope s_unlike_with) := ⟨rfl, rfl, rfl, by decide +kernel, rfl, by decide +kernel, by decide +kernel⟩
abbrev s_unlike_rows : Stmt := topS 36
theorem sc_unlike_rows : FnScope ["total"] ["total"] (defScope s_unlike_rows) := ⟨rfl, rfl, rfl, by decide +kernel, rfl, by decide +kernel, by decide +kernel⟩
abbrev s_turned_of : Stmt := topS 23
theorem sc_turned_of : FnScope ["row", "size", "part"] ["row"] (defScope s_turned_of) := ⟨rfl, rfl, rfl, by decide +kernel, rfl, by decide +kernel, by decide +kernel⟩
abbrev s_turned_parts : Stmt := topS 28
theorem sc_turned_parts : FnScope ["row"] ["row"] (defScope s_turned_parts) := ⟨rfl, rfl, rfl, by decide +kernel, rfl, by decide +kernel, by decide +kernel⟩
abbrev s__law_unlike_right : Stmt := topS 44
theorem sc__law_unlike_right : FnScope ["pot", "rows", "left", "flat", "total", "parts", "row", "at", "part"] ["pot"] (defScope s__law_unlike_right) := ⟨rfl, rfl, rfl, by decide +kernel, rfl, by decide +kernel, by decide +kernel⟩
abbrev s_law : Stmt := topS 45
theorem sc_law : FnScope ["script", "pot"] ["script"] (defScope s_law) := ⟨rfl, rfl, rfl, by decide +kernel, rfl, by decide +kernel, by decide +kernel⟩
/-! _law_pot: 0 script 1 k 2 cell 3 some -/
def den__law_pot : DE := fnE 2 [] 4 (seqS (asgS (ifE (bT (opE ltI (consA (nmE 1) (consA (opE lenF (consA (nmE 0) (nilA))) nilA)))) (opE absF (consA (opE ixF (consA (nmE 0) (consA (nmE 1) nilA))) (nilA))) (opE addF (consA (opE addF (consA (opE mulF (consA (cE (.int 311)) (consA (nmE 1) nilA))) (consA (cE (.int 227)) nilA))) (consA (opE modI (consA (opE absF (consA (opE sumF (consA (sliceE (nmE 0) (noO) (someO (cE (.int 1)))) (nilA))) (nilA))) (consA (cE (.int 1000003)) nilA))) nilA)))) (nameF 2)) (seqS (asgS (opE addF (consA (opE modI (consA (opE intF (consA (opE addF (consA (opE addF (consA (opE mulF (consA (opE modI (consA (opE intF (consA (nmE 2) (nilA))) (consA (cE (.int 2147483549)) nilA))) (consA (cE (.int 40507)) nilA))) (consA (opE mulF (consA (cE (.int 8623)) (consA (nmE 1) nilA))) nilA))) (consA (cE (.int 157)) nilA))) (nilA))) (consA (cE (.int 2147483563)) nilA))) (consA (cE (.int 1)) nilA))) (nameF 3)) (retS (lstE (consA (opE maxF (consA (cE (.int 0)) (consA (opE subI (consA (nmE 2) (consA (opE powI (consA (cE (.int 10)) (consA (cE (.int 18)) nilA))) nilA))) (nilA)))) (consA (nmE 3) (nilA)))))))
/-! _law_draw: 0 pot 1 sides 2 digit -/
def den__law_draw : DE := fnE 2 [0] 3 (seqS (ifS (bT (opE gtI (consA (opE ixF (consA (nmE 0) (consA (cE (.int 0)) nilA))) (consA (cE (.int 0)) nilA)))) (seqS (asgS (opE divmodF (consA (opE ixF (consA (nmE 0) (consA (cE (.int 0)) nilA))) (consA (nmE 1) (nilA)))) (tupT [subT 0 (cE (.int 0)), nameF 2])) (retS (nmE 2))) (nxS)) (seqS (asgS (opE modI (consA (opE intF (consA (opE addF (consA (opE mulF (consA (opE ixF (consA (nmE 0) (consA (cE (.int 1)) nilA))) (consA (cE (.int 40709)) nilA))) (consA (cE (.int 8623)) nilA))) (nilA))) (consA (cE (.int 2147483587)) nilA))) (subT 0 (cE (.int 1)))) (retS (opE modI (consA (opE intF (consA (opE divI (consA (opE modI (consA (opE intF (consA (opE mulF (consA (opE ixF (consA (nmE 0) (consA (cE (.int 1)) nilA))) (consA (opE ixF (consA (nmE 0) (consA (cE (.int 1)) nilA))) nilA))) (nilA))) (consA (cE (.int 2147483629)) nilA))) (consA (cE (.int 23)) nilA))) (nilA))) (consA (nmE 1) nilA))))))
/-! _law_is: 0 told 1 due 2 alike 3 at -/
def den__law_is_r0 : DE := fun _ => none
def li_law_is_1_r1 : DI := rngI1 (consA (opE lenF (consA (nmE 1) (nilA))) (nilA))
def le_law_is_2_r1 : DE := nmE 3
def lt_law_is_3_r1 : DT := notT (bT (callE [false, false] den__law_is_r0 (consA (opE ixF (consA (nmE 0) (consA (nmE 3) nilA))) (consA (opE ixF (consA (nmE 1) (consA (nmE 3) nilA))) (nilA)))))
def lc_law_is_4_r1 : DE := lcE li_law_is_1_r1 (nameF 3) lt_law_is_3_r1 le_law_is_2_r1 [3]
def sq_law_is_5_r1 : DS := seqS (ifS (orT (notT (bT (nmE 2))) (bT (opE neF (consA (opE lenF (consA (nmE 0) (nilA))) (consA (opE lenF (consA (nmE 1) (nilA))) nilA))))) (retS (cE (.bool false))) (nxS)) (retS (cmpV eqD (lfV (lc_law_is_4_r1)) (dlV (nilV))))
def den__law_is_r1 : DE := fnE 2 [] 4 (seqS (ifS (bT (opE isF (consA (nmE 1) (consA (cE .none) nilA)))) (retS (opE isF (consA (nmE 0) (consA (cE .none) nilA)))) (nxS)) (seqS (ifS (bT (isE [.bool] (nmE 1))) (retS (tB (andT (bT (isE [.bool] (nmE 0))) (bT (opE eqF (consA (nmE 0) (consA (nmE 1) nilA))))))) (nxS)) (seqS (ifS (bT (isE [.int] (nmE 1))) (retS (tB (andT (bT (isE [.int] (nmE 0))) (andT (bT (tB (notT (bT (isE [.bool] (nmE 0)))))) (bT (opE eqF (consA (nmE 0) (consA (nmE 1) nilA)))))))) (nxS)) (seqS (ifS (bT (isE [.str] (nmE 1))) (retS (tB (andT (bT (isE [.str] (nmE 0))) (bT (opE eqF (consA (nmE 0) (consA (nmE 1) nilA))))))) (nxS)) (seqS (asgS (ifE (bT (isE [.list] (nmE 1))) (isE [.list] (nmE 0)) (isE [.tuple] (nmE 0))) (nameF 2)) (sq_law_is_5_r1))))))
def li_law_is_1_r2 : DI := rngI1 (consA (opE lenF (consA (nmE 1) (nilA))) (nilA))
def le_law_is_2_r2 : DE := nmE 3
def lt_law_is_3_r2 : DT := notT (bT (callE [false, false] den__law_is_r1 (consA (opE ixF (consA (nmE 0) (consA (nmE 3) nilA))) (consA (opE ixF (consA (nmE 1) (consA (nmE 3) nilA))) (nilA)))))
def lc_law_is_4_r2 : DE := lcE li_law_is_1_r2 (nameF 3) lt_law_is_3_r2 le_law_is_2_r2 [3]
def sq_law_is_5_r2 : DS := seqS (ifS (orT (notT (bT (nmE 2))) (bT (opE neF (consA (opE lenF (consA (nmE 0) (nilA))) (consA (opE lenF (consA (nmE 1) (nilA))) nilA))))) (retS (cE (.bool false))) (nxS)) (retS (cmpV eqD (lfV (lc_law_is_4_r2)) (dlV (nilV))))
def den__law_is_r2 : DE := fnE 2 [] 4 (seqS (ifS (bT (opE isF (consA (nmE 1) (consA (cE .none) nilA)))) (retS (opE isF (consA (nmE 0) (consA (cE .none) nilA)))) (nxS)) (seqS (ifS (bT (isE [.bool] (nmE 1))) (retS (tB (andT (bT (isE [.bool] (nmE 0))) (bT (opE eqF (consA (nmE 0) (consA (nmE 1) nilA))))))) (nxS)) (seqS (ifS (bT (isE [.int] (nmE 1))) (retS (tB (andT (bT (isE [.int] (nmE 0))) (andT (bT (tB (notT (bT (isE [.bool] (nmE 0)))))) (bT (opE eqF (consA (nmE 0) (consA (nmE 1) nilA)))))))) (nxS)) (seqS (ifS (bT (isE [.str] (nmE 1))) (retS (tB (andT (bT (isE [.str] (nmE 0))) (bT (opE eqF (consA (nmE 0) (consA (nmE 1) nilA))))))) (nxS)) (seqS (asgS (ifE (bT (isE [.list] (nmE 1))) (isE [.list] (nmE 0)) (isE [.tuple] (nmE 0))) (nameF 2)) (sq_law_is_5_r2))))))
def li_law_is_1_r3 : DI := rngI1 (consA (opE lenF (consA (nmE 1) (nilA))) (nilA))
def le_law_is_2_r3 : DE := nmE 3
def lt_law_is_3_r3 : DT := notT (bT (callE [false, false] den__law_is_r2 (consA (opE ixF (consA (nmE 0) (consA (nmE 3) nilA))) (consA (opE ixF (consA (nmE 1) (consA (nmE 3) nilA))) (nilA)))))
def lc_law_is_4_r3 : DE := lcE li_law_is_1_r3 (nameF 3) lt_law_is_3_r3 le_law_is_2_r3 [3]
def sq_law_is_5_r3 : DS := seqS (ifS (orT (notT (bT (nmE 2))) (bT (opE neF (consA (opE lenF (consA (nmE 0) (nilA))) (consA (opE lenF (consA (nmE 1) (nilA))) nilA))))) (retS (cE (.bool false))) (nxS)) (retS (cmpV eqD (lfV (lc_law_is_4_r3)) (dlV (nilV))))
def den__law_is_r3 : DE := fnE 2 [] 4 (seqS (ifS (bT (opE isF (consA (nmE 1) (consA (cE .none) nilA)))) (retS (opE isF (consA (nmE 0) (consA (cE .none) nilA)))) (nxS)) (seqS (ifS (bT (isE [.bool] (nmE 1))) (retS (tB (andT (bT (isE [.bool] (nmE 0))) (bT (opE eqF (consA (nmE 0) (consA (nmE 1) nilA))))))) (nxS)) (seqS (ifS (bT (isE [.int] (nmE 1))) (retS (tB (andT (bT (isE [.int] (nmE 0))) (andT (bT (tB (notT (bT (isE [.bool] (nmE 0)))))) (bT (opE eqF (consA (nmE 0) (consA (nmE 1) nilA)))))))) (nxS)) (seqS (ifS (bT (isE [.str] (nmE 1))) (retS (tB (andT (bT (isE [.str] (nmE 0))) (bT (opE eqF (consA (nmE 0) (consA (nmE 1) nilA))))))) (nxS)) (seqS (asgS (ifE (bT (isE [.list] (nmE 1))) (isE [.list] (nmE 0)) (isE [.tuple] (nmE 0))) (nameF 2)) (sq_law_is_5_r3))))))
def li_law_is_1_r4 : DI := rngI1 (consA (opE lenF (consA (nmE 1) (nilA))) (nilA))
def le_law_is_2_r4 : DE := nmE 3
def lt_law_is_3_r4 : DT := notT (bT (callE [false, false] den__law_is_r3 (consA (opE ixF (consA (nmE 0) (consA (nmE 3) nilA))) (consA (opE ixF (consA (nmE 1) (consA (nmE 3) nilA))) (nilA)))))
def lc_law_is_4_r4 : DE := lcE li_law_is_1_r4 (nameF 3) lt_law_is_3_r4 le_law_is_2_r4 [3]
def sq_law_is_5_r4 : DS := seqS (ifS (orT (notT (bT (nmE 2))) (bT (opE neF (consA (opE lenF (consA (nmE 0) (nilA))) (consA (opE lenF (consA (nmE 1) (nilA))) nilA))))) (retS (cE (.bool false))) (nxS)) (retS (cmpV eqD (lfV (lc_law_is_4_r4)) (dlV (nilV))))
def den__law_is_r4 : DE := fnE 2 [] 4 (seqS (ifS (bT (opE isF (consA (nmE 1) (consA (cE .none) nilA)))) (retS (opE isF (consA (nmE 0) (consA (cE .none) nilA)))) (nxS)) (seqS (ifS (bT (isE [.bool] (nmE 1))) (retS (tB (andT (bT (isE [.bool] (nmE 0))) (bT (opE eqF (consA (nmE 0) (consA (nmE 1) nilA))))))) (nxS)) (seqS (ifS (bT (isE [.int] (nmE 1))) (retS (tB (andT (bT (isE [.int] (nmE 0))) (andT (bT (tB (notT (bT (isE [.bool] (nmE 0)))))) (bT (opE eqF (consA (nmE 0) (consA (nmE 1) nilA)))))))) (nxS)) (seqS (ifS (bT (isE [.str] (nmE 1))) (retS (tB (andT (bT (isE [.str] (nmE 0))) (bT (opE eqF (consA (nmE 0) (consA (nmE 1) nilA))))))) (nxS)) (seqS (asgS (ifE (bT (isE [.list] (nmE 1))) (isE [.list] (nmE 0)) (isE [.tuple] (nmE 0))) (nameF 2)) (sq_law_is_5_r4))))))
abbrev den__law_is : DE := den__law_is_r4
/-! is_integer: 0 value -/
def den_is_integer : DE := fnE 1 [] 1 (retS (tB (andT (bT (isE [.int] (nmE 0))) (bT (tB (notT (bT (isE [.bool] (nmE 0)))))))))
/-! is_within: 0 value 1 least 2 most -/
def den_is_within : DE := fnE 3 [] 3 (retS (tB (andT (bT (callE [false] den_is_integer (consA (nmE 0) (nilA)))) (bT (chainE leD leD (nmE 1) (nmE 0) (nmE 2))))))
/-! want_total: 0 total -/
def den_want_total : DE := fnE 1 [] 1 (ifS (notT (bT (callE [false, false, false] den_is_within (consA (nmE 0) (consA (cE (.int 0)) (consA (cE (.int 200)) (nilA))))))) (nevS) (nxS))
/-! want_bound: 0 bound -/
def den_want_bound : DE := fnE 1 [] 1 (ifS (notT (bT (callE [false, false, false] den_is_within (consA (nmE 0) (consA (cE (.int 0)) (consA (cE (.int 200)) (nilA))))))) (nevS) (nxS))
/-! bounded_table: 0 total 1 found 2 part 3 late 4 here -/
def fb_bounded_table_1 : DS := asgS (opE addF (consA (opE ixF (consA (nmE 3) (consA (nmE 4) nilA))) (consA (opE ixF (consA (nmE 3) (consA (opE subI (consA (nmE 4) (consA (nmE 2) nilA))) nilA))) nilA))) (subT 3 (nmE 4))
def fi_bounded_table_2 : DI := rngI2 (consA (nmE 2) (consA (opE addF (consA (nmE 0) (consA (cE (.int 1)) nilA))) (nilA)))
def fo_bounded_table_3 : DS := forS fi_bounded_table_2 (nameF 4) fb_bounded_table_1
def fb_bounded_table_4 : DS := seqS (asgS (opE listF (consA (opE ixF (consA (nmE 1) (consA (opE negI (consA (cE (.int 1)) nilA)) nilA))) (nilA))) (nameT 3)) (seqS (fo_bounded_table_3) (frzS 3 (dropS (methE 1 appG (consA (nmE 3) (nilA))))))
def fi_bounded_table_5 : DI := rngI2 (consA (cE (.int 1)) (consA (opE addF (consA (nmE 0) (consA (cE (.int 1)) nilA))) (nilA)))
def fo_bounded_table_6 : DS := forS fi_bounded_table_5 (nameF 2) fb_bounded_table_4
def den_bounded_table : DE := fnE 1 [] 5 (seqS (asgS (lstE (consA (opE addF (consA (lstE (consA (cE (.int 1)) (nilA))) (consA (opE mulF (consA (lstE (consA (cE (.int 0)) (nilA))) (consA (nmE 0) nilA))) nilA))) (nilA))) (nameT 1)) (seqS (fo_bounded_table_6) (retS (nmE 1))))
/-! many_bounded: 0 total 1 most -/
def den_many_bounded : DE := fnE 2 [] 2 (seqS (dropS (callE [false] den_want_total (consA (nmE 0) (nilA)))) (seqS (dropS (callE [false] den_want_bound (consA (nmE 1) (nilA)))) (retS (opE ixF (consA (opE ixF (consA (callE [false] den_bounded_table (consA (nmE 0) (nilA))) (consA (opE minF (consA (nmE 0) (consA (nmE 1) (nilA)))) nilA))) (consA (nmE 0) nilA))))))
/-! many_of_parts: 0 total 1 parts 2 table -/
def den_many_of_parts : DE := fnE 2 [] 3 (seqS (dropS (callE [false] den_want_total (consA (nmE 0) (nilA)))) (seqS (dropS (callE [false] den_want_bound (consA (nmE 1) (nilA)))) (seqS (ifS (orT (bT (opE gtI (consA (nmE 1) (consA (nmE 0) nilA)))) (bT (opE eqF (consA (nmE 1) (consA (cE (.int 0)) nilA))))) (retS (opE intF (consA (opE eqF (consA (nmE 1) (consA (nmE 0) nilA))) (nilA)))) (nxS)) (seqS (asgS (callE [false] den_bounded_table (consA (nmE 0) (nilA))) (nameF 2)) (retS (opE subI (consA (opE ixF (consA (opE ixF (consA (nmE 2) (consA (nmE 1) nilA))) (consA (nmE 0) nilA))) (consA (opE ixF (consA (opE ixF (consA (nmE 2) (consA (opE subI (consA (nmE 1) (consA (cE (.int 1)) nilA))) nilA))) (consA (nmE 0) nilA))) nilA))))))))
/-! count_of: 0 total -/
def den_count_of : DE := fnE 1 [] 1 (retS (opE ixF (consA (opE ixF (consA (callE [false] den_bounded_table (consA (nmE 0) (nilA))) (consA (nmE 0) nilA))) (consA (nmE 0) nilA))))
/-! many_part_rows: 0 total -/
def den_many_part_rows : DE := fnE 1 [] 1 (seqS (dropS (callE [false] den_want_total (consA (nmE 0) (nilA)))) (retS (callE [false] den_count_of (consA (nmE 0) (nilA)))))
/-! _law_total_right: 0 pot 1 own 2 part 3 with_it 4 less 5 few 6 total 7 parts 8 most 9 here 10 size -/
def fb_law_total_right_1 : DS := asgS (opE addF (consA (opE ixF (consA (nmE 1) (consA (nmE 9) nilA))) (consA (opE ixF (consA (nmE 1) (consA (opE subI (consA (nmE 9) (consA (nmE 2) nilA))) nilA))) nilA))) (subT 1 (nmE 9))
def fi_law_total_right_2 : DI := rngI2 (consA (nmE 2) (consA (opE addF (consA (nmE 6) (consA (cE (.int 1)) nilA))) (nilA)))
def fo_law_total_right_3 : DS := forS fi_law_total_right_2 (nameF 9) fb_law_total_right_1
def fb_law_total_right_4 : DS := fo_law_total_right_3
def fi_law_total_right_5 : DI := rngI2 (consA (cE (.int 1)) (consA (opE addF (consA (opE minF (consA (nmE 6) (consA (nmE 8) (nilA)))) (consA (cE (.int 1)) nilA))) (nilA)))
def fo_law_total_right_6 : DS := forS fi_law_total_right_5 (nameF 2) fb_law_total_right_4
def li_law_total_right_7 : DI := rngI1 (consA (opE addF (consA (nmE 5) (consA (cE (.int 1)) nilA))) (nilA))
def le_law_total_right_8 : DE := callE [false, false] den_many_of_parts (consA (nmE 5) (consA (nmE 10) (nilA)))
def lc_law_total_right_9 : DE := lcE li_law_total_right_7 (nameF 10) yesT le_law_total_right_8 [10]
def sq_law_total_right_10 : DS := retS (opE eqF (consA (opE sumF (consA (lc_law_total_right_9) (nilA))) (consA (callE [false] den_many_part_rows (consA (nmE 5) (nilA))) nilA)))
def sq_law_total_right_11 : DS := seqS (ifS (bT (opE neF (consA (callE [false, false] den_many_bounded (consA (nmE 6) (consA (nmE 8) (nilA)))) (consA (opE addF (consA (callE [false, false] den_many_bounded (consA (nmE 6) (consA (opE subI (consA (nmE 8) (consA (cE (.int 1)) nilA))) (nilA)))) (consA (nmE 3) nilA))) nilA)))) (retS (cE (.bool false))) (nxS)) (seqS (asgS (ifE (bT (opE geI (consA (nmE 6) (consA (nmE 7) nilA)))) (callE [false, false] den_many_of_parts (pickA [0, 1] (appA (lenA 0 nilA) (lenA 2 (consA (opE subI (consA (nmE 6) (consA (nmE 7) nilA))) (consA (nmE 7) (nilA))))))) (cE (.int 0))) (nameF 4)) (seqS (ifS (andT (bT (opE gtI (consA (nmE 6) (consA (cE (.int 0)) nilA)))) (bT (opE neF (consA (callE [false, false] den_many_of_parts (consA (nmE 6) (consA (nmE 7) (nilA)))) (consA (opE addF (consA (callE [false, false] den_many_of_parts (consA (opE subI (consA (nmE 6) (consA (cE (.int 1)) nilA))) (consA (opE subI (consA (nmE 7) (consA (cE (.int 1)) nilA))) (nilA)))) (consA (nmE 4) nilA))) nilA))))) (retS (cE (.bool false))) (nxS)) (seqS (ifS (andT (bT (opE geI (consA (nmE 8) (consA (nmE 6) nilA)))) (bT (opE neF (consA (callE [false, false] den_many_bounded (consA (nmE 6) (consA (nmE 8) (nilA)))) (consA (callE [false] den_many_part_rows (consA (nmE 6) (nilA))) nilA))))) (retS (cE (.bool false))) (nxS)) (seqS (asgS (opE modI (consA (opE intF (consA (nmE 6) (nilA))) (consA (cE (.int 61)) nilA))) (nameF 5)) (sq_law_total_right_10)))))
def den__law_total_right : DE := fnE 1 [0] 11 (seqS (parS (consA (callE [true, false] den__law_draw (consA (nmE 0) (consA (cE (.int 201)) (nilA)))) (consA (opE addF (consA (cE (.int 1)) (consA (callE [true, false] den__law_draw (consA (nmE 0) (consA (cE (.int 200)) (nilA)))) nilA))) (consA (opE addF (consA (cE (.int 1)) (consA (callE [true, false] den__law_draw (consA (nmE 0) (consA (cE (.int 200)) (nilA)))) nilA))) (nilA)))) [nameT 6, nameT 7, nameT 8]) (frzS 8 (frzS 7 (frzS 6 (seqS (asgS (opE addF (consA (lstE (consA (cE (.int 1)) (nilA))) (consA (opE mulF (consA (lstE (consA (cE (.int 0)) (nilA))) (consA (nmE 6) nilA))) nilA))) (nameT 1)) (seqS (fo_law_total_right_6) (seqS (ifS (notT (bT (callE [false, false] den__law_is (consA (callE [false, false] den_many_bounded (consA (nmE 6) (consA (nmE 8) (nilA)))) (consA (opE ixF (consA (nmE 1) (consA (nmE 6) nilA))) (nilA)))))) (retS (cE (.bool false))) (nxS)) (seqS (asgS (ifE (bT (opE geI (consA (nmE 6) (consA (nmE 8) nilA)))) (callE [false, false] den_many_bounded (pickA [0, 1] (appA (lenA 0 nilA) (lenA 2 (consA (opE subI (consA (nmE 6) (consA (nmE 8) nilA))) (consA (nmE 8) (nilA))))))) (cE (.int 0))) (nameF 3)) (sq_law_total_right_11)))))))))
/-! want_listed: 0 count 1 what -/
def den_want_listed : DE := fnE 2 [] 2 (ifS (bT (opE gtI (consA (nmE 0) (consA (cE (.int 2000)) nilA)))) (nevS) (nxS))
/-! rows_with: 0 total 1 found 2 here 3 late 4 row 5 left 6 most 7 part -/
def li_rows_with_1 : DI := rngI2 (consA (cE (.int 1)) (consA (opE addF (consA (nmE 6) (consA (cE (.int 1)) nilA))) (nilA)))
def le_rows_with_2 : DE := tupE (consA (opE addF (consA (nmE 4) (consA (lstE (consA (nmE 7) (nilA))) nilA))) (consA (opE subI (consA (nmE 5) (consA (nmE 7) nilA))) (nilA)))
def lc_rows_with_3 : DE := lcE li_rows_with_1 (nameF 7) yesT le_rows_with_2 [7]
def fb_rows_with_4 : DS := seqS (ifS (bT (opE eqF (consA (nmE 5) (consA (cE (.int 0)) nilA)))) (dropS (methE 1 appG (consA (nmE 4) (nilA)))) (nxS)) (seqS (asgS (opE minF (consA (nmE 5) (consA (ifE (bT (cmpV neD (lfV (nmE 4)) (dlV (nilV)))) (opE ixF (consA (nmE 4) (consA (opE negI (consA (cE (.int 1)) nilA)) nilA))) (nmE 5)) (nilA)))) (nameF 6)) (dropS (methE 3 extG (consA (lc_rows_with_3) (nilA)))))
def fi_rows_with_5 : DI := seqI (nmE 2)
def fo_rows_with_6 : DS := forS fi_rows_with_5 (tupT [nameF 4, nameF 5]) fb_rows_with_4
def wt_rows_with_7 : DT := bT (cmpV neD (lfV (nmE 2)) (dlV (nilV)))
def wb_rows_with_8 : DS := seqS (asgS (lstE (nilA)) (nameT 3)) (seqS (fo_rows_with_6) (frzS 3 (asgS (nmE 3) (nameF 2))))
def wh_rows_with_9 : DS := whileL wt_rows_with_7 wb_rows_with_8 fuel
def den_rows_with : DE := fnE 1 [] 8 (seqS (parS (consA (lstE (nilA)) (consA (lstE (consA (tupE (consA (lstE (nilA)) (consA (nmE 0) (nilA)))) (nilA))) (nilA))) [nameT 1, nameT 2]) (frzS 2 (seqS (wh_rows_with_9) (retS (opE sortLF (consA (nmE 1) (nilA)))))))
/-! part_rows: 0 total -/
def den_part_rows : DE := fnE 1 [] 1 (seqS (dropS (callE [false] den_want_total (consA (nmE 0) (nilA)))) (seqS (dropS (callE [false, false] den_want_listed (consA (callE [false] den_count_of (consA (nmE 0) (nilA))) (consA (cE (.str "rows")) (nilA))))) (retS (callE [false] den_rows_with (consA (nmE 0) (nilA))))))
/-! unlike_table: 0 total 1 found 2 part 3 here 4 near 5 far -/
def fb_unlike_table_1 : DS := seqS (parS (consA (opE ixF (consA (nmE 1) (consA (nmE 3) nilA))) (consA (opE ixF (consA (nmE 1) (consA (opE subI (consA (nmE 3) (consA (nmE 2) nilA))) nilA))) (nilA))) [nameT 4, nameT 5]) (frzS 5 (frzS 4 (asgS (tupE (consA (opE addF (consA (opE ixF (consA (nmE 4) (consA (cE (.int 0)) nilA))) (consA (opE ixF (consA (nmE 5) (consA (cE (.int 1)) nilA))) nilA))) (consA (opE addF (consA (opE ixF (consA (nmE 4) (consA (cE (.int 1)) nilA))) (consA (opE ixF (consA (nmE 5) (consA (cE (.int 0)) nilA))) nilA))) (nilA)))) (subT 1 (nmE 3)))))
def fi_unlike_table_2 : DI := rngI3 (consA (nmE 0) (consA (opE subI (consA (nmE 2) (consA (cE (.int 1)) nilA))) (consA (opE negI (consA (cE (.int 1)) nilA)) (nilA))))
def fo_unlike_table_3 : DS := forS fi_unlike_table_2 (nameF 3) fb_unlike_table_1
def fb_unlike_table_4 : DS := fo_unlike_table_3
def fi_unlike_table_5 : DI := rngI2 (consA (cE (.int 1)) (consA (opE addF (consA (nmE 0) (consA (cE (.int 1)) nilA))) (nilA)))
def fo_unlike_table_6 : DS := forS fi_unlike_table_5 (nameF 2) fb_unlike_table_4
def den_unlike_table : DE := fnE 1 [] 6 (seqS (asgS (opE addF (consA (lstE (consA (tupE (consA (cE (.int 1)) (consA (cE (.int 0)) (nilA)))) (nilA))) (consA (opE mulF (consA (lstE (consA (tupE (consA (cE (.int 0)) (consA (cE (.int 0)) (nilA)))) (nilA))) (consA (nmE 0) nilA))) nilA))) (nameT 1)) (seqS (fo_unlike_table_6) (retS (nmE 1))))
/-! many_unlike: 0 total -/
def den_many_unlike : DE := fnE 1 [] 1 (seqS (dropS (callE [false] den_want_total (consA (nmE 0) (nilA)))) (retS (opE sumU (consA (opE ixF (consA (callE [false] den_unlike_table (consA (nmE 0) (nilA))) (consA (nmE 0) nilA))) (nilA)))))
/-! is_list: 0 value -/
def den_is_list : DE := fnE 1 [] 1 (retS (isE [.list, .tuple] (nmE 0)))
/-! is_part_row_value: 0 value 1 one 2 near 3 far -/
def li_is_part_row_value_1 : DI := seqI (nmE 0)
def le_is_part_row_value_2 : DE := callE [false, false, false] den_is_within (consA (nmE 1) (consA (cE (.int 1)) (consA (cE (.int 200)) (nilA))))
def lc_is_part_row_value_3 : DE := lcE li_is_part_row_value_1 (nameF 1) yesT le_is_part_row_value_2 [1]
def li_is_part_row_value_4 : DI := zipI (consA (nmE 0) (consA (sliceE (nmE 0) (someO (cE (.int 1))) (noO)) (nilA)))
def le_is_part_row_value_5 : DE := opE geI (consA (nmE 2) (consA (nmE 3) nilA))
def lc_is_part_row_value_6 : DE := lcE li_is_part_row_value_4 (tupT [nameF 2, nameF 3]) yesT le_is_part_row_value_5 [2, 3]
def den_is_part_row_value : DE := fnE 1 [] 4 (seqS (ifS (orT (notT (bT (callE [false] den_is_list (consA (nmE 0) (nilA))))) (notT (bT (opE allF (consA (lc_is_part_row_value_3) (nilA)))))) (retS (cE (.bool false))) (nxS)) (retS (tB (andT (bT (opE leI (consA (opE sumF (consA (nmE 0) (nilA))) (consA (cE (.int 200)) nilA)))) (bT (opE allF (consA (lc_is_part_row_value_6) (nilA))))))))
/-! want_part_row: 0 row -/
def den_want_part_row : DE := fnE 1 [] 1 (ifS (notT (bT (callE [false] den_is_part_row_value (consA (nmE 0) (nilA))))) (nevS) (nxS))
/-! square_in: 0 row 1 at 2 part -/
def li_square_in_1 : DI := enuI (consA (nmE 0) (nilA))
def le_square_in_2 : DE := nmE 1
def lt_square_in_3 : DT := bT (opE gtI (consA (nmE 2) (consA (nmE 1) nilA)))
def lc_square_in_4 : DE := lcE li_square_in_1 (tupT [nameF 1, nameF 2]) lt_square_in_3 le_square_in_2 [1, 2]
def den_square_in : DE := fnE 1 [] 3 (retS (opE lenF (consA (lc_square_in_4) (nilA))))
/-! square_of: 0 row -/
def den_square_of : DE := fnE 1 [] 1 (seqS (dropS (callE [false] den_want_part_row (consA (nmE 0) (nilA)))) (retS (callE [false] den_square_in (consA (nmE 0) (nilA)))))
/-! _law_lists_right: 0 pot 1 rows 2 near 3 far 4 size 5 side 6 here 7 total 8 times 9 left 10 due 11 row 12 often 13 part -/
def li_law_lists_right_1 : DI := seqI (nmE 11)
def le_law_lists_right_2 : DE := nmE 13
def lt_law_lists_right_3 : DT := bT (opE geI (consA (dmE cntG (nmE 11) (nmE 13)) (consA (nmE 8) nilA)))
def lc_law_lists_right_4 : DE := lcE li_law_lists_right_1 (nameF 13) lt_law_lists_right_3 le_law_lists_right_2 [13]
def li_law_lists_right_5 : DI := seqI (nmE 1)
def le_law_lists_right_6 : DE := nmE 11
def lt_law_lists_right_7 : DT := bT (cmpV eqD (lfV (lc_law_lists_right_4)) (dlV (nilV)))
def lc_law_lists_right_8 : DE := lcE li_law_lists_right_5 (nameF 11) lt_law_lists_right_7 le_law_lists_right_6 [11]
def li_law_lists_right_9 : DI := seqI (nmE 11)
def le_law_lists_right_10 : DE := nmE 13
def lt_law_lists_right_11 : DT := bT (opE eqF (consA (opE modI (consA (opE intF (consA (nmE 13) (nilA))) (consA (nmE 8) nilA))) (consA (cE (.int 0)) nilA)))
def lc_law_lists_right_12 : DE := lcE li_law_lists_right_9 (nameF 13) lt_law_lists_right_11 le_law_lists_right_10 [13]
def li_law_lists_right_13 : DI := seqI (nmE 1)
def le_law_lists_right_14 : DE := nmE 11
def lt_law_lists_right_15 : DT := bT (cmpV eqD (lfV (lc_law_lists_right_12)) (dlV (nilV)))
def lc_law_lists_right_16 : DE := lcE li_law_lists_right_13 (nameF 11) lt_law_lists_right_15 le_law_lists_right_14 [11]
def li_law_lists_right_17 : DI := seqI (nmE 1)
def le_law_lists_right_18 : DE := nmE 11
def lt_law_lists_right_19 : DT := bT (opE notInF (consA (cE (.int 1)) (consA (nmE 11) nilA)))
def lc_law_lists_right_20 : DE := lcE li_law_lists_right_17 (nameF 11) lt_law_lists_right_19 le_law_lists_right_18 [11]
def li_law_lists_right_21 : DI := seqI (nmE 1)
def le_law_lists_right_22 : DE := dmE cntG (nmE 11) (nmE 4)
def lc_law_lists_right_23 : DE := lcE li_law_lists_right_21 (nameF 11) yesT le_law_lists_right_22 [11]
def li_law_lists_right_24 : DI := rngI2 (consA (cE (.int 1)) (consA (opE addF (consA (opE divI (consA (nmE 7) (consA (nmE 4) nilA))) (consA (cE (.int 1)) nilA))) (nilA)))
def le_law_lists_right_25 : DE := callE [false] den_many_part_rows (consA (opE subI (consA (nmE 7) (consA (opE mulF (consA (nmE 4) (consA (nmE 12) nilA))) nilA))) (nilA))
def lc_law_lists_right_26 : DE := lcE li_law_lists_right_24 (nameF 12) yesT le_law_lists_right_25 [12]
def li_law_lists_right_27 : DI := seqI (nmE 1)
def le_law_lists_right_28 : DE := dmE cntG (nmE 11) (cE (.int 1))
def lc_law_lists_right_29 : DE := lcE li_law_lists_right_27 (nameF 11) yesT le_law_lists_right_28 [11]
def li_law_lists_right_30 : DI := seqI (nmE 1)
def le_law_lists_right_31 : DE := opE lsF (consA (nmE 11) (nilA))
def lc_law_lists_right_32 : DE := lcE li_law_lists_right_30 (nameF 11) yesT le_law_lists_right_31 [11]
def fb_law_lists_right_33 : DS := asgS (opE addF (consA (nmE 10) (consA (opE mulF (consA (callE [false, false] den_many_bounded (consA (nmE 6) (consA (nmE 5) (nilA)))) (consA (callE [false, false] den_many_bounded (consA (opE subI (consA (nmE 9) (consA (nmE 6) nilA))) (consA (nmE 5) (nilA)))) nilA))) nilA))) (nameF 10)
def fi_law_lists_right_34 : DI := rngI1 (consA (opE addF (consA (nmE 9) (consA (cE (.int 1)) nilA))) (nilA))
def fo_law_lists_right_35 : DS := forS fi_law_lists_right_34 (nameF 6) fb_law_lists_right_33
def li_law_lists_right_36 : DI := seqI (nmE 1)
def le_law_lists_right_37 : DE := nmE 11
def lt_law_lists_right_38 : DT := bT (opE eqF (consA (callE [false] den_square_of (consA (nmE 11) (nilA))) (consA (nmE 5) nilA)))
def lc_law_lists_right_39 : DE := lcE li_law_lists_right_36 (nameF 11) lt_law_lists_right_38 le_law_lists_right_37 [11]
def sq_law_lists_right_40 : DS := seqS (parS (consA (opE subI (consA (nmE 7) (consA (opE mulF (consA (nmE 5) (consA (nmE 5) nilA))) nilA))) (consA (cE (.int 0)) (nilA))) [nameT 9, nameT 10]) (seqS (fo_law_lists_right_35) (retS (opE eqF (consA (opE lenF (consA (lc_law_lists_right_39) (nilA))) (consA (nmE 10) nilA)))))
def sq_law_lists_right_41 : DS := seqS (ifS (andT (bT (opE gtI (consA (nmE 7) (consA (cE (.int 0)) nilA)))) (bT (opE neF (consA (opE lenF (consA (lc_law_lists_right_20) (nilA))) (consA (opE subI (consA (callE [false] den_many_part_rows (consA (nmE 7) (nilA))) (consA (callE [false] den_many_part_rows (consA (opE subI (consA (nmE 7) (consA (cE (.int 1)) nilA))) (nilA))) nilA))) nilA))))) (retS (cE (.bool false))) (nxS)) (seqS (asgS (opE addF (consA (cE (.int 1)) (consA (callE [true, false] den__law_draw (consA (nmE 0) (consA (cE (.int 6)) (nilA)))) nilA))) (nameF 4)) (seqS (ifS (bT (opE neF (consA (opE sumF (consA (lc_law_lists_right_23) (nilA))) (consA (opE sumF (consA (lc_law_lists_right_26) (nilA))) nilA)))) (retS (cE (.bool false))) (nxS)) (seqS (ifS (bT (opE neF (consA (opE sumF (consA (lc_law_lists_right_29) (nilA))) (consA (opE sumF (consA (lc_law_lists_right_32) (nilA))) nilA)))) (retS (cE (.bool false))) (nxS)) (seqS (asgS (callE [true, false] den__law_draw (consA (nmE 0) (consA (cE (.int 5)) (nilA)))) (nameF 5)) (sq_law_lists_right_40)))))
def den__law_lists_right : DE := fnE 1 [0] 14 (seqS (parS (consA (callE [true, false] den__law_draw (consA (nmE 0) (consA (cE (.int 19)) (nilA)))) (consA (opE addF (consA (cE (.int 2)) (consA (callE [true, false] den__law_draw (consA (nmE 0) (consA (cE (.int 4)) (nilA)))) nilA))) (nilA))) [nameF 7, nameF 8]) (seqS (asgS (callE [false] den_part_rows (consA (nmE 7) (nilA))) (nameF 1)) (seqS (asgS (lc_law_lists_right_8) (nameF 2)) (seqS (asgS (lc_law_lists_right_16) (nameF 3)) (seqS (ifS (orT (bT (opE neF (consA (opE lenF (consA (nmE 2) (nilA))) (consA (opE lenF (consA (nmE 3) (nilA))) nilA)))) (andT (bT (opE eqF (consA (nmE 8) (consA (cE (.int 2)) nilA)))) (bT (opE neF (consA (opE lenF (consA (nmE 2) (nilA))) (consA (callE [false] den_many_unlike (consA (nmE 7) (nilA))) nilA)))))) (retS (cE (.bool false))) (nxS)) (sq_law_lists_right_41))))))
/-! unlike_with: 0 total 1 found 2 here 3 late 4 row 5 left 6 most 7 part -/
def li_unlike_with_1 : DI := rngI2 (consA (cE (.int 1)) (consA (opE addF (consA (nmE 6) (consA (cE (.int 1)) nilA))) (nilA)))
def le_unlike_with_2 : DE := tupE (consA (opE addF (consA (nmE 4) (consA (lstE (consA (nmE 7) (nilA))) nilA))) (consA (opE subI (consA (nmE 5) (consA (nmE 7) nilA))) (nilA)))
def lc_unlike_with_3 : DE := lcE li_unlike_with_1 (nameF 7) yesT le_unlike_with_2 [7]
def fb_unlike_with_4 : DS := seqS (ifS (bT (opE eqF (consA (nmE 5) (consA (cE (.int 0)) nilA)))) (dropS (methE 1 appG (consA (nmE 4) (nilA)))) (nxS)) (seqS (asgS (opE minF (consA (nmE 5) (consA (ifE (bT (cmpV neD (lfV (nmE 4)) (dlV (nilV)))) (opE subI (consA (opE ixF (consA (nmE 4) (consA (opE negI (consA (cE (.int 1)) nilA)) nilA))) (consA (cE (.int 1)) nilA))) (nmE 5)) (nilA)))) (nameF 6)) (dropS (methE 3 extG (consA (lc_unlike_with_3) (nilA)))))
def fi_unlike_with_5 : DI := seqI (nmE 2)
def fo_unlike_with_6 : DS := forS fi_unlike_with_5 (tupT [nameF 4, nameF 5]) fb_unlike_with_4
def wt_unlike_with_7 : DT := bT (cmpV neD (lfV (nmE 2)) (dlV (nilV)))
def wb_unlike_with_8 : DS := seqS (asgS (lstE (nilA)) (nameT 3)) (seqS (fo_unlike_with_6) (frzS 3 (asgS (nmE 3) (nameF 2))))
def wh_unlike_with_9 : DS := whileL wt_unlike_with_7 wb_unlike_with_8 fuel
def den_unlike_with : DE := fnE 1 [] 8 (seqS (parS (consA (lstE (nilA)) (consA (lstE (consA (tupE (consA (lstE (nilA)) (consA (nmE 0) (nilA)))) (nilA))) (nilA))) [nameT 1, nameT 2]) (frzS 2 (seqS (wh_unlike_with_9) (retS (opE sortLF (consA (nmE 1) (nilA)))))))
/-! unlike_rows: 0 total -/
def den_unlike_rows : DE := fnE 1 [] 1 (seqS (dropS (callE [false] den_want_total (consA (nmE 0) (nilA)))) (seqS (dropS (callE [false, false] den_want_listed (consA (opE sumU (consA (opE ixF (consA (callE [false] den_unlike_table (consA (nmE 0) (nilA))) (consA (nmE 0) nilA))) (nilA))) (consA (cE (.str "rows")) (nilA))))) (retS (callE [false] den_unlike_with (consA (nmE 0) (nilA))))))
/-! turned_of: 0 row 1 size 2 part -/
def li_turned_of_1 : DI := seqI (nmE 0)
def le_turned_of_2 : DE := nmE 2
def lt_turned_of_3 : DT := bT (opE geI (consA (nmE 2) (consA (nmE 1) nilA)))
def lc_turned_of_4 : DE := lcE li_turned_of_1 (nameF 2) lt_turned_of_3 le_turned_of_2 [2]
def li_turned_of_5 : DI := rngI2 (consA (cE (.int 1)) (consA (opE addF (consA (ifE (bT (opE gtI (consA (opE lenF (consA (nmE 0) (nilA))) (consA (cE (.int 0)) nilA)))) (opE ixF (consA (nmE 0) (consA (cE (.int 0)) nilA))) (cE (.int 0))) (consA (cE (.int 1)) nilA))) (nilA)))
def le_turned_of_6 : DE := opE lenF (consA (lc_turned_of_4) (nilA))
def lc_turned_of_7 : DE := lcE li_turned_of_5 (nameF 1) yesT le_turned_of_6 [1]
def den_turned_of : DE := fnE 1 [] 3 (retS (lc_turned_of_7))
/-! turned_parts: 0 row -/
def den_turned_parts : DE := fnE 1 [] 1 (seqS (dropS (callE [false] den_want_part_row (consA (nmE 0) (nilA)))) (retS (callE [false] den_turned_of (consA (nmE 0) (nilA)))))
/-! _law_unlike_right: 0 pot 1 rows 2 left 3 flat 4 total 5 parts 6 row 7 at 8 part -/
def li_law_unlike_right_1 : DI := seqI (callE [false] den_unlike_rows (consA (nmE 4) (nilA)))
def le_law_unlike_right_2 : DE := nmE 6
def lt_law_unlike_right_3 : DT := bT (opE eqF (consA (opE lenF (consA (nmE 6) (nilA))) (consA (nmE 5) nilA)))
def lc_law_unlike_right_4 : DE := lcE li_law_unlike_right_1 (nameF 6) lt_law_unlike_right_3 le_law_unlike_right_2 [6]
def li_law_unlike_right_5 : DI := enuI (consA (nmE 6) (nilA))
def le_law_unlike_right_6 : DE := opE addF (consA (opE addF (consA (opE subI (consA (nmE 8) (consA (nmE 5) nilA))) (consA (cE (.int 1)) nilA))) (consA (nmE 7) nilA))
def lc_law_unlike_right_7 : DE := lcE li_law_unlike_right_5 (tupT [nameF 7, nameF 8]) yesT le_law_unlike_right_6 [7, 8]
def li_law_unlike_right_8 : DI := seqI (nmE 1)
def le_law_unlike_right_9 : DE := lc_law_unlike_right_7
def lc_law_unlike_right_10 : DE := lcE li_law_unlike_right_8 (nameF 6) yesT le_law_unlike_right_9 [6]
def li_law_unlike_right_11 : DI := seqI (nmE 3)
def le_law_unlike_right_12 : DE := nmE 6
def lt_law_unlike_right_13 : DT := orT (bT (opE neF (consA (nmE 6) (consA (opE revF (consA (opE sortF (consA (nmE 6) (nilA))) nilA)) nilA)))) (bT (opE ltI (consA (opE minF (consA (opE addF (consA (nmE 6) (consA (lstE (consA (cE (.int 1)) (nilA))) nilA))) (nilA))) (consA (cE (.int 1)) nilA))))
def lc_law_unlike_right_14 : DE := lcE li_law_unlike_right_11 (nameF 6) lt_law_unlike_right_13 le_law_unlike_right_12 [6]
def li_law_unlike_right_15 : DI := seqI (nmE 1)
def le_law_unlike_right_16 : DE := nmE 6
def lt_law_unlike_right_17 : DT := bT (opE neF (consA (opE ssF (consA (callE [false] den_turned_parts (consA (nmE 6) (nilA))) (nilA))) (consA (lstRgE (rg2E (cE (.int 1)) (opE addF (consA (nmE 5) (consA (cE (.int 1)) nilA))))) nilA)))
def lc_law_unlike_right_18 : DE := lcE li_law_unlike_right_15 (nameF 6) lt_law_unlike_right_17 le_law_unlike_right_16 [6]
def sq_law_unlike_right_19 : DS := seqS (ifS (bT (cmpV neD (lfV (lc_law_unlike_right_14)) (dlV (nilV)))) (retS (cE (.bool false))) (nxS)) (retS (cmpV eqD (lfV (lc_law_unlike_right_18)) (dlV (nilV))))
def den__law_unlike_right : DE := fnE 1 [0] 9 (seqS (parS (consA (callE [true, false] den__law_draw (consA (nmE 0) (consA (cE (.int 31)) (nilA)))) (consA (callE [true, false] den__law_draw (consA (nmE 0) (consA (cE (.int 8)) (nilA)))) (nilA))) [nameF 4, nameF 5]) (seqS (asgS (lc_law_unlike_right_4) (nameF 1)) (seqS (asgS (opE subI (consA (nmE 4) (consA (opE divI (consA (opE mulF (consA (nmE 5) (consA (opE subI (consA (nmE 5) (consA (cE (.int 1)) nilA))) nilA))) (consA (cE (.int 2)) nilA))) nilA))) (nameF 2)) (seqS (ifS (bT (opE neF (consA (opE lenF (consA (nmE 1) (nilA))) (consA (ifE (bT (opE geI (consA (nmE 2) (consA (cE (.int 0)) nilA)))) (callE [false, false] den_many_of_parts (consA (nmE 2) (consA (nmE 5) (nilA)))) (cE (.int 0))) nilA)))) (retS (cE (.bool false))) (nxS)) (seqS (asgS (lc_law_unlike_right_10) (nameF 3)) (sq_law_unlike_right_19))))))
/-! law: 0 script 1 pot -/
def den_law : DE := fnE 1 [] 2 (seqS (asgS (callE [false, false] den__law_pot (consA (nmE 0) (consA (cE (.int 0)) (nilA)))) (nameT 1)) (retS (tB (andT (bT (callE [true] den__law_total_right (consA (nmE 1) (nilA)))) (andT (bT (callE [true] den__law_total_right (consA (nmE 1) (nilA)))) (andT (bT (callE [true] den__law_lists_right (consA (nmE 1) (nilA)))) (bT (callE [true] den__law_unlike_right (consA (nmE 1) (nilA))))))))))
structure Top (K : PySem.W.Frag) (mg : Str → Option Value) where
  f__law_pot : Addr
  d__law_pot : FuncData
  F__law_pot : Fun K "_law_pot" "_law_pot" s__law_pot f__law_pot d__law_pot
  m__law_pot : mg "_law_pot" = some (.ref f__law_pot)
  b__law_pot : Binds K d__law_pot ["script", "k"] []
  f__law_draw : Addr
  d__law_draw : FuncData
  F__law_draw : Fun K "_law_draw" "_law_draw" s__law_draw f__law_draw d__law_draw
  m__law_draw : mg "_law_draw" = some (.ref f__law_draw)
  b__law_draw : Binds K d__law_draw ["pot", "sides"] []
  f__law_is : Addr
  d__law_is : FuncData
  F__law_is : Fun K "_law_is" "_law_is" s__law_is f__law_is d__law_is
  m__law_is : mg "_law_is" = some (.ref f__law_is)
  b__law_is : Binds K d__law_is ["told", "due"] []
  f_is_integer : Addr
  d_is_integer : FuncData
  F_is_integer : Fun K "is_integer" "is_integer" s_is_integer f_is_integer d_is_integer
  m_is_integer : mg "is_integer" = some (.ref f_is_integer)
  b_is_integer : Binds K d_is_integer ["value"] []
  f_is_within : Addr
  d_is_within : FuncData
  F_is_within : Fun K "is_within" "is_within" s_is_within f_is_within d_is_within
  m_is_within : mg "is_within" = some (.ref f_is_within)
  b_is_within : Binds K d_is_within ["value", "least", "most"] []
  f_want_total : Addr
  d_want_total : FuncData
  F_want_total : Fun K "want_total" "want_total" s_want_total f_want_total d_want_total
  m_want_total : mg "want_total" = some (.ref f_want_total)
  b_want_total : Binds K d_want_total ["total"] []
  f_want_bound : Addr
  d_want_bound : FuncData
  F_want_bound : Fun K "want_bound" "want_bound" s_want_bound f_want_bound d_want_bound
  m_want_bound : mg "want_bound" = some (.ref f_want_bound)
  b_want_bound : Binds K d_want_bound ["bound"] []
  f_bounded_table : Addr
  d_bounded_table : FuncData
  F_bounded_table : Fun K "bounded_table" "bounded_table" s_bounded_table f_bounded_table d_bounded_table
  m_bounded_table : mg "bounded_table" = some (.ref f_bounded_table)
  b_bounded_table : Binds K d_bounded_table ["total"] []
  f_many_bounded : Addr
  d_many_bounded : FuncData
  F_many_bounded : Fun K "many_bounded" "many_bounded" s_many_bounded f_many_bounded d_many_bounded
  m_many_bounded : mg "many_bounded" = some (.ref f_many_bounded)
  b_many_bounded : Binds K d_many_bounded ["total", "most"] []
  f_many_of_parts : Addr
  d_many_of_parts : FuncData
  F_many_of_parts : Fun K "many_of_parts" "many_of_parts" s_many_of_parts f_many_of_parts d_many_of_parts
  m_many_of_parts : mg "many_of_parts" = some (.ref f_many_of_parts)
  b_many_of_parts : Binds K d_many_of_parts ["total", "parts"] []
  f_count_of : Addr
  d_count_of : FuncData
  F_count_of : Fun K "count_of" "count_of" s_count_of f_count_of d_count_of
  m_count_of : mg "count_of" = some (.ref f_count_of)
  b_count_of : Binds K d_count_of ["total"] []
  f_many_part_rows : Addr
  d_many_part_rows : FuncData
  F_many_part_rows : Fun K "many_part_rows" "many_part_rows" s_many_part_rows f_many_part_rows d_many_part_rows
  m_many_part_rows : mg "many_part_rows" = some (.ref f_many_part_rows)
  b_many_part_rows : Binds K d_many_part_rows ["total"] []
  f__law_total_right : Addr
  d__law_total_right : FuncData
  F__law_total_right : Fun K "_law_total_right" "_law_total_right" s__law_total_right f__law_total_right d__law_total_right
  m__law_total_right : mg "_law_total_right" = some (.ref f__law_total_right)
  b__law_total_right : Binds K d__law_total_right ["pot"] []
  f_want_listed : Addr
  d_want_listed : FuncData
  F_want_listed : Fun K "want_listed" "want_listed" s_want_listed f_want_listed d_want_listed
  m_want_listed : mg "want_listed" = some (.ref f_want_listed)
  b_want_listed : Binds K d_want_listed ["count", "what"] []
  f_rows_with : Addr
  d_rows_with : FuncData
  F_rows_with : Fun K "rows_with" "rows_with" s_rows_with f_rows_with d_rows_with
  m_rows_with : mg "rows_with" = some (.ref f_rows_with)
  b_rows_with : Binds K d_rows_with ["total"] []
  f_part_rows : Addr
  d_part_rows : FuncData
  F_part_rows : Fun K "part_rows" "part_rows" s_part_rows f_part_rows d_part_rows
  m_part_rows : mg "part_rows" = some (.ref f_part_rows)
  b_part_rows : Binds K d_part_rows ["total"] []
  f_unlike_table : Addr
  d_unlike_table : FuncData
  F_unlike_table : Fun K "unlike_table" "unlike_table" s_unlike_table f_unlike_table d_unlike_table
  m_unlike_table : mg "unlike_table" = some (.ref f_unlike_table)
  b_unlike_table : Binds K d_unlike_table ["total"] []
  f_many_unlike : Addr
  d_many_unlike : FuncData
  F_many_unlike : Fun K "many_unlike" "many_unlike" s_many_unlike f_many_unlike d_many_unlike
  m_many_unlike : mg "many_unlike" = some (.ref f_many_unlike)
  b_many_unlike : Binds K d_many_unlike ["total"] []
  f_is_list : Addr
  d_is_list : FuncData
  F_is_list : Fun K "is_list" "is_list" s_is_list f_is_list d_is_list
  m_is_list : mg "is_list" = some (.ref f_is_list)
  b_is_list : Binds K d_is_list ["value"] []
  f_is_part_row_value : Addr
  d_is_part_row_value : FuncData
  F_is_part_row_value : Fun K "is_part_row_value" "is_part_row_value" s_is_part_row_value f_is_part_row_value d_is_part_row_value
  m_is_part_row_value : mg "is_part_row_value" = some (.ref f_is_part_row_value)
  b_is_part_row_value : Binds K d_is_part_row_value ["value"] []
  f_want_part_row : Addr
  d_want_part_row : FuncData
  F_want_part_row : Fun K "want_part_row" "want_part_row" s_want_part_row f_want_part_row d_want_part_row
  m_want_part_row : mg "want_part_row" = some (.ref f_want_part_row)
  b_want_part_row : Binds K d_want_part_row ["row"] []
  f_square_in : Addr
  d_square_in : FuncData
  F_square_in : Fun K "square_in" "square_in" s_square_in f_square_in d_square_in
  m_square_in : mg "square_in" = some (.ref f_square_in)
  b_square_in : Binds K d_square_in ["row"] []
  f_square_of : Addr
  d_square_of : FuncData
  F_square_of : Fun K "square_of" "square_of" s_square_of f_square_of d_square_of
  m_square_of : mg "square_of" = some (.ref f_square_of)
  b_square_of : Binds K d_square_of ["row"] []
  f__law_lists_right : Addr
  d__law_lists_right : FuncData
  F__law_lists_right : Fun K "_law_lists_right" "_law_lists_right" s__law_lists_right f__law_lists_right d__law_lists_right
  m__law_lists_right : mg "_law_lists_right" = some (.ref f__law_lists_right)
  b__law_lists_right : Binds K d__law_lists_right ["pot"] []
  f_unlike_with : Addr
  d_unlike_with : FuncData
  F_unlike_with : Fun K "unlike_with" "unlike_with" s_unlike_with f_unlike_with d_unlike_with
  m_unlike_with : mg "unlike_with" = some (.ref f_unlike_with)
  b_unlike_with : Binds K d_unlike_with ["total"] []
  f_unlike_rows : Addr
  d_unlike_rows : FuncData
  F_unlike_rows : Fun K "unlike_rows" "unlike_rows" s_unlike_rows f_unlike_rows d_unlike_rows
  m_unlike_rows : mg "unlike_rows" = some (.ref f_unlike_rows)
  b_unlike_rows : Binds K d_unlike_rows ["total"] []
  f_turned_of : Addr
  d_turned_of : FuncData
  F_turned_of : Fun K "turned_of" "turned_of" s_turned_of f_turned_of d_turned_of
  m_turned_of : mg "turned_of" = some (.ref f_turned_of)
  b_turned_of : Binds K d_turned_of ["row"] []
  f_turned_parts : Addr
  d_turned_parts : FuncData
  F_turned_parts : Fun K "turned_parts" "turned_parts" s_turned_parts f_turned_parts d_turned_parts
  m_turned_parts : mg "turned_parts" = some (.ref f_turned_parts)
  b_turned_parts : Binds K d_turned_parts ["row"] []
  f__law_unlike_right : Addr
  d__law_unlike_right : FuncData
  F__law_unlike_right : Fun K "_law_unlike_right" "_law_unlike_right" s__law_unlike_right f__law_unlike_right d__law_unlike_right
  m__law_unlike_right : mg "_law_unlike_right" = some (.ref f__law_unlike_right)
  b__law_unlike_right : Binds K d__law_unlike_right ["pot"] []
  f_law : Addr
  d_law : FuncData
  F_law : Fun K "law" "law" s_law f_law d_law
  m_law : mg "law" = some (.ref f_law)
  b_law : Binds K d_law ["script"] []
  z_abs : mg "abs" = none
  z_all : mg "all" = none
  z_bool : mg "bool" = none
  z_divmod : mg "divmod" = none
  z_enumerate : mg "enumerate" = none
  z_int : mg "int" = none
  z_isinstance : mg "isinstance" = none
  z_len : mg "len" = none
  z_list : mg "list" = none
  z_max : mg "max" = none
  z_min : mg "min" = none
  z_range : mg "range" = none
  z_set : mg "set" = none
  z_sorted : mg "sorted" = none
  z_str : mg "str" = none
  z_sum : mg "sum" = none
  z_tuple : mg "tuple" = none
  z_zip : mg "zip" = none
  t_MOST_LISTED : Tok
  c_MOST_LISTED : mg "MOST_LISTED" = some (.int 2000 t_MOST_LISTED)
  t_MOST_TOTAL : Tok
  c_MOST_TOTAL : mg "MOST_TOTAL" = some (.int 200 t_MOST_TOTAL)
section
variable {P : Program} {w : World} {K : PySem.W.Frag} {mg : Str → Option Value} {base : Heap}
theorem ok__law_pot (T : Top K mg) : FnG P w K mg base CX0 1 T.f__law_pot T.d__law_pot ["script", "k"] (spF K 2 den__law_pot) := by
  refine fn_ok T.F__law_pot sc__law_pot fun cdv A outer s H E hr => ?_
  have nd := sc__law_pot.nd
  exact pxs_cons (px_fix 2 nd (px_ifExp (pxt_cmp op_lt vop_lt (px_name 1) (px_callB call_len vop_len rfl T.z_len rfl (pxa_cons (px_name 0) (pxa_nil)))) (px_callB call_abs vop_abs rfl T.z_abs rfl (pxa_cons (px_ix ix_seq vop_ix (px_name 0) (px_name 1)) (pxa_nil))) (px_op op_addB vop_addB (px_op op_addB vop_addB (px_op op_mulA vop_mulB (px_int) (px_name 1)) (px_int)) (px_op op_mod vop_mod (px_callB call_abs vop_abs rfl T.z_abs rfl (pxa_cons (px_callB (cr_sum rfl) vop_sum rfl T.z_sum rfl (pxa_cons (px_slice (px_name 0) (pxo_none) (pxo_some (px_int))) (pxa_nil))) (pxa_nil))) (px_int))))) (pxs_cons (px_fix 3 nd (px_op op_addB vop_addB (px_op op_mod vop_mod (px_callTy call_int1 vop_int rfl T.z_int rfl (pxa_cons (px_op op_addB vop_addB (px_op op_addB vop_addB (px_op op_mulA vop_mulB (px_op op_mod vop_mod (px_callTy call_int1 vop_int rfl T.z_int rfl (pxa_cons (px_name 2) (pxa_nil))) (px_int)) (px_int)) (px_op op_mulA vop_mulB (px_int) (px_name 1))) (px_int)) (pxa_nil))) (px_int)) (px_int))) (pxs_one (px_ret (px_lst (pxa_cons (px_callB (cr_maxB rfl) vop_max rfl T.z_max rfl (pxa_cons (px_int) (pxa_cons (px_op op_sub vop_sub (px_name 2) (px_op op_pow vop_pow (px_int) (px_int))) (pxa_nil)))) (pxa_cons (px_name 3) (pxa_nil)))))))
theorem ok__law_draw (T : Top K mg) : FnG P w K mg base CX0 1 T.f__law_draw T.d__law_draw ["pot", "sides"] (spF K 2 den__law_draw) := by
  refine fn_ok T.F__law_draw sc__law_draw fun cdv A outer s H E hr => ?_
  have nd := sc__law_draw.nd
  exact pxs_cons (px_if (pxt_cmp op_gt vop_gt (px_ix ix_seq vop_ix (px_name 0) (px_int)) (px_int)) (pxs_cons (px_asg (px_callB op_divmodW vop_divmod rfl T.z_divmod rfl (pxa_cons (px_ix ix_seq vop_ix (px_name 0) (px_int)) (pxa_cons (px_name 1) (pxa_nil)))) (pxg_tup rfl (pxgs_cons (pxg_sub 0 (hi := px_int)) (pxgs_cons (pxg_fix 2 nd) (pxgs_nil))))) (pxs_one (px_ret (px_name 2)))) (pxs_nil)) (pxs_cons (px_asg (px_op op_mod vop_mod (px_callTy call_int1 vop_int rfl T.z_int rfl (pxa_cons (px_op op_addB vop_addB (px_op op_mulA vop_mulB (px_ix ix_seq vop_ix (px_name 0) (px_int)) (px_int)) (px_int)) (pxa_nil))) (px_int)) (pxg_sub 0 (hi := px_int))) (pxs_one (px_ret (px_op op_mod vop_mod (px_callTy call_int1 vop_int rfl T.z_int rfl (pxa_cons (px_op op_fdivW vop_div (px_op op_mod vop_mod (px_callTy call_int1 vop_int rfl T.z_int rfl (pxa_cons (px_op op_mulA vop_mulB (px_ix ix_seq vop_ix (px_name 0) (px_int)) (px_ix ix_seq vop_ix (px_name 0) (px_int))) (pxa_nil))) (px_int)) (px_int)) (pxa_nil))) (px_name 1)))))
theorem ok__law_is_r0 (T : Top K mg) : FnG P w K mg base CX0 0 T.f__law_is T.d__law_is ["told", "due"] (spF K 2 den__law_is_r0) := fn_none
theorem ok__law_is_r1 (T : Top K mg) : FnG P w K mg base CX0 1 T.f__law_is T.d__law_is ["told", "due"] (spF K 2 den__law_is_r1) := by
  refine fn_ok T.F__law_is sc__law_is fun cdv A outer s H E hr => ?_
  have nd := sc__law_is.nd
  exact pxs_cons (px_if (pxt_cmp op_isB vop_is (px_name 1) (px_non)) (pxs_one (px_ret (px_cmp op_isB vop_is (px_name 0) (px_non)))) (pxs_nil)) (pxs_cons (px_if (pxt_val (px_is1 .bool T.z_isinstance T.z_bool (px_name 1) rfl rfl)) (pxs_one (px_ret (px_and (px_is1 .bool T.z_isinstance T.z_bool (px_name 0) rfl rfl) (px_tB (px_one (px_cmp (op_eqB hr.hu64) vop_eq (px_name 0) (px_name 1))))))) (pxs_nil)) (pxs_cons (px_if (pxt_val (px_is1 .int T.z_isinstance T.z_int (px_name 1) rfl rfl)) (pxs_one (px_ret (px_and (px_is1 .int T.z_isinstance T.z_int (px_name 0) rfl rfl) (px_and (px_not (px_is1 .bool T.z_isinstance T.z_bool (px_name 0) rfl rfl)) (px_tB (px_one (px_cmp (op_eqB hr.hu64) vop_eq (px_name 0) (px_name 1)))))))) (pxs_nil)) (pxs_cons (px_if (pxt_val (px_is1 .str T.z_isinstance T.z_str (px_name 1) rfl rfl)) (pxs_one (px_ret (px_and (px_is1 .str T.z_isinstance T.z_str (px_name 0) rfl rfl) (px_tB (px_one (px_cmp (op_eqB hr.hu64) vop_eq (px_name 0) (px_name 1))))))) (pxs_nil)) (pxs_cons (px_fix 2 nd (px_ifExp (pxt_val (px_is1 .list T.z_isinstance T.z_list (px_name 1) rfl rfl)) (px_is1 .list T.z_isinstance T.z_list (px_name 0) rfl rfl) (px_is1 .tuple T.z_isinstance T.z_tuple (px_name 0) rfl rfl))) (pxs_cons (px_if (PXW.t (pxw_or (pxt_not (pxt_val (px_name 2))) (pxw_or1 (pxt_cmp (op_neB hr.hu64) vop_ne (px_callB call_len vop_len rfl T.z_len rfl (pxa_cons (px_name 0) (pxa_nil))) (px_callB call_len vop_len rfl T.z_len rfl (pxa_cons (px_name 1) (pxa_nil))))))) (pxs_one (px_ret (px_bl))) (pxs_nil)) (pxs_one (px_ret (px_eqV hr.hu64 (pxv_lf (px_lc rfl nd (own := [("at", 3)]) (pxi_range1 T.z_range (pxa_cons (px_callB call_len vop_len rfl T.z_len rfl (pxa_cons (px_name 1) (pxa_nil))) (pxa_nil))) (blk_ok rfl) (fun _ _ _ _ _ => pxg_fix 3 nd) (fun _ _ _ _ _ => pxts_one (pxt_not (pxt_val (px_call [false, false] (ok__law_is_r0 T) hr T.m__law_is T.F__law_is.kp T.b__law_is (pxa_cons (px_ix ix_seq vop_ix (px_name 0) (px_name 3)) (pxa_cons (px_ix ix_seq vop_ix (px_name 1) (px_name 3)) (pxa_nil))))))) (fun _ _ _ _ _ => px_name 3))) (pxv_dl (pxvs_nil))))))))))
theorem ok__law_is_r2 (T : Top K mg) : FnG P w K mg base CX0 2 T.f__law_is T.d__law_is ["told", "due"] (spF K 2 den__law_is_r2) := by
  refine fn_ok T.F__law_is sc__law_is fun cdv A outer s H E hr => ?_
  have nd := sc__law_is.nd
  exact pxs_cons (px_if (pxt_cmp op_isB vop_is (px_name 1) (px_non)) (pxs_one (px_ret (px_cmp op_isB vop_is (px_name 0) (px_non)))) (pxs_nil)) (pxs_cons (px_if (pxt_val (px_is1 .bool T.z_isinstance T.z_bool (px_name 1) rfl rfl)) (pxs_one (px_ret (px_and (px_is1 .bool T.z_isinstance T.z_bool (px_name 0) rfl rfl) (px_tB (px_one (px_cmp (op_eqB hr.hu64) vop_eq (px_name 0) (px_name 1))))))) (pxs_nil)) (pxs_cons (px_if (pxt_val (px_is1 .int T.z_isinstance T.z_int (px_name 1) rfl rfl)) (pxs_one (px_ret (px_and (px_is1 .int T.z_isinstance T.z_int (px_name 0) rfl rfl) (px_and (px_not (px_is1 .bool T.z_isinstance T.z_bool (px_name 0) rfl rfl)) (px_tB (px_one (px_cmp (op_eqB hr.hu64) vop_eq (px_name 0) (px_name 1)))))))) (pxs_nil)) (pxs_cons (px_if (pxt_val (px_is1 .str T.z_isinstance T.z_str (px_name 1) rfl rfl)) (pxs_one (px_ret (px_and (px_is1 .str T.z_isinstance T.z_str (px_name 0) rfl rfl) (px_tB (px_one (px_cmp (op_eqB hr.hu64) vop_eq (px_name 0) (px_name 1))))))) (pxs_nil)) (pxs_cons (px_fix 2 nd (px_ifExp (pxt_val (px_is1 .list T.z_isinstance T.z_list (px_name 1) rfl rfl)) (px_is1 .list T.z_isinstance T.z_list (px_name 0) rfl rfl) (px_is1 .tuple T.z_isinstance T.z_tuple (px_name 0) rfl rfl))) (pxs_cons (px_if (PXW.t (pxw_or (pxt_not (pxt_val (px_name 2))) (pxw_or1 (pxt_cmp (op_neB hr.hu64) vop_ne (px_callB call_len vop_len rfl T.z_len rfl (pxa_cons (px_name 0) (pxa_nil))) (px_callB call_len vop_len rfl T.z_len rfl (pxa_cons (px_name 1) (pxa_nil))))))) (pxs_one (px_ret (px_bl))) (pxs_nil)) (pxs_one (px_ret (px_eqV hr.hu64 (pxv_lf (px_lc rfl nd (own := [("at", 3)]) (pxi_range1 T.z_range (pxa_cons (px_callB call_len vop_len rfl T.z_len rfl (pxa_cons (px_name 1) (pxa_nil))) (pxa_nil))) (blk_ok rfl) (fun _ _ _ _ _ => pxg_fix 3 nd) (fun _ _ _ _ _ => pxts_one (pxt_not (pxt_val (px_call [false, false] (ok__law_is_r1 T) hr T.m__law_is T.F__law_is.kp T.b__law_is (pxa_cons (px_ix ix_seq vop_ix (px_name 0) (px_name 3)) (pxa_cons (px_ix ix_seq vop_ix (px_name 1) (px_name 3)) (pxa_nil))))))) (fun _ _ _ _ _ => px_name 3))) (pxv_dl (pxvs_nil))))))))))
theorem ok__law_is_r3 (T : Top K mg) : FnG P w K mg base CX0 3 T.f__law_is T.d__law_is ["told", "due"] (spF K 2 den__law_is_r3) := by
  refine fn_ok T.F__law_is sc__law_is fun cdv A outer s H E hr => ?_
  have nd := sc__law_is.nd
  exact pxs_cons (px_if (pxt_cmp op_isB vop_is (px_name 1) (px_non)) (pxs_one (px_ret (px_cmp op_isB vop_is (px_name 0) (px_non)))) (pxs_nil)) (pxs_cons (px_if (pxt_val (px_is1 .bool T.z_isinstance T.z_bool (px_name 1) rfl rfl)) (pxs_one (px_ret (px_and (px_is1 .bool T.z_isinstance T.z_bool (px_name 0) rfl rfl) (px_tB (px_one (px_cmp (op_eqB hr.hu64) vop_eq (px_name 0) (px_name 1))))))) (pxs_nil)) (pxs_cons (px_if (pxt_val (px_is1 .int T.z_isinstance T.z_int (px_name 1) rfl rfl)) (pxs_one (px_ret (px_and (px_is1 .int T.z_isinstance T.z_int (px_name 0) rfl rfl) (px_and (px_not (px_is1 .bool T.z_isinstance T.z_bool (px_name 0) rfl rfl)) (px_tB (px_one (px_cmp (op_eqB hr.hu64) vop_eq (px_name 0) (px_name 1)))))))) (pxs_nil)) (pxs_cons (px_if (pxt_val (px_is1 .str T.z_isinstance T.z_str (px_name 1) rfl rfl)) (pxs_one (px_ret (px_and (px_is1 .str T.z_isinstance T.z_str (px_name 0) rfl rfl) (px_tB (px_one (px_cmp (op_eqB hr.hu64) vop_eq (px_name 0) (px_name 1))))))) (pxs_nil)) (pxs_cons (px_fix 2 nd (px_ifExp (pxt_val (px_is1 .list T.z_isinstance T.z_list (px_name 1) rfl rfl)) (px_is1 .list T.z_isinstance T.z_list (px_name 0) rfl rfl) (px_is1 .tuple T.z_isinstance T.z_tuple (px_name 0) rfl rfl))) (pxs_cons (px_if (PXW.t (pxw_or (pxt_not (pxt_val (px_name 2))) (pxw_or1 (pxt_cmp (op_neB hr.hu64) vop_ne (px_callB call_len vop_len rfl T.z_len rfl (pxa_cons (px_name 0) (pxa_nil))) (px_callB call_len vop_len rfl T.z_len rfl (pxa_cons (px_name 1) (pxa_nil))))))) (pxs_one (px_ret (px_bl))) (pxs_nil)) (pxs_one (px_ret (px_eqV hr.hu64 (pxv_lf (px_lc rfl nd (own := [("at", 3)]) (pxi_range1 T.z_range (pxa_cons (px_callB call_len vop_len rfl T.z_len rfl (pxa_cons (px_name 1) (pxa_nil))) (pxa_nil))) (blk_ok rfl) (fun _ _ _ _ _ => pxg_fix 3 nd) (fun _ _ _ _ _ => pxts_one (pxt_not (pxt_val (px_call [false, false] (ok__law_is_r2 T) hr T.m__law_is T.F__law_is.kp T.b__law_is (pxa_cons (px_ix ix_seq vop_ix (px_name 0) (px_name 3)) (pxa_cons (px_ix ix_seq vop_ix (px_name 1) (px_name 3)) (pxa_nil))))))) (fun _ _ _ _ _ => px_name 3))) (pxv_dl (pxvs_nil))))))))))
theorem ok__law_is_r4 (T : Top K mg) : FnG P w K mg base CX0 4 T.f__law_is T.d__law_is ["told", "due"] (spF K 2 den__law_is_r4) := by
  refine fn_ok T.F__law_is sc__law_is fun cdv A outer s H E hr => ?_
  have nd := sc__law_is.nd
  exact pxs_cons (px_if (pxt_cmp op_isB vop_is (px_name 1) (px_non)) (pxs_one (px_ret (px_cmp op_isB vop_is (px_name 0) (px_non)))) (pxs_nil)) (pxs_cons (px_if (pxt_val (px_is1 .bool T.z_isinstance T.z_bool (px_name 1) rfl rfl)) (pxs_one (px_ret (px_and (px_is1 .bool T.z_isinstance T.z_bool (px_name 0) rfl rfl) (px_tB (px_one (px_cmp (op_eqB hr.hu64) vop_eq (px_name 0) (px_name 1))))))) (pxs_nil)) (pxs_cons (px_if (pxt_val (px_is1 .int T.z_isinstance T.z_int (px_name 1) rfl rfl)) (pxs_one (px_ret (px_and (px_is1 .int T.z_isinstance T.z_int (px_name 0) rfl rfl) (px_and (px_not (px_is1 .bool T.z_isinstance T.z_bool (px_name 0) rfl rfl)) (px_tB (px_one (px_cmp (op_eqB hr.hu64) vop_eq (px_name 0) (px_name 1)))))))) (pxs_nil)) (pxs_cons (px_if (pxt_val (px_is1 .str T.z_isinstance T.z_str (px_name 1) rfl rfl)) (pxs_one (px_ret (px_and (px_is1 .str T.z_isinstance T.z_str (px_name 0) rfl rfl) (px_tB (px_one (px_cmp (op_eqB hr.hu64) vop_eq (px_name 0) (px_name 1))))))) (pxs_nil)) (pxs_cons (px_fix 2 nd (px_ifExp (pxt_val (px_is1 .list T.z_isinstance T.z_list (px_name 1) rfl rfl)) (px_is1 .list T.z_isinstance T.z_list (px_name 0) rfl rfl) (px_is1 .tuple T.z_isinstance T.z_tuple (px_name 0) rfl rfl))) (pxs_cons (px_if (PXW.t (pxw_or (pxt_not (pxt_val (px_name 2))) (pxw_or1 (pxt_cmp (op_neB hr.hu64) vop_ne (px_callB call_len vop_len rfl T.z_len rfl (pxa_cons (px_name 0) (pxa_nil))) (px_callB call_len vop_len rfl T.z_len rfl (pxa_cons (px_name 1) (pxa_nil))))))) (pxs_one (px_ret (px_bl))) (pxs_nil)) (pxs_one (px_ret (px_eqV hr.hu64 (pxv_lf (px_lc rfl nd (own := [("at", 3)]) (pxi_range1 T.z_range (pxa_cons (px_callB call_len vop_len rfl T.z_len rfl (pxa_cons (px_name 1) (pxa_nil))) (pxa_nil))) (blk_ok rfl) (fun _ _ _ _ _ => pxg_fix 3 nd) (fun _ _ _ _ _ => pxts_one (pxt_not (pxt_val (px_call [false, false] (ok__law_is_r3 T) hr T.m__law_is T.F__law_is.kp T.b__law_is (pxa_cons (px_ix ix_seq vop_ix (px_name 0) (px_name 3)) (pxa_cons (px_ix ix_seq vop_ix (px_name 1) (px_name 3)) (pxa_nil))))))) (fun _ _ _ _ _ => px_name 3))) (pxv_dl (pxvs_nil))))))))))
theorem ok__law_is (T : Top K mg) : FnG P w K mg base CX0 4 T.f__law_is T.d__law_is ["told", "due"] (spF K 2 den__law_is) := ok__law_is_r4 T
theorem ok_is_integer (T : Top K mg) : FnG P w K mg base CX0 1 T.f_is_integer T.d_is_integer ["value"] (spF K 1 den_is_integer) := by
  refine fn_ok T.F_is_integer sc_is_integer fun cdv A outer s H E hr => ?_
  have nd := sc_is_integer.nd
  exact pxs_one (px_ret (px_and (px_is1 .int T.z_isinstance T.z_int (px_name 0) rfl rfl) (px_tB (px_one (px_not (px_is1 .bool T.z_isinstance T.z_bool (px_name 0) rfl rfl))))))
theorem ok_is_within (T : Top K mg) : FnG P w K mg base CX0 2 T.f_is_within T.d_is_within ["value", "least", "most"] (spF K 3 den_is_within) := by
  refine fn_ok T.F_is_within sc_is_within fun cdv A outer s H E hr => ?_
  have nd := sc_is_within.nd
  exact pxs_one (px_ret (px_and (px_call [false] (ok_is_integer T) hr T.m_is_integer T.F_is_integer.kp T.b_is_integer (pxa_cons (px_name 0) (pxa_nil))) (px_tB (px_one (px_chain op_le op_le ct_b2 ct_b2 (px_name 1) (px_name 0) (px_name 2))))))
theorem ok_want_total (T : Top K mg) : FnG P w K mg base CX0 3 T.f_want_total T.d_want_total ["total"] (spF K 1 den_want_total) := by
  refine fn_ok T.F_want_total sc_want_total fun cdv A outer s H E hr => ?_
  have nd := sc_want_total.nd
  exact pxs_one (px_if (pxt_not (pxt_val (px_call [false, false, false] (ok_is_within T) hr T.m_is_within T.F_is_within.kp T.b_is_within (pxa_cons (px_name 0) (pxa_cons (px_int) (pxa_cons (px_glob (v := .int 200) rfl T.c_MOST_TOTAL ⟨_, rfl⟩ (.int _)) (pxa_nil))))))) (pxs_one (px_never)) (pxs_nil))
theorem ok_want_bound (T : Top K mg) : FnG P w K mg base CX0 3 T.f_want_bound T.d_want_bound ["bound"] (spF K 1 den_want_bound) := by
  refine fn_ok T.F_want_bound sc_want_bound fun cdv A outer s H E hr => ?_
  have nd := sc_want_bound.nd
  exact pxs_one (px_if (pxt_not (pxt_val (px_call [false, false, false] (ok_is_within T) hr T.m_is_within T.F_is_within.kp T.b_is_within (pxa_cons (px_name 0) (pxa_cons (px_int) (pxa_cons (px_glob (v := .int 200) rfl T.c_MOST_TOTAL ⟨_, rfl⟩ (.int _)) (pxa_nil))))))) (pxs_one (px_never)) (pxs_nil))
theorem ok_bounded_table (T : Top K mg) : FnG P w K mg base CX0 1 T.f_bounded_table T.d_bounded_table ["total"] (spF K 1 den_bounded_table) := by
  refine fn_ok T.F_bounded_table sc_bounded_table fun cdv A outer s H E hr => ?_
  have nd := sc_bounded_table.nd
  exact pxs_cons (px_set 1 nd (px_lst (pxa_cons (px_op op_addB vop_addB (px_lst (pxa_cons (px_int) (pxa_nil))) (px_op op_mulA vop_mulB (px_lst (pxa_cons (px_int) (pxa_nil))) (px_name 0))) (pxa_nil)))) (pxs_cons (px_for PassesOwn.never rfl (pxi_range2 T.z_range (pxa_cons (px_int) (pxa_cons (px_op op_addB vop_addB (px_name 0) (px_int)) (pxa_nil)))) (pxg_fix 2 nd) (pxs_cons (px_set 3 nd (px_callTy call_list_of vop_list rfl T.z_list rfl (pxa_cons (px_ix ix_seq vop_ix (px_name 1) (px_un un_neg vop_neg (px_int))) (pxa_nil)))) (pxs_cons (px_for PassesOwn.never rfl (pxi_range2 T.z_range (pxa_cons (px_name 2) (pxa_cons (px_op op_addB vop_addB (px_name 0) (px_int)) (pxa_nil)))) (pxg_fix 4 nd) (pxs_one (px_asg (px_op op_addB vop_addB (px_ix ix_seq vop_ix (px_name 3) (px_name 4)) (px_ix ix_seq vop_ix (px_name 3) (px_op op_sub vop_sub (px_name 4) (px_name 2)))) (pxg_sub 3 (hi := px_name 4))))) (pxs_one (px_frz 3 (px_expr (px_meth 1 PySem.F.slot_list_append PySem.F.type_list_append mt_append vm_app (pxa_cons (px_name 3) (pxa_nil))))))))) (pxs_one (px_ret (px_name 1))))
theorem ok_many_bounded (T : Top K mg) : FnG P w K mg base CX0 4 T.f_many_bounded T.d_many_bounded ["total", "most"] (spF K 2 den_many_bounded) := by
  refine fn_ok T.F_many_bounded sc_many_bounded fun cdv A outer s H E hr => ?_
  have nd := sc_many_bounded.nd
  exact pxs_cons (px_expr (px_call [false] (ok_want_total T) hr T.m_want_total T.F_want_total.kp T.b_want_total (pxa_cons (px_name 0) (pxa_nil)))) (pxs_cons (px_expr (px_call [false] (ok_want_bound T) hr T.m_want_bound T.F_want_bound.kp T.b_want_bound (pxa_cons (px_name 1) (pxa_nil)))) (pxs_one (px_ret (px_ix ix_seq vop_ix (px_ix ix_seq vop_ix (px_call [false] ((ok_bounded_table T).mono (by decide)) hr T.m_bounded_table T.F_bounded_table.kp T.b_bounded_table (pxa_cons (px_name 0) (pxa_nil))) (px_callB (cr_minB rfl) vop_min rfl T.z_min rfl (pxa_cons (px_name 0) (pxa_cons (px_name 1) (pxa_nil))))) (px_name 0)))))
theorem ok_many_of_parts (T : Top K mg) : FnG P w K mg base CX0 4 T.f_many_of_parts T.d_many_of_parts ["total", "parts"] (spF K 2 den_many_of_parts) := by
  refine fn_ok T.F_many_of_parts sc_many_of_parts fun cdv A outer s H E hr => ?_
  have nd := sc_many_of_parts.nd
  exact pxs_cons (px_expr (px_call [false] (ok_want_total T) hr T.m_want_total T.F_want_total.kp T.b_want_total (pxa_cons (px_name 0) (pxa_nil)))) (pxs_cons (px_expr (px_call [false] (ok_want_bound T) hr T.m_want_bound T.F_want_bound.kp T.b_want_bound (pxa_cons (px_name 1) (pxa_nil)))) (pxs_cons (px_if (PXW.t (pxw_or (pxt_cmp op_gt vop_gt (px_name 1) (px_name 0)) (pxw_or1 (pxt_cmp (op_eqB hr.hu64) vop_eq (px_name 1) (px_int))))) (pxs_one (px_ret (px_callTy call_int1 vop_int rfl T.z_int rfl (pxa_cons (px_cmp (op_eqB hr.hu64) vop_eq (px_name 1) (px_name 0)) (pxa_nil))))) (pxs_nil)) (pxs_cons (px_fix 2 nd (px_call [false] ((ok_bounded_table T).mono (by decide)) hr T.m_bounded_table T.F_bounded_table.kp T.b_bounded_table (pxa_cons (px_name 0) (pxa_nil)))) (pxs_one (px_ret (px_op op_sub vop_sub (px_ix ix_seq vop_ix (px_ix ix_seq vop_ix (px_name 2) (px_name 1)) (px_name 0)) (px_ix ix_seq vop_ix (px_ix ix_seq vop_ix (px_name 2) (px_op op_sub vop_sub (px_name 1) (px_int))) (px_name 0))))))))
theorem ok_count_of (T : Top K mg) : FnG P w K mg base CX0 2 T.f_count_of T.d_count_of ["total"] (spF K 1 den_count_of) := by
  refine fn_ok T.F_count_of sc_count_of fun cdv A outer s H E hr => ?_
  have nd := sc_count_of.nd
  exact pxs_one (px_ret (px_ix ix_seq vop_ix (px_ix ix_seq vop_ix (px_call [false] (ok_bounded_table T) hr T.m_bounded_table T.F_bounded_table.kp T.b_bounded_table (pxa_cons (px_name 0) (pxa_nil))) (px_name 0)) (px_name 0)))
theorem ok_many_part_rows (T : Top K mg) : FnG P w K mg base CX0 4 T.f_many_part_rows T.d_many_part_rows ["total"] (spF K 1 den_many_part_rows) := by
  refine fn_ok T.F_many_part_rows sc_many_part_rows fun cdv A outer s H E hr => ?_
  have nd := sc_many_part_rows.nd
  exact pxs_cons (px_expr (px_call [false] (ok_want_total T) hr T.m_want_total T.F_want_total.kp T.b_want_total (pxa_cons (px_name 0) (pxa_nil)))) (pxs_one (px_ret (px_call [false] ((ok_count_of T).mono (by decide)) hr T.m_count_of T.F_count_of.kp T.b_count_of (pxa_cons (px_name 0) (pxa_nil)))))
theorem ok__law_total_right (T : Top K mg) : FnG P w K mg base CX0 5 T.f__law_total_right T.d__law_total_right ["pot"] (spF K 1 den__law_total_right) := by
  refine fn_ok T.F__law_total_right sc__law_total_right fun cdv A outer s H E hr => ?_
  have nd := sc__law_total_right.nd
  exact pxs_cons (px_par3 6 7 8 rfl nd (pxa_cons (px_call [true, false] ((ok__law_draw T).mono (by decide)) hr T.m__law_draw T.F__law_draw.kp T.b__law_draw (pxa_cons (px_name 0) (pxa_cons (px_int) (pxa_nil)))) (pxa_cons (px_op op_addB vop_addB (px_int) (px_call [true, false] ((ok__law_draw T).mono (by decide)) hr T.m__law_draw T.F__law_draw.kp T.b__law_draw (pxa_cons (px_name 0) (pxa_cons (px_int) (pxa_nil))))) (pxa_cons (px_op op_addB vop_addB (px_int) (px_call [true, false] ((ok__law_draw T).mono (by decide)) hr T.m__law_draw T.F__law_draw.kp T.b__law_draw (pxa_cons (px_name 0) (pxa_cons (px_int) (pxa_nil))))) (pxa_nil))))) (pxs_frz 8 (pxs_frz 7 (pxs_frz 6 (pxs_cons (px_set 1 nd (px_op op_addB vop_addB (px_lst (pxa_cons (px_int) (pxa_nil))) (px_op op_mulA vop_mulB (px_lst (pxa_cons (px_int) (pxa_nil))) (px_name 6)))) (pxs_cons (px_for PassesOwn.never rfl (pxi_range2 T.z_range (pxa_cons (px_int) (pxa_cons (px_op op_addB vop_addB (px_callB (cr_minB rfl) vop_min rfl T.z_min rfl (pxa_cons (px_name 6) (pxa_cons (px_name 8) (pxa_nil)))) (px_int)) (pxa_nil)))) (pxg_fix 2 nd) (pxs_one (px_for PassesOwn.never rfl (pxi_range2 T.z_range (pxa_cons (px_name 2) (pxa_cons (px_op op_addB vop_addB (px_name 6) (px_int)) (pxa_nil)))) (pxg_fix 9 nd) (pxs_one (px_asg (px_op op_addB vop_addB (px_ix ix_seq vop_ix (px_name 1) (px_name 9)) (px_ix ix_seq vop_ix (px_name 1) (px_op op_sub vop_sub (px_name 9) (px_name 2)))) (pxg_sub 1 (hi := px_name 9))))))) (pxs_cons (px_if (pxt_not (pxt_val (px_call [false, false] (ok__law_is T) hr T.m__law_is T.F__law_is.kp T.b__law_is (pxa_cons (px_call [false, false] (ok_many_bounded T) hr T.m_many_bounded T.F_many_bounded.kp T.b_many_bounded (pxa_cons (px_name 6) (pxa_cons (px_name 8) (pxa_nil)))) (pxa_cons (px_ix ix_seq vop_ix (px_name 1) (px_name 6)) (pxa_nil)))))) (pxs_one (px_ret (px_bl))) (pxs_nil)) (pxs_cons (px_fix 3 nd (px_ifExp (pxt_cmp op_ge vop_ge (px_name 6) (px_name 8)) (px_callP0 [false, false] (ok_many_bounded T) hr T.m_many_bounded T.F_many_bounded.kp (Fun.kbd (ps := ["total", "most"]) (ks := ["total", "most"]) (n := 0) (pm := [0, 1]) T.F_many_bounded (fun _ _ _ _ _ _ us ws h1 h2 => match us, ws, h1, h2 with | [], [_, _], _, _ => rfl)) (pxk_cons (px_op op_sub vop_sub (px_name 6) (px_name 8)) (pxk_cons (px_name 8) (pxk_nil)))) (px_int))) (pxs_cons (px_if (pxt_cmp (op_neB hr.hu64) vop_ne (px_call [false, false] (ok_many_bounded T) hr T.m_many_bounded T.F_many_bounded.kp T.b_many_bounded (pxa_cons (px_name 6) (pxa_cons (px_name 8) (pxa_nil)))) (px_op op_addB vop_addB (px_call [false, false] (ok_many_bounded T) hr T.m_many_bounded T.F_many_bounded.kp T.b_many_bounded (pxa_cons (px_name 6) (pxa_cons (px_op op_sub vop_sub (px_name 8) (px_int)) (pxa_nil)))) (px_name 3))) (pxs_one (px_ret (px_bl))) (pxs_nil)) (pxs_cons (px_fix 4 nd (px_ifExp (pxt_cmp op_ge vop_ge (px_name 6) (px_name 7)) (px_callP0 [false, false] (ok_many_of_parts T) hr T.m_many_of_parts T.F_many_of_parts.kp (Fun.kbd (ps := ["total", "parts"]) (ks := ["total", "parts"]) (n := 0) (pm := [0, 1]) T.F_many_of_parts (fun _ _ _ _ _ _ us ws h1 h2 => match us, ws, h1, h2 with | [], [_, _], _, _ => rfl)) (pxk_cons (px_op op_sub vop_sub (px_name 6) (px_name 7)) (pxk_cons (px_name 7) (pxk_nil)))) (px_int))) (pxs_cons (px_if (PXW.t (pxw_and (pxt_cmp op_gt vop_gt (px_name 6) (px_int)) (pxw_and1 (pxt_cmp (op_neB hr.hu64) vop_ne (px_call [false, false] (ok_many_of_parts T) hr T.m_many_of_parts T.F_many_of_parts.kp T.b_many_of_parts (pxa_cons (px_name 6) (pxa_cons (px_name 7) (pxa_nil)))) (px_op op_addB vop_addB (px_call [false, false] (ok_many_of_parts T) hr T.m_many_of_parts T.F_many_of_parts.kp T.b_many_of_parts (pxa_cons (px_op op_sub vop_sub (px_name 6) (px_int)) (pxa_cons (px_op op_sub vop_sub (px_name 7) (px_int)) (pxa_nil)))) (px_name 4)))))) (pxs_one (px_ret (px_bl))) (pxs_nil)) (pxs_cons (px_if (PXW.t (pxw_and (pxt_cmp op_ge vop_ge (px_name 8) (px_name 6)) (pxw_and1 (pxt_cmp (op_neB hr.hu64) vop_ne (px_call [false, false] (ok_many_bounded T) hr T.m_many_bounded T.F_many_bounded.kp T.b_many_bounded (pxa_cons (px_name 6) (pxa_cons (px_name 8) (pxa_nil)))) (px_call [false] (ok_many_part_rows T) hr T.m_many_part_rows T.F_many_part_rows.kp T.b_many_part_rows (pxa_cons (px_name 6) (pxa_nil))))))) (pxs_one (px_ret (px_bl))) (pxs_nil)) (pxs_cons (px_fix 5 nd (px_op op_mod vop_mod (px_callTy call_int1 vop_int rfl T.z_int rfl (pxa_cons (px_name 6) (pxa_nil))) (px_int))) (pxs_one (px_ret (px_cmp (op_eqB hr.hu64) vop_eq (px_callB (cr_sum rfl) vop_sum rfl T.z_sum rfl (pxa_cons (px_lc rfl nd (own := [("size", 10)]) (pxi_range1 T.z_range (pxa_cons (px_op op_addB vop_addB (px_name 5) (px_int)) (pxa_nil))) (blk_ok rfl) (fun _ _ _ _ _ => pxg_fix 10 nd) (fun _ _ _ _ _ => pxts_nil) (fun _ _ _ _ _ => px_call [false, false] (ok_many_of_parts T) hr T.m_many_of_parts T.F_many_of_parts.kp T.b_many_of_parts (pxa_cons (px_name 5) (pxa_cons (px_name 10) (pxa_nil))))) (pxa_nil))) (px_call [false] (ok_many_part_rows T) hr T.m_many_part_rows T.F_many_part_rows.kp T.b_many_part_rows (pxa_cons (px_name 5) (pxa_nil))))))))))))))))))
theorem ok_want_listed (T : Top K mg) : FnG P w K mg base CX0 1 T.f_want_listed T.d_want_listed ["count", "what"] (spF K 2 den_want_listed) := by
  refine fn_ok T.F_want_listed sc_want_listed fun cdv A outer s H E hr => ?_
  have nd := sc_want_listed.nd
  exact pxs_one (px_if (pxt_cmp op_gt vop_gt (px_name 0) (px_glob (v := .int 2000) rfl T.c_MOST_LISTED ⟨_, rfl⟩ (.int _))) (pxs_one (px_never)) (pxs_nil))
theorem ok_rows_with (T : Top K mg) : FnG P w K mg base CX0 1 T.f_rows_with T.d_rows_with ["total"] (spF K 1 den_rows_with) := by
  refine fn_ok T.F_rows_with sc_rows_with fun cdv A outer s H E hr => ?_
  have nd := sc_rows_with.nd
  exact pxs_cons (px_par2 1 2 rfl nd (pxa_cons (px_lst (pxa_nil)) (pxa_cons (px_lst (pxa_cons (px_tup (pxa_cons (px_lst (pxa_nil)) (pxa_cons (px_name 0) (pxa_nil)))) (pxa_nil))) (pxa_nil)))) (pxs_frz 2 (pxs_cons (px_while fuel PassesOwn.never (pxt_neV hr.hu64 (pxv_lf (px_name 2)) (pxv_dl (pxvs_nil))) (pxs_cons (px_set 3 nd (px_lst (pxa_nil))) (pxs_cons (px_for PassesOwn.never rfl (pxi_seq (px_name 2)) (pxg_tup rfl (pxgs_cons (pxg_fix 4 nd) (pxgs_cons (pxg_fix 5 nd) (pxgs_nil)))) (pxs_cons (px_if (pxt_cmp (op_eqB hr.hu64) vop_eq (px_name 5) (px_int)) (pxs_one (px_expr (px_meth 1 PySem.F.slot_list_append PySem.F.type_list_append mt_append vm_app (pxa_cons (px_name 4) (pxa_nil))))) (pxs_nil)) (pxs_cons (px_fix 6 nd (px_callB (cr_minB rfl) vop_min rfl T.z_min rfl (pxa_cons (px_name 5) (pxa_cons (px_ifExp (pxt_neV hr.hu64 (pxv_lf (px_name 4)) (pxv_dl (pxvs_nil))) (px_ix ix_seq vop_ix (px_name 4) (px_un un_neg vop_neg (px_int))) (px_name 5)) (pxa_nil))))) (pxs_one (px_expr (px_meth 3 PySem.F.slot_list_extend PySem.F.type_list_extend mt_extend vm_ext (pxa_cons (px_lc rfl nd (own := [("part", 7)]) (pxi_range2 T.z_range (pxa_cons (px_int) (pxa_cons (px_op op_addB vop_addB (px_name 6) (px_int)) (pxa_nil)))) (blk_ok rfl) (fun _ _ _ _ _ => pxg_fix 7 nd) (fun _ _ _ _ _ => pxts_nil) (fun _ _ _ _ _ => px_tup (pxa_cons (px_op op_addB vop_addB (px_name 4) (px_lst (pxa_cons (px_name 7) (pxa_nil)))) (pxa_cons (px_op op_sub vop_sub (px_name 5) (px_name 7)) (pxa_nil))))) (pxa_nil)))))))) (pxs_one (px_frz 3 (px_fix 2 nd (px_name 3))))))) (pxs_one (px_ret (px_callB (cr_sortedR hr.hu65) vop_sortedR rfl T.z_sorted rfl (pxa_cons (px_name 1) (pxa_nil)))))))
theorem ok_part_rows (T : Top K mg) : FnG P w K mg base CX0 4 T.f_part_rows T.d_part_rows ["total"] (spF K 1 den_part_rows) := by
  refine fn_ok T.F_part_rows sc_part_rows fun cdv A outer s H E hr => ?_
  have nd := sc_part_rows.nd
  exact pxs_cons (px_expr (px_call [false] (ok_want_total T) hr T.m_want_total T.F_want_total.kp T.b_want_total (pxa_cons (px_name 0) (pxa_nil)))) (pxs_cons (px_expr (px_call [false, false] ((ok_want_listed T).mono (by decide)) hr T.m_want_listed T.F_want_listed.kp T.b_want_listed (pxa_cons (px_call [false] ((ok_count_of T).mono (by decide)) hr T.m_count_of T.F_count_of.kp T.b_count_of (pxa_cons (px_name 0) (pxa_nil))) (pxa_cons (px_str) (pxa_nil))))) (pxs_one (px_ret (px_call [false] ((ok_rows_with T).mono (by decide)) hr T.m_rows_with T.F_rows_with.kp T.b_rows_with (pxa_cons (px_name 0) (pxa_nil))))))
theorem ok_unlike_table (T : Top K mg) : FnG P w K mg base CX0 1 T.f_unlike_table T.d_unlike_table ["total"] (spF K 1 den_unlike_table) := by
  refine fn_ok T.F_unlike_table sc_unlike_table fun cdv A outer s H E hr => ?_
  have nd := sc_unlike_table.nd
  exact pxs_cons (px_set 1 nd (px_op op_addB vop_addB (px_lst (pxa_cons (px_tup (pxa_cons (px_int) (pxa_cons (px_int) (pxa_nil)))) (pxa_nil))) (px_op op_mulA vop_mulB (px_lst (pxa_cons (px_tup (pxa_cons (px_int) (pxa_cons (px_int) (pxa_nil)))) (pxa_nil))) (px_name 0)))) (pxs_cons (px_for PassesOwn.never rfl (pxi_range2 T.z_range (pxa_cons (px_int) (pxa_cons (px_op op_addB vop_addB (px_name 0) (px_int)) (pxa_nil)))) (pxg_fix 2 nd) (pxs_one (px_for PassesOwn.never rfl (pxi_range3 T.z_range (pxa_cons (px_name 0) (pxa_cons (px_op op_sub vop_sub (px_name 2) (px_int)) (pxa_cons (px_un un_neg vop_neg (px_int)) (pxa_nil))))) (pxg_fix 3 nd) (pxs_cons (px_par2 4 5 rfl nd (pxa_cons (px_ix ix_seq vop_ix (px_name 1) (px_name 3)) (pxa_cons (px_ix ix_seq vop_ix (px_name 1) (px_op op_sub vop_sub (px_name 3) (px_name 2))) (pxa_nil)))) (pxs_frz 5 (pxs_frz 4 (pxs_one (px_asg (px_tup (pxa_cons (px_op op_addB vop_addB (px_ix ix_seq vop_ix (px_name 4) (px_int)) (px_ix ix_seq vop_ix (px_name 5) (px_int))) (pxa_cons (px_op op_addB vop_addB (px_ix ix_seq vop_ix (px_name 4) (px_int)) (px_ix ix_seq vop_ix (px_name 5) (px_int))) (pxa_nil)))) (pxg_sub 1 (hi := px_name 3)))))))))) (pxs_one (px_ret (px_name 1))))
theorem ok_many_unlike (T : Top K mg) : FnG P w K mg base CX0 4 T.f_many_unlike T.d_many_unlike ["total"] (spF K 1 den_many_unlike) := by
  refine fn_ok T.F_many_unlike sc_many_unlike fun cdv A outer s H E hr => ?_
  have nd := sc_many_unlike.nd
  exact pxs_cons (px_expr (px_call [false] (ok_want_total T) hr T.m_want_total T.F_want_total.kp T.b_want_total (pxa_cons (px_name 0) (pxa_nil)))) (pxs_one (px_ret (px_callB (cr_sumT rfl) vop_sumU rfl T.z_sum rfl (pxa_cons (px_ix ix_seq vop_ix (px_call [false] ((ok_unlike_table T).mono (by decide)) hr T.m_unlike_table T.F_unlike_table.kp T.b_unlike_table (pxa_cons (px_name 0) (pxa_nil))) (px_name 0)) (pxa_nil)))))
theorem ok_is_list (T : Top K mg) : FnG P w K mg base CX0 1 T.f_is_list T.d_is_list ["value"] (spF K 1 den_is_list) := by
  refine fn_ok T.F_is_list sc_is_list fun cdv A outer s H E hr => ?_
  have nd := sc_is_list.nd
  exact pxs_one (px_ret (px_is2 .list .tuple T.z_isinstance T.z_list T.z_tuple (px_name 0) rfl rfl rfl))
theorem ok_is_part_row_value (T : Top K mg) : FnG P w K mg base CX0 3 T.f_is_part_row_value T.d_is_part_row_value ["value"] (spF K 1 den_is_part_row_value) := by
  refine fn_ok T.F_is_part_row_value sc_is_part_row_value fun cdv A outer s H E hr => ?_
  have nd := sc_is_part_row_value.nd
  exact pxs_cons (px_if (PXW.t (pxw_or (pxt_not (pxt_val (px_call [false] ((ok_is_list T).mono (by decide)) hr T.m_is_list T.F_is_list.kp T.b_is_list (pxa_cons (px_name 0) (pxa_nil))))) (pxw_or1 (pxt_not (pxt_val (px_callB (cr_all rfl) vop_all rfl T.z_all rfl (pxa_cons (px_lc rfl nd (own := [("one", 1)]) (pxi_seq (px_name 0)) (blk_ok rfl) (fun _ _ _ _ _ => pxg_fix 1 nd) (fun _ _ _ _ _ => pxts_nil) (fun _ _ _ _ _ => px_call [false, false, false] (ok_is_within T) hr T.m_is_within T.F_is_within.kp T.b_is_within (pxa_cons (px_name 1) (pxa_cons (px_int) (pxa_cons (px_glob (v := .int 200) rfl T.c_MOST_TOTAL ⟨_, rfl⟩ (.int _)) (pxa_nil)))))) (pxa_nil)))))))) (pxs_one (px_ret (px_bl))) (pxs_nil)) (pxs_one (px_ret (px_and (px_cmp op_le vop_le (px_callB (cr_sum rfl) vop_sum rfl T.z_sum rfl (pxa_cons (px_name 0) (pxa_nil))) (px_glob (v := .int 200) rfl T.c_MOST_TOTAL ⟨_, rfl⟩ (.int _))) (px_tB (px_one (px_callB (cr_all rfl) vop_all rfl T.z_all rfl (pxa_cons (px_lc rfl nd (own := [("near", 2), ("far", 3)]) (pxi_zip T.z_zip (pxa_cons (px_name 0) (pxa_cons (px_slice (px_name 0) (pxo_some (px_int)) (pxo_none)) (pxa_nil)))) (blk_ok rfl) (fun _ _ _ _ _ => pxg_tup rfl (pxgs_cons (pxg_fix 2 nd) (pxgs_cons (pxg_fix 3 nd) (pxgs_nil)))) (fun _ _ _ _ _ => pxts_nil) (fun _ _ _ _ _ => px_cmp op_ge vop_ge (px_name 2) (px_name 3))) (pxa_nil))))))))
theorem ok_want_part_row (T : Top K mg) : FnG P w K mg base CX0 4 T.f_want_part_row T.d_want_part_row ["row"] (spF K 1 den_want_part_row) := by
  refine fn_ok T.F_want_part_row sc_want_part_row fun cdv A outer s H E hr => ?_
  have nd := sc_want_part_row.nd
  exact pxs_one (px_if (pxt_not (pxt_val (px_call [false] (ok_is_part_row_value T) hr T.m_is_part_row_value T.F_is_part_row_value.kp T.b_is_part_row_value (pxa_cons (px_name 0) (pxa_nil))))) (pxs_one (px_never)) (pxs_nil))
theorem ok_square_in (T : Top K mg) : FnG P w K mg base CX0 1 T.f_square_in T.d_square_in ["row"] (spF K 1 den_square_in) := by
  refine fn_ok T.F_square_in sc_square_in fun cdv A outer s H E hr => ?_
  have nd := sc_square_in.nd
  exact pxs_one (px_ret (px_callB call_len vop_len rfl T.z_len rfl (pxa_cons (px_lc rfl nd (own := [("at", 1), ("part", 2)]) (pxi_enu T.z_enumerate (pxa_cons (px_name 0) (pxa_nil))) (blk_ok rfl) (fun _ _ _ _ _ => pxg_tup rfl (pxgs_cons (pxg_fix 1 nd) (pxgs_cons (pxg_fix 2 nd) (pxgs_nil)))) (fun _ _ _ _ _ => pxts_one (pxt_cmp op_gt vop_gt (px_name 2) (px_name 1))) (fun _ _ _ _ _ => px_name 1)) (pxa_nil))))
theorem ok_square_of (T : Top K mg) : FnG P w K mg base CX0 5 T.f_square_of T.d_square_of ["row"] (spF K 1 den_square_of) := by
  refine fn_ok T.F_square_of sc_square_of fun cdv A outer s H E hr => ?_
  have nd := sc_square_of.nd
  exact pxs_cons (px_expr (px_call [false] (ok_want_part_row T) hr T.m_want_part_row T.F_want_part_row.kp T.b_want_part_row (pxa_cons (px_name 0) (pxa_nil)))) (pxs_one (px_ret (px_call [false] ((ok_square_in T).mono (by decide)) hr T.m_square_in T.F_square_in.kp T.b_square_in (pxa_cons (px_name 0) (pxa_nil)))))
theorem ok__law_lists_right (T : Top K mg) : FnG P w K mg base CX0 6 T.f__law_lists_right T.d__law_lists_right ["pot"] (spF K 1 den__law_lists_right) := by
  refine fn_ok T.F__law_lists_right sc__law_lists_right fun cdv A outer s H E hr => ?_
  have nd := sc__law_lists_right.nd
  exact pxs_cons (px_parT (n := 2) rfl (pxa_cons (px_call [true, false] ((ok__law_draw T).mono (by decide)) hr T.m__law_draw T.F__law_draw.kp T.b__law_draw (pxa_cons (px_name 0) (pxa_cons (px_int) (pxa_nil)))) (pxa_cons (px_op op_addB vop_addB (px_int) (px_call [true, false] ((ok__law_draw T).mono (by decide)) hr T.m__law_draw T.F__law_draw.kp T.b__law_draw (pxa_cons (px_name 0) (pxa_cons (px_int) (pxa_nil))))) (pxa_nil))) (pxgs_cons (pxg_fix 7 nd) (pxgs_cons (pxg_fix 8 nd) (pxgs_nil)))) (pxs_cons (px_fix 1 nd (px_call [false] ((ok_part_rows T).mono (by decide)) hr T.m_part_rows T.F_part_rows.kp T.b_part_rows (pxa_cons (px_name 7) (pxa_nil)))) (pxs_cons (px_fixLc 2 rfl nd (own := [("row", 11)]) (pxi_seq (px_name 1)) (blk_ok rfl) (fun _ _ _ _ _ => pxg_fix 11 nd) (fun _ _ _ _ _ => pxts_one (pxt_eqV hr.hu64 (pxv_lf (px_lc rfl nd (own := [("part", 13)]) (pxi_seq (px_name 11)) (blk_ok rfl) (fun _ _ _ _ _ => pxg_fix 13 nd) (fun _ _ _ _ _ => pxts_one (pxt_cmp op_ge vop_ge (px_dm PySem.F.slot_list_count PySem.F.type_list_count (mt_cntL hr.hu65) dm_cnt (px_name 11) (px_name 13)) (px_name 8))) (fun _ _ _ _ _ => px_name 13))) (pxv_dl (pxvs_nil)))) (fun _ _ _ _ _ => px_name 11)) (pxs_cons (px_fixLc 3 rfl nd (own := [("row", 11)]) (pxi_seq (px_name 1)) (blk_ok rfl) (fun _ _ _ _ _ => pxg_fix 11 nd) (fun _ _ _ _ _ => pxts_one (pxt_eqV hr.hu64 (pxv_lf (px_lc rfl nd (own := [("part", 13)]) (pxi_seq (px_name 11)) (blk_ok rfl) (fun _ _ _ _ _ => pxg_fix 13 nd) (fun _ _ _ _ _ => pxts_one (pxt_cmp (op_eqB hr.hu64) vop_eq (px_op op_mod vop_mod (px_callTy call_int1 vop_int rfl T.z_int rfl (pxa_cons (px_name 13) (pxa_nil))) (px_name 8)) (px_int))) (fun _ _ _ _ _ => px_name 13))) (pxv_dl (pxvs_nil)))) (fun _ _ _ _ _ => px_name 11)) (pxs_cons (px_if (PXW.t (pxw_or (pxt_cmp (op_neB hr.hu64) vop_ne (px_callB call_len vop_len rfl T.z_len rfl (pxa_cons (px_name 2) (pxa_nil))) (px_callB call_len vop_len rfl T.z_len rfl (pxa_cons (px_name 3) (pxa_nil)))) (pxw_or1 (PXW.t (pxw_and (pxt_cmp (op_eqB hr.hu64) vop_eq (px_name 8) (px_int)) (pxw_and1 (pxt_cmp (op_neB hr.hu64) vop_ne (px_callB call_len vop_len rfl T.z_len rfl (pxa_cons (px_name 2) (pxa_nil))) (px_call [false] ((ok_many_unlike T).mono (by decide)) hr T.m_many_unlike T.F_many_unlike.kp T.b_many_unlike (pxa_cons (px_name 7) (pxa_nil)))))))))) (pxs_one (px_ret (px_bl))) (pxs_nil)) (pxs_cons (px_if (PXW.t (pxw_and (pxt_cmp op_gt vop_gt (px_name 7) (px_int)) (pxw_and1 (pxt_cmp (op_neB hr.hu64) vop_ne (px_callB call_len vop_len rfl T.z_len rfl (pxa_cons (px_lc rfl nd (own := [("row", 11)]) (pxi_seq (px_name 1)) (blk_ok rfl) (fun _ _ _ _ _ => pxg_fix 11 nd) (fun _ _ _ _ _ => pxts_one (pxt_cmp (op_notInB hr.hu65) vop_notIn (px_int) (px_name 11))) (fun _ _ _ _ _ => px_name 11)) (pxa_nil))) (px_op op_sub vop_sub (px_call [false] ((ok_many_part_rows T).mono (by decide)) hr T.m_many_part_rows T.F_many_part_rows.kp T.b_many_part_rows (pxa_cons (px_name 7) (pxa_nil))) (px_call [false] ((ok_many_part_rows T).mono (by decide)) hr T.m_many_part_rows T.F_many_part_rows.kp T.b_many_part_rows (pxa_cons (px_op op_sub vop_sub (px_name 7) (px_int)) (pxa_nil)))))))) (pxs_one (px_ret (px_bl))) (pxs_nil)) (pxs_cons (px_fix 4 nd (px_op op_addB vop_addB (px_int) (px_call [true, false] ((ok__law_draw T).mono (by decide)) hr T.m__law_draw T.F__law_draw.kp T.b__law_draw (pxa_cons (px_name 0) (pxa_cons (px_int) (pxa_nil)))))) (pxs_cons (px_if (pxt_cmp (op_neB hr.hu64) vop_ne (px_callB (cr_sum rfl) vop_sum rfl T.z_sum rfl (pxa_cons (px_lc rfl nd (own := [("row", 11)]) (pxi_seq (px_name 1)) (blk_ok rfl) (fun _ _ _ _ _ => pxg_fix 11 nd) (fun _ _ _ _ _ => pxts_nil) (fun _ _ _ _ _ => px_dm PySem.F.slot_list_count PySem.F.type_list_count (mt_cntL hr.hu65) dm_cnt (px_name 11) (px_name 4))) (pxa_nil))) (px_callB (cr_sum rfl) vop_sum rfl T.z_sum rfl (pxa_cons (px_lc rfl nd (own := [("often", 12)]) (pxi_range2 T.z_range (pxa_cons (px_int) (pxa_cons (px_op op_addB vop_addB (px_op op_fdivW vop_div (px_name 7) (px_name 4)) (px_int)) (pxa_nil)))) (blk_ok rfl) (fun _ _ _ _ _ => pxg_fix 12 nd) (fun _ _ _ _ _ => pxts_nil) (fun _ _ _ _ _ => px_call [false] ((ok_many_part_rows T).mono (by decide)) hr T.m_many_part_rows T.F_many_part_rows.kp T.b_many_part_rows (pxa_cons (px_op op_sub vop_sub (px_name 7) (px_op op_mulA vop_mulB (px_name 4) (px_name 12))) (pxa_nil)))) (pxa_nil)))) (pxs_one (px_ret (px_bl))) (pxs_nil)) (pxs_cons (px_if (pxt_cmp (op_neB hr.hu64) vop_ne (px_callB (cr_sum rfl) vop_sum rfl T.z_sum rfl (pxa_cons (px_lc rfl nd (own := [("row", 11)]) (pxi_seq (px_name 1)) (blk_ok rfl) (fun _ _ _ _ _ => pxg_fix 11 nd) (fun _ _ _ _ _ => pxts_nil) (fun _ _ _ _ _ => px_dm PySem.F.slot_list_count PySem.F.type_list_count (mt_cntL hr.hu65) dm_cnt (px_name 11) (px_int))) (pxa_nil))) (px_callB (cr_sum rfl) vop_sum rfl T.z_sum rfl (pxa_cons (px_lc rfl nd (own := [("row", 11)]) (pxi_seq (px_name 1)) (blk_ok rfl) (fun _ _ _ _ _ => pxg_fix 11 nd) (fun _ _ _ _ _ => pxts_nil) (fun _ _ _ _ _ => px_lset rfl rfl T.z_len rfl T.z_set (pxa_cons (px_name 11) (pxa_nil)))) (pxa_nil)))) (pxs_one (px_ret (px_bl))) (pxs_nil)) (pxs_cons (px_fix 5 nd (px_call [true, false] ((ok__law_draw T).mono (by decide)) hr T.m__law_draw T.F__law_draw.kp T.b__law_draw (pxa_cons (px_name 0) (pxa_cons (px_int) (pxa_nil))))) (pxs_cons (px_par2 9 10 rfl nd (pxa_cons (px_op op_sub vop_sub (px_name 7) (px_op op_mulA vop_mulB (px_name 5) (px_name 5))) (pxa_cons (px_int) (pxa_nil)))) (pxs_cons (px_for PassesOwn.never rfl (pxi_range1 T.z_range (pxa_cons (px_op op_addB vop_addB (px_name 9) (px_int)) (pxa_nil))) (pxg_fix 6 nd) (pxs_one (px_fix 10 nd (px_op op_addB vop_addB (px_name 10) (px_op op_mulA vop_mulB (px_call [false, false] ((ok_many_bounded T).mono (by decide)) hr T.m_many_bounded T.F_many_bounded.kp T.b_many_bounded (pxa_cons (px_name 6) (pxa_cons (px_name 5) (pxa_nil)))) (px_call [false, false] ((ok_many_bounded T).mono (by decide)) hr T.m_many_bounded T.F_many_bounded.kp T.b_many_bounded (pxa_cons (px_op op_sub vop_sub (px_name 9) (px_name 6)) (pxa_cons (px_name 5) (pxa_nil))))))))) (pxs_one (px_ret (px_cmp (op_eqB hr.hu64) vop_eq (px_callB call_len vop_len rfl T.z_len rfl (pxa_cons (px_lc rfl nd (own := [("row", 11)]) (pxi_seq (px_name 1)) (blk_ok rfl) (fun _ _ _ _ _ => pxg_fix 11 nd) (fun _ _ _ _ _ => pxts_one (pxt_cmp (op_eqB hr.hu64) vop_eq (px_call [false] (ok_square_of T) hr T.m_square_of T.F_square_of.kp T.b_square_of (pxa_cons (px_name 11) (pxa_nil))) (px_name 5))) (fun _ _ _ _ _ => px_name 11)) (pxa_nil))) (px_name 10)))))))))))))))
theorem ok_unlike_with (T : Top K mg) : FnG P w K mg base CX0 1 T.f_unlike_with T.d_unlike_with ["total"] (spF K 1 den_unlike_with) := by
  refine fn_ok T.F_unlike_with sc_unlike_with fun cdv A outer s H E hr => ?_
  have nd := sc_unlike_with.nd
  exact pxs_cons (px_par2 1 2 rfl nd (pxa_cons (px_lst (pxa_nil)) (pxa_cons (px_lst (pxa_cons (px_tup (pxa_cons (px_lst (pxa_nil)) (pxa_cons (px_name 0) (pxa_nil)))) (pxa_nil))) (pxa_nil)))) (pxs_frz 2 (pxs_cons (px_while fuel PassesOwn.never (pxt_neV hr.hu64 (pxv_lf (px_name 2)) (pxv_dl (pxvs_nil))) (pxs_cons (px_set 3 nd (px_lst (pxa_nil))) (pxs_cons (px_for PassesOwn.never rfl (pxi_seq (px_name 2)) (pxg_tup rfl (pxgs_cons (pxg_fix 4 nd) (pxgs_cons (pxg_fix 5 nd) (pxgs_nil)))) (pxs_cons (px_if (pxt_cmp (op_eqB hr.hu64) vop_eq (px_name 5) (px_int)) (pxs_one (px_expr (px_meth 1 PySem.F.slot_list_append PySem.F.type_list_append mt_append vm_app (pxa_cons (px_name 4) (pxa_nil))))) (pxs_nil)) (pxs_cons (px_fix 6 nd (px_callB (cr_minB rfl) vop_min rfl T.z_min rfl (pxa_cons (px_name 5) (pxa_cons (px_ifExp (pxt_neV hr.hu64 (pxv_lf (px_name 4)) (pxv_dl (pxvs_nil))) (px_op op_sub vop_sub (px_ix ix_seq vop_ix (px_name 4) (px_un un_neg vop_neg (px_int))) (px_int)) (px_name 5)) (pxa_nil))))) (pxs_one (px_expr (px_meth 3 PySem.F.slot_list_extend PySem.F.type_list_extend mt_extend vm_ext (pxa_cons (px_lc rfl nd (own := [("part", 7)]) (pxi_range2 T.z_range (pxa_cons (px_int) (pxa_cons (px_op op_addB vop_addB (px_name 6) (px_int)) (pxa_nil)))) (blk_ok rfl) (fun _ _ _ _ _ => pxg_fix 7 nd) (fun _ _ _ _ _ => pxts_nil) (fun _ _ _ _ _ => px_tup (pxa_cons (px_op op_addB vop_addB (px_name 4) (px_lst (pxa_cons (px_name 7) (pxa_nil)))) (pxa_cons (px_op op_sub vop_sub (px_name 5) (px_name 7)) (pxa_nil))))) (pxa_nil)))))))) (pxs_one (px_frz 3 (px_fix 2 nd (px_name 3))))))) (pxs_one (px_ret (px_callB (cr_sortedR hr.hu65) vop_sortedR rfl T.z_sorted rfl (pxa_cons (px_name 1) (pxa_nil)))))))
theorem ok_unlike_rows (T : Top K mg) : FnG P w K mg base CX0 4 T.f_unlike_rows T.d_unlike_rows ["total"] (spF K 1 den_unlike_rows) := by
  refine fn_ok T.F_unlike_rows sc_unlike_rows fun cdv A outer s H E hr => ?_
  have nd := sc_unlike_rows.nd
  exact pxs_cons (px_expr (px_call [false] (ok_want_total T) hr T.m_want_total T.F_want_total.kp T.b_want_total (pxa_cons (px_name 0) (pxa_nil)))) (pxs_cons (px_expr (px_call [false, false] ((ok_want_listed T).mono (by decide)) hr T.m_want_listed T.F_want_listed.kp T.b_want_listed (pxa_cons (px_callB (cr_sumT rfl) vop_sumU rfl T.z_sum rfl (pxa_cons (px_ix ix_seq vop_ix (px_call [false] ((ok_unlike_table T).mono (by decide)) hr T.m_unlike_table T.F_unlike_table.kp T.b_unlike_table (pxa_cons (px_name 0) (pxa_nil))) (px_name 0)) (pxa_nil))) (pxa_cons (px_str) (pxa_nil))))) (pxs_one (px_ret (px_call [false] ((ok_unlike_with T).mono (by decide)) hr T.m_unlike_with T.F_unlike_with.kp T.b_unlike_with (pxa_cons (px_name 0) (pxa_nil))))))
theorem ok_turned_of (T : Top K mg) : FnG P w K mg base CX0 1 T.f_turned_of T.d_turned_of ["row"] (spF K 1 den_turned_of) := by
  refine fn_ok T.F_turned_of sc_turned_of fun cdv A outer s H E hr => ?_
  have nd := sc_turned_of.nd
  exact pxs_one (px_ret (px_lc rfl nd (own := [("size", 1)]) (pxi_range2 T.z_range (pxa_cons (px_int) (pxa_cons (px_op op_addB vop_addB (px_ifExp (pxt_cmp op_gt vop_gt (px_callB call_len vop_len rfl T.z_len rfl (pxa_cons (px_name 0) (pxa_nil))) (px_int)) (px_ix ix_seq vop_ix (px_name 0) (px_int)) (px_int)) (px_int)) (pxa_nil)))) (blk_ok rfl) (fun _ _ _ _ _ => pxg_fix 1 nd) (fun _ _ _ _ _ => pxts_nil) (fun _ _ _ _ _ => px_callB call_len vop_len rfl T.z_len rfl (pxa_cons (px_lc rfl nd (own := [("part", 2)]) (pxi_seq (px_name 0)) (blk_ok rfl) (fun _ _ _ _ _ => pxg_fix 2 nd) (fun _ _ _ _ _ => pxts_one (pxt_cmp op_ge vop_ge (px_name 2) (px_name 1))) (fun _ _ _ _ _ => px_name 2)) (pxa_nil)))))
theorem ok_turned_parts (T : Top K mg) : FnG P w K mg base CX0 5 T.f_turned_parts T.d_turned_parts ["row"] (spF K 1 den_turned_parts) := by
  refine fn_ok T.F_turned_parts sc_turned_parts fun cdv A outer s H E hr => ?_
  have nd := sc_turned_parts.nd
  exact pxs_cons (px_expr (px_call [false] (ok_want_part_row T) hr T.m_want_part_row T.F_want_part_row.kp T.b_want_part_row (pxa_cons (px_name 0) (pxa_nil)))) (pxs_one (px_ret (px_call [false] ((ok_turned_of T).mono (by decide)) hr T.m_turned_of T.F_turned_of.kp T.b_turned_of (pxa_cons (px_name 0) (pxa_nil)))))
theorem ok__law_unlike_right (T : Top K mg) : FnG P w K mg base CX0 6 T.f__law_unlike_right T.d__law_unlike_right ["pot"] (spF K 1 den__law_unlike_right) := by
  refine fn_ok T.F__law_unlike_right sc__law_unlike_right fun cdv A outer s H E hr => ?_
  have nd := sc__law_unlike_right.nd
  exact pxs_cons (px_parT (n := 2) rfl (pxa_cons (px_call [true, false] ((ok__law_draw T).mono (by decide)) hr T.m__law_draw T.F__law_draw.kp T.b__law_draw (pxa_cons (px_name 0) (pxa_cons (px_int) (pxa_nil)))) (pxa_cons (px_call [true, false] ((ok__law_draw T).mono (by decide)) hr T.m__law_draw T.F__law_draw.kp T.b__law_draw (pxa_cons (px_name 0) (pxa_cons (px_int) (pxa_nil)))) (pxa_nil))) (pxgs_cons (pxg_fix 4 nd) (pxgs_cons (pxg_fix 5 nd) (pxgs_nil)))) (pxs_cons (px_fixLc 1 rfl nd (own := [("row", 6)]) (pxi_seq (px_call [false] ((ok_unlike_rows T).mono (by decide)) hr T.m_unlike_rows T.F_unlike_rows.kp T.b_unlike_rows (pxa_cons (px_name 4) (pxa_nil)))) (blk_ok rfl) (fun _ _ _ _ _ => pxg_fix 6 nd) (fun _ _ _ _ _ => pxts_one (pxt_cmp (op_eqB hr.hu64) vop_eq (px_callB call_len vop_len rfl T.z_len rfl (pxa_cons (px_name 6) (pxa_nil))) (px_name 5))) (fun _ _ _ _ _ => px_name 6)) (pxs_cons (px_fix 2 nd (px_op op_sub vop_sub (px_name 4) (px_op op_fdivW vop_div (px_op op_mulA vop_mulB (px_name 5) (px_op op_sub vop_sub (px_name 5) (px_int))) (px_int)))) (pxs_cons (px_if (pxt_cmp (op_neB hr.hu64) vop_ne (px_callB call_len vop_len rfl T.z_len rfl (pxa_cons (px_name 1) (pxa_nil))) (px_ifExp (pxt_cmp op_ge vop_ge (px_name 2) (px_int)) (px_call [false, false] ((ok_many_of_parts T).mono (by decide)) hr T.m_many_of_parts T.F_many_of_parts.kp T.b_many_of_parts (pxa_cons (px_name 2) (pxa_cons (px_name 5) (pxa_nil)))) (px_int))) (pxs_one (px_ret (px_bl))) (pxs_nil)) (pxs_cons (px_fixLc 3 rfl nd (own := [("row", 6)]) (pxi_seq (px_name 1)) (blk_ok rfl) (fun _ _ _ _ _ => pxg_fix 6 nd) (fun _ _ _ _ _ => pxts_nil) (fun _ _ _ _ _ => px_lc rfl nd (own := [("at", 7), ("part", 8)]) (pxi_enu T.z_enumerate (pxa_cons (px_name 6) (pxa_nil))) (blk_ok rfl) (fun _ _ _ _ _ => pxg_tup rfl (pxgs_cons (pxg_fix 7 nd) (pxgs_cons (pxg_fix 8 nd) (pxgs_nil)))) (fun _ _ _ _ _ => pxts_nil) (fun _ _ _ _ _ => px_op op_addB vop_addB (px_op op_addB vop_addB (px_op op_sub vop_sub (px_name 8) (px_name 5)) (px_int)) (px_name 7)))) (pxs_cons (px_if (pxt_neV hr.hu64 (pxv_lf (px_lc rfl nd (own := [("row", 6)]) (pxi_seq (px_name 3)) (blk_ok rfl) (fun _ _ _ _ _ => pxg_fix 6 nd) (fun _ _ _ _ _ => pxts_one (PXW.t (pxw_or (pxt_cmp (op_neB hr.hu64) vop_ne (px_name 6) (px_rev (px_callB cr_sortedI vop_sorted rfl T.z_sorted rfl (pxa_cons (px_name 6) (pxa_nil))))) (pxw_or1 (pxt_cmp op_lt vop_lt (px_callB (cr_minB rfl) vop_min rfl T.z_min rfl (pxa_cons (px_op op_addB vop_addB (px_name 6) (px_lst (pxa_cons (px_int) (pxa_nil)))) (pxa_nil))) (px_int)))))) (fun _ _ _ _ _ => px_name 6))) (pxv_dl (pxvs_nil))) (pxs_one (px_ret (px_bl))) (pxs_nil)) (pxs_one (px_ret (px_eqV hr.hu64 (pxv_lf (px_lc rfl nd (own := [("row", 6)]) (pxi_seq (px_name 1)) (blk_ok rfl) (fun _ _ _ _ _ => pxg_fix 6 nd) (fun _ _ _ _ _ => pxts_one (pxt_cmp (op_neB hr.hu64) vop_ne (px_sset rfl rfl T.z_sorted rfl T.z_set (pxa_cons (px_call [false] (ok_turned_parts T) hr T.m_turned_parts T.F_turned_parts.kp T.b_turned_parts (pxa_cons (px_name 6) (pxa_nil))) (pxa_nil))) (px_listRg rfl T.z_list (pxr_2 T.z_range (px_int) (px_op op_addB vop_addB (px_name 5) (px_int)))))) (fun _ _ _ _ _ => px_name 6))) (pxv_dl (pxvs_nil))))))))))
theorem ok_law (T : Top K mg) : FnG P w K mg base CX0 7 T.f_law T.d_law ["script"] (spF K 1 den_law) := by
  refine fn_ok T.F_law sc_law fun cdv A outer s H E hr => ?_
  have nd := sc_law.nd
  exact pxs_cons (px_set 1 nd (px_call [false, false] ((ok__law_pot T).mono (by decide)) hr T.m__law_pot T.F__law_pot.kp T.b__law_pot (pxa_cons (px_name 0) (pxa_cons (px_int) (pxa_nil))))) (pxs_one (px_ret (px_and (px_call [true] ((ok__law_total_right T).mono (by decide)) hr T.m__law_total_right T.F__law_total_right.kp T.b__law_total_right (pxa_cons (px_name 1) (pxa_nil))) (px_and (px_call [true] ((ok__law_total_right T).mono (by decide)) hr T.m__law_total_right T.F__law_total_right.kp T.b__law_total_right (pxa_cons (px_name 1) (pxa_nil))) (px_and (px_call [true] (ok__law_lists_right T) hr T.m__law_lists_right T.F__law_lists_right.kp T.b__law_lists_right (pxa_cons (px_name 1) (pxa_nil))) (px_tB (px_one (px_call [true] (ok__law_unlike_right T) hr T.m__law_unlike_right T.F__law_unlike_right.kp T.b__law_unlike_right (pxa_cons (px_name 1) (pxa_nil))))))))))
end
theorem all_mk {l : PySem.W.OpenLaw} {w : World} {K : PySem.W.Frag} {h : Heap} {mg : Str → Option Value} {fa f__law_pot f__law_draw f__law_is f_is_integer f_is_within f_want_total f_want_bound f_bounded_table f_many_bounded f_many_of_parts f_count_of f_many_part_rows f__law_total_right f_want_listed f_rows_with f_part_rows f_unlike_table f_many_unlike f_is_list f_is_part_row_value f_want_part_row f_square_in f_square_of f__law_lists_right f_unlike_with f_unlike_rows f_turned_of f_turned_parts f__law_unlike_right f_law : Addr} (X : K.In h) (G : h.Ns mainGlobals mg) (hfa : mg "law" = some (.ref fa))
    {od__law_pot an__law_pot : Option Addr} {sl__law_pot : Array (Option Value)} {oc__law_pot kV__law_pot dc__law_pot pm__law_pot cd__law_pot ct__law_pot : Value}
    {od__law_draw an__law_draw : Option Addr} {sl__law_draw : Array (Option Value)} {oc__law_draw kV__law_draw dc__law_draw pm__law_draw cd__law_draw ct__law_draw : Value}
    {od__law_is an__law_is : Option Addr} {sl__law_is : Array (Option Value)} {oc__law_is kV__law_is dc__law_is pm__law_is cd__law_is ct__law_is : Value}
    {od_is_integer an_is_integer : Option Addr} {sl_is_integer : Array (Option Value)} {oc_is_integer kV_is_integer dc_is_integer pm_is_integer cd_is_integer ct_is_integer : Value}
    {od_is_within an_is_within : Option Addr} {sl_is_within : Array (Option Value)} {oc_is_within kV_is_within dc_is_within pm_is_within cd_is_within ct_is_within : Value}
    {od_want_total an_want_total : Option Addr} {sl_want_total : Array (Option Value)} {oc_want_total kV_want_total dc_want_total pm_want_total cd_want_total ct_want_total : Value}
    {od_want_bound an_want_bound : Option Addr} {sl_want_bound : Array (Option Value)} {oc_want_bound kV_want_bound dc_want_bound pm_want_bound cd_want_bound ct_want_bound : Value}
    {od_bounded_table an_bounded_table : Option Addr} {sl_bounded_table : Array (Option Value)} {oc_bounded_table kV_bounded_table dc_bounded_table pm_bounded_table cd_bounded_table ct_bounded_table : Value}
    {od_many_bounded an_many_bounded : Option Addr} {sl_many_bounded : Array (Option Value)} {oc_many_bounded kV_many_bounded dc_many_bounded pm_many_bounded cd_many_bounded ct_many_bounded : Value}
    {od_many_of_parts an_many_of_parts : Option Addr} {sl_many_of_parts : Array (Option Value)} {oc_many_of_parts kV_many_of_parts dc_many_of_parts pm_many_of_parts cd_many_of_parts ct_many_of_parts : Value}
    {od_count_of an_count_of : Option Addr} {sl_count_of : Array (Option Value)} {oc_count_of kV_count_of dc_count_of pm_count_of cd_count_of ct_count_of : Value}
    {od_many_part_rows an_many_part_rows : Option Addr} {sl_many_part_rows : Array (Option Value)} {oc_many_part_rows kV_many_part_rows dc_many_part_rows pm_many_part_rows cd_many_part_rows ct_many_part_rows : Value}
    {od__law_total_right an__law_total_right : Option Addr} {sl__law_total_right : Array (Option Value)} {oc__law_total_right kV__law_total_right dc__law_total_right pm__law_total_right cd__law_total_right ct__law_total_right : Value}
    {od_want_listed an_want_listed : Option Addr} {sl_want_listed : Array (Option Value)} {oc_want_listed kV_want_listed dc_want_listed pm_want_listed cd_want_listed ct_want_listed : Value}
    {od_rows_with an_rows_with : Option Addr} {sl_rows_with : Array (Option Value)} {oc_rows_with kV_rows_with dc_rows_with pm_rows_with cd_rows_with ct_rows_with : Value}
    {od_part_rows an_part_rows : Option Addr} {sl_part_rows : Array (Option Value)} {oc_part_rows kV_part_rows dc_part_rows pm_part_rows cd_part_rows ct_part_rows : Value}
    {od_unlike_table an_unlike_table : Option Addr} {sl_unlike_table : Array (Option Value)} {oc_unlike_table kV_unlike_table dc_unlike_table pm_unlike_table cd_unlike_table ct_unlike_table : Value}
    {od_many_unlike an_many_unlike : Option Addr} {sl_many_unlike : Array (Option Value)} {oc_many_unlike kV_many_unlike dc_many_unlike pm_many_unlike cd_many_unlike ct_many_unlike : Value}
    {od_is_list an_is_list : Option Addr} {sl_is_list : Array (Option Value)} {oc_is_list kV_is_list dc_is_list pm_is_list cd_is_list ct_is_list : Value}
    {od_is_part_row_value an_is_part_row_value : Option Addr} {sl_is_part_row_value : Array (Option Value)} {oc_is_part_row_value kV_is_part_row_value dc_is_part_row_value pm_is_part_row_value cd_is_part_row_value ct_is_part_row_value : Value}
    {od_want_part_row an_want_part_row : Option Addr} {sl_want_part_row : Array (Option Value)} {oc_want_part_row kV_want_part_row dc_want_part_row pm_want_part_row cd_want_part_row ct_want_part_row : Value}
    {od_square_in an_square_in : Option Addr} {sl_square_in : Array (Option Value)} {oc_square_in kV_square_in dc_square_in pm_square_in cd_square_in ct_square_in : Value}
    {od_square_of an_square_of : Option Addr} {sl_square_of : Array (Option Value)} {oc_square_of kV_square_of dc_square_of pm_square_of cd_square_of ct_square_of : Value}
    {od__law_lists_right an__law_lists_right : Option Addr} {sl__law_lists_right : Array (Option Value)} {oc__law_lists_right kV__law_lists_right dc__law_lists_right pm__law_lists_right cd__law_lists_right ct__law_lists_right : Value}
    {od_unlike_with an_unlike_with : Option Addr} {sl_unlike_with : Array (Option Value)} {oc_unlike_with kV_unlike_with dc_unlike_with pm_unlike_with cd_unlike_with ct_unlike_with : Value}
    {od_unlike_rows an_unlike_rows : Option Addr} {sl_unlike_rows : Array (Option Value)} {oc_unlike_rows kV_unlike_rows dc_unlike_rows pm_unlike_rows cd_unlike_rows ct_unlike_rows : Value}
    {od_turned_of an_turned_of : Option Addr} {sl_turned_of : Array (Option Value)} {oc_turned_of kV_turned_of dc_turned_of pm_turned_of cd_turned_of ct_turned_of : Value}
    {od_turned_parts an_turned_parts : Option Addr} {sl_turned_parts : Array (Option Value)} {oc_turned_parts kV_turned_parts dc_turned_parts pm_turned_parts cd_turned_parts ct_turned_parts : Value}
    {od__law_unlike_right an__law_unlike_right : Option Addr} {sl__law_unlike_right : Array (Option Value)} {oc__law_unlike_right kV__law_unlike_right dc__law_unlike_right pm__law_unlike_right cd__law_unlike_right ct__law_unlike_right : Value}
    {od_law an_law : Option Addr} {sl_law : Array (Option Value)} {oc_law kV_law dc_law pm_law cd_law ct_law : Value}
    (a__law_pot : PySem.W.nsIn K mainGlobals "_law_pot" = some (some (.ref f__law_pot)))
    (l__law_pot : K.lookup f__law_pot = some ⟨oc__law_pot, od__law_pot, .func (PySem.W.fnOf "_law_pot" "_law_pot" (defArgs s__law_pot) (defBody s__law_pot) (defScope s__law_pot) .none kV__law_pot dc__law_pot pm__law_pot an__law_pot cd__law_pot ct__law_pot), sl__law_pot⟩)
    (e__law_pot : PySem.W.codeIn K cd__law_pot "_law_pot" = true) (k__law_pot : PySem.W.keepIn K (.ref f__law_pot) = true)
    (a__law_draw : PySem.W.nsIn K mainGlobals "_law_draw" = some (some (.ref f__law_draw)))
    (l__law_draw : K.lookup f__law_draw = some ⟨oc__law_draw, od__law_draw, .func (PySem.W.fnOf "_law_draw" "_law_draw" (defArgs s__law_draw) (defBody s__law_draw) (defScope s__law_draw) .none kV__law_draw dc__law_draw pm__law_draw an__law_draw cd__law_draw ct__law_draw), sl__law_draw⟩)
    (e__law_draw : PySem.W.codeIn K cd__law_draw "_law_draw" = true) (k__law_draw : PySem.W.keepIn K (.ref f__law_draw) = true)
    (a__law_is : PySem.W.nsIn K mainGlobals "_law_is" = some (some (.ref f__law_is)))
    (l__law_is : K.lookup f__law_is = some ⟨oc__law_is, od__law_is, .func (PySem.W.fnOf "_law_is" "_law_is" (defArgs s__law_is) (defBody s__law_is) (defScope s__law_is) .none kV__law_is dc__law_is pm__law_is an__law_is cd__law_is ct__law_is), sl__law_is⟩)
    (e__law_is : PySem.W.codeIn K cd__law_is "_law_is" = true) (k__law_is : PySem.W.keepIn K (.ref f__law_is) = true)
    (a_is_integer : PySem.W.nsIn K mainGlobals "is_integer" = some (some (.ref f_is_integer)))
    (l_is_integer : K.lookup f_is_integer = some ⟨oc_is_integer, od_is_integer, .func (PySem.W.fnOf "is_integer" "is_integer" (defArgs s_is_integer) (defBody s_is_integer) (defScope s_is_integer) .none kV_is_integer dc_is_integer pm_is_integer an_is_integer cd_is_integer ct_is_integer), sl_is_integer⟩)
    (e_is_integer : PySem.W.codeIn K cd_is_integer "is_integer" = true) (k_is_integer : PySem.W.keepIn K (.ref f_is_integer) = true)
    (a_is_within : PySem.W.nsIn K mainGlobals "is_within" = some (some (.ref f_is_within)))
    (l_is_within : K.lookup f_is_within = some ⟨oc_is_within, od_is_within, .func (PySem.W.fnOf "is_within" "is_within" (defArgs s_is_within) (defBody s_is_within) (defScope s_is_within) .none kV_is_within dc_is_within pm_is_within an_is_within cd_is_within ct_is_within), sl_is_within⟩)
    (e_is_within : PySem.W.codeIn K cd_is_within "is_within" = true) (k_is_within : PySem.W.keepIn K (.ref f_is_within) = true)
    (a_want_total : PySem.W.nsIn K mainGlobals "want_total" = some (some (.ref f_want_total)))
    (l_want_total : K.lookup f_want_total = some ⟨oc_want_total, od_want_total, .func (PySem.W.fnOf "want_total" "want_total" (defArgs s_want_total) (defBody s_want_total) (defScope s_want_total) .none kV_want_total dc_want_total pm_want_total an_want_total cd_want_total ct_want_total), sl_want_total⟩)
    (e_want_total : PySem.W.codeIn K cd_want_total "want_total" = true) (k_want_total : PySem.W.keepIn K (.ref f_want_total) = true)
    (a_want_bound : PySem.W.nsIn K mainGlobals "want_bound" = some (some (.ref f_want_bound)))
    (l_want_bound : K.lookup f_want_bound = some ⟨oc_want_bound, od_want_bound, .func (PySem.W.fnOf "want_bound" "want_bound" (defArgs s_want_bound) (defBody s_want_bound) (defScope s_want_bound) .none kV_want_bound dc_want_bound pm_want_bound an_want_bound cd_want_bound ct_want_bound), sl_want_bound⟩)
    (e_want_bound : PySem.W.codeIn K cd_want_bound "want_bound" = true) (k_want_bound : PySem.W.keepIn K (.ref f_want_bound) = true)
    (a_bounded_table : PySem.W.nsIn K mainGlobals "bounded_table" = some (some (.ref f_bounded_table)))
    (l_bounded_table : K.lookup f_bounded_table = some ⟨oc_bounded_table, od_bounded_table, .func (PySem.W.fnOf "bounded_table" "bounded_table" (defArgs s_bounded_table) (defBody s_bounded_table) (defScope s_bounded_table) .none kV_bounded_table dc_bounded_table pm_bounded_table an_bounded_table cd_bounded_table ct_bounded_table), sl_bounded_table⟩)
    (e_bounded_table : PySem.W.codeIn K cd_bounded_table "bounded_table" = true) (k_bounded_table : PySem.W.keepIn K (.ref f_bounded_table) = true)
    (a_many_bounded : PySem.W.nsIn K mainGlobals "many_bounded" = some (some (.ref f_many_bounded)))
    (l_many_bounded : K.lookup f_many_bounded = some ⟨oc_many_bounded, od_many_bounded, .func (PySem.W.fnOf "many_bounded" "many_bounded" (defArgs s_many_bounded) (defBody s_many_bounded) (defScope s_many_bounded) .none kV_many_bounded dc_many_bounded pm_many_bounded an_many_bounded cd_many_bounded ct_many_bounded), sl_many_bounded⟩)
    (e_many_bounded : PySem.W.codeIn K cd_many_bounded "many_bounded" = true) (k_many_bounded : PySem.W.keepIn K (.ref f_many_bounded) = true)
    (a_many_of_parts : PySem.W.nsIn K mainGlobals "many_of_parts" = some (some (.ref f_many_of_parts)))
    (l_many_of_parts : K.lookup f_many_of_parts = some ⟨oc_many_of_parts, od_many_of_parts, .func (PySem.W.fnOf "many_of_parts" "many_of_parts" (defArgs s_many_of_parts) (defBody s_many_of_parts) (defScope s_many_of_parts) .none kV_many_of_parts dc_many_of_parts pm_many_of_parts an_many_of_parts cd_many_of_parts ct_many_of_parts), sl_many_of_parts⟩)
    (e_many_of_parts : PySem.W.codeIn K cd_many_of_parts "many_of_parts" = true) (k_many_of_parts : PySem.W.keepIn K (.ref f_many_of_parts) = true)
    (a_count_of : PySem.W.nsIn K mainGlobals "count_of" = some (some (.ref f_count_of)))
    (l_count_of : K.lookup f_count_of = some ⟨oc_count_of, od_count_of, .func (PySem.W.fnOf "count_of" "count_of" (defArgs s_count_of) (defBody s_count_of) (defScope s_count_of) .none kV_count_of dc_count_of pm_count_of an_count_of cd_count_of ct_count_of), sl_count_of⟩)
    (e_count_of : PySem.W.codeIn K cd_count_of "count_of" = true) (k_count_of : PySem.W.keepIn K (.ref f_count_of) = true)
    (a_many_part_rows : PySem.W.nsIn K mainGlobals "many_part_rows" = some (some (.ref f_many_part_rows)))
    (l_many_part_rows : K.lookup f_many_part_rows = some ⟨oc_many_part_rows, od_many_part_rows, .func (PySem.W.fnOf "many_part_rows" "many_part_rows" (defArgs s_many_part_rows) (defBody s_many_part_rows) (defScope s_many_part_rows) .none kV_many_part_rows dc_many_part_rows pm_many_part_rows an_many_part_rows cd_many_part_rows ct_many_part_rows), sl_many_part_rows⟩)
    (e_many_part_rows : PySem.W.codeIn K cd_many_part_rows "many_part_rows" = true) (k_many_part_rows : PySem.W.keepIn K (.ref f_many_part_rows) = true)
    (a__law_total_right : PySem.W.nsIn K mainGlobals "_law_total_right" = some (some (.ref f__law_total_right)))
    (l__law_total_right : K.lookup f__law_total_right = some ⟨oc__law_total_right, od__law_total_right, .func (PySem.W.fnOf "_law_total_right" "_law_total_right" (defArgs s__law_total_right) (defBody s__law_total_right) (defScope s__law_total_right) .none kV__law_total_right dc__law_total_right pm__law_total_right an__law_total_right cd__law_total_right ct__law_total_right), sl__law_total_right⟩)
    (e__law_total_right : PySem.W.codeIn K cd__law_total_right "_law_total_right" = true) (k__law_total_right : PySem.W.keepIn K (.ref f__law_total_right) = true)
    (a_want_listed : PySem.W.nsIn K mainGlobals "want_listed" = some (some (.ref f_want_listed)))
    (l_want_listed : K.lookup f_want_listed = some ⟨oc_want_listed, od_want_listed, .func (PySem.W.fnOf "want_listed" "want_listed" (defArgs s_want_listed) (defBody s_want_listed) (defScope s_want_listed) .none kV_want_listed dc_want_listed pm_want_listed an_want_listed cd_want_listed ct_want_listed), sl_want_listed⟩)
    (e_want_listed : PySem.W.codeIn K cd_want_listed "want_listed" = true) (k_want_listed : PySem.W.keepIn K (.ref f_want_listed) = true)
    (a_rows_with : PySem.W.nsIn K mainGlobals "rows_with" = some (some (.ref f_rows_with)))
    (l_rows_with : K.lookup f_rows_with = some ⟨oc_rows_with, od_rows_with, .func (PySem.W.fnOf "rows_with" "rows_with" (defArgs s_rows_with) (defBody s_rows_with) (defScope s_rows_with) .none kV_rows_with dc_rows_with pm_rows_with an_rows_with cd_rows_with ct_rows_with), sl_rows_with⟩)
    (e_rows_with : PySem.W.codeIn K cd_rows_with "rows_with" = true) (k_rows_with : PySem.W.keepIn K (.ref f_rows_with) = true)
    (a_part_rows : PySem.W.nsIn K mainGlobals "part_rows" = some (some (.ref f_part_rows)))
    (l_part_rows : K.lookup f_part_rows = some ⟨oc_part_rows, od_part_rows, .func (PySem.W.fnOf "part_rows" "part_rows" (defArgs s_part_rows) (defBody s_part_rows) (defScope s_part_rows) .none kV_part_rows dc_part_rows pm_part_rows an_part_rows cd_part_rows ct_part_rows), sl_part_rows⟩)
    (e_part_rows : PySem.W.codeIn K cd_part_rows "part_rows" = true) (k_part_rows : PySem.W.keepIn K (.ref f_part_rows) = true)
    (a_unlike_table : PySem.W.nsIn K mainGlobals "unlike_table" = some (some (.ref f_unlike_table)))
    (l_unlike_table : K.lookup f_unlike_table = some ⟨oc_unlike_table, od_unlike_table, .func (PySem.W.fnOf "unlike_table" "unlike_table" (defArgs s_unlike_table) (defBody s_unlike_table) (defScope s_unlike_table) .none kV_unlike_table dc_unlike_table pm_unlike_table an_unlike_table cd_unlike_table ct_unlike_table), sl_unlike_table⟩)
    (e_unlike_table : PySem.W.codeIn K cd_unlike_table "unlike_table" = true) (k_unlike_table : PySem.W.keepIn K (.ref f_unlike_table) = true)
    (a_many_unlike : PySem.W.nsIn K mainGlobals "many_unlike" = some (some (.ref f_many_unlike)))
    (l_many_unlike : K.lookup f_many_unlike = some ⟨oc_many_unlike, od_many_unlike, .func (PySem.W.fnOf "many_unlike" "many_unlike" (defArgs s_many_unlike) (defBody s_many_unlike) (defScope s_many_unlike) .none kV_many_unlike dc_many_unlike pm_many_unlike an_many_unlike cd_many_unlike ct_many_unlike), sl_many_unlike⟩)
    (e_many_unlike : PySem.W.codeIn K cd_many_unlike "many_unlike" = true) (k_many_unlike : PySem.W.keepIn K (.ref f_many_unlike) = true)
    (a_is_list : PySem.W.nsIn K mainGlobals "is_list" = some (some (.ref f_is_list)))
    (l_is_list : K.lookup f_is_list = some ⟨oc_is_list, od_is_list, .func (PySem.W.fnOf "is_list" "is_list" (defArgs s_is_list) (defBody s_is_list) (defScope s_is_list) .none kV_is_list dc_is_list pm_is_list an_is_list cd_is_list ct_is_list), sl_is_list⟩)
    (e_is_list : PySem.W.codeIn K cd_is_list "is_list" = true) (k_is_list : PySem.W.keepIn K (.ref f_is_list) = true)
    (a_is_part_row_value : PySem.W.nsIn K mainGlobals "is_part_row_value" = some (some (.ref f_is_part_row_value)))
    (l_is_part_row_value : K.lookup f_is_part_row_value = some ⟨oc_is_part_row_value, od_is_part_row_value, .func (PySem.W.fnOf "is_part_row_value" "is_part_row_value" (defArgs s_is_part_row_value) (defBody s_is_part_row_value) (defScope s_is_part_row_value) .none kV_is_part_row_value dc_is_part_row_value pm_is_part_row_value an_is_part_row_value cd_is_part_row_value ct_is_part_row_value), sl_is_part_row_value⟩)
    (e_is_part_row_value : PySem.W.codeIn K cd_is_part_row_value "is_part_row_value" = true) (k_is_part_row_value : PySem.W.keepIn K (.ref f_is_part_row_value) = true)
    (a_want_part_row : PySem.W.nsIn K mainGlobals "want_part_row" = some (some (.ref f_want_part_row)))
    (l_want_part_row : K.lookup f_want_part_row = some ⟨oc_want_part_row, od_want_part_row, .func (PySem.W.fnOf "want_part_row" "want_part_row" (defArgs s_want_part_row) (defBody s_want_part_row) (defScope s_want_part_row) .none kV_want_part_row dc_want_part_row pm_want_part_row an_want_part_row cd_want_part_row ct_want_part_row), sl_want_part_row⟩)
    (e_want_part_row : PySem.W.codeIn K cd_want_part_row "want_part_row" = true) (k_want_part_row : PySem.W.keepIn K (.ref f_want_part_row) = true)
    (a_square_in : PySem.W.nsIn K mainGlobals "square_in" = some (some (.ref f_square_in)))
    (l_square_in : K.lookup f_square_in = some ⟨oc_square_in, od_square_in, .func (PySem.W.fnOf "square_in" "square_in" (defArgs s_square_in) (defBody s_square_in) (defScope s_square_in) .none kV_square_in dc_square_in pm_square_in an_square_in cd_square_in ct_square_in), sl_square_in⟩)
    (e_square_in : PySem.W.codeIn K cd_square_in "square_in" = true) (k_square_in : PySem.W.keepIn K (.ref f_square_in) = true)
    (a_square_of : PySem.W.nsIn K mainGlobals "square_of" = some (some (.ref f_square_of)))
    (l_square_of : K.lookup f_square_of = some ⟨oc_square_of, od_square_of, .func (PySem.W.fnOf "square_of" "square_of" (defArgs s_square_of) (defBody s_square_of) (defScope s_square_of) .none kV_square_of dc_square_of pm_square_of an_square_of cd_square_of ct_square_of), sl_square_of⟩)
    (e_square_of : PySem.W.codeIn K cd_square_of "square_of" = true) (k_square_of : PySem.W.keepIn K (.ref f_square_of) = true)
    (a__law_lists_right : PySem.W.nsIn K mainGlobals "_law_lists_right" = some (some (.ref f__law_lists_right)))
    (l__law_lists_right : K.lookup f__law_lists_right = some ⟨oc__law_lists_right, od__law_lists_right, .func (PySem.W.fnOf "_law_lists_right" "_law_lists_right" (defArgs s__law_lists_right) (defBody s__law_lists_right) (defScope s__law_lists_right) .none kV__law_lists_right dc__law_lists_right pm__law_lists_right an__law_lists_right cd__law_lists_right ct__law_lists_right), sl__law_lists_right⟩)
    (e__law_lists_right : PySem.W.codeIn K cd__law_lists_right "_law_lists_right" = true) (k__law_lists_right : PySem.W.keepIn K (.ref f__law_lists_right) = true)
    (a_unlike_with : PySem.W.nsIn K mainGlobals "unlike_with" = some (some (.ref f_unlike_with)))
    (l_unlike_with : K.lookup f_unlike_with = some ⟨oc_unlike_with, od_unlike_with, .func (PySem.W.fnOf "unlike_with" "unlike_with" (defArgs s_unlike_with) (defBody s_unlike_with) (defScope s_unlike_with) .none kV_unlike_with dc_unlike_with pm_unlike_with an_unlike_with cd_unlike_with ct_unlike_with), sl_unlike_with⟩)
    (e_unlike_with : PySem.W.codeIn K cd_unlike_with "unlike_with" = true) (k_unlike_with : PySem.W.keepIn K (.ref f_unlike_with) = true)
    (a_unlike_rows : PySem.W.nsIn K mainGlobals "unlike_rows" = some (some (.ref f_unlike_rows)))
    (l_unlike_rows : K.lookup f_unlike_rows = some ⟨oc_unlike_rows, od_unlike_rows, .func (PySem.W.fnOf "unlike_rows" "unlike_rows" (defArgs s_unlike_rows) (defBody s_unlike_rows) (defScope s_unlike_rows) .none kV_unlike_rows dc_unlike_rows pm_unlike_rows an_unlike_rows cd_unlike_rows ct_unlike_rows), sl_unlike_rows⟩)
    (e_unlike_rows : PySem.W.codeIn K cd_unlike_rows "unlike_rows" = true) (k_unlike_rows : PySem.W.keepIn K (.ref f_unlike_rows) = true)
    (a_turned_of : PySem.W.nsIn K mainGlobals "turned_of" = some (some (.ref f_turned_of)))
    (l_turned_of : K.lookup f_turned_of = some ⟨oc_turned_of, od_turned_of, .func (PySem.W.fnOf "turned_of" "turned_of" (defArgs s_turned_of) (defBody s_turned_of) (defScope s_turned_of) .none kV_turned_of dc_turned_of pm_turned_of an_turned_of cd_turned_of ct_turned_of), sl_turned_of⟩)
    (e_turned_of : PySem.W.codeIn K cd_turned_of "turned_of" = true) (k_turned_of : PySem.W.keepIn K (.ref f_turned_of) = true)
    (a_turned_parts : PySem.W.nsIn K mainGlobals "turned_parts" = some (some (.ref f_turned_parts)))
    (l_turned_parts : K.lookup f_turned_parts = some ⟨oc_turned_parts, od_turned_parts, .func (PySem.W.fnOf "turned_parts" "turned_parts" (defArgs s_turned_parts) (defBody s_turned_parts) (defScope s_turned_parts) .none kV_turned_parts dc_turned_parts pm_turned_parts an_turned_parts cd_turned_parts ct_turned_parts), sl_turned_parts⟩)
    (e_turned_parts : PySem.W.codeIn K cd_turned_parts "turned_parts" = true) (k_turned_parts : PySem.W.keepIn K (.ref f_turned_parts) = true)
    (a__law_unlike_right : PySem.W.nsIn K mainGlobals "_law_unlike_right" = some (some (.ref f__law_unlike_right)))
    (l__law_unlike_right : K.lookup f__law_unlike_right = some ⟨oc__law_unlike_right, od__law_unlike_right, .func (PySem.W.fnOf "_law_unlike_right" "_law_unlike_right" (defArgs s__law_unlike_right) (defBody s__law_unlike_right) (defScope s__law_unlike_right) .none kV__law_unlike_right dc__law_unlike_right pm__law_unlike_right an__law_unlike_right cd__law_unlike_right ct__law_unlike_right), sl__law_unlike_right⟩)
    (e__law_unlike_right : PySem.W.codeIn K cd__law_unlike_right "_law_unlike_right" = true) (k__law_unlike_right : PySem.W.keepIn K (.ref f__law_unlike_right) = true)
    (a_law : PySem.W.nsIn K mainGlobals "law" = some (some (.ref f_law)))
    (l_law : K.lookup f_law = some ⟨oc_law, od_law, .func (PySem.W.fnOf "law" "law" (defArgs s_law) (defBody s_law) (defScope s_law) .none kV_law dc_law pm_law an_law cd_law ct_law), sl_law⟩)
    (e_law : PySem.W.codeIn K cd_law "law" = true) (k_law : PySem.W.keepIn K (.ref f_law) = true)
    (z_abs : PySem.W.nsIn K mainGlobals "abs" = some none)
    (z_all : PySem.W.nsIn K mainGlobals "all" = some none)
    (z_bool : PySem.W.nsIn K mainGlobals "bool" = some none)
    (z_divmod : PySem.W.nsIn K mainGlobals "divmod" = some none)
    (z_enumerate : PySem.W.nsIn K mainGlobals "enumerate" = some none)
    (z_int : PySem.W.nsIn K mainGlobals "int" = some none)
    (z_isinstance : PySem.W.nsIn K mainGlobals "isinstance" = some none)
    (z_len : PySem.W.nsIn K mainGlobals "len" = some none)
    (z_list : PySem.W.nsIn K mainGlobals "list" = some none)
    (z_max : PySem.W.nsIn K mainGlobals "max" = some none)
    (z_min : PySem.W.nsIn K mainGlobals "min" = some none)
    (z_range : PySem.W.nsIn K mainGlobals "range" = some none)
    (z_set : PySem.W.nsIn K mainGlobals "set" = some none)
    (z_sorted : PySem.W.nsIn K mainGlobals "sorted" = some none)
    (z_str : PySem.W.nsIn K mainGlobals "str" = some none)
    (z_sum : PySem.W.nsIn K mainGlobals "sum" = some none)
    (z_tuple : PySem.W.nsIn K mainGlobals "tuple" = some none)
    (z_zip : PySem.W.nsIn K mainGlobals "zip" = some none)
    {t_MOST_LISTED : Tok} (c_MOST_LISTED : PySem.W.nsIn K mainGlobals "MOST_LISTED" = some (some (.int 2000 t_MOST_LISTED)))
    {t_MOST_TOTAL : Tok} (c_MOST_TOTAL : PySem.W.nsIn K mainGlobals "MOST_TOTAL" = some (some (.int 200 t_MOST_TOTAL)))
    : ∃ fd : FuncData, (∀ (s : Shared) (v : Value), BindsTo s fd ⟨[v], []⟩ [("script", v)]) ∧ ∀ base : Heap, K.In base → base.Ns mainGlobals mg → FnG l.prog w K mg base CX0 7 fa fd ["script"] (spF K 1 den_law) := by
  have e := hfa.symm.trans (PySem.W.mg_of X G a_law)
  cases e
  have F__law_pot := fun_mk (st := s__law_pot) l__law_pot e__law_pot k__law_pot
  have b__law_pot := F__law_pot.binds (ps := ["script", "k"]) fun _ _ _ _ _ _ us hl => match us, hl with | [_, _], _ => rfl
  have F__law_draw := fun_mk (st := s__law_draw) l__law_draw e__law_draw k__law_draw
  have b__law_draw := F__law_draw.binds (ps := ["pot", "sides"]) fun _ _ _ _ _ _ us hl => match us, hl with | [_, _], _ => rfl
  have F__law_is := fun_mk (st := s__law_is) l__law_is e__law_is k__law_is
  have b__law_is := F__law_is.binds (ps := ["told", "due"]) fun _ _ _ _ _ _ us hl => match us, hl with | [_, _], _ => rfl
  have F_is_integer := fun_mk (st := s_is_integer) l_is_integer e_is_integer k_is_integer
  have b_is_integer := F_is_integer.binds (ps := ["value"]) fun _ _ _ _ _ _ us hl => match us, hl with | [_], _ => rfl
  have F_is_within := fun_mk (st := s_is_within) l_is_within e_is_within k_is_within
  have b_is_within := F_is_within.binds (ps := ["value", "least", "most"]) fun _ _ _ _ _ _ us hl => match us, hl with | [_, _, _], _ => rfl
  have F_want_total := fun_mk (st := s_want_total) l_want_total e_want_total k_want_total
  have b_want_total := F_want_total.binds (ps := ["total"]) fun _ _ _ _ _ _ us hl => match us, hl with | [_], _ => rfl
  have F_want_bound := fun_mk (st := s_want_bound) l_want_bound e_want_bound k_want_bound
  have b_want_bound := F_want_bound.binds (ps := ["bound"]) fun _ _ _ _ _ _ us hl => match us, hl with | [_], _ => rfl
  have F_bounded_table := fun_mk (st := s_bounded_table) l_bounded_table e_bounded_table k_bounded_table
  have b_bounded_table := F_bounded_table.binds (ps := ["total"]) fun _ _ _ _ _ _ us hl => match us, hl with | [_], _ => rfl
  have F_many_bounded := fun_mk (st := s_many_bounded) l_many_bounded e_many_bounded k_many_bounded
  have b_many_bounded := F_many_bounded.binds (ps := ["total", "most"]) fun _ _ _ _ _ _ us hl => match us, hl with | [_, _], _ => rfl
  have F_many_of_parts := fun_mk (st := s_many_of_parts) l_many_of_parts e_many_of_parts k_many_of_parts
  have b_many_of_parts := F_many_of_parts.binds (ps := ["total", "parts"]) fun _ _ _ _ _ _ us hl => match us, hl with | [_, _], _ => rfl
  have F_count_of := fun_mk (st := s_count_of) l_count_of e_count_of k_count_of
  have b_count_of := F_count_of.binds (ps := ["total"]) fun _ _ _ _ _ _ us hl => match us, hl with | [_], _ => rfl
  have F_many_part_rows := fun_mk (st := s_many_part_rows) l_many_part_rows e_many_part_rows k_many_part_rows
  have b_many_part_rows := F_many_part_rows.binds (ps := ["total"]) fun _ _ _ _ _ _ us hl => match us, hl with | [_], _ => rfl
  have F__law_total_right := fun_mk (st := s__law_total_right) l__law_total_right e__law_total_right k__law_total_right
  have b__law_total_right := F__law_total_right.binds (ps := ["pot"]) fun _ _ _ _ _ _ us hl => match us, hl with | [_], _ => rfl
  have F_want_listed := fun_mk (st := s_want_listed) l_want_listed e_want_listed k_want_listed
  have b_want_listed := F_want_listed.binds (ps := ["count", "what"]) fun _ _ _ _ _ _ us hl => match us, hl with | [_, _], _ => rfl
  have F_rows_with := fun_mk (st := s_rows_with) l_rows_with e_rows_with k_rows_with
  have b_rows_with := F_rows_with.binds (ps := ["total"]) fun _ _ _ _ _ _ us hl => match us, hl with | [_], _ => rfl
  have F_part_rows := fun_mk (st := s_part_rows) l_part_rows e_part_rows k_part_rows
  have b_part_rows := F_part_rows.binds (ps := ["total"]) fun _ _ _ _ _ _ us hl => match us, hl with | [_], _ => rfl
  have F_unlike_table := fun_mk (st := s_unlike_table) l_unlike_table e_unlike_table k_unlike_table
  have b_unlike_table := F_unlike_table.binds (ps := ["total"]) fun _ _ _ _ _ _ us hl => match us, hl with | [_], _ => rfl
  have F_many_unlike := fun_mk (st := s_many_unlike) l_many_unlike e_many_unlike k_many_unlike
  have b_many_unlike := F_many_unlike.binds (ps := ["total"]) fun _ _ _ _ _ _ us hl => match us, hl with | [_], _ => rfl
  have F_is_list := fun_mk (st := s_is_list) l_is_list e_is_list k_is_list
  have b_is_list := F_is_list.binds (ps := ["value"]) fun _ _ _ _ _ _ us hl => match us, hl with | [_], _ => rfl
  have F_is_part_row_value := fun_mk (st := s_is_part_row_value) l_is_part_row_value e_is_part_row_value k_is_part_row_value
  have b_is_part_row_value := F_is_part_row_value.binds (ps := ["value"]) fun _ _ _ _ _ _ us hl => match us, hl with | [_], _ => rfl
  have F_want_part_row := fun_mk (st := s_want_part_row) l_want_part_row e_want_part_row k_want_part_row
  have b_want_part_row := F_want_part_row.binds (ps := ["row"]) fun _ _ _ _ _ _ us hl => match us, hl with | [_], _ => rfl
  have F_square_in := fun_mk (st := s_square_in) l_square_in e_square_in k_square_in
  have b_square_in := F_square_in.binds (ps := ["row"]) fun _ _ _ _ _ _ us hl => match us, hl with | [_], _ => rfl
  have F_square_of := fun_mk (st := s_square_of) l_square_of e_square_of k_square_of
  have b_square_of := F_square_of.binds (ps := ["row"]) fun _ _ _ _ _ _ us hl => match us, hl with | [_], _ => rfl
  have F__law_lists_right := fun_mk (st := s__law_lists_right) l__law_lists_right e__law_lists_right k__law_lists_right
  have b__law_lists_right := F__law_lists_right.binds (ps := ["pot"]) fun _ _ _ _ _ _ us hl => match us, hl with | [_], _ => rfl
  have F_unlike_with := fun_mk (st := s_unlike_with) l_unlike_with e_unlike_with k_unlike_with
  have b_unlike_with := F_unlike_with.binds (ps := ["total"]) fun _ _ _ _ _ _ us hl => match us, hl with | [_], _ => rfl
  have F_unlike_rows := fun_mk (st := s_unlike_rows) l_unlike_rows e_unlike_rows k_unlike_rows
  have b_unlike_rows := F_unlike_rows.binds (ps := ["total"]) fun _ _ _ _ _ _ us hl => match us, hl with | [_], _ => rfl
  have F_turned_of := fun_mk (st := s_turned_of) l_turned_of e_turned_of k_turned_of
  have b_turned_of := F_turned_of.binds (ps := ["row"]) fun _ _ _ _ _ _ us hl => match us, hl with | [_], _ => rfl
  have F_turned_parts := fun_mk (st := s_turned_parts) l_turned_parts e_turned_parts k_turned_parts
  have b_turned_parts := F_turned_parts.binds (ps := ["row"]) fun _ _ _ _ _ _ us hl => match us, hl with | [_], _ => rfl
  have F__law_unlike_right := fun_mk (st := s__law_unlike_right) l__law_unlike_right e__law_unlike_right k__law_unlike_right
  have b__law_unlike_right := F__law_unlike_right.binds (ps := ["pot"]) fun _ _ _ _ _ _ us hl => match us, hl with | [_], _ => rfl
  have F_law := fun_mk (st := s_law) l_law e_law k_law
  have b_law := F_law.binds (ps := ["script"]) fun _ _ _ _ _ _ us hl => match us, hl with | [_], _ => rfl
  let T : Top K mg := {
    f__law_pot := _, d__law_pot := _, F__law_pot := F__law_pot, m__law_pot := PySem.W.mg_of X G a__law_pot, b__law_pot := b__law_pot
    f__law_draw := _, d__law_draw := _, F__law_draw := F__law_draw, m__law_draw := PySem.W.mg_of X G a__law_draw, b__law_draw := b__law_draw
    f__law_is := _, d__law_is := _, F__law_is := F__law_is, m__law_is := PySem.W.mg_of X G a__law_is, b__law_is := b__law_is
    f_is_integer := _, d_is_integer := _, F_is_integer := F_is_integer, m_is_integer := PySem.W.mg_of X G a_is_integer, b_is_integer := b_is_integer
    f_is_within := _, d_is_within := _, F_is_within := F_is_within, m_is_within := PySem.W.mg_of X G a_is_within, b_is_within := b_is_within
    f_want_total := _, d_want_total := _, F_want_total := F_want_total, m_want_total := PySem.W.mg_of X G a_want_total, b_want_total := b_want_total
    f_want_bound := _, d_want_bound := _, F_want_bound := F_want_bound, m_want_bound := PySem.W.mg_of X G a_want_bound, b_want_bound := b_want_bound
    f_bounded_table := _, d_bounded_table := _, F_bounded_table := F_bounded_table, m_bounded_table := PySem.W.mg_of X G a_bounded_table, b_bounded_table := b_bounded_table
    f_many_bounded := _, d_many_bounded := _, F_many_bounded := F_many_bounded, m_many_bounded := PySem.W.mg_of X G a_many_bounded, b_many_bounded := b_many_bounded
    f_many_of_parts := _, d_many_of_parts := _, F_many_of_parts := F_many_of_parts, m_many_of_parts := PySem.W.mg_of X G a_many_of_parts, b_many_of_parts := b_many_of_parts
    f_count_of := _, d_count_of := _, F_count_of := F_count_of, m_count_of := PySem.W.mg_of X G a_count_of, b_count_of := b_count_of
    f_many_part_rows := _, d_many_part_rows := _, F_many_part_rows := F_many_part_rows, m_many_part_rows := PySem.W.mg_of X G a_many_part_rows, b_many_part_rows := b_many_part_rows
    f__law_total_right := _, d__law_total_right := _, F__law_total_right := F__law_total_right, m__law_total_right := PySem.W.mg_of X G a__law_total_right, b__law_total_right := b__law_total_right
    f_want_listed := _, d_want_listed := _, F_want_listed := F_want_listed, m_want_listed := PySem.W.mg_of X G a_want_listed, b_want_listed := b_want_listed
    f_rows_with := _, d_rows_with := _, F_rows_with := F_rows_with, m_rows_with := PySem.W.mg_of X G a_rows_with, b_rows_with := b_rows_with
    f_part_rows := _, d_part_rows := _, F_part_rows := F_part_rows, m_part_rows := PySem.W.mg_of X G a_part_rows, b_part_rows := b_part_rows
    f_unlike_table := _, d_unlike_table := _, F_unlike_table := F_unlike_table, m_unlike_table := PySem.W.mg_of X G a_unlike_table, b_unlike_table := b_unlike_table
    f_many_unlike := _, d_many_unlike := _, F_many_unlike := F_many_unlike, m_many_unlike := PySem.W.mg_of X G a_many_unlike, b_many_unlike := b_many_unlike
    f_is_list := _, d_is_list := _, F_is_list := F_is_list, m_is_list := PySem.W.mg_of X G a_is_list, b_is_list := b_is_list
    f_is_part_row_value := _, d_is_part_row_value := _, F_is_part_row_value := F_is_part_row_value, m_is_part_row_value := PySem.W.mg_of X G a_is_part_row_value, b_is_part_row_value := b_is_part_row_value
    f_want_part_row := _, d_want_part_row := _, F_want_part_row := F_want_part_row, m_want_part_row := PySem.W.mg_of X G a_want_part_row, b_want_part_row := b_want_part_row
    f_square_in := _, d_square_in := _, F_square_in := F_square_in, m_square_in := PySem.W.mg_of X G a_square_in, b_square_in := b_square_in
    f_square_of := _, d_square_of := _, F_square_of := F_square_of, m_square_of := PySem.W.mg_of X G a_square_of, b_square_of := b_square_of
    f__law_lists_right := _, d__law_lists_right := _, F__law_lists_right := F__law_lists_right, m__law_lists_right := PySem.W.mg_of X G a__law_lists_right, b__law_lists_right := b__law_lists_right
    f_unlike_with := _, d_unlike_with := _, F_unlike_with := F_unlike_with, m_unlike_with := PySem.W.mg_of X G a_unlike_with, b_unlike_with := b_unlike_with
    f_unlike_rows := _, d_unlike_rows := _, F_unlike_rows := F_unlike_rows, m_unlike_rows := PySem.W.mg_of X G a_unlike_rows, b_unlike_rows := b_unlike_rows
    f_turned_of := _, d_turned_of := _, F_turned_of := F_turned_of, m_turned_of := PySem.W.mg_of X G a_turned_of, b_turned_of := b_turned_of
    f_turned_parts := _, d_turned_parts := _, F_turned_parts := F_turned_parts, m_turned_parts := PySem.W.mg_of X G a_turned_parts, b_turned_parts := b_turned_parts
    f__law_unlike_right := _, d__law_unlike_right := _, F__law_unlike_right := F__law_unlike_right, m__law_unlike_right := PySem.W.mg_of X G a__law_unlike_right, b__law_unlike_right := b__law_unlike_right
    f_law := _, d_law := _, F_law := F_law, m_law := PySem.W.mg_of X G a_law, b_law := b_law
    z_abs := PySem.W.mg_none_of X G z_abs
    z_all := PySem.W.mg_none_of X G z_all
    z_bool := PySem.W.mg_none_of X G z_bool
    z_divmod := PySem.W.mg_none_of X G z_divmod
    z_enumerate := PySem.W.mg_none_of X G z_enumerate
    z_int := PySem.W.mg_none_of X G z_int
    z_isinstance := PySem.W.mg_none_of X G z_isinstance
    z_len := PySem.W.mg_none_of X G z_len
    z_list := PySem.W.mg_none_of X G z_list
    z_max := PySem.W.mg_none_of X G z_max
    z_min := PySem.W.mg_none_of X G z_min
    z_range := PySem.W.mg_none_of X G z_range
    z_set := PySem.W.mg_none_of X G z_set
    z_sorted := PySem.W.mg_none_of X G z_sorted
    z_str := PySem.W.mg_none_of X G z_str
    z_sum := PySem.W.mg_none_of X G z_sum
    z_tuple := PySem.W.mg_none_of X G z_tuple
    z_zip := PySem.W.mg_none_of X G z_zip
    t_MOST_LISTED := t_MOST_LISTED, c_MOST_LISTED := PySem.W.mg_of X G c_MOST_LISTED
    t_MOST_TOTAL := t_MOST_TOTAL, c_MOST_TOTAL := PySem.W.mg_of X G c_MOST_TOTAL
  }
  exact ⟨_, fun s v => .of_eq rfl, fun base _ _ => ok_law T⟩
end
end DL

namespace DL
open PySem PySem.Spec PyProof.Rows L2
/-- the pot: what is left of the cell, the rolling number -/
def IsPot (p : Vl) : Prop := ∃ a b : Int, p = .ow [.int a, .int b] ∧ 0 ≤ a ∧ 0 ≤ b ∧ b < 2147483648
theorem draw_ok {p : Vl} {n : Int} (hp : IsPot p) (hn : 0 < n) (hn2 : n < 115792089237316195423570985008687907853269984665640564039457584007913129639936) : ∃ d p', den__law_draw [some p, some (.fz (.int n))] = some (.fz (.int d), [some p', none]) ∧ 0 ≤ d ∧ d < n ∧ IsPot p' := by
  obtain ⟨a, b, rfl, ha, hb, hb2⟩ := hp
  by_cases h : 0 < a
  · refine ⟨a % n, .ow [.int (a / n), .int b], ?_, Int.emod_nonneg _ (by omega), Int.emod_lt_of_pos _ hn, _, _, rfl, Int.ediv_nonneg ha (by omega), hb, hb2⟩
    have h2 : divOk a n = true := divOk_of hn hn2
    simp [den__law_draw, h, h2, maskR_2]
  · have hb' := Int.emod_lt_of_pos (b * 40709 + 8623) (by decide : (0 : Int) < 2147483587)
    have hb0 := Int.emod_nonneg (b * 40709 + 8623) (by decide : (2147483587 : Int) ≠ 0)
    have h1 : mulOk b 40709 = true := mulOk_r (by decide) (by decide)
    have h2 : ∀ c, mulOk ((b * 40709 + 8623) % 2147483587) c = true := fun c => mulOk_l (by omega) (by omega)
    have h3 : ∀ c, divOk c 23 = true := fun c => divOk_of (by decide) (by decide)
    have e : den__law_draw [some (.ow [.int a, .int b]), some (.fz (.int n))] = some (.fz (.int ((b * 40709 + 8623) % 2147483587 * ((b * 40709 + 8623) % 2147483587) % 2147483629 / 23 % n)), [some (.ow [.int a, .int ((b * 40709 + 8623) % 2147483587)]), none]) := by
      simp [den__law_draw, h, h1, h2, h3, hn, maskR_2]
    exact ⟨_, _, e, Int.emod_nonneg _ (by omega), Int.emod_lt_of_pos _ hn, _, _, rfl, ha, hb0, by omega⟩
theorem pot_ok (ns : List Int) (k : Int) (hk : 0 ≤ k) (hk2 : k < 1000) : ∃ p, den__law_pot [some (.lk (ns.map .int)), some (.fz (.int k))] = some (p, [none, none]) ∧ IsPot p := by
  have go : ∀ c : Int, IsPot (.ow [.int (if 0 < c - 1000000000000000000 then c - 1000000000000000000 else 0), .int ((c % 2147483549 * 40507 + 8623 * k + 157) % 2147483563 + 1)]) := fun c => by
    refine ⟨_, _, rfl, ?_, ?_, ?_⟩
    · split <;> omega
    · omega
    · omega
  have h1 : ∀ c : Int, mulOk (c % 2147483549) 40507 = true := fun c => mulOk_r (by decide) (by decide)
  have h2 : mulOk 8623 k = true := mulOk_l (by decide) (by decide)
  have h3 : mulOk 311 k = true := mulOk_l (by decide) (by decide)
  have hp18 : powOk 10 18 = true := powOk_of (by decide) (by decide) (by decide) (by decide)
  by_cases h : k < ns.length
  · obtain ⟨j, rfl⟩ := Int.eq_ofNat_of_zero_le hk
    have hj : (ns.map PyData.int)[j]? = some (.int ns[j]) := by rw [List.getElem?_map, List.getElem?_eq_getElem (by omega)]; rfl
    refine ⟨_, ?_, go (if ns[j] < 0 then -ns[j] else ns[j])⟩
    simp [den__law_pot, h, h1, h2, h3, hp18, ixL_nat hj, maskR_2]
  · have hs : ((ns.map PyData.int).take 1) = (ns.take 1).map .int := List.map_take.symm
    refine ⟨_, ?_, go (311 * k + 227 + (if (ns.take 1).sum < 0 then -(ns.take 1).sum else (ns.take 1).sum) % 1000003)⟩
    have e1 : cutD (ns.map PyData.int) none (some 1) = (ns.map PyData.int).take 1 := cutD_head 1
    simp [den__law_pot, h, h1, h2, h3, hp18, e1, maskR_2]
/-! what the package does with rows of numbers -/
theorem isint_ok (i : Int) : den_is_integer [some (.fz (.int i))] = some (.fz (.bool true), [none]) := by
  simp [den_is_integer, maskR_1, tyC, isC]
theorem within_ok {i lo hi : Int} (h : lo ≤ i) (h2 : i ≤ hi) : den_is_within [some (.fz (.int i)), some (.fz (.int lo)), some (.fz (.int hi))] = some (.fz (.bool true), [none, none, none]) := by
  have h1 := isint_ok i
  simp [den_is_within, h1, h, h2, maskR_3]
noncomputable section
theorem vec_tab {n : Nat} {f : Nat → Int} : (vec n f).map PyData.int = (List.range n).map fun j => .int (f j) := by unfold vec; rw [List.map_map]; rfl
theorem enum_tab (xs : List Int) : enumD 0 (xs.map .int) = (List.range xs.length).map fun j : Nat => .tuple [.int (j : Int), .int (xat xs j)] := by
  rw [enum_ints]
  refine List.map_congr_left fun b _ => ?_
  rw [Nat.zero_add]
end
end DL

namespace DL
open PySem PySem.Spec PyProof.Rows L2
noncomputable section
theorem seq_nx {s t : DS} {ρ ρ1 : Rho} (h : s ρ = some (.nx ρ1)) : seqS s t ρ = t ρ1 := by rw [ap_seqS, h]; rfl
theorem fn_body {n N : Nat} {fx : List Nat} {s : DS} {ρ ρ' : Rho} {r : D} (h : ρ.length = n) (hb : s (ρ ++ List.replicate (N - n) none) = some (.rt (.fz r) ρ')) : fnE n fx N s ρ = some (.fz r, maskR fx n ρ') := by
  rw [ap_fnE, if_pos h, hb]
  rfl
theorem frz_id {i : Nat} {s : DS} {ρ : Rho} {d : D} (h : ρ[i]? = some (some (.fz d))) : frzS i s ρ = s ρ := by
  rw [ap_frzS, h, frzK_fz]
theorem wtotal {n : Nat} (h : n ≤ 200) : den_want_total [some (.fz (.int (n : Int)))] = some (.fz .none, [none]) := by
  have h1 := within_ok (i := (n : Int)) (lo := 0) (hi := 200) (by omega) (by omega)
  simp [den_want_total, h1, maskR_1]
theorem wbound {n : Nat} (h : n ≤ 200) : den_want_bound [some (.fz (.int (n : Int)))] = some (.fz .none, [none]) := by
  have h1 := within_ok (i := (n : Int)) (lo := 0) (hi := 200) (by omega) (by omega)
  simp [den_want_bound, h1, maskR_1]
/-- a row of the table, so far told -/
def BV (t p i : Nat) : List Int := vec (t + 1) fun j => ((if j < p + 1 + i then bt (p + 1) j else bt p j : Nat) : Int)
def BW (t p : Nat) : List Int := vec (t + 1) fun j => ((bt p j : Nat) : Int)
theorem BV_0 (t p : Nat) : BV t p 0 = BW t p := vec_congr fun j _ => by
  by_cases h : j < p + 1 + 0
  · rw [if_pos h, bt_lt (by omega)]
  · rw [if_neg h]
theorem BV_end {t p : Nat} : BV t p (t - p) = BW t (p + 1) := vec_congr fun j hj => by
  by_cases h : j < p + 1 + (t - p)
  · rw [if_pos h]
  · omega
theorem BV_ix {t p i j : Nat} (h : j ≤ t) : ixL ((BV t p i).map PyData.int) (j : Int) = some (.fz (.int ((if j < p + 1 + i then bt (p + 1) j else bt p j : Nat) : Int))) := ixL_nat (vec_at (by omega))
theorem BW_ix {t p j : Nat} (h : j ≤ t) : ixL ((BW t p).map PyData.int) (j : Int) = some (.fz (.int ((bt p j : Nat) : Int))) := ixL_nat (vec_at (by omega))
theorem BV_set {t p i : Nat} (h : p + 1 + i ≤ t) : ((BV t p i).map PyData.int).set (p + 1 + i) (.int ((bt (p + 1) (p + 1 + i) : Nat) : Int)) = (BV t p (i + 1)).map .int := by
  unfold BV
  rw [vec_set]
  congr 1
  refine vec_congr fun j hj => ?_
  by_cases q : j = p + 1 + i
  · subst q; rw [if_pos rfl, if_pos (by omega)]
  · rw [if_neg q]
    by_cases r : j < p + 1 + i
    · rw [if_pos r, if_pos (by omega)]
    · rw [if_neg r, if_neg (by omega)]
theorem BW_0 {t : Nat} (h : t ≤ 200) (ρ : Rho) : mulF ρ [.ow [.int 0], .fz (.int (t : Int))] = some (.ow (List.replicate t (.int 0))) := by
  rw [mulF_ow, repL1 (by omega) (by omega), Int.toNat_natCast]
theorem BW_cat {t : Nat} (h : t ≤ 200) : catL [.int 1] (List.replicate t (.int 0)) = some (.ow ((BW t 0).map .int)) := by
  rw [catL_ok (by rw [List.length_replicate]; show 1 + _ ≤ _; omega)]
  have e : (BW t 0).map PyData.int = .int 1 :: List.replicate t (.int 0) := by
    unfold BW vec
    rw [List.map_map, List.range_succ_eq_map, List.map_cons, List.map_map]
    congr 1
    refine List.ext_getElem (by rw [List.length_map, List.length_range, List.length_replicate]) fun i h1 h2 => ?_
    rw [List.getElem_map, List.getElem_replicate]
    rfl
  rw [e]
  rfl
section
variable {s0 s1 s2 s3 s4 : Option Vl} {t p : Nat}
theorem t_in (ht : t ≤ 200) (hp : p + 1 ≤ t) : ∃ y, fo_bounded_table_3 [some (.fz (.int (t : Int))), s1, some (.fz (.int ((p + 1 : Nat) : Int))), some (.ow ((BW t p).map .int)), s4] = some (.nx [some (.fz (.int (t : Int))), s1, some (.fz (.int ((p + 1 : Nat) : Int))), some (.ow ((BW t (p + 1)).map .int)), y]) := by
  have loop := forL_inv (P := fun i ρ => ∃ y, ρ = [some (.fz (.int (t : Int))), s1, some (.fz (.int ((p + 1 : Nat) : Int))), some (.ow ((BV t p i).map .int)), y]) (st := nameF 4) (s := fb_bounded_table_1) (rngD ((p + 1 : Nat) : Int) (t - p)) 0 [some (.fz (.int (t : Int))), s1, some (.fz (.int ((p + 1 : Nat) : Int))), some (.ow ((BW t p).map .int)), s4] ⟨s4, by rw [BV_0]⟩ ?_
  · obtain ⟨ρ1, e, y, rfl⟩ := loop
    rw [rngD_length, Nat.zero_add, BV_end] at e
    refine ⟨y, forS_of (ds := rngD ((p + 1 : Nat) : Int) (t - p)) (ρ1 := [some (.fz (.int (t : Int))), s1, some (.fz (.int ((p + 1 : Nat) : Int))), some (.ow ((BW t p).map .int)), s4]) ?_ e⟩
    have h1 := smallI_of (a := ((p + 1 : Nat) : Int)) (by omega) (by omega)
    have h2 := smallI_of (a := (t : Int) + 1) (by omega) (by omega)
    have h4 : ((t : Int) + 1 - ((p + 1 : Nat) : Int)).toNat = t - p := by omega
    generalize ((p + 1 : Nat) : Int) = P at *
    simp [fi_bounded_table_2, h1, h2, h4]
  · rintro i d ρ hd ⟨y, rfl⟩
    obtain ⟨hi, rfl⟩ := rngD_get hd
    rw [Nat.zero_add]
    have hj : ((p + 1 : Nat) : Int) + (i : Int) = ((p + 1 + i : Nat) : Int) := by omega
    have hs : ((p + 1 + i : Nat) : Int) - ((p + 1 : Nat) : Int) = ((i : Nat) : Int) := by omega
    rw [hj]
    have i1 := BV_ix (t := t) (p := p) (i := i) (j := p + 1 + i) (by omega)
    have i2 := BV_ix (t := t) (p := p) (i := i) (j := i) (by omega)
    rw [if_neg (by omega)] at i1
    rw [if_pos (by omega)] at i2
    have e : ((bt (p + 1) (p + 1 + i) : Nat) : Int) = ((bt p (p + 1 + i) : Nat) : Int) + ((bt (p + 1) i : Nat) : Int) := by
      rw [bt_s, if_pos (by omega), Int.natCast_add, Nat.add_sub_cancel_left]
    have sx : ixN ((BV t p i).map PyData.int).length ((p + 1 + i : Nat) : Int) = some (p + 1 + i) := ixN_nat (by rw [List.length_map]; show _ < (vec _ _).length; rw [vec_len]; omega)
    have st := BV_set (t := t) (p := p) (i := i) (by omega)
    rw [e] at st
    refine ⟨[some (.fz (.int (t : Int))), s1, some (.fz (.int ((p + 1 : Nat) : Int))), some (.ow ((BV t p (i + 1)).map .int)), some (.fz (.int ((p + 1 + i : Nat) : Int)))], .inl ?_, _, rfl⟩
    generalize (BV t p (i + 1)).map PyData.int = X2 at *
    generalize (BV t p i).map PyData.int = X1 at *
    generalize ((bt p (p + 1 + i) : Nat) : Int) = A at *
    generalize ((bt (p + 1) i : Nat) : Int) = B at *
    generalize ((p + 1 + i : Nat) : Int) = J at *
    generalize ((p + 1 : Nat) : Int) = P at *
    simp [fb_bounded_table_1, i1, i2, hs, sx, st]
end
/-- the table -/
def BT (t i : Nat) : List D := (List.range (i + 1)).map fun p => .list ((BW t p).map .int)
theorem BT_s (t i : Nat) : BT t (i + 1) = BT t i ++ [.list ((BW t (i + 1)).map .int)] := by unfold BT; rw [List.range_succ, List.map_append]; rfl
theorem BT_len (t i : Nat) : (BT t i).length = i + 1 := by unfold BT; rw [List.length_map, List.length_range]
theorem BT_last (t i : Nat) : ixL (BT t i) (-1) = some (.fz (.list ((BW t i).map .int))) := ixL_last (by unfold BT; rw [List.range_succ, List.map_append]; exact List.getLast?_concat)
theorem BT_ix {t i p : Nat} (h : p ≤ i) : ixL (BT t i) (p : Int) = some (.fz (.list ((BW t p).map .int))) := ixL_nat (by unfold BT; rw [List.getElem?_map, List.getElem?_range (by omega)]; rfl)
theorem table_ok {t : Nat} (ht : t ≤ 200) : den_bounded_table [some (.fz (.int (t : Int)))] = some (.ow (BT t t), [none]) := by
  have r := BW_0 ht
  have c := BW_cat ht
  have loop := forL_inv (P := fun p ρ => ∃ x y z, ρ = [some (.fz (.int (t : Int))), some (.ow (BT t p)), x, y, z]) (st := nameF 2) (s := fb_bounded_table_4) (rngD 1 t) 0 [some (.fz (.int (t : Int))), some (.ow (BT t 0)), none, none, none] ⟨none, none, none, rfl⟩ ?_
  · obtain ⟨ρ1, e, x, y, z, rfl⟩ := loop
    rw [rngD_length, Nat.zero_add] at e
    have e2 : fo_bounded_table_6 [some (.fz (.int (t : Int))), some (.ow (BT t 0)), none, none, none] = _ := forS_of (ds := rngD 1 t) (ρ1 := [some (.fz (.int (t : Int))), some (.ow (BT t 0)), none, none, none]) (by
      have h1 : smallI 1 = true := smallI_of (by decide) (by decide)
      have h2 := smallI_of (a := (t : Int) + 1) (by omega) (by omega)
      have h3 : ((t : Int) + 1 - 1).toNat = t := by omega
      simp [fi_bounded_table_5, h1, h2, h3]) e
    rw [show BT t 0 = [.list ((BW t 0).map .int)] from rfl] at e2
    generalize BT t t = B at *
    generalize (BW t 0).map PyData.int = W at *
    generalize List.replicate t (PyData.int 0) = Z at *
    simp [den_bounded_table, r, c, e2, maskR_1]
  · rintro p d ρ hd ⟨x, y, z, rfl⟩
    obtain ⟨hp, rfl⟩ := rngD_get hd
    rw [Nat.zero_add, show (1 : Int) + (p : Int) = ((p + 1 : Nat) : Int) by omega]
    obtain ⟨y2, w⟩ := t_in (s1 := some (.ow (BT t p))) (s4 := z) ht (by omega : p + 1 ≤ t)
    have la := BT_last t p
    have ap := appG_ok (ds := BT t p) (d := .list ((BW t (p + 1)).map .int)) (by rw [BT_len]; omega)
    rw [← BT_s] at ap
    refine ⟨[some (.fz (.int (t : Int))), some (.ow (BT t (p + 1))), some (.fz (.int ((p + 1 : Nat) : Int))), some (.fz (.list ((BW t (p + 1)).map .int))), y2], .inl ?_, _, _, _, rfl⟩
    generalize ((p + 1 : Nat) : Int) = P at *
    generalize BT t (p + 1) = B2 at *
    generalize BT t p = B at *
    generalize (BW t (p + 1)).map PyData.int = W2 at *
    generalize (BW t p).map PyData.int = W at *
    simp [fb_bounded_table_4, la, w, ap]
theorem bounded_ok {t m : Nat} (ht : t ≤ 200) (hm : m ≤ 200) : den_many_bounded [some (.fz (.int (t : Int))), some (.fz (.int (m : Int)))] = some (.fz (.int ((bt m t : Nat) : Int)), [none, none]) := by
  have w1 := wtotal ht
  have w2 := wbound hm
  have e := table_ok ht
  have mn : ∀ ρ, minF ρ [.fz (.int (t : Int)), .fz (.int (m : Int))] = some (.fz (.int ((min t m : Nat) : Int))) := fun ρ => by
    simp
    omega
  have i1 := BT_ix (t := t) (i := t) (p := min t m) (Nat.min_le_left _ _)
  have i2 := BW_ix (t := t) (p := min t m) (j := t) (Nat.le_refl _)
  rw [bt_min] at i2
  generalize ((bt m t : Nat) : Int) = V at *
  generalize (BW t (min t m)).map PyData.int = W at *
  generalize ((min t m : Nat) : Int) = M at *
  generalize BT t t = B at *
  simp [den_many_bounded, w1, w2, e, mn, i1, i2, maskR_2]
theorem count_ok {t : Nat} (ht : t ≤ 200) : den_count_of [some (.fz (.int (t : Int)))] = some (.fz (.int ((bt t t : Nat) : Int)), [none]) := by
  have e := table_ok ht
  have i1 := BT_ix (t := t) (i := t) (p := t) (Nat.le_refl _)
  have i2 := BW_ix (t := t) (p := t) (j := t) (Nat.le_refl _)
  generalize ((bt t t : Nat) : Int) = V at *
  generalize (BW t t).map PyData.int = W at *
  generalize BT t t = B at *
  simp [den_count_of, e, i1, i2, maskR_1]
theorem parts_ok {t : Nat} (ht : t ≤ 200) : den_many_part_rows [some (.fz (.int (t : Int)))] = some (.fz (.int ((bt t t : Nat) : Int)), [none]) := by
  have w := wtotal ht
  have e := count_ok ht
  generalize ((bt t t : Nat) : Int) = V at *
  simp [den_many_part_rows, w, e, maskR_1]
theorem ofparts_ok {t k : Nat} (ht : t ≤ 200) (hk : k ≤ 200) : den_many_of_parts [some (.fz (.int (t : Int))), some (.fz (.int (k : Int)))] = some (.fz (.int ((mop t k : Nat) : Int)), [none, none]) := by
  have w1 := wtotal ht
  have w2 := wbound hk
  by_cases h : t < k
  · have h1 : (t : Int) < (k : Int) := by omega
    have h2 : ¬ (k : Int) = (t : Int) := by omega
    have e : mop t k = 0 := by unfold mop; rw [if_neg (by omega), if_neg (by omega)]
    rw [e]
    have h3 : ¬ k = t := by omega
    simp [den_many_of_parts, w1, w2, h, h1, h2, h3, maskR_2]
  · by_cases h0 : k = 0
    · subst h0
      have e : mop t 0 = if t = 0 then 1 else 0 := by unfold mop; rw [if_pos rfl]
      rw [e]
      by_cases z : t = 0
      · subst z
        rw [show ((0 : Nat) : Int) = 0 from rfl] at *
        simp [den_many_of_parts, w1, w2, maskR_2]
      · have z1 : ¬ (0 : Int) = (t : Int) := by omega
        have z2 : ¬ 0 = t := by omega
        have z3 : ¬ (t : Int) < 0 := by omega
        rw [show ((0 : Nat) : Int) = 0 from rfl] at *
        rw [if_neg z]
        simp [den_many_of_parts, w1, w2, z1, z2, z3, maskR_2]
    · obtain ⟨j, rfl⟩ : ∃ j, k = j + 1 := ⟨k - 1, by omega⟩
      have h1 : ¬ (t : Int) < ((j + 1 : Nat) : Int) := by omega
      have h2 : ¬ ((j + 1 : Nat) : Int) = 0 := by omega
      have e := table_ok ht
      have i1 := BT_ix (t := t) (i := t) (p := j + 1) (by omega)
      have i2 := BW_ix (t := t) (p := j + 1) (j := t) (Nat.le_refl _)
      have i3 := BT_ix (t := t) (i := t) (p := j) (by omega)
      have i4 := BW_ix (t := t) (p := j) (j := t) (Nat.le_refl _)
      have sb : ((j + 1 : Nat) : Int) - 1 = (j : Int) := by omega
      have d : ((bt (j + 1) t : Nat) : Int) - ((bt j t : Nat) : Int) = ((mop t (j + 1) : Nat) : Int) := by
        have := mop_dif (n := t) (k := j) (by omega)
        omega
      generalize ((bt (j + 1) t : Nat) : Int) = V1 at *
      generalize ((bt j t : Nat) : Int) = V2 at *
      generalize ((mop t (j + 1) : Nat) : Int) = V3 at *
      generalize (BW t (j + 1)).map PyData.int = W1 at *
      generalize (BW t j).map PyData.int = W2 at *
      generalize BT t t = B at *
      generalize ((j + 1 : Nat) : Int) = J at *
      simp [den_many_of_parts, w1, w2, h1, h2, e, i1, i2, i3, i4, sb, d, maskR_2]
theorem is_int (a : Int) : den__law_is [some (.fz (.int a)), some (.fz (.int a))] = some (.fz (.bool true), [none, none]) := by
  have n1 : ∀ ρ, isF ρ [.fz (.int a), .fz .none] = some (.fz (.bool false)) := fun ρ => rfl
  simp [den__law_is, den__law_is_r4, n1, tyC, isC, maskR_2]
end
end DL

namespace DL
open PySem PySem.Spec PyProof.Rows L2
noncomputable section
section
variable {s0 s1 s2 s3 s4 s5 s6 s7 s8 s9 s10 : Option Vl} {t p m k f : Nat}
theorem u_in (ht : t ≤ 200) (hp : p + 1 ≤ t) : ∃ y, fo_law_total_right_3 [s0, some (.ow ((BW t p).map .int)), some (.fz (.int ((p + 1 : Nat) : Int))), s3, s4, s5, some (.fz (.int (t : Int))), s7, s8, s9, s10] = some (.nx [s0, some (.ow ((BW t (p + 1)).map .int)), some (.fz (.int ((p + 1 : Nat) : Int))), s3, s4, s5, some (.fz (.int (t : Int))), s7, s8, y, s10]) := by
  have loop := forL_inv (P := fun i ρ => ∃ y, ρ = [s0, some (.ow ((BV t p i).map .int)), some (.fz (.int ((p + 1 : Nat) : Int))), s3, s4, s5, some (.fz (.int (t : Int))), s7, s8, y, s10]) (st := nameF 9) (s := fb_law_total_right_1) (rngD ((p + 1 : Nat) : Int) (t - p)) 0 [s0, some (.ow ((BW t p).map .int)), some (.fz (.int ((p + 1 : Nat) : Int))), s3, s4, s5, some (.fz (.int (t : Int))), s7, s8, s9, s10] ⟨s9, by rw [BV_0]⟩ ?_
  · obtain ⟨ρ1, e, y, rfl⟩ := loop
    rw [rngD_length, Nat.zero_add, BV_end] at e
    refine ⟨y, forS_of (ds := rngD ((p + 1 : Nat) : Int) (t - p)) (ρ1 := [s0, some (.ow ((BW t p).map .int)), some (.fz (.int ((p + 1 : Nat) : Int))), s3, s4, s5, some (.fz (.int (t : Int))), s7, s8, s9, s10]) ?_ e⟩
    have h1 := smallI_of (a := ((p + 1 : Nat) : Int)) (by omega) (by omega)
    have h2 := smallI_of (a := (t : Int) + 1) (by omega) (by omega)
    have h4 : ((t : Int) + 1 - ((p + 1 : Nat) : Int)).toNat = t - p := by omega
    generalize ((p + 1 : Nat) : Int) = P at *
    simp [fi_law_total_right_2, h1, h2, h4]
  · rintro i d ρ hd ⟨y, rfl⟩
    obtain ⟨hi, rfl⟩ := rngD_get hd
    rw [Nat.zero_add]
    have hj : ((p + 1 : Nat) : Int) + (i : Int) = ((p + 1 + i : Nat) : Int) := by omega
    have hs : ((p + 1 + i : Nat) : Int) - ((p + 1 : Nat) : Int) = ((i : Nat) : Int) := by omega
    rw [hj]
    have i1 := BV_ix (t := t) (p := p) (i := i) (j := p + 1 + i) (by omega)
    have i2 := BV_ix (t := t) (p := p) (i := i) (j := i) (by omega)
    rw [if_neg (by omega)] at i1
    rw [if_pos (by omega)] at i2
    have e : ((bt (p + 1) (p + 1 + i) : Nat) : Int) = ((bt p (p + 1 + i) : Nat) : Int) + ((bt (p + 1) i : Nat) : Int) := by
      rw [bt_s, if_pos (by omega), Int.natCast_add, Nat.add_sub_cancel_left]
    have sx : ixN ((BV t p i).map PyData.int).length ((p + 1 + i : Nat) : Int) = some (p + 1 + i) := ixN_nat (by rw [List.length_map]; show _ < (vec _ _).length; rw [vec_len]; omega)
    have st := BV_set (t := t) (p := p) (i := i) (by omega)
    rw [e] at st
    refine ⟨[s0, some (.ow ((BV t p (i + 1)).map .int)), some (.fz (.int ((p + 1 : Nat) : Int))), s3, s4, s5, some (.fz (.int (t : Int))), s7, s8, some (.fz (.int ((p + 1 + i : Nat) : Int))), s10], .inl ?_, _, rfl⟩
    generalize (BV t p (i + 1)).map PyData.int = X2 at *
    generalize (BV t p i).map PyData.int = X1 at *
    generalize ((bt p (p + 1 + i) : Nat) : Int) = A at *
    generalize ((bt (p + 1) i : Nat) : Int) = B at *
    generalize ((p + 1 + i : Nat) : Int) = J at *
    generalize ((p + 1 : Nat) : Int) = P at *
    simp [fb_law_total_right_1, i1, i2, hs, sx, st]
theorem u_out (ht : t ≤ 200) (hm : m ≤ 200) : ∃ x y, fo_law_total_right_6 [s0, some (.ow ((BW t 0).map .int)), s2, s3, s4, s5, some (.fz (.int (t : Int))), s7, some (.fz (.int (m : Int))), s9, s10] = some (.nx [s0, some (.ow ((BW t (min t m)).map .int)), x, s3, s4, s5, some (.fz (.int (t : Int))), s7, some (.fz (.int (m : Int))), y, s10]) := by
  have loop := forL_inv (P := fun i ρ => ∃ x y, ρ = [s0, some (.ow ((BW t i).map .int)), x, s3, s4, s5, some (.fz (.int (t : Int))), s7, some (.fz (.int (m : Int))), y, s10]) (st := nameF 2) (s := fb_law_total_right_4) (rngD 1 (min t m)) 0 [s0, some (.ow ((BW t 0).map .int)), s2, s3, s4, s5, some (.fz (.int (t : Int))), s7, some (.fz (.int (m : Int))), s9, s10] ⟨s2, s9, rfl⟩ ?_
  · obtain ⟨ρ1, e, x, y, rfl⟩ := loop
    rw [rngD_length, Nat.zero_add] at e
    refine ⟨x, y, forS_of (ds := rngD 1 (min t m)) (ρ1 := [s0, some (.ow ((BW t 0).map .int)), s2, s3, s4, s5, some (.fz (.int (t : Int))), s7, some (.fz (.int (m : Int))), s9, s10]) ?_ e⟩
    have mn : ∀ ρ, minF ρ [.fz (.int (t : Int)), .fz (.int (m : Int))] = some (.fz (.int ((min t m : Nat) : Int))) := fun ρ => by
      simp
      omega
    have h1 : smallI 1 = true := smallI_of (by decide) (by decide)
    have h2 := smallI_of (a := ((min t m : Nat) : Int) + 1) (by omega) (by omega)
    have h3 : (((min t m : Nat) : Int)).toNat = min t m := by omega
    generalize ((min t m : Nat) : Int) = M at *
    generalize (BW t 0).map PyData.int = W at *
    simp [fi_law_total_right_5, mn, h1, h2, h3]
  · rintro i d ρ hd ⟨x, y, rfl⟩
    obtain ⟨hi, rfl⟩ := rngD_get hd
    rw [Nat.zero_add, show (1 : Int) + (i : Int) = ((i + 1 : Nat) : Int) by omega]
    obtain ⟨y2, w⟩ := u_in (s0 := s0) (s3 := s3) (s4 := s4) (s5 := s5) (s7 := s7) (s8 := some (.fz (.int (m : Int)))) (s9 := y) (s10 := s10) ht (show i + 1 ≤ t by omega)
    exact ⟨_, .inl w, _, _, rfl⟩
theorem u_9 (hf : f ≤ 200) : lc_law_total_right_9 [s0, s1, s2, s3, s4, some (.fz (.int (f : Int))), s6, s7, s8, s9, s10] = some (.ow ((vec (f + 1) fun j => ((mop f j : Nat) : Int)).map .int), [s0, s1, s2, s3, s4, some (.fz (.int (f : Int))), s6, s7, s8, s9, s10]) := by
  rw [show (vec (f + 1) fun j => ((mop f j : Nat) : Int)).map PyData.int = (List.range (f + 1)).map fun j => .int ((mop f j : Nat) : Int) by unfold vec; rw [List.map_map]; rfl]
  refine lcE_tab (n := f + 1) (F := fun j => .int (0 + (j : Int))) (G := fun j => .int ((mop f j : Nat) : Int)) (ρ1 := [s0, s1, s2, s3, s4, some (.fz (.int (f : Int))), s6, s7, s8, s9, s10]) ?_ (by omega) fun j hj => ⟨_, .fz (.int ((mop f j : Nat) : Int)), rfl, rfl, ?_, rfl, rfl⟩
  · rw [← rngD_tab]
    have h2 := smallI_of (a := (f : Int) + 1) (by omega) (by omega)
    have h3 : ((f : Int) + 1).toNat = f + 1 := by omega
    simp [li_law_total_right_7, h2, h3]
  · rw [Int.zero_add]
    have o := ofparts_ok (t := f) (k := j) hf (by omega)
    generalize ((mop f j : Nat) : Int) = A at *
    simp [le_law_total_right_8, o]
end
theorem sN_sm (f : Nat → Nat) : ∀ n, (sm n fun j => ((f j : Nat) : Int)) = ((sN' f n : Nat) : Int)
  | 0 => rfl
  | n + 1 => by rw [sm, sN_sm f n, sN', Int.natCast_add]
theorem total_right {p : Vl} (hp : IsPot p) : ∃ p', den__law_total_right [some p] = some (.fz (.bool true), [some p']) ∧ IsPot p' := by
  obtain ⟨q, rfl⟩ : ∃ q, p = .ow q := by obtain ⟨a, b, rfl, _⟩ := hp; exact ⟨_, rfl⟩
  obtain ⟨d0, p1, e1, g0, g1, hp1⟩ := draw_ok hp (n := 201) (by decide) (by decide)
  obtain ⟨t, rfl⟩ := Int.eq_ofNat_of_zero_le g0
  obtain ⟨q1, rfl⟩ : ∃ q, p1 = .ow q := by obtain ⟨a, b, rfl, _⟩ := hp1; exact ⟨_, rfl⟩
  obtain ⟨d1, p2, e2, f0, f1, hp2⟩ := draw_ok hp1 (n := 200) (by decide) (by decide)
  obtain ⟨k, hk⟩ : ∃ k : Nat, 1 + d1 = ((k + 1 : Nat) : Int) := ⟨d1.toNat, by omega⟩
  obtain ⟨q2, rfl⟩ : ∃ q, p2 = .ow q := by obtain ⟨a, b, rfl, _⟩ := hp2; exact ⟨_, rfl⟩
  obtain ⟨d2, p3, e3, h0, h1, hp3⟩ := draw_ok hp2 (n := 200) (by decide) (by decide)
  obtain ⟨m, hm⟩ : ∃ m : Nat, 1 + d2 = ((m + 1 : Nat) : Int) := ⟨d2.toNat, by omega⟩
  obtain ⟨q3, rfl⟩ : ∃ q, p3 = .ow q := by obtain ⟨a, b, rfl, _⟩ := hp3; exact ⟨_, rfl⟩
  refine ⟨.ow q3, ?_, hp3⟩
  have ht : t ≤ 200 := by omega
  have hk2 : k + 1 ≤ 200 := by omega
  have hm2 : m + 1 ≤ 200 := by omega
  have r := BW_0 ht
  have c := BW_cat ht
  obtain ⟨x, y, w⟩ := u_out (s0 := some (.ow q3)) (s2 := none) (s3 := none) (s4 := none) (s5 := none) (s7 := some (.fz (.int ((k + 1 : Nat) : Int)))) (s9 := none) (s10 := none) ht hm2
  have ix := BW_ix (t := t) (p := min t (m + 1)) (j := t) (Nat.le_refl _)
  rw [bt_min] at ix
  have b1 := bounded_ok ht hm2
  have b2 := bounded_ok ht (show m ≤ 200 by omega)
  have i1 := is_int ((bt (m + 1) t : Nat) : Int)
  -- with it
  obtain ⟨wi, hw1, hw2⟩ : ∃ wi : Int, asgS (ifE (bT (opE geI (consA (nmE 6) (consA (nmE 8) nilA)))) (callE [false, false] den_many_bounded (pickA [0, 1] (appA (lenA 0 nilA) (lenA 2 (consA (opE subI (consA (nmE 6) (consA (nmE 8) nilA))) (consA (nmE 8) (nilA))))))) (cE (.int 0))) (nameF 3) [some (.ow q3), some (.ow ((BW t (min t (m + 1))).map .int)), x, none, none, none, some (.fz (.int (t : Int))), some (.fz (.int ((k + 1 : Nat) : Int))), some (.fz (.int ((m + 1 : Nat) : Int))), y, none] = some (.nx [some (.ow q3), some (.ow ((BW t (min t (m + 1))).map .int)), x, some (.fz (.int wi)), none, none, some (.fz (.int (t : Int))), some (.fz (.int ((k + 1 : Nat) : Int))), some (.fz (.int ((m + 1 : Nat) : Int))), y, none]) ∧ ((bt (m + 1) t : Nat) : Int) = ((bt m t : Nat) : Int) + wi := by
    have s := bt_s m t
    by_cases h : m + 1 ≤ t
    · have bb := bounded_ok (t := t - (m + 1)) (m := m + 1) (by omega) hm2
      rw [if_pos h] at s
      refine ⟨((bt (m + 1) (t - (m + 1)) : Nat) : Int), ?_, by omega⟩
      have sb : (t : Int) - ((m + 1 : Nat) : Int) = ((t - (m + 1) : Nat) : Int) := by omega
      have ge : ((m + 1 : Nat) : Int) ≤ (t : Int) := by omega
      generalize ((bt (m + 1) (t - (m + 1)) : Nat) : Int) = V at *
      generalize ((t - (m + 1) : Nat) : Int) = D at *
      generalize ((m + 1 : Nat) : Int) = M at *
      generalize (BW t (min t (m + 1))).map PyData.int = W at *
      generalize ((k + 1 : Nat) : Int) = K at *
      simp [bb, sb, ge, pick_01]
    · rw [if_neg h] at s
      refine ⟨0, ?_, by omega⟩
      have ge : ¬ ((m + 1 : Nat) : Int) ≤ (t : Int) := by omega
      generalize ((m + 1 : Nat) : Int) = M at *
      generalize (BW t (min t (m + 1))).map PyData.int = W at *
      generalize ((k + 1 : Nat) : Int) = K at *
      simp [ge]
  -- less
  obtain ⟨le, hl1, hl2⟩ : ∃ le : Int, asgS (ifE (bT (opE geI (consA (nmE 6) (consA (nmE 7) nilA)))) (callE [false, false] den_many_of_parts (pickA [0, 1] (appA (lenA 0 nilA) (lenA 2 (consA (opE subI (consA (nmE 6) (consA (nmE 7) nilA))) (consA (nmE 7) (nilA))))))) (cE (.int 0))) (nameF 4) [some (.ow q3), some (.ow ((BW t (min t (m + 1))).map .int)), x, some (.fz (.int wi)), none, none, some (.fz (.int (t : Int))), some (.fz (.int ((k + 1 : Nat) : Int))), some (.fz (.int ((m + 1 : Nat) : Int))), y, none] = some (.nx [some (.ow q3), some (.ow ((BW t (min t (m + 1))).map .int)), x, some (.fz (.int wi)), some (.fz (.int le)), none, some (.fz (.int (t : Int))), some (.fz (.int ((k + 1 : Nat) : Int))), some (.fz (.int ((m + 1 : Nat) : Int))), y, none]) ∧ (0 < t → ((mop t (k + 1) : Nat) : Int) = ((mop (t - 1) k : Nat) : Int) + le) := by
    have s := fun h : 0 < t => mop_rec (t := t) (k := k + 1) h (by omega)
    simp only [Nat.add_sub_cancel] at s
    by_cases h : k + 1 ≤ t
    · have bb := ofparts_ok (t := t - (k + 1)) (k := k + 1) (by omega) hk2
      rw [if_pos h] at s
      refine ⟨((mop (t - (k + 1)) (k + 1) : Nat) : Int), ?_, fun z => by have := s z; omega⟩
      have sb : (t : Int) - ((k + 1 : Nat) : Int) = ((t - (k + 1) : Nat) : Int) := by omega
      have ge : ((k + 1 : Nat) : Int) ≤ (t : Int) := by omega
      generalize ((mop (t - (k + 1)) (k + 1) : Nat) : Int) = V at *
      generalize ((t - (k + 1) : Nat) : Int) = D at *
      generalize ((m + 1 : Nat) : Int) = M at *
      generalize (BW t (min t (m + 1))).map PyData.int = W at *
      generalize ((k + 1 : Nat) : Int) = K at *
      simp [bb, sb, ge, pick_01]
    · rw [if_neg h] at s
      refine ⟨0, ?_, fun z => by have := s z; omega⟩
      have ge : ¬ ((k + 1 : Nat) : Int) ≤ (t : Int) := by omega
      generalize ((m + 1 : Nat) : Int) = M at *
      generalize (BW t (min t (m + 1))).map PyData.int = W at *
      generalize ((k + 1 : Nat) : Int) = K at *
      simp [ge]
  have o1 := ofparts_ok ht hk2
  have o2 := ofparts_ok (t := t - 1) (k := k) (by omega) (by omega)
  have pr := parts_ok ht
  have fm : (t : Int) % 61 = ((t % 61 : Nat) : Int) := rfl
  have f61 : t % 61 ≤ 200 := by omega
  have pf := parts_ok f61
  have l9 := u_9 (s0 := some (.ow q3)) (s1 := some (.ow ((BW t (min t (m + 1))).map .int))) (s2 := x) (s3 := some (.fz (.int wi))) (s4 := some (.fz (.int le))) (s6 := some (.fz (.int (t : Int)))) (s7 := some (.fz (.int ((k + 1 : Nat) : Int)))) (s8 := some (.fz (.int ((m + 1 : Nat) : Int)))) (s9 := y) (s10 := none) (f := t % 61) f61
  have s9 : sumD ((vec (t % 61 + 1) fun j => ((mop (t % 61) j : Nat) : Int)).map PyData.int) = some (.fz (.int ((bt (t % 61) (t % 61) : Nat) : Int))) := by
    rw [sumD_map, sum_vec, sN_sm, mop_sum _ _ (Nat.le_refl _)]
  have km : ((k + 1 : Nat) : Int) - 1 = (k : Int) := by omega
  have mm : ((m + 1 : Nat) : Int) - 1 = (m : Int) := by omega
  have big : ((m + 1 : Nat) : Int) < (t : Int) ∨ ((t : Int) ≤ ((m + 1 : Nat) : Int) ∧ ((bt (m + 1) t : Nat) : Int) = ((bt t t : Nat) : Int)) := by
    by_cases h : m + 1 < t
    · exact .inl (by omega)
    · exact .inr ⟨by omega, by rw [bt_big (by omega)]⟩
  have tz : t = 0 ∨ (0 < t ∧ (t : Int) - 1 = ((t - 1 : Nat) : Int)) := by omega
  generalize (vec (t % 61 + 1) fun j => ((mop (t % 61) j : Nat) : Int)).map PyData.int = V9 at *
  generalize ((bt (t % 61) (t % 61) : Nat) : Int) = B61 at *
  generalize ((t % 61 : Nat) : Int) = T61 at *
  generalize (BW t (min t (m + 1))).map PyData.int = W at *
  generalize (BW t 0).map PyData.int = W0 at *
  generalize List.replicate t (PyData.int 0) = Z at *
  generalize ((bt (m + 1) t : Nat) : Int) = BM at *
  generalize ((bt m t : Nat) : Int) = Bm at *
  generalize ((bt t t : Nat) : Int) = Bt at *
  generalize ((mop t (k + 1) : Nat) : Int) = M1 at *
  generalize ((mop (t - 1) k : Nat) : Int) = M2 at *
  generalize ((t - 1 : Nat) : Int) = T1 at *
  generalize ((k + 1 : Nat) : Int) = K at *
  generalize ((m + 1 : Nat) : Int) = M at *
  have k11 : sq_law_total_right_11 [some (.ow q3), some (.ow W), x, some (.fz (.int wi)), none, none, some (.fz (.int (t : Int))), some (.fz (.int K)), some (.fz (.int M)), y, none] = some (.rt (.fz (.bool true)) [some (.ow q3), some (.ow W), x, some (.fz (.int wi)), some (.fz (.int le)), some (.fz (.int T61)), some (.fz (.int (t : Int))), some (.fz (.int K)), some (.fz (.int M)), y, none]) := by
    refine (seq_nx (ρ1 := [some (.ow q3), some (.ow W), x, some (.fz (.int wi)), none, none, some (.fz (.int (t : Int))), some (.fz (.int K)), some (.fz (.int M)), y, none]) (by simp [b1, b2, mm, hw2])).trans ?_
    refine (seq_nx hl1).trans ?_
    refine (seq_nx (ρ1 := [some (.ow q3), some (.ow W), x, some (.fz (.int wi)), some (.fz (.int le)), none, some (.fz (.int (t : Int))), some (.fz (.int K)), some (.fz (.int M)), y, none]) ?_).trans ?_
    · rcases tz with z | ⟨z1, z2⟩
      · subst z
        simp
      · have hl := hl2 z1
        simp [z1, z2, o1, o2, km, hl]
    refine (seq_nx (ρ1 := [some (.ow q3), some (.ow W), x, some (.fz (.int wi)), some (.fz (.int le)), none, some (.fz (.int (t : Int))), some (.fz (.int K)), some (.fz (.int M)), y, none]) ?_).trans ?_
    · rcases big with z | ⟨z1, z2⟩
      · have z3 : ¬ (t : Int) ≤ M := by omega
        simp [z3]
      · simp [z1, b1, pr, z2]
    refine (seq_nx (ρ1 := [some (.ow q3), some (.ow W), x, some (.fz (.int wi)), some (.fz (.int le)), some (.fz (.int T61)), some (.fz (.int (t : Int))), some (.fz (.int K)), some (.fz (.int M)), y, none]) (by simp [fm])).trans ?_
    simp [sq_law_total_right_10, l9, s9, pf]
  refine (show den__law_total_right _ = _ from fn_body (n := 1) (N := 11) (r := .bool true) (ρ' := [some (.ow q3), some (.ow W), x, some (.fz (.int wi)), some (.fz (.int le)), some (.fz (.int T61)), some (.fz (.int (t : Int))), some (.fz (.int K)), some (.fz (.int M)), y, none]) rfl ?_).trans (by rw [maskR_1]; rfl)
  refine (seq_nx (ρ1 := [some (.ow q3), none, none, none, none, none, some (.fz (.int (t : Int))), some (.fz (.int K)), some (.fz (.int M)), none, none]) ?_).trans ?_
  · show parS _ _ [some (.ow q), none, none, none, none, none, none, none, none, none, none] = _
    simp [e1, e2, e3, hk, hm]
  rw [frz_id rfl, frz_id rfl, frz_id rfl]
  refine (seq_nx (ρ1 := [some (.ow q3), some (.ow W0), none, none, none, none, some (.fz (.int (t : Int))), some (.fz (.int K)), some (.fz (.int M)), none, none]) (by simp [r, c])).trans ?_
  refine (seq_nx w).trans ?_
  refine (seq_nx (ρ1 := [some (.ow q3), some (.ow W), x, none, none, none, some (.fz (.int (t : Int))), some (.fz (.int K)), some (.fz (.int M)), y, none]) (by simp [b1, ix, i1])).trans ?_
  refine (seq_nx hw1).trans ?_
  exact k11
end
end DL

namespace DL
open PySem PySem.Spec PyProof.Rows L2
noncomputable section
/-- a row so far and what is left -/
def pxD (x : List Int × Int) : D := .tuple [roI x.1, .int x.2]
theorem eqvA_nil : ∀ ds : List D, PyData.eqvAll ds [] = decide (ds.length = 0)
  | [] => by rw [PyData.eqvAll]; rfl
  | d :: r => by rw [PyData.eqvAll]; simp
theorem neD_any {ds : List D} (h : SeqAt.shaped (.list ds) = true) : neD (.list ds) (.list []) = some (decide (0 < ds.length)) := by
  have h2 : SeqAt.shaped (.list []) = true := sh_lI []
  have e : eqD (.list ds) (.list []) = some (decide (ds.length = 0)) := by
    unfold eqD
    dsimp only
    rw [h, h2, PyData.eqv, eqvA_nil]
    rfl
  unfold neD
  rw [e]
  cases ds with
  | nil => rfl
  | cons d r => rfl
@[simp] theorem sortLF_g {ρ : Rho} {i : Nat} : sortLF ρ [.pk i] = sortLF ρ [nmG i ρ[i]?] := by unfold sortLF; dsimp only; rw [itm_g]
structure LvOk (d : Int) (t : Nat) : Prop where
  e : LV d t (t + 1) = []
  l1 : ∀ n, n ≤ t + 1 → (LV d t n).length ≤ 2000
  l2 : ∀ n, n ≤ t + 1 → (FD d t n).length ≤ 2000
  b : ∀ n, n ≤ t + 1 → ∀ x ∈ LV d t n, x.1.length ≤ 100 ∧ (0 ≤ x.2 ∧ x.2 ≤ 200) ∧ ∀ y ∈ x.1, -1000 ≤ y ∧ y ≤ 1000
  ok : ∀ r ∈ RWS d t, okRow t r = true
theorem lvOk {d : Int} {t : Nat} (h : ckL d t = true) : LvOk d t := by
  unfold ckL at h
  simp only [Bool.and_eq_true, List.all_eq_true, List.mem_range, decide_eq_true_eq] at h
  obtain ⟨⟨h1, h2⟩, h3⟩ := h
  refine ⟨List.isEmpty_iff.mp h1, fun n hn => (h2 n (by omega)).1.1, fun n hn => (h2 n (by omega)).1.2, fun n hn x hx => ?_, h3⟩
  have := (h2 n (by omega)).2 x hx
  exact ⟨this.1.1, this.1.2, this.2⟩
theorem lv0 {t : Nat} (h : t ≤ 18) : LvOk 0 t := lvOk (List.all_eq_true.mp cL18 t (List.mem_range.mpr (by omega)))
theorem lv1 {t : Nat} (h : t ≤ 30) : LvOk 1 t := lvOk (List.all_eq_true.mp cL30 t (List.mem_range.mpr (by omega)))
theorem lv_min (d : Int) (t : Nat) : ∀ T, LV d t T = [] → ∃ K, K ≤ T ∧ LV d t K = [] ∧ (∀ n, n < K → LV d t n ≠ []) ∧ FD d t T = FD d t K
  | 0, h => by cases h
  | T + 1, h => by
    by_cases q : LV d t T = []
    · obtain ⟨K, k1, k2, k3, k4⟩ := lv_min d t T q
      refine ⟨K, by omega, k2, k3, ?_⟩
      rw [FD, q, k4]
      exact List.append_nil _
    · refine ⟨T + 1, Nat.le_refl _, h, fun n hn z => ?_, rfl⟩
      have st : ∀ j, LV d t (n + j) = [] := fun j => by
        induction j with
        | zero => exact z
        | succ j ih =>
          show (LV d t (n + j)).flatMap (extP d) = []
          rw [ih]; rfl
      have := st (T - n)
      rw [show n + (T - n) = T by omega] at this
      exact q this
theorem lv_shaped {d : Int} {t : Nat} (w : LvOk d t) {n : Nat} (hn : n ≤ t + 1) : SeqAt.shaped (.list ((LV d t n).map pxD)) = true := by
  have R : Rp 3 (2000 * (400003 + 2) + 3) (.list ((LV d t n).map pxD)) := Rp.list (k := 2) (n := 400003) (m := 2000) (fun x hx => by
    obtain ⟨y, hy, rfl⟩ := List.mem_map.mp hx
    obtain ⟨a1, a2, a3⟩ := w.b n hn y hy
    have r1 : Rp 1 199999 (roI y.1) := (Rp.ints (m := 100) (fun i hi => by have := a3 i hi; omega) a1).mono (Nat.le_refl _) (by decide)
    have r2 : Rp 1 199999 (.int y.2) := (Rp.int (by omega) (by omega)).mono (by decide) (by decide)
    exact (Rp.tuple (ds := [roI y.1, .int y.2]) (k := 1) (n := 199998) (m := 2) (fun z hz => by
      simp only [List.mem_cons, List.not_mem_nil, or_false] at hz
      rcases hz with rfl | rfl
      · exact (Rp.ints (m := 100) (fun i hi => by have := a3 i hi; omega) a1).mono (Nat.le_refl _) (by decide)
      · exact (Rp.int (by omega) (by omega)).mono (by decide) (by decide)) (Nat.le_refl 2)).mono (Nat.le_refl _) (by decide)) (by rw [List.length_map]; exact w.l1 n hn)
  exact R.shaped (by decide)
theorem row_last {r : List Int} (h : r ≠ []) : ixL (r.map PyData.int) (-1) = some (.fz (.int (lastP r))) := by
  refine ixL_last ?_
  rw [List.getLast?_map]
  unfold lastP
  cases r with
  | nil => exact absurd rfl h
  | cons a l => rw [List.getLastD_eq_getLast?, List.getLast?_eq_some_getLast (List.cons_ne_nil a l)]; rfl
section
variable {s0 s1 s2 s3 s4 s5 s6 s7 : Option Vl} {t n : Nat} {M : Int} {x : List Int × Int}
theorem rw_3 (hm : -1000 ≤ M ∧ M ≤ 1000) (hl : x.1.length ≤ 1000) : lc_rows_with_3 [s0, s1, s2, s3, some (.fz (roI x.1)), some (.fz (.int x.2)), some (.fz (.int M)), s7] = some (.ow (((List.range M.toNat).map fun i : Nat => (x.1 ++ [1 + (i : Int)], x.2 - (1 + (i : Int)))).map pxD), [s0, s1, s2, s3, some (.fz (roI x.1)), some (.fz (.int x.2)), some (.fz (.int M)), s7]) := by
  rw [List.map_map]
  unfold roI
  refine lcE_tab (n := M.toNat) (F := fun j => .int (1 + (j : Int))) (G := fun i : Nat => pxD (x.1 ++ [1 + (i : Int)], x.2 - (1 + (i : Int)))) (ρ1 := [s0, s1, s2, s3, some (.fz (.list (x.1.map .int))), some (.fz (.int x.2)), some (.fz (.int M)), s7]) ?_ (by omega) fun j hj => ⟨_, .fz (pxD (x.1 ++ [1 + (j : Int)], x.2 - (1 + (j : Int)))), rfl, rfl, ?_, rfl, rfl⟩
  · rw [← rngD_tab]
    have h1 : smallI 1 = true := smallI_of (by decide) (by decide)
    have h2 := smallI_of (a := M + 1) (by omega) (by omega)
    simp [li_rows_with_1, h1, h2]
  · have c : catL (x.1.map PyData.int) [.int (1 + (j : Int))] = some (.ow ((x.1 ++ [1 + (j : Int)]).map .int)) := by
      rw [List.map_append]
      exact catL_ok (by rw [List.length_map]; show _ + 1 ≤ _; omega)
    unfold pxD roI
    dsimp only
    generalize (x.1 ++ [1 + (j : Int)]).map PyData.int = A at *
    generalize x.1.map PyData.int = B at *
    simp [le_rows_with_2, c]
theorem rw_4 (w : LvOk 0 t) (hn : n ≤ t) (hx : x ∈ LV 0 t n) {A : List (List Int)} {B : List (List Int × Int)} (hA : A.length ≤ 4000) (hB : B.length ≤ 4000) : ∃ y z, fb_rows_with_4 [s0, some (.ow (A.map roI)), s2, some (.ow (B.map pxD)), some (.fz (roI x.1)), some (.fz (.int x.2)), s6, s7] = some (.nx [s0, some (.ow ((A ++ ([x].filter doneP).map (·.1)).map roI)), s2, some (.ow ((B ++ extP 0 x).map pxD)), some (.fz (roI x.1)), some (.fz (.int x.2)), y, z]) := by
  obtain ⟨a1, a2, a3⟩ := w.b n (by omega) x hx
  have hm : -1000 ≤ mostP 0 x ∧ mostP 0 x ≤ 1000 := by
    unfold mostP
    split
    · omega
    · next h =>
      have hmem : lastP x.1 ∈ x.1 := by
        unfold lastP
        cases q : x.1 with
        | nil => exact absurd q h
        | cons a l => rw [List.getLastD_eq_getLast?, List.getLast?_eq_some_getLast (List.cons_ne_nil a l)]; exact List.getLast_mem _
      have := a3 _ hmem
      have h3 := Int.min_le_left x.2 (lastP x.1 - 0)
      by_cases q : x.2 ≤ lastP x.1 - 0
      · rw [Int.min_eq_left q]; omega
      · rw [Int.min_eq_right (by omega)]; omega
  have e3 := rw_3 (s0 := s0) (s1 := some (.ow ((A ++ ([x].filter doneP).map (·.1)).map roI))) (s2 := s2) (s3 := some (.ow (B.map pxD))) (s7 := s7) (M := mostP 0 x) (x := x) hm (by omega)
  have ex := extG_ok (ds := B.map pxD) (zs := (extP 0 x).map pxD) (by
    rw [List.length_map, List.length_map]
    unfold extP
    rw [List.length_map, List.length_range]
    omega)
  rw [← List.map_append] at ex
  have ap := appG_ok (ds := A.map roI) (d := roI x.1) (by rw [List.length_map]; omega)
  have nn := neD_e x.1
  have mo : ∀ ρ, ∃ g : Int, minF ρ [.fz (.int x.2), .fz (.int g)] = some (.fz (.int (mostP 0 x))) ∧ ((x.1 = [] ∧ g = x.2) ∨ (x.1 ≠ [] ∧ g = lastP x.1 - 0)) := fun ρ => by
    by_cases q : x.1 = []
    · refine ⟨x.2, ?_, .inl ⟨q, rfl⟩⟩
      rw [minF_i]
      unfold mostP
      rw [if_pos q, if_neg (by omega)]
    · refine ⟨lastP x.1 - 0, ?_, .inr ⟨q, rfl⟩⟩
      rw [minF_i]
      unfold mostP
      rw [if_neg q]
      congr 3
      by_cases r : lastP x.1 - 0 < x.2
      · rw [if_pos r, Int.min_eq_right (by omega)]
      · rw [if_neg r, Int.min_eq_left (by omega)]
  refine ⟨some (.fz (.int (mostP 0 x))), s7, ?_⟩
  refine (seq_nx (ρ1 := [s0, some (.ow ((A ++ ([x].filter doneP).map (·.1)).map roI)), s2, some (.ow (B.map pxD)), some (.fz (roI x.1)), some (.fz (.int x.2)), s6, s7]) ?_).trans ?_
  · by_cases q : x.2 = 0
    · have f : ([x].filter doneP).map (·.1) = [x.1] := by
        rw [List.filter_cons_of_pos (by unfold doneP; exact decide_eq_true q)]; rfl
      rw [f, List.map_append]
      rw [show [x.1].map roI = [roI x.1] from rfl]
      generalize A.map roI ++ [roI x.1] = A2 at *
      generalize A.map roI = A1 at *
      generalize roI x.1 = R at *
      generalize B.map pxD = B1 at *
      simp [q, ap]
    · have f : ([x].filter doneP).map (·.1) = [] := by
        rw [List.filter_cons_of_neg (by unfold doneP; rw [decide_eq_false q]; decide)]; rfl
      rw [f, List.append_nil]
      generalize A.map roI = A1 at *
      generalize roI x.1 = R at *
      generalize B.map pxD = B1 at *
      simp [q]
  refine (seq_nx (ρ1 := [s0, some (.ow ((A ++ ([x].filter doneP).map (·.1)).map roI)), s2, some (.ow (B.map pxD)), some (.fz (roI x.1)), some (.fz (.int x.2)), some (.fz (.int (mostP 0 x))), s7]) ?_).trans ?_
  · obtain ⟨g, m1, m2⟩ := mo [s0, some (.ow ((A ++ ([x].filter doneP).map (·.1)).map roI)), s2, some (.ow (B.map pxD)), some (.fz (roI x.1)), some (.fz (.int x.2)), s6, s7]
    unfold roI at m1 ⊢
    generalize (A ++ ([x].filter doneP).map (·.1)).map (fun xs : List Int => PyData.list (xs.map .int)) = A2 at *
    generalize B.map pxD = B1 at *
    rcases m2 with ⟨q, rfl⟩ | ⟨q, rfl⟩
    · rw [q] at nn m1 ⊢
      rw [List.map_nil] at nn m1 ⊢
      simp [nn, -minF_i, m1]
    · have il := row_last q
      have lp : 0 < x.1.length := List.length_pos_iff.mpr q
      rw [decide_eq_true lp] at nn
      generalize x.1.map PyData.int = R at *
      rw [Int.sub_zero] at m1
      simp [nn, il, -minF_i, m1]
  · unfold extP at ex ⊢
    generalize (A ++ ([x].filter doneP).map (·.1)).map roI = A2 at *
    generalize (B ++ (List.range (mostP 0 x).toNat).map fun i : Nat => (x.1 ++ [1 + (i : Int)], x.2 - (1 + (i : Int)))).map pxD = B2 at *
    generalize ((List.range (mostP 0 x).toNat).map fun i : Nat => (x.1 ++ [1 + (i : Int)], x.2 - (1 + (i : Int)))).map pxD = N1 at *
    generalize B.map pxD = B1 at *
    generalize roI x.1 = R at *
    simp [e3, ex]
theorem rw_8 (w : LvOk 0 t) (hn : n ≤ t) : ∃ y z u v o, wb_rows_with_8 [s0, some (.ow ((FD 0 t n).map roI)), some (.fz (.list ((LV 0 t n).map pxD))), s3, s4, s5, s6, s7] = some (.nx [s0, some (.ow ((FD 0 t (n + 1)).map roI)), some (.fz (.list ((LV 0 t (n + 1)).map pxD))), y, z, u, v, o]) := by
  have l3 := w.l1 (n + 1) (by omega)
  have l4 := w.l2 (n + 1) (by omega)
  have loop := forL_parts (F := pxD) (W := LV 0 t n) (P := fun pre ρ => ∃ z u v o, ρ = [s0, some (.ow ((FD 0 t n ++ (pre.filter doneP).map (·.1)).map roI)), some (.fz (.list ((LV 0 t n).map pxD))), some (.ow ((pre.flatMap (extP 0)).map pxD)), z, u, v, o]) (st := tupT [nameF 4, nameF 5]) (s := fb_rows_with_4) ?_ (ρ := [s0, some (.ow ((FD 0 t n).map roI)), some (.fz (.list ((LV 0 t n).map pxD))), some (.ow []), s4, s5, s6, s7]) ⟨s4, s5, s6, s7, by
      rw [List.filter_nil, List.map_nil, List.append_nil]; rfl⟩
  · obtain ⟨ρ1, e, z, u, v, o, rfl⟩ := loop
    have e2 : fo_rows_with_6 [s0, some (.ow ((FD 0 t n).map roI)), some (.fz (.list ((LV 0 t n).map pxD))), some (.ow []), s4, s5, s6, s7] = _ := forS_of (ds := (LV 0 t n).map pxD) (ρ1 := [s0, some (.ow ((FD 0 t n).map roI)), some (.fz (.list ((LV 0 t n).map pxD))), some (.ow []), s4, s5, s6, s7]) (by
      generalize (LV 0 t n).map pxD = L at *
      generalize (FD 0 t n).map roI = L2 at *
      simp [fi_rows_with_5]) e
    rw [show FD 0 t n ++ ((LV 0 t n).filter doneP).map (·.1) = FD 0 t (n + 1) from rfl, show (LV 0 t n).flatMap (extP 0) = LV 0 t (n + 1) from rfl] at e2
    refine ⟨some (.fz (.list ((LV 0 t (n + 1)).map pxD))), z, u, v, o, ?_⟩
    generalize (LV 0 t (n + 1)).map pxD = L2 at *
    generalize (FD 0 t (n + 1)).map roI = F2 at *
    generalize (LV 0 t n).map pxD = L at *
    generalize (FD 0 t n).map roI = F at *
    simp [wb_rows_with_8, e2]
  · rintro pre a suf ρ hW ⟨z, u, v, o, rfl⟩
    have ha : a ∈ LV 0 t n := by rw [hW]; exact List.mem_append_right _ List.mem_cons_self
    have la : (FD 0 t n ++ (pre.filter doneP).map (·.1)).length ≤ 4000 := by
      have : (FD 0 t (n + 1)).length = (FD 0 t n ++ (pre.filter doneP).map (·.1)).length + (((a :: suf).filter doneP).map (·.1)).length := by
        show (FD 0 t n ++ ((LV 0 t n).filter doneP).map (·.1)).length = _
        rw [hW, List.filter_append, List.map_append, ← List.append_assoc, List.length_append]
      omega
    have lb : (pre.flatMap (extP 0)).length ≤ 4000 := by
      have : (LV 0 t (n + 1)).length = (pre.flatMap (extP 0)).length + ((a :: suf).flatMap (extP 0)).length := by
        show ((LV 0 t n).flatMap _).length = _
        rw [hW, List.flatMap_append, List.length_append]
      omega
    obtain ⟨y2, z2, e⟩ := rw_4 (s0 := s0) (s2 := some (.fz (.list ((LV 0 t n).map pxD)))) (s6 := v) (s7 := o) w hn ha la lb
    refine ⟨_, .inl e, some (.fz (roI a.1)), some (.fz (.int a.2)), y2, z2, ?_⟩
    have e9 : FD 0 t n ++ ((pre ++ [a]).filter doneP).map (·.1) = FD 0 t n ++ (pre.filter doneP).map (·.1) ++ ([a].filter doneP).map (·.1) := by rw [List.filter_append, List.map_append, List.append_assoc]
    rw [List.flatMap_append, List.flatMap_cons, List.flatMap_nil, List.append_nil, e9]
end
theorem rw_ok {t : Nat} (w : LvOk 0 t) (ht : t ≤ 200) : den_rows_with [some (.fz (.int (t : Int)))] = some (.ow ((sortR (RWS 0 t)).map roI), [none]) := by
  obtain ⟨K, k1, k2, k3, k4⟩ := lv_min 0 t (t + 1) w.e
  have loop := whileL_p (c := wt_rows_with_7) (s := wb_rows_with_8) (P := fun k ρ => k ≤ K ∧ ∃ y z u v o, ρ = [some (.fz (.int (t : Int))), some (.ow ((FD 0 t (K - k)).map roI)), some (.fz (.list ((LV 0 t (K - k)).map pxD))), y, z, u, v, o])
    (Q := fun ρ => ∃ x y z u v o, ρ = [some (.fz (.int (t : Int))), some (.ow ((FD 0 t K).map roI)), x, y, z, u, v, o]) ?_ ?_ fuel K [some (.fz (.int (t : Int))), some (.ow []), some (.fz (.list [pxD ([], (t : Int))])), none, none, none, none, none] (fuel_big (by omega)) ⟨Nat.le_refl _, none, none, none, none, none, by rw [Nat.sub_self]; rfl⟩
  · obtain ⟨ρ1, e, x, y, z, u, v, o, rfl⟩ := loop
    have e2 : wh_rows_with_9 [some (.fz (.int (t : Int))), some (.ow []), some (.fz (.list [pxD ([], (t : Int))])), none, none, none, none, none] = _ := e
    rw [← k4] at e2
    have so : ∀ ρ, sortLF ρ [.ow ((FD 0 t (t + 1)).map roI)] = some (.ow ((sortR (RWS 0 t)).map roI)) := fun ρ => sortLF_ow
    generalize (sortR (RWS 0 t)).map roI = S at *
    generalize (FD 0 t (t + 1)).map roI = F at *
    rw [show pxD ([], (t : Int)) = .tuple [.list [], .int (t : Int)] from rfl] at e2
    simp [den_rows_with, e2, so, maskR_1]
  · rintro k ρ ⟨hk, y, z, u, v, o, rfl⟩
    obtain ⟨n, hn⟩ : ∃ n, n = K - (k + 1) := ⟨_, rfl⟩
    have hn2 : K - k = n + 1 := by omega
    rw [← hn, hn2]
    have ne := neD_any (lv_shaped w (n := n) (by omega))
    have lp : 0 < ((LV 0 t n).map pxD).length := by
      rw [List.length_map]
      exact List.length_pos_iff.mpr (k3 n (by omega))
    rw [decide_eq_true lp] at ne
    obtain ⟨y2, z2, u2, v2, o2, e⟩ := rw_8 (s0 := some (.fz (.int (t : Int)))) (s3 := y) (s4 := z) (s5 := u) (s6 := v) (s7 := o) w (n := n) (by omega)
    refine ⟨?_, _, .inl e, by omega, _, _, _, _, _, rfl⟩
    generalize (LV 0 t n).map pxD = L at *
    generalize (FD 0 t n).map roI = F at *
    simp [wt_rows_with_7, ne]
  · rintro ρ ⟨_, y, z, u, v, o, rfl⟩
    rw [Nat.sub_zero, k2]
    have ne : neD (.list []) (.list []) = some false := neD_e []
    generalize (FD 0 t K).map roI = F at *
    exact ⟨by simp [wt_rows_with_7, ne], _, _, _, _, _, _, rfl⟩
section
variable {s0 s1 s2 s3 s4 s5 s6 s7 : Option Vl} {t n : Nat} {M : Int} {x : List Int × Int}
theorem uw_3 (hm : -1001 ≤ M ∧ M ≤ 1000) (hl : x.1.length ≤ 1000) : lc_unlike_with_3 [s0, s1, s2, s3, some (.fz (roI x.1)), some (.fz (.int x.2)), some (.fz (.int M)), s7] = some (.ow (((List.range M.toNat).map fun i : Nat => (x.1 ++ [1 + (i : Int)], x.2 - (1 + (i : Int)))).map pxD), [s0, s1, s2, s3, some (.fz (roI x.1)), some (.fz (.int x.2)), some (.fz (.int M)), s7]) := by
  rw [List.map_map]
  unfold roI
  refine lcE_tab (n := M.toNat) (F := fun j => .int (1 + (j : Int))) (G := fun i : Nat => pxD (x.1 ++ [1 + (i : Int)], x.2 - (1 + (i : Int)))) (ρ1 := [s0, s1, s2, s3, some (.fz (.list (x.1.map .int))), some (.fz (.int x.2)), some (.fz (.int M)), s7]) ?_ (by omega) fun j hj => ⟨_, .fz (pxD (x.1 ++ [1 + (j : Int)], x.2 - (1 + (j : Int)))), rfl, rfl, ?_, rfl, rfl⟩
  · rw [← rngD_tab]
    have h1 : smallI 1 = true := smallI_of (by decide) (by decide)
    have h2 := smallI_of (a := M + 1) (by omega) (by omega)
    simp [li_unlike_with_1, h1, h2]
  · have c : catL (x.1.map PyData.int) [.int (1 + (j : Int))] = some (.ow ((x.1 ++ [1 + (j : Int)]).map .int)) := by
      rw [List.map_append]
      exact catL_ok (by rw [List.length_map]; show _ + 1 ≤ _; omega)
    unfold pxD roI
    dsimp only
    generalize (x.1 ++ [1 + (j : Int)]).map PyData.int = A at *
    generalize x.1.map PyData.int = B at *
    simp [le_unlike_with_2, c]
theorem uw_4 (w : LvOk 1 t) (hn : n ≤ t) (hx : x ∈ LV 1 t n) {A : List (List Int)} {B : List (List Int × Int)} (hA : A.length ≤ 4000) (hB : B.length ≤ 4000) : ∃ y z, fb_unlike_with_4 [s0, some (.ow (A.map roI)), s2, some (.ow (B.map pxD)), some (.fz (roI x.1)), some (.fz (.int x.2)), s6, s7] = some (.nx [s0, some (.ow ((A ++ ([x].filter doneP).map (·.1)).map roI)), s2, some (.ow ((B ++ extP 1 x).map pxD)), some (.fz (roI x.1)), some (.fz (.int x.2)), y, z]) := by
  obtain ⟨a1, a2, a3⟩ := w.b n (by omega) x hx
  have hm : -1001 ≤ mostP 1 x ∧ mostP 1 x ≤ 1000 := by
    unfold mostP
    split
    · omega
    · next h =>
      have hmem : lastP x.1 ∈ x.1 := by
        unfold lastP
        cases q : x.1 with
        | nil => exact absurd q h
        | cons a l => rw [List.getLastD_eq_getLast?, List.getLast?_eq_some_getLast (List.cons_ne_nil a l)]; exact List.getLast_mem _
      have := a3 _ hmem
      have h3 := Int.min_le_left x.2 (lastP x.1 - 1)
      by_cases q : x.2 ≤ lastP x.1 - 1
      · rw [Int.min_eq_left q]; omega
      · rw [Int.min_eq_right (by omega)]; omega
  have e3 := uw_3 (s0 := s0) (s1 := some (.ow ((A ++ ([x].filter doneP).map (·.1)).map roI))) (s2 := s2) (s3 := some (.ow (B.map pxD))) (s7 := s7) (M := mostP 1 x) (x := x) hm (by omega)
  have ex := extG_ok (ds := B.map pxD) (zs := (extP 1 x).map pxD) (by
    rw [List.length_map, List.length_map]
    unfold extP
    rw [List.length_map, List.length_range]
    omega)
  rw [← List.map_append] at ex
  have ap := appG_ok (ds := A.map roI) (d := roI x.1) (by rw [List.length_map]; omega)
  have nn := neD_e x.1
  have mo : ∀ ρ, ∃ g : Int, minF ρ [.fz (.int x.2), .fz (.int g)] = some (.fz (.int (mostP 1 x))) ∧ ((x.1 = [] ∧ g = x.2) ∨ (x.1 ≠ [] ∧ g = lastP x.1 - 1)) := fun ρ => by
    by_cases q : x.1 = []
    · refine ⟨x.2, ?_, .inl ⟨q, rfl⟩⟩
      rw [minF_i]
      unfold mostP
      rw [if_pos q, if_neg (by omega)]
    · refine ⟨lastP x.1 - 1, ?_, .inr ⟨q, rfl⟩⟩
      rw [minF_i]
      unfold mostP
      rw [if_neg q]
      congr 3
      by_cases r : lastP x.1 - 1 < x.2
      · rw [if_pos r, Int.min_eq_right (by omega)]
      · rw [if_neg r, Int.min_eq_left (by omega)]
  refine ⟨some (.fz (.int (mostP 1 x))), s7, ?_⟩
  refine (seq_nx (ρ1 := [s0, some (.ow ((A ++ ([x].filter doneP).map (·.1)).map roI)), s2, some (.ow (B.map pxD)), some (.fz (roI x.1)), some (.fz (.int x.2)), s6, s7]) ?_).trans ?_
  · by_cases q : x.2 = 0
    · have f : ([x].filter doneP).map (·.1) = [x.1] := by
        rw [List.filter_cons_of_pos (by unfold doneP; exact decide_eq_true q)]; rfl
      rw [f, List.map_append]
      rw [show [x.1].map roI = [roI x.1] from rfl]
      generalize A.map roI ++ [roI x.1] = A2 at *
      generalize A.map roI = A1 at *
      generalize roI x.1 = R at *
      generalize B.map pxD = B1 at *
      simp [q, ap]
    · have f : ([x].filter doneP).map (·.1) = [] := by
        rw [List.filter_cons_of_neg (by unfold doneP; rw [decide_eq_false q]; decide)]; rfl
      rw [f, List.append_nil]
      generalize A.map roI = A1 at *
      generalize roI x.1 = R at *
      generalize B.map pxD = B1 at *
      simp [q]
  refine (seq_nx (ρ1 := [s0, some (.ow ((A ++ ([x].filter doneP).map (·.1)).map roI)), s2, some (.ow (B.map pxD)), some (.fz (roI x.1)), some (.fz (.int x.2)), some (.fz (.int (mostP 1 x))), s7]) ?_).trans ?_
  · obtain ⟨g, m1, m2⟩ := mo [s0, some (.ow ((A ++ ([x].filter doneP).map (·.1)).map roI)), s2, some (.ow (B.map pxD)), some (.fz (roI x.1)), some (.fz (.int x.2)), s6, s7]
    unfold roI at m1 ⊢
    generalize (A ++ ([x].filter doneP).map (·.1)).map (fun xs : List Int => PyData.list (xs.map .int)) = A2 at *
    generalize B.map pxD = B1 at *
    rcases m2 with ⟨q, rfl⟩ | ⟨q, rfl⟩
    · rw [q] at nn m1 ⊢
      rw [List.map_nil] at nn m1 ⊢
      simp [nn, -minF_i, m1]
    · have il := row_last q
      have lp : 0 < x.1.length := List.length_pos_iff.mpr q
      rw [decide_eq_true lp] at nn
      generalize x.1.map PyData.int = R at *
      simp [nn, il, -minF_i, m1]
  · unfold extP at ex ⊢
    generalize (A ++ ([x].filter doneP).map (·.1)).map roI = A2 at *
    generalize (B ++ (List.range (mostP 1 x).toNat).map fun i : Nat => (x.1 ++ [1 + (i : Int)], x.2 - (1 + (i : Int)))).map pxD = B2 at *
    generalize ((List.range (mostP 1 x).toNat).map fun i : Nat => (x.1 ++ [1 + (i : Int)], x.2 - (1 + (i : Int)))).map pxD = N1 at *
    generalize B.map pxD = B1 at *
    generalize roI x.1 = R at *
    simp [e3, ex]
theorem uw_8 (w : LvOk 1 t) (hn : n ≤ t) : ∃ y z u v o, wb_unlike_with_8 [s0, some (.ow ((FD 1 t n).map roI)), some (.fz (.list ((LV 1 t n).map pxD))), s3, s4, s5, s6, s7] = some (.nx [s0, some (.ow ((FD 1 t (n + 1)).map roI)), some (.fz (.list ((LV 1 t (n + 1)).map pxD))), y, z, u, v, o]) := by
  have l3 := w.l1 (n + 1) (by omega)
  have l4 := w.l2 (n + 1) (by omega)
  have loop := forL_parts (F := pxD) (W := LV 1 t n) (P := fun pre ρ => ∃ z u v o, ρ = [s0, some (.ow ((FD 1 t n ++ (pre.filter doneP).map (·.1)).map roI)), some (.fz (.list ((LV 1 t n).map pxD))), some (.ow ((pre.flatMap (extP 1)).map pxD)), z, u, v, o]) (st := tupT [nameF 4, nameF 5]) (s := fb_unlike_with_4) ?_ (ρ := [s0, some (.ow ((FD 1 t n).map roI)), some (.fz (.list ((LV 1 t n).map pxD))), some (.ow []), s4, s5, s6, s7]) ⟨s4, s5, s6, s7, by
      rw [List.filter_nil, List.map_nil, List.append_nil]; rfl⟩
  · obtain ⟨ρ1, e, z, u, v, o, rfl⟩ := loop
    have e2 : fo_unlike_with_6 [s0, some (.ow ((FD 1 t n).map roI)), some (.fz (.list ((LV 1 t n).map pxD))), some (.ow []), s4, s5, s6, s7] = _ := forS_of (ds := (LV 1 t n).map pxD) (ρ1 := [s0, some (.ow ((FD 1 t n).map roI)), some (.fz (.list ((LV 1 t n).map pxD))), some (.ow []), s4, s5, s6, s7]) (by
      generalize (LV 1 t n).map pxD = L at *
      generalize (FD 1 t n).map roI = L2 at *
      simp [fi_unlike_with_5]) e
    rw [show FD 1 t n ++ ((LV 1 t n).filter doneP).map (·.1) = FD 1 t (n + 1) from rfl, show (LV 1 t n).flatMap (extP 1) = LV 1 t (n + 1) from rfl] at e2
    refine ⟨some (.fz (.list ((LV 1 t (n + 1)).map pxD))), z, u, v, o, ?_⟩
    generalize (LV 1 t (n + 1)).map pxD = L2 at *
    generalize (FD 1 t (n + 1)).map roI = F2 at *
    generalize (LV 1 t n).map pxD = L at *
    generalize (FD 1 t n).map roI = F at *
    simp [wb_unlike_with_8, e2]
  · rintro pre a suf ρ hW ⟨z, u, v, o, rfl⟩
    have ha : a ∈ LV 1 t n := by rw [hW]; exact List.mem_append_right _ List.mem_cons_self
    have la : (FD 1 t n ++ (pre.filter doneP).map (·.1)).length ≤ 4000 := by
      have : (FD 1 t (n + 1)).length = (FD 1 t n ++ (pre.filter doneP).map (·.1)).length + (((a :: suf).filter doneP).map (·.1)).length := by
        show (FD 1 t n ++ ((LV 1 t n).filter doneP).map (·.1)).length = _
        rw [hW, List.filter_append, List.map_append, ← List.append_assoc, List.length_append]
      omega
    have lb : (pre.flatMap (extP 1)).length ≤ 4000 := by
      have : (LV 1 t (n + 1)).length = (pre.flatMap (extP 1)).length + ((a :: suf).flatMap (extP 1)).length := by
        show ((LV 1 t n).flatMap _).length = _
        rw [hW, List.flatMap_append, List.length_append]
      omega
    obtain ⟨y2, z2, e⟩ := uw_4 (s0 := s0) (s2 := some (.fz (.list ((LV 1 t n).map pxD)))) (s6 := v) (s7 := o) w hn ha la lb
    refine ⟨_, .inl e, some (.fz (roI a.1)), some (.fz (.int a.2)), y2, z2, ?_⟩
    have e9 : FD 1 t n ++ ((pre ++ [a]).filter doneP).map (·.1) = FD 1 t n ++ (pre.filter doneP).map (·.1) ++ ([a].filter doneP).map (·.1) := by rw [List.filter_append, List.map_append, List.append_assoc]
    rw [List.flatMap_append, List.flatMap_cons, List.flatMap_nil, List.append_nil, e9]
end
theorem uw_ok {t : Nat} (w : LvOk 1 t) (ht : t ≤ 200) : den_unlike_with [some (.fz (.int (t : Int)))] = some (.ow ((sortR (RWS 1 t)).map roI), [none]) := by
  obtain ⟨K, k1, k2, k3, k4⟩ := lv_min 1 t (t + 1) w.e
  have loop := whileL_p (c := wt_unlike_with_7) (s := wb_unlike_with_8) (P := fun k ρ => k ≤ K ∧ ∃ y z u v o, ρ = [some (.fz (.int (t : Int))), some (.ow ((FD 1 t (K - k)).map roI)), some (.fz (.list ((LV 1 t (K - k)).map pxD))), y, z, u, v, o])
    (Q := fun ρ => ∃ x y z u v o, ρ = [some (.fz (.int (t : Int))), some (.ow ((FD 1 t K).map roI)), x, y, z, u, v, o]) ?_ ?_ fuel K [some (.fz (.int (t : Int))), some (.ow []), some (.fz (.list [pxD ([], (t : Int))])), none, none, none, none, none] (fuel_big (by omega)) ⟨Nat.le_refl _, none, none, none, none, none, by rw [Nat.sub_self]; rfl⟩
  · obtain ⟨ρ1, e, x, y, z, u, v, o, rfl⟩ := loop
    have e2 : wh_unlike_with_9 [some (.fz (.int (t : Int))), some (.ow []), some (.fz (.list [pxD ([], (t : Int))])), none, none, none, none, none] = _ := e
    rw [← k4] at e2
    have so : ∀ ρ, sortLF ρ [.ow ((FD 1 t (t + 1)).map roI)] = some (.ow ((sortR (RWS 1 t)).map roI)) := fun ρ => sortLF_ow
    generalize (sortR (RWS 1 t)).map roI = S at *
    generalize (FD 1 t (t + 1)).map roI = F at *
    rw [show pxD ([], (t : Int)) = .tuple [.list [], .int (t : Int)] from rfl] at e2
    simp [den_unlike_with, e2, so, maskR_1]
  · rintro k ρ ⟨hk, y, z, u, v, o, rfl⟩
    obtain ⟨n, hn⟩ : ∃ n, n = K - (k + 1) := ⟨_, rfl⟩
    have hn2 : K - k = n + 1 := by omega
    rw [← hn, hn2]
    have ne := neD_any (lv_shaped w (n := n) (by omega))
    have lp : 0 < ((LV 1 t n).map pxD).length := by
      rw [List.length_map]
      exact List.length_pos_iff.mpr (k3 n (by omega))
    rw [decide_eq_true lp] at ne
    obtain ⟨y2, z2, u2, v2, o2, e⟩ := uw_8 (s0 := some (.fz (.int (t : Int)))) (s3 := y) (s4 := z) (s5 := u) (s6 := v) (s7 := o) w (n := n) (by omega)
    refine ⟨?_, _, .inl e, by omega, _, _, _, _, _, rfl⟩
    generalize (LV 1 t n).map pxD = L at *
    generalize (FD 1 t n).map roI = F at *
    simp [wt_unlike_with_7, ne]
  · rintro ρ ⟨_, y, z, u, v, o, rfl⟩
    rw [Nat.sub_zero, k2]
    have ne : neD (.list []) (.list []) = some false := neD_e []
    generalize (FD 1 t K).map roI = F at *
    exact ⟨by simp [wt_unlike_with_7, ne], _, _, _, _, _, _, rfl⟩
end
end DL

namespace DL
open PySem PySem.Spec PyProof.Rows L2
noncomputable section
/-! unlike rows counted -/
def tuD (x : Nat × Nat) : D := .tuple [.int ((x.1 : Nat) : Int), .int ((x.2 : Nat) : Int)]
def UV (t p i : Nat) : List D := (List.range (t + 1)).map fun j => tuD (if t < j + i then ut (p + 1) j else ut p j)
def UW (t p : Nat) : List D := (List.range (t + 1)).map fun j => tuD (ut p j)
theorem ut_lt {i j : Nat} (h : j < i + 1) : ut (i + 1) j = ut i j := by rw [ut, if_neg (by omega)]
theorem UV_0 (t p : Nat) : UV t p 0 = UW t p := List.map_congr_left fun j hj => by
  rw [if_neg (by have := List.mem_range.mp hj; omega)]
theorem UV_end {t p : Nat} (hp : p + 1 ≤ t) : UV t p (t - p) = UW t (p + 1) := List.map_congr_left fun j hj => by
  by_cases h : t < j + (t - p)
  · rw [if_pos h]
  · rw [if_neg h, ut_lt (by omega)]
theorem UV_ix {t p i j : Nat} (h : j ≤ t) : ixL (UV t p i) (j : Int) = some (.fz (tuD (if t < j + i then ut (p + 1) j else ut p j))) := ixL_nat (by unfold UV; rw [List.getElem?_map, List.getElem?_range (by omega)]; rfl)
theorem UW_ix {t p j : Nat} (h : j ≤ t) : ixL (UW t p) (j : Int) = some (.fz (tuD (ut p j))) := ixL_nat (by unfold UW; rw [List.getElem?_map, List.getElem?_range (by omega)]; rfl)
theorem UV_len (t p i : Nat) : (UV t p i).length = t + 1 := by unfold UV; rw [List.length_map, List.length_range]
theorem UV_set {t p i : Nat} (h : i ≤ t) : (UV t p i).set (t - i) (tuD (ut (p + 1) (t - i))) = UV t p (i + 1) := by
  unfold UV
  refine List.ext_getElem (by simp) fun n h1 h2 => ?_
  rw [List.getElem_set, List.getElem_map, List.getElem_map, List.getElem_range]
  by_cases q : t - i = n
  · subst q
    rw [if_pos rfl, if_pos (by omega)]
  · rw [if_neg q]
    by_cases r : t < n + i
    · rw [if_pos r, if_pos (by omega)]
    · have : n < t + 1 := by simpa using h2
      rw [if_neg r, if_neg (by omega)]
theorem UW_0 {t : Nat} (h : t ≤ 200) (ρ : Rho) : mulF ρ [.ow [tuD (0, 0)], .fz (.int (t : Int))] = some (.ow (List.replicate t (tuD (0, 0)))) := by
  rw [mulF_ow, repL1 (by omega) (by omega), Int.toNat_natCast]
theorem UW_cat {t : Nat} (h : t ≤ 200) : catL [tuD (1, 0)] (List.replicate t (tuD (0, 0))) = some (.ow (UW t 0)) := by
  rw [catL_ok (by rw [List.length_replicate]; show 1 + _ ≤ _; omega)]
  have e : UW t 0 = tuD (1, 0) :: List.replicate t (tuD (0, 0)) := by
    unfold UW
    rw [List.range_succ_eq_map, List.map_cons, List.map_map]
    congr 1
    refine List.ext_getElem (by rw [List.length_map, List.length_range, List.length_replicate]) fun i h1 h2 => ?_
    rw [List.getElem_map, List.getElem_replicate]
    rfl
  rw [e]
  rfl
section
variable {s0 s1 s2 s3 s4 s5 : Option Vl} {t p : Nat}
theorem ut_in (ht : t ≤ 200) (hp : p + 1 ≤ t) : ∃ y z w, fo_unlike_table_3 [some (.fz (.int (t : Int))), some (.ow (UW t p)), some (.fz (.int ((p + 1 : Nat) : Int))), s3, s4, s5] = some (.nx [some (.fz (.int (t : Int))), some (.ow (UW t (p + 1))), some (.fz (.int ((p + 1 : Nat) : Int))), y, z, w]) := by
  have loop := forL_inv (P := fun i ρ => ∃ y z w, ρ = [some (.fz (.int (t : Int))), some (.ow (UV t p i)), some (.fz (.int ((p + 1 : Nat) : Int))), y, z, w]) (st := nameF 3) (s := fb_unlike_table_1) (rngDn (t : Int) (t - p)) 0 [some (.fz (.int (t : Int))), some (.ow (UW t p)), some (.fz (.int ((p + 1 : Nat) : Int))), s3, s4, s5] ⟨s3, s4, s5, by rw [UV_0]⟩ ?_
  · obtain ⟨ρ1, e, y, z, w, rfl⟩ := loop
    rw [rngDn_len, Nat.zero_add, UV_end hp] at e
    refine ⟨y, z, w, forS_of (ds := rngDn (t : Int) (t - p)) (ρ1 := [some (.fz (.int (t : Int))), some (.ow (UW t p)), some (.fz (.int ((p + 1 : Nat) : Int))), s3, s4, s5]) ?_ e⟩
    have h1 := smallI_of (a := ((p + 1 : Nat) : Int) - 1) (by omega) (by omega)
    have h2 := smallI_of (a := (t : Int)) (by omega) (by omega)
    have h4 : ((t : Int) - (((p + 1 : Nat) : Int) - 1)).toNat = t - p := by omega
    generalize ((p + 1 : Nat) : Int) = P at *
    generalize UW t p = W at *
    simp [fi_unlike_table_2, h1, h2, h4]
  · rintro i d ρ hd ⟨y, z, w, rfl⟩
    obtain ⟨hi, rfl⟩ := rngDn_iget hd
    rw [Nat.zero_add]
    have hj : (t : Int) - (i : Int) = ((t - i : Nat) : Int) := by omega
    have hs : ((t - i : Nat) : Int) - ((p + 1 : Nat) : Int) = ((t - i - (p + 1) : Nat) : Int) := by omega
    rw [hj]
    have i1 := UV_ix (t := t) (p := p) (i := i) (j := t - i) (by omega)
    have i2 := UV_ix (t := t) (p := p) (i := i) (j := t - i - (p + 1)) (by omega)
    rw [if_neg (by omega)] at i1 i2
    have e : ut (p + 1) (t - i) = ((ut p (t - i)).1 + (ut p (t - i - (p + 1))).2, (ut p (t - i)).2 + (ut p (t - i - (p + 1))).1) := by
      rw [ut, if_pos (by omega)]
    have sx : ixN (UV t p i).length ((t - i : Nat) : Int) = some (t - i) := ixN_nat (by rw [UV_len]; omega)
    have st := UV_set (t := t) (p := p) (i := i) (by omega)
    rw [e] at st
    refine ⟨[some (.fz (.int (t : Int))), some (.ow (UV t p (i + 1))), some (.fz (.int ((p + 1 : Nat) : Int))), some (.fz (.int ((t - i : Nat) : Int))), some (.fz (tuD (ut p (t - i)))), some (.fz (tuD (ut p (t - i - (p + 1)))))], .inl ?_, _, _, _, rfl⟩
    unfold tuD at *
    dsimp only at *
    rw [Int.natCast_add, Int.natCast_add] at st
    generalize UV t p (i + 1) = X2 at *
    generalize UV t p i = X1 at *
    generalize ((ut p (t - i)).1 : Int) = A at *
    generalize ((ut p (t - i)).2 : Int) = B at *
    generalize ((ut p (t - i - (p + 1))).1 : Int) = C at *
    generalize ((ut p (t - i - (p + 1))).2 : Int) = E at *
    generalize ((t - i : Nat) : Int) = J at *
    generalize ((t - i - (p + 1) : Nat) : Int) = J2 at *
    generalize ((p + 1 : Nat) : Int) = P at *
    simp [fb_unlike_table_1, i1, i2, hs, sx, st]
end
theorem utable_ok {t : Nat} (ht : t ≤ 200) : den_unlike_table [some (.fz (.int (t : Int)))] = some (.ow (UW t t), [none]) := by
  have r := UW_0 ht
  have c := UW_cat ht
  have loop := forL_inv (P := fun p ρ => ∃ x y z w, ρ = [some (.fz (.int (t : Int))), some (.ow (UW t p)), x, y, z, w]) (st := nameF 2) (s := fb_unlike_table_4) (rngD 1 t) 0 [some (.fz (.int (t : Int))), some (.ow (UW t 0)), none, none, none, none] ⟨none, none, none, none, rfl⟩ ?_
  · obtain ⟨ρ1, e, x, y, z, w, rfl⟩ := loop
    rw [rngD_length, Nat.zero_add] at e
    have e2 : fo_unlike_table_6 [some (.fz (.int (t : Int))), some (.ow (UW t 0)), none, none, none, none] = _ := forS_of (ds := rngD 1 t) (ρ1 := [some (.fz (.int (t : Int))), some (.ow (UW t 0)), none, none, none, none]) (by
      have h1 : smallI 1 = true := smallI_of (by decide) (by decide)
      have h2 := smallI_of (a := (t : Int) + 1) (by omega) (by omega)
      have h3 : ((t : Int)).toNat = t := by omega
      generalize UW t 0 = W at *
      simp [fi_unlike_table_5, h1, h2, h3]) e
    generalize UW t 0 = W at *
    generalize UW t t = W2 at *
    unfold tuD at r c
    dsimp only at r c
    rw [show ((0 : Nat) : Int) = 0 from rfl, show ((1 : Nat) : Int) = 1 from rfl] at *
    generalize List.replicate t (PyData.tuple [.int 0, .int 0]) = Z at *
    simp [den_unlike_table, e2, r, c, maskR_1]
  · rintro i d ρ hd ⟨x, y, z, w, rfl⟩
    obtain ⟨hi, rfl⟩ := rngD_get hd
    rw [Nat.zero_add, show (1 : Int) + (i : Int) = ((i + 1 : Nat) : Int) by omega]
    obtain ⟨y2, z2, w2, e⟩ := ut_in (s3 := y) (s4 := z) (s5 := w) ht (show i + 1 ≤ t by omega)
    exact ⟨_, .inl e, _, _, _, _, rfl⟩
/-- how many unlike rows -/
def un (t : Nat) : Nat := (ut t t).1 + (ut t t).2
theorem sumU_tu (ρ : Rho) (x : Nat × Nat) : sumU ρ [.fz (tuD x)] = some (.fz (.int ((x.1 + x.2 : Nat) : Int))) := by
  have e : intsD [.int ((x.1 : Nat) : Int), .int ((x.2 : Nat) : Int)] = some [((x.1 : Nat) : Int), ((x.2 : Nat) : Int)] := intsD_map (ns := [((x.1 : Nat) : Int), ((x.2 : Nat) : Int)])
  unfold sumU ctF tuD
  simp only [curA_cons, curA_nil, curR_fz, Option.bind_some, e]
  simp [Int.natCast_add]
theorem many_unlike_ok {t : Nat} (ht : t ≤ 200) : den_many_unlike [some (.fz (.int (t : Int)))] = some (.fz (.int ((un t : Nat) : Int)), [none]) := by
  have w := wtotal ht
  have e := utable_ok ht
  have i1 := UW_ix (t := t) (p := t) (j := t) (Nat.le_refl _)
  have su := fun ρ => sumU_tu ρ (ut t t)
  rw [show (ut t t).1 + (ut t t).2 = un t from rfl] at su
  generalize tuD (ut t t) = U at *
  generalize ((un t : Nat) : Int) = N at *
  generalize UW t t = W at *
  simp [den_many_unlike, w, e, i1, su, maskR_1]
theorem want_listed_ok {c : Nat} {x : Str} (h : c ≤ 2000) : den_want_listed [some (.fz (.int (c : Int))), some (.fz (.str x))] = some (.fz .none, [none, none]) := by
  have : ¬ (2000 : Int) < (c : Int) := by omega
  simp [-Int.ofNat_lt, den_want_listed, this, maskR_2]
theorem part_rows_ok {t : Nat} (ht : t ≤ 200) (w0 : LvOk 0 t) (hb : bt t t ≤ 2000) : den_part_rows [some (.fz (.int (t : Int)))] = some (.ow ((sortR (RWS 0 t)).map roI), [none]) := by
  have w := wtotal ht
  have e := count_ok ht
  have l := want_listed_ok (c := bt t t) (x := "rows") hb
  have r := rw_ok w0 ht
  generalize (sortR (RWS 0 t)).map roI = R at *
  generalize ((bt t t : Nat) : Int) = V at *
  simp [den_part_rows, w, e, l, r, maskR_1]
theorem unlike_rows_ok {t : Nat} (ht : t ≤ 200) (w1 : LvOk 1 t) (hb : un t ≤ 2000) : den_unlike_rows [some (.fz (.int (t : Int)))] = some (.ow ((sortR (RWS 1 t)).map roI), [none]) := by
  have w := wtotal ht
  have e := utable_ok ht
  have i1 := UW_ix (t := t) (p := t) (j := t) (Nat.le_refl _)
  have su := fun ρ => sumU_tu ρ (ut t t)
  rw [show (ut t t).1 + (ut t t).2 = un t from rfl] at su
  have l := want_listed_ok (c := un t) (x := "rows") hb
  have r := uw_ok w1 ht
  generalize (sortR (RWS 1 t)).map roI = R at *
  generalize tuD (ut t t) = U at *
  generalize ((un t : Nat) : Int) = N at *
  generalize UW t t = W at *
  simp [den_unlike_rows, w, e, i1, su, l, r, maskR_1]
end
end DL

namespace DL
open PySem PySem.Spec PyProof.Rows L2
noncomputable section
/-! a part row, looked at -/
theorem zip_next : ∀ xs : List Int, zipD (xs.map .int) ((xs.drop 1).map .int) = (List.range (xs.length - 1)).map fun j => .tuple [.int (xat xs j), .int (xat xs (j + 1))]
  | [] => rfl
  | [x] => rfl
  | x :: y :: r => by
    have ih := zip_next (y :: r)
    rw [List.drop_succ_cons, List.drop_zero] at ih ⊢
    rw [List.map_cons, List.map_cons, zipD, ← List.map_cons, ih]
    rw [show (x :: y :: r).length - 1 = ((y :: r).length - 1) + 1 by simp, List.range_succ_eq_map, List.map_cons, List.map_map]
    rfl
theorem drop_map (xs : List Int) (k : Nat) : (xs.map PyData.int).drop k = (xs.drop k).map .int := List.map_drop.symm
theorem rep_range (n : Nat) (b : Bool) : (List.replicate n b).map PyData.bool = (List.range n).map fun _ => PyData.bool b := by
  rw [List.map_replicate]
  refine List.ext_getElem (by rw [List.length_replicate, List.length_map, List.length_range]) fun j h1 h2 => ?_
  rw [List.getElem_replicate, List.getElem_map]
structure IsPR (t : Nat) (row : List Int) : Prop where
  len : row.length ≤ 30
  sum : row.sum = (t : Int)
  bd : ∀ x ∈ row, 1 ≤ x ∧ x ≤ 200
  down : ∀ i, i < row.length - 1 → xat row (i + 1) ≤ xat row i
theorem isPR {t : Nat} {row : List Int} (h : okRow t row = true) : IsPR t row := by
  unfold okRow at h
  simp only [Bool.and_eq_true, List.all_eq_true, List.mem_range, decide_eq_true_eq] at h
  exact ⟨h.1.1.1, h.1.1.2, h.1.2, h.2⟩
theorem want_pr {t : Nat} {row : List Int} (h : IsPR t row) (ht : t ≤ 200) : den_want_part_row [some (.fz (.list (row.map .int)))] = some (.fz .none, [none]) := by
  have hl := h.len
  have e1 : lc_is_part_row_value_3 [some (.fz (.list (row.map .int))), none, none, none] = some (.ow ((List.replicate row.length true).map .bool), [some (.fz (.list (row.map .int))), none, none, none]) := by
    have e0 : (List.replicate row.length true).map PyData.bool = row.map fun _ => PyData.bool true := by
      rw [List.map_replicate]
      exact (List.map_const' ..).symm
    rw [e0]
    refine lcE_tabL (L := row) (F := fun i => .int i) (G := fun _ => .bool true) (ρ1 := [some (.fz (.list (row.map .int))), none, none, none]) ?_ (by omega) fun i hi => ⟨_, .fz (.bool true), rfl, rfl, rfl, ?_, rfl⟩
    · simp [li_is_part_row_value_1]
    · have hb := h.bd i hi
      have h1 := within_ok (i := i) (lo := 1) (hi := 200) (by omega) (by omega)
      simp [le_is_part_row_value_2, h1]
  have e2 : lc_is_part_row_value_6 [some (.fz (.list (row.map .int))), none, none, none] = some (.ow ((List.replicate (row.length - 1) true).map .bool), [some (.fz (.list (row.map .int))), none, none, none]) := by
    rw [rep_range]
    refine lcE_tab (n := row.length - 1) (F := fun j => .tuple [.int (xat row j), .int (xat row (j + 1))]) (G := fun _ => .bool true) (ρ1 := [some (.fz (.list (row.map .int))), none, none, none]) ?_ (by omega) fun j hj => ⟨_, .fz (.bool true), rfl, rfl, ?_, rfl, rfl⟩
    · rw [← zip_next, ← drop_map]
      have c1 : cutD (row.map PyData.int) (some 1) none = _ := cutD_tail (ds := row.map PyData.int) 1
      generalize row.map PyData.int = V at *
      simp [li_is_part_row_value_4, c1]
    · have lt := h.down j hj
      simp [le_is_part_row_value_5, lt]
  have su : sumD (row.map PyData.int) = some (.fz (.int (t : Int))) := by rw [sumD_map, h.sum]
  have e3 : den_is_list [some (.fz (.list (row.map .int)))] = some (.fz (.bool true), [none]) := by
    simp [den_is_list, maskR_1, tyC, isC]
  have ht2 : (t : Int) ≤ 200 := by omega
  have e4 : den_is_part_row_value [some (.fz (.list (row.map .int)))] = some (.fz (.bool true), [none]) := by
    generalize row.map PyData.int = V at *
    generalize (t : Int) = T at *
    simp [den_is_part_row_value, e1, e2, e3, -List.map_replicate, allTrue, su, ht2, maskR_1]
  simp [den_want_part_row, e4, maskR_1]
theorem square_ok {t : Nat} {row : List Int} (h : IsPR t row) (ht : t ≤ 200) : den_square_of [some (.fz (.list (row.map .int)))] = some (.fz (.int ((sqr row : Nat) : Int)), [none]) := by
  have w := want_pr h ht
  have e : lc_square_in_4 [some (.fz (.list (row.map .int))), none, none] = some (.ow (((List.range row.length).filter fun i : Nat => decide ((i : Int) < xat row i)).map fun j : Nat => .int (j : Int)), [some (.fz (.list (row.map .int))), none, none]) := by
    refine lcE_tabF (L := List.range row.length) (F := fun j : Nat => .tuple [.int (j : Int), .int (xat row j)]) (G := fun j : Nat => .int (j : Int)) (T := fun i : Nat => decide ((i : Int) < xat row i)) (ρ1 := [some (.fz (.list (row.map .int))), none, none]) ?_ (by rw [List.length_range]; have := h.len; omega) fun j hj => ⟨_, .fz (.int (j : Int)), rfl, ?_, rfl, fun _ => ⟨?_, rfl⟩⟩
    · rw [← enum_tab]
      simp [li_square_in_1]
    · simp [lt_square_in_3]
    · simp [le_square_in_2]
  have l : (((List.range row.length).filter fun i : Nat => decide ((i : Int) < xat row i)).map fun j : Nat => PyData.int (j : Int)).length = sqr row := by rw [List.length_map]; rfl
  have s : den_square_in [some (.fz (.list (row.map .int)))] = some (.fz (.int ((sqr row : Nat) : Int)), [none]) := by
    generalize ((List.range row.length).filter fun i : Nat => decide ((i : Int) < xat row i)).map (fun j : Nat => PyData.int (j : Int)) = L at *
    generalize row.map PyData.int = V at *
    generalize sqr row = S at *
    simp [den_square_in, e, l, maskR_1]
  generalize row.map PyData.int = V at *
  generalize ((sqr row : Nat) : Int) = S at *
  simp [den_square_of, w, s, maskR_1]
theorem turned_ok {t : Nat} {row : List Int} (h : IsPR t row) (ht : t ≤ 200) : den_turned_parts [some (.fz (.list (row.map .int)))] = some (.ow ((turnP row).map .int), [none]) := by
  have w := want_pr h ht
  have hx : ∀ j, j < row.length → xat row j = row.getD j 0 := fun j _ => rfl
  have top : 0 < row.length → 1 ≤ xat row 0 ∧ xat row 0 ≤ 200 := fun hp => by
    have e : xat row 0 = row[0] := by unfold xat; rw [List.getD_eq_getElem?_getD, List.getElem?_eq_getElem hp]; rfl
    rw [e]
    exact h.bd _ (List.getElem_mem hp)
  have e : lc_turned_of_7 [some (.fz (.list (row.map .int))), none, none] = some (.ow ((turnP row).map .int), [some (.fz (.list (row.map .int))), none, none]) := by
    have e0 : (turnP row).map PyData.int = (List.range ((if 0 < row.length then xat row 0 else 0)).toNat).map fun i : Nat => .int ((row.filter fun p => decide (1 + (i : Int) ≤ p)).length : Int) := by
      unfold turnP
      rw [List.map_map]
      rfl
    rw [e0]
    refine lcE_tab (n := ((if 0 < row.length then xat row 0 else 0)).toNat) (F := fun j => .int (1 + (j : Int))) (G := fun i : Nat => .int ((row.filter fun p => decide (1 + (i : Int) ≤ p)).length : Int)) (ρ1 := [some (.fz (.list (row.map .int))), none, none]) ?_ (by
      split
      · next q => have := top q; omega
      · omega) fun j hj => ⟨_, .fz (.int ((row.filter fun p => decide (1 + (j : Int) ≤ p)).length : Int)), rfl, rfl, ?_, rfl, rfl⟩
    · rw [← rngD_tab]
      have h1 : smallI 1 = true := smallI_of (by decide) (by decide)
      by_cases q : 0 < row.length
      · have tp := top q
        have h2 := smallI_of (a := xat row 0 + 1) (by omega) (by omega)
        have ix : ixL (row.map PyData.int) 0 = some (.fz (.int (xat row 0))) := by
          have := ixL_nat (ds := row.map PyData.int) (k := 0) (d := .int (xat row 0)) (by
            rw [List.getElem?_map, List.getElem?_eq_getElem q]
            unfold xat
            rw [List.getD_eq_getElem?_getD, List.getElem?_eq_getElem q]
            rfl)
          exact this
        have lp : 0 < (row.map PyData.int).length := by rw [List.length_map]; exact q
        have lp2 : (0 : Int) < ((row.map PyData.int).length : Int) := by omega
        rw [if_pos q]
        generalize row.map PyData.int = V at *
        generalize xat row 0 = X at *
        simp [li_turned_of_5, h1, h2, ix, lp]
      · have z : row = [] := List.length_eq_zero_iff.mp (by omega)
        subst z
        simp [li_turned_of_5, h1]
    · have e2 : lc_turned_of_4 [some (.fz (.list (row.map .int))), some (.fz (.int (1 + (j : Int)))), none] = some (.ow ((row.filter fun p => decide (1 + (j : Int) ≤ p)).map .int), [some (.fz (.list (row.map .int))), some (.fz (.int (1 + (j : Int)))), none]) := by
        refine lcE_tabF (L := row) (F := fun p => .int p) (G := fun p => .int p) (T := fun p => decide (1 + (j : Int) ≤ p)) (ρ1 := [some (.fz (.list (row.map .int))), some (.fz (.int (1 + (j : Int)))), none]) ?_ (by have := h.len; omega) fun p hp => ⟨_, .fz (.int p), rfl, ?_, rfl, fun _ => ⟨?_, rfl⟩⟩
        · simp [li_turned_of_1]
        · generalize 1 + (j : Int) = J at *
          simp [lt_turned_of_3]
        · simp [le_turned_of_2]
      have l : (((row.filter fun p => decide (1 + (j : Int) ≤ p)).map PyData.int).length) = (row.filter fun p => decide (1 + (j : Int) ≤ p)).length := List.length_map ..
      generalize (row.filter fun p => decide (1 + (j : Int) ≤ p)).length = L9 at *
      generalize (row.filter fun p => decide (1 + (j : Int) ≤ p)).map PyData.int = L at *
      generalize row.map PyData.int = V at *
      generalize 1 + (j : Int) = J at *
      simp [le_turned_of_6, e2, l]
  generalize row.map PyData.int = V at *
  generalize (turnP row).map PyData.int = S at *
  simp [den_turned_parts, den_turned_of, w, e, maskR_1]
end
end DL

namespace DL
open PySem PySem.Spec PyProof.Rows L2
noncomputable section
/-! all part rows with a sum -/
theorem cnt_int (L : List Int) (x : Int) : cntG (L.map .int) (.int x) = some (.int (L.count x : Nat)) := by
  unfold cntG
  congr 3
  rw [List.countP_map, List.count]
  refine List.countP_congr fun z _ => ?_
  show PyData.eqv (.int z) (.int x) = true ↔ _
  rw [PyData.eqv]
theorem sum_castN {α : Type} (f : α → Nat) : ∀ L : List α, (L.map fun a => ((f a : Nat) : Int)).sum = (((L.map f).sum : Nat) : Int)
  | [] => rfl
  | a :: L => by rw [List.map_cons, List.sum_cons, List.map_cons, List.sum_cons, sum_castN f L, Int.natCast_add]
theorem permS {α : Type} (f : α → Nat) {L M : List α} (h : L.Perm M) : (L.map f).sum = (M.map f).sum := by
  induction h with
  | nil => rfl
  | cons a _ ih => rw [List.map_cons, List.sum_cons, List.map_cons, List.sum_cons, ih]
  | swap a b l => simp only [List.map_cons, List.sum_cons]; omega
  | trans _ _ h1 h2 => rw [h1, h2]
theorem permF {α : Type} (p : α → Bool) {L M : List α} (h : L.Perm M) : (L.filter p).length = (M.filter p).length := (h.filter p).length_eq
theorem sumD_N {α : Type} (f : α → Nat) (L : List α) : sumD (L.map fun a => .int ((f a : Nat) : Int)) = some (.fz (.int (((L.map f).sum : Nat) : Int))) := by
  have e : (L.map fun a => PyData.int ((f a : Nat) : Int)) = (L.map fun a => ((f a : Nat) : Int)).map .int := by rw [List.map_map]; rfl
  rw [e, sumD_map, sum_castN]
theorem eqD_fil (L : List Int) (p : Int → Bool) : eqD (.list ((L.filter p).map .int)) (.list []) = some (L.all fun x => !p x) := by
  have := eqD_lI (L.filter p) []
  rw [List.map_nil] at this
  rw [this]
  congr 1
  rw [Bool.eq_iff_iff, decide_eq_true_eq, List.filter_eq_nil_iff, List.all_eq_true]
  exact ⟨fun h x hx => by simpa using h x hx, fun h x hx => by simpa using h x hx⟩
theorem bt_le (s h : Nat) : bt s h ≤ bt h h := by
  by_cases q : h ≤ s
  · rw [bt_big q]; exact Nat.le_refl _
  · have : ∀ d, bt s h ≤ bt (s + d) h := fun d => by
      induction d with
      | zero => exact Nat.le_refl _
      | succ d ih => exact Nat.le_trans ih (bt_mono (s + d) h)
    have := this (h - s)
    rwa [show s + (h - s) = h by omega] at this
section
variable {s0 s1 s2 s3 s4 s5 s6 s7 s8 s9 s10 s11 s12 s13 : Option Vl} {row : List Int} {R : List (List Int)} {t tm sz sd : Nat}
theorem ls_4 (h : row.length ≤ 1000) : lc_law_lists_right_4 [s0, s1, s2, s3, s4, s5, s6, s7, some (.fz (.int (tm : Int))), s9, s10, some (.fz (.list (row.map .int))), s12, none] = some (.ow ((row.filter fun p => decide (tm ≤ row.count p)).map .int), [s0, s1, s2, s3, s4, s5, s6, s7, some (.fz (.int (tm : Int))), s9, s10, some (.fz (.list (row.map .int))), s12, none]) := by
  have h1 := sh_lI row
  refine lcE_tabF (L := row) (F := fun p => .int p) (G := fun p => .int p) (T := fun p => decide (tm ≤ row.count p)) (ρ1 := [s0, s1, s2, s3, s4, s5, s6, s7, some (.fz (.int (tm : Int))), s9, s10, some (.fz (.list (row.map .int))), s12, none]) ?_ (by omega) fun p hp => ⟨_, .fz (.int p), rfl, ?_, rfl, fun _ => ⟨?_, rfl⟩⟩
  · generalize row.map PyData.int = V at *
    simp [li_law_lists_right_1]
  · have c := cnt_int row p
    have h2 : SeqAt.shaped (.int p) = true := sh_int p
    generalize row.map PyData.int = V at *
    generalize row.count p = C at *
    simp [lt_law_lists_right_3, h1, h2, c]
  · simp [le_law_lists_right_2]
theorem ls_8 (hR : ∀ r ∈ R, r.length ≤ 1000) (hl : R.length ≤ 100000) : lc_law_lists_right_8 [s0, some (.fz (.list (R.map roI))), s2, s3, s4, s5, s6, s7, some (.fz (.int (tm : Int))), s9, s10, none, s12, none] = some (.ow ((R.filter (noRep tm)).map roI), [s0, some (.fz (.list (R.map roI))), s2, s3, s4, s5, s6, s7, some (.fz (.int (tm : Int))), s9, s10, none, s12, none]) := by
  refine lcE_tabF (L := R) (F := roI) (G := roI) (T := noRep tm) (ρ1 := [s0, some (.fz (.list (R.map roI))), s2, s3, s4, s5, s6, s7, some (.fz (.int (tm : Int))), s9, s10, none, s12, none]) ?_ (by omega) fun r hr => ⟨_, .fz (roI r), rfl, ?_, rfl, fun _ => ⟨?_, rfl⟩⟩
  · generalize R.map roI = V at *
    simp [li_law_lists_right_5]
  · have e4 := ls_4 (s0 := s0) (s1 := some (.fz (.list (R.map roI)))) (s2 := s2) (s3 := s3) (s4 := s4) (s5 := s5) (s6 := s6) (s7 := s7) (s9 := s9) (s10 := s10) (s12 := s12) (tm := tm) (hR r hr)
    have q := eqD_fil r fun p => decide (tm ≤ r.count p)
    have q2 : (r.all fun x => !decide (tm ≤ r.count x)) = noRep tm r := by
      unfold noRep
      congr 1
      funext x
      rw [Bool.eq_iff_iff]
      simp
    rw [q2] at q
    unfold roI at e4 ⊢
    generalize (r.filter fun p => decide (tm ≤ r.count p)).map PyData.int = W at *
    generalize R.map (fun xs : List Int => PyData.list (xs.map .int)) = V at *
    generalize r.map PyData.int = X at *
    simp [lt_law_lists_right_7, wipeR, e4, q]
  · simp [le_law_lists_right_6]
theorem ls_12 (h : row.length ≤ 1000) (hm : 0 < tm) : lc_law_lists_right_12 [s0, s1, s2, s3, s4, s5, s6, s7, some (.fz (.int (tm : Int))), s9, s10, some (.fz (.list (row.map .int))), s12, none] = some (.ow ((row.filter fun p => decide (p % (tm : Int) = 0)).map .int), [s0, s1, s2, s3, s4, s5, s6, s7, some (.fz (.int (tm : Int))), s9, s10, some (.fz (.list (row.map .int))), s12, none]) := by
  refine lcE_tabF (L := row) (F := fun p => .int p) (G := fun p => .int p) (T := fun p => decide (p % (tm : Int) = 0)) (ρ1 := [s0, s1, s2, s3, s4, s5, s6, s7, some (.fz (.int (tm : Int))), s9, s10, some (.fz (.list (row.map .int))), s12, none]) ?_ (by omega) fun p hp => ⟨_, .fz (.int p), rfl, ?_, rfl, fun _ => ⟨?_, rfl⟩⟩
  · generalize row.map PyData.int = V at *
    simp [li_law_lists_right_9]
  · have h1 : (0 : Int) < (tm : Int) := by omega
    generalize row.map PyData.int = V at *
    generalize (tm : Int) = T at *
    simp [lt_law_lists_right_11, h1]
  · simp [le_law_lists_right_10]
theorem ls_16 (hR : ∀ r ∈ R, r.length ≤ 1000) (hl : R.length ≤ 100000) (hm : 0 < tm) : lc_law_lists_right_16 [s0, some (.fz (.list (R.map roI))), s2, s3, s4, s5, s6, s7, some (.fz (.int (tm : Int))), s9, s10, none, s12, none] = some (.ow ((R.filter (noDiv tm)).map roI), [s0, some (.fz (.list (R.map roI))), s2, s3, s4, s5, s6, s7, some (.fz (.int (tm : Int))), s9, s10, none, s12, none]) := by
  refine lcE_tabF (L := R) (F := roI) (G := roI) (T := noDiv tm) (ρ1 := [s0, some (.fz (.list (R.map roI))), s2, s3, s4, s5, s6, s7, some (.fz (.int (tm : Int))), s9, s10, none, s12, none]) ?_ (by omega) fun r hr => ⟨_, .fz (roI r), rfl, ?_, rfl, fun _ => ⟨?_, rfl⟩⟩
  · generalize R.map roI = V at *
    simp [li_law_lists_right_13]
  · have e4 := ls_12 (s0 := s0) (s1 := some (.fz (.list (R.map roI)))) (s2 := s2) (s3 := s3) (s4 := s4) (s5 := s5) (s6 := s6) (s7 := s7) (s9 := s9) (s10 := s10) (s12 := s12) (tm := tm) (hR r hr) hm
    have q := eqD_fil r fun p => decide (p % (tm : Int) = 0)
    have q2 : (r.all fun x => !decide (x % (tm : Int) = 0)) = noDiv tm r := by
      unfold noDiv
      congr 1
      funext x
      rw [Bool.eq_iff_iff]
      simp
    rw [q2] at q
    unfold roI at e4 ⊢
    generalize (r.filter fun p => decide (p % (tm : Int) = 0)).map PyData.int = W at *
    generalize R.map (fun xs : List Int => PyData.list (xs.map .int)) = V at *
    generalize r.map PyData.int = X at *
    simp [lt_law_lists_right_15, wipeR, e4, q]
  · simp [le_law_lists_right_14]
theorem ls_20 (hl : R.length ≤ 100000) : lc_law_lists_right_20 [s0, some (.fz (.list (R.map roI))), s2, s3, s4, s5, s6, s7, s8, s9, s10, none, s12, s13] = some (.ow ((R.filter fun row => decide (¬ (1 : Int) ∈ row)).map roI), [s0, some (.fz (.list (R.map roI))), s2, s3, s4, s5, s6, s7, s8, s9, s10, none, s12, s13]) := by
  refine lcE_tabF (L := R) (F := roI) (G := roI) (T := fun row => decide (¬ (1 : Int) ∈ row)) (ρ1 := [s0, some (.fz (.list (R.map roI))), s2, s3, s4, s5, s6, s7, s8, s9, s10, none, s12, s13]) ?_ (by omega) fun r hr => ⟨_, .fz (roI r), rfl, ?_, rfl, fun _ => ⟨?_, rfl⟩⟩
  · generalize R.map roI = V at *
    simp [li_law_lists_right_17]
  · have ni := fun ρ => notInF_l (ρ := ρ) (k := 1) (ns := r)
    generalize R.map roI = V at *
    simp [lt_law_lists_right_19, roI, ni]
  · simp [le_law_lists_right_18]
theorem ls_23 (hl : R.length ≤ 100000) : lc_law_lists_right_23 [s0, some (.fz (.list (R.map roI))), s2, s3, some (.fz (.int (sz : Int))), s5, s6, s7, s8, s9, s10, none, s12, s13] = some (.ow (R.map fun row => .int ((row.count (sz : Int) : Nat) : Int)), [s0, some (.fz (.list (R.map roI))), s2, s3, some (.fz (.int (sz : Int))), s5, s6, s7, s8, s9, s10, none, s12, s13]) := by
  refine lcE_tabL (L := R) (F := roI) (G := fun row => .int ((row.count (sz : Int) : Nat) : Int)) (ρ1 := [s0, some (.fz (.list (R.map roI))), s2, s3, some (.fz (.int (sz : Int))), s5, s6, s7, s8, s9, s10, none, s12, s13]) ?_ (by omega) fun r hr => ⟨_, .fz (.int ((r.count (sz : Int) : Nat) : Int)), rfl, rfl, rfl, ?_, rfl⟩
  · generalize R.map roI = V at *
    simp [li_law_lists_right_21]
  · have c := cnt_int r (sz : Int)
    have h1 := sh_lI r
    have h2 : SeqAt.shaped (.int (sz : Int)) = true := sh_int _
    generalize R.map roI = V at *
    unfold roI
    generalize r.count (sz : Int) = C at *
    generalize r.map PyData.int = X at *
    simp [le_law_lists_right_22, h1, h2, c]
theorem ls_29 (hl : R.length ≤ 100000) : lc_law_lists_right_29 [s0, some (.fz (.list (R.map roI))), s2, s3, s4, s5, s6, s7, s8, s9, s10, none, s12, s13] = some (.ow (R.map fun row => .int ((row.count (1 : Int) : Nat) : Int)), [s0, some (.fz (.list (R.map roI))), s2, s3, s4, s5, s6, s7, s8, s9, s10, none, s12, s13]) := by
  refine lcE_tabL (L := R) (F := roI) (G := fun row => .int ((row.count (1 : Int) : Nat) : Int)) (ρ1 := [s0, some (.fz (.list (R.map roI))), s2, s3, s4, s5, s6, s7, s8, s9, s10, none, s12, s13]) ?_ (by omega) fun r hr => ⟨_, .fz (.int ((r.count (1 : Int) : Nat) : Int)), rfl, rfl, rfl, ?_, rfl⟩
  · generalize R.map roI = V at *
    simp [li_law_lists_right_27]
  · have c := cnt_int r 1
    have h1 := sh_lI r
    have h2 : SeqAt.shaped (.int 1) = true := sh_int _
    generalize R.map roI = V at *
    unfold roI
    generalize r.count (1 : Int) = C at *
    generalize r.map PyData.int = X at *
    simp [le_law_lists_right_28, h1, h2, c]
theorem ls_32 (hR : ∀ r ∈ R, r.length < 64) (hl : R.length ≤ 100000) : lc_law_lists_right_32 [s0, some (.fz (.list (R.map roI))), s2, s3, s4, s5, s6, s7, s8, s9, s10, none, s12, s13] = some (.ow (R.map fun row => .int (((ssI row).length : Nat) : Int)), [s0, some (.fz (.list (R.map roI))), s2, s3, s4, s5, s6, s7, s8, s9, s10, none, s12, s13]) := by
  refine lcE_tabL (L := R) (F := roI) (G := fun row => .int (((ssI row).length : Nat) : Int)) (ρ1 := [s0, some (.fz (.list (R.map roI))), s2, s3, s4, s5, s6, s7, s8, s9, s10, none, s12, s13]) ?_ (by omega) fun r hr => ⟨_, .fz (.int (((ssI r).length : Nat) : Int)), rfl, rfl, rfl, ?_, rfl⟩
  · generalize R.map roI = V at *
    simp [li_law_lists_right_30]
  · have h1 := fun ρ => lsF_l (ρ := ρ) (hR r hr)
    generalize R.map roI = V at *
    unfold roI
    generalize (ssI r).length = C at *
    generalize r.map PyData.int = X at *
    simp [le_law_lists_right_31, h1]
theorem ls_26 (ht : t ≤ 18) (hs : 0 < sz) (hs2 : sz ≤ 6) : lc_law_lists_right_26 [s0, s1, s2, s3, some (.fz (.int (sz : Int))), s5, s6, some (.fz (.int (t : Int))), s8, s9, s10, s11, none, s13] = some (.ow ((vec (t / sz) fun o => ((bt (t - sz * (1 + o)) (t - sz * (1 + o)) : Nat) : Int)).map .int), [s0, s1, s2, s3, some (.fz (.int (sz : Int))), s5, s6, some (.fz (.int (t : Int))), s8, s9, s10, s11, none, s13]) := by
  have dv : t / sz ≤ t := Nat.div_le_self _ _
  have e0 : (vec (t / sz) fun o => ((bt (t - sz * (1 + o)) (t - sz * (1 + o)) : Nat) : Int)).map PyData.int = (List.range (t / sz)).map fun o => .int ((bt (t - sz * (1 + o)) (t - sz * (1 + o)) : Nat) : Int) := by
    unfold vec
    rw [List.map_map]
    rfl
  rw [e0]
  refine lcE_tab (n := t / sz) (F := fun j => .int (1 + (j : Int))) (G := fun o => .int ((bt (t - sz * (1 + o)) (t - sz * (1 + o)) : Nat) : Int)) (ρ1 := [s0, s1, s2, s3, some (.fz (.int (sz : Int))), s5, s6, some (.fz (.int (t : Int))), s8, s9, s10, s11, none, s13]) ?_ (by omega) fun j hj => ⟨_, .fz (.int ((bt (t - sz * (1 + j)) (t - sz * (1 + j)) : Nat) : Int)), rfl, rfl, ?_, rfl, rfl⟩
  · rw [← rngD_tab]
    have h1 : smallI 1 = true := smallI_of (by decide) (by decide)
    have h3 : divOk (t : Int) (sz : Int) = true := divOk_of (by omega) (by omega)
    have h4 : (t : Int) / (sz : Int) = ((t / sz : Nat) : Int) := (Int.natCast_ediv t sz).symm
    have h6 : (0 : Int) < (sz : Int) := by omega
    clear e0
    generalize t / sz = D at *
    have h2 := smallI_of (a := (D : Int) + 1) (by omega) (by omega)
    have h5 : ((D : Int) + 1 - 1).toNat = D := by omega
    simp [li_law_lists_right_24, h1, h2, h3, h4, h5, h6]
  · have le : sz * (1 + j) ≤ t := by
      have h1 : 1 + j ≤ t / sz := by omega
      have := Nat.mul_le_mul_left sz h1
      have := Nat.mul_div_le t sz
      omega
    have pr := parts_ok (t := t - sz * (1 + j)) (by omega)
    have mu : mulOk (sz : Int) (1 + (j : Int)) = true := mulOk_l (by omega) (by omega)
    have sb : (t : Int) - (sz : Int) * (1 + (j : Int)) = ((t - sz * (1 + j) : Nat) : Int) := by
      rw [Int.ofNat_sub le, Int.natCast_mul, Int.natCast_add]
      rfl
    generalize ((bt (t - sz * (1 + j)) (t - sz * (1 + j)) : Nat) : Int) = B at *
    generalize ((t - sz * (1 + j) : Nat) : Int) = A at *
    generalize 1 + (j : Int) = J at *
    simp [le_law_lists_right_25, pr, mu, sb]
theorem ls_39 (w : ∀ r ∈ R, IsPR t r) (ht : t ≤ 200) (hl : R.length ≤ 100000) : lc_law_lists_right_39 [s0, some (.fz (.list (R.map roI))), s2, s3, s4, some (.fz (.int (sd : Int))), s6, s7, s8, s9, s10, none, s12, s13] = some (.ow ((R.filter fun row => decide (sqr row = sd)).map roI), [s0, some (.fz (.list (R.map roI))), s2, s3, s4, some (.fz (.int (sd : Int))), s6, s7, s8, s9, s10, none, s12, s13]) := by
  refine lcE_tabF (L := R) (F := roI) (G := roI) (T := fun row => decide (sqr row = sd)) (ρ1 := [s0, some (.fz (.list (R.map roI))), s2, s3, s4, some (.fz (.int (sd : Int))), s6, s7, s8, s9, s10, none, s12, s13]) ?_ (by omega) fun r hr => ⟨_, .fz (roI r), rfl, ?_, rfl, fun _ => ⟨?_, rfl⟩⟩
  · generalize R.map roI = V at *
    simp [li_law_lists_right_36]
  · have q := square_ok (w r hr) ht
    generalize R.map roI = V at *
    unfold roI
    generalize sqr r = S at *
    generalize r.map PyData.int = X at *
    simp [lt_law_lists_right_38, q]
    omega
  · simp [le_law_lists_right_37]
/-- squares: the couples -/
def duN (s L : Nat) (h : Nat) : Nat := bt s h * bt s (L - h)
theorem ls_35 {L : Nat} (hL : L ≤ 18) (hs : sd ≤ 4) (hb : ∀ h, h ≤ 18 → bt h h ≤ 2000) : ∃ y, fo_law_lists_right_35 [s0, s1, s2, s3, s4, some (.fz (.int (sd : Int))), s6, s7, s8, some (.fz (.int (L : Int))), some (.fz (.int 0)), s11, s12, s13] = some (.nx [s0, s1, s2, s3, s4, some (.fz (.int (sd : Int))), y, s7, s8, some (.fz (.int (L : Int))), some (.fz (.int ((sN' (duN sd L) (L + 1) : Nat) : Int))), s11, s12, s13]) := by
  have loop := forL_inv (P := fun i ρ => ∃ y, ρ = [s0, s1, s2, s3, s4, some (.fz (.int (sd : Int))), y, s7, s8, some (.fz (.int (L : Int))), some (.fz (.int ((sN' (duN sd L) i : Nat) : Int))), s11, s12, s13]) (st := nameF 6) (s := fb_law_lists_right_33) (rngD 0 (L + 1)) 0 [s0, s1, s2, s3, s4, some (.fz (.int (sd : Int))), s6, s7, s8, some (.fz (.int (L : Int))), some (.fz (.int 0)), s11, s12, s13] ⟨s6, rfl⟩ ?_
  · obtain ⟨ρ1, e, y, rfl⟩ := loop
    rw [rngD_length, Nat.zero_add] at e
    refine ⟨y, forS_of (ds := rngD 0 (L + 1)) (ρ1 := [s0, s1, s2, s3, s4, some (.fz (.int (sd : Int))), s6, s7, s8, some (.fz (.int (L : Int))), some (.fz (.int 0)), s11, s12, s13]) ?_ e⟩
    have h2 := smallI_of (a := (L : Int) + 1) (by omega) (by omega)
    have h3 : ((L : Int) + 1).toNat = L + 1 := by omega
    simp [fi_law_lists_right_34, h2, h3]
  · rintro i d ρ hd ⟨y, rfl⟩
    obtain ⟨hi, rfl⟩ := rngD_get hd
    rw [Nat.zero_add, Int.zero_add]
    have b1 := bounded_ok (t := i) (m := sd) (by omega) (by omega)
    have b2 := bounded_ok (t := L - i) (m := sd) (by omega) (by omega)
    have sb : (L : Int) - (i : Int) = ((L - i : Nat) : Int) := by omega
    have l1 := bt_le sd i
    have l2 := hb i (by omega)
    have mu : mulOk ((bt sd i : Nat) : Int) ((bt sd (L - i) : Nat) : Int) = true := mulOk_l (by omega) (by omega)
    have e : ((sN' (duN sd L) (i + 1) : Nat) : Int) = ((sN' (duN sd L) i : Nat) : Int) + ((bt sd i : Nat) : Int) * ((bt sd (L - i) : Nat) : Int) := by
      rw [sN', Int.natCast_add, duN, Int.natCast_mul]
    refine ⟨_, .inl ?_, some (.fz (.int (i : Int))), rfl⟩
    rw [e]
    generalize ((sN' (duN sd L) i : Nat) : Int) = S at *
    generalize ((bt sd i : Nat) : Int) = A at *
    generalize ((bt sd (L - i) : Nat) : Int) = B at *
    generalize ((L - i : Nat) : Int) = D at *
    simp [fb_law_lists_right_33, b1, b2, sb, mu]
end
end
end DL

namespace DL
open PySem PySem.Spec PyProof.Rows L2
noncomputable section
structure Fac (t : Nat) : Prop where
  hb : bt t t ≤ 2000
  f1 : ∀ tm : Nat, 2 ≤ tm → tm ≤ 5 → ((sortR (RWS 0 t)).filter (noRep tm)).length = ((sortR (RWS 0 t)).filter (noDiv tm)).length
  f2 : ((sortR (RWS 0 t)).filter (noRep 2)).length = un t
  f3 : 0 < t → ((sortR (RWS 0 t)).filter fun row => decide (¬ (1 : Int) ∈ row)).length + bt (t - 1) (t - 1) = bt t t
  f4 : ∀ sz : Nat, 1 ≤ sz → sz ≤ 6 → ((sortR (RWS 0 t)).map fun row => row.count (sz : Int)).sum = sN' (fun o => bt (t - sz * (1 + o)) (t - sz * (1 + o))) (t / sz)
  f5 : ((sortR (RWS 0 t)).map fun row => row.count (1 : Int)).sum = ((sortR (RWS 0 t)).map fun row => (ssI row).length).sum
  f6 : ∀ s : Nat, s ≤ 4 → ((sortR (RWS 0 t)).filter fun row => decide (sqr row = s)).length = if s * s ≤ t then sN' (duN s (t - s * s)) (t - s * s + 1) else 0
  pr : ∀ r ∈ sortR (RWS 0 t), IsPR t r
  ln : (sortR (RWS 0 t)).length ≤ 2000
theorem fac {t : Nat} (ht : t ≤ 18) : Fac t := by
  have h : ck18 t = true := List.all_eq_true.mp c18 t (List.mem_range.mpr (by omega))
  have w := lv0 ht
  have p := sortR_perm (RWS 0 t)
  unfold ck18 at h
  simp only [Bool.and_eq_true, Bool.or_eq_true, List.all_eq_true, List.mem_range, decide_eq_true_eq] at h
  obtain ⟨⟨⟨⟨⟨⟨h1, h2⟩, h3⟩, h4⟩, h5⟩, h6⟩, h7⟩ := h
  refine ⟨h1, fun tm a b => ?_, ?_, fun a => ?_, fun sz a b => ?_, ?_, fun s a => ?_, fun r hr => isPR (w.ok r (p.mem_iff.mp hr)), ?_⟩
  · have := h2 (tm - 2) (by omega)
    rw [show 2 + (tm - 2) = tm by omega] at this
    rw [permF _ p, permF _ p, this]
  · rw [permF _ p, h3]; rfl
  · rcases h4 with z | z
    · have : t = 0 := by simpa using z
      omega
    · rw [permF _ p]; exact z
  · have := h5 (sz - 1) (by omega)
    rw [show 1 + (sz - 1) = sz by omega] at this
    rw [permS _ p, this]
  · rw [permS _ p, permS _ p, h6]
  · rw [permF _ p, h7 s (by omega)]; rfl
  · rw [p.length_eq]
    exact w.l2 (t + 1) (Nat.le_refl _)
theorem lists_right {p : Vl} (hp : IsPot p) : ∃ p', den__law_lists_right [some p] = some (.fz (.bool true), [some p']) ∧ IsPot p' := by
  obtain ⟨q, rfl⟩ : ∃ q, p = .ow q := by obtain ⟨a, b, rfl, _⟩ := hp; exact ⟨_, rfl⟩
  obtain ⟨d0, p1, e1, g0, g1, hp1⟩ := draw_ok hp (n := 19) (by decide) (by decide)
  obtain ⟨t, rfl⟩ := Int.eq_ofNat_of_zero_le g0
  obtain ⟨q1, rfl⟩ : ∃ q, p1 = .ow q := by obtain ⟨a, b, rfl, _⟩ := hp1; exact ⟨_, rfl⟩
  obtain ⟨d1, p2, e2, f0, f1, hp2⟩ := draw_ok hp1 (n := 4) (by decide) (by decide)
  obtain ⟨tm, hk⟩ : ∃ k : Nat, 2 + d1 = ((k : Nat) : Int) := ⟨(2 + d1).toNat, by omega⟩
  obtain ⟨q2, rfl⟩ : ∃ q, p2 = .ow q := by obtain ⟨a, b, rfl, _⟩ := hp2; exact ⟨_, rfl⟩
  obtain ⟨d2, p3, e3, h0, h1, hp3⟩ := draw_ok hp2 (n := 6) (by decide) (by decide)
  obtain ⟨sz, hm⟩ : ∃ m : Nat, 1 + d2 = ((m : Nat) : Int) := ⟨(1 + d2).toNat, by omega⟩
  obtain ⟨q3, rfl⟩ : ∃ q, p3 = .ow q := by obtain ⟨a, b, rfl, _⟩ := hp3; exact ⟨_, rfl⟩
  obtain ⟨d3, p4, e4, i0, i1, hp4⟩ := draw_ok hp3 (n := 5) (by decide) (by decide)
  obtain ⟨sd, rfl⟩ := Int.eq_ofNat_of_zero_le i0
  obtain ⟨q4, rfl⟩ : ∃ q, p4 = .ow q := by obtain ⟨a, b, rfl, _⟩ := hp4; exact ⟨_, rfl⟩
  refine ⟨.ow q4, ?_, hp4⟩
  have ht : t ≤ 18 := by omega
  have F := fac ht
  have w := lv0 ht
  have pr := part_rows_ok (by omega) w F.hb
  have tm1 : 2 ≤ tm := by omega
  have tm2 : tm ≤ 5 := by omega
  have sz1 : 1 ≤ sz := by omega
  have sz2 : sz ≤ 6 := by omega
  have sd2 : sd ≤ 4 := by omega
  have F1 := F.f1 tm tm1 tm2
  have F2 := F.f2
  have F3 := F.f3
  have F4 := F.f4 sz sz1 sz2
  have F5 := F.f5
  have F6 := F.f6 sd sd2
  have rl : ∀ r ∈ sortR (RWS 0 t), r.length ≤ 1000 := fun r hr => by have := (F.pr r hr).len; omega
  have rl2 : ∀ r ∈ sortR (RWS 0 t), r.length < 64 := fun r hr => by have := (F.pr r hr).len; omega
  have ln : (sortR (RWS 0 t)).length ≤ 100000 := by have := F.ln; omega
  have IP := F.pr
  obtain ⟨R, hR⟩ : ∃ R, sortR (RWS 0 t) = R := ⟨_, rfl⟩
  rw [hR] at F1 F2 F4 F5 F6 rl rl2 ln IP pr
  simp only [hR] at F3
  have L8 := fun s0 s2 s3 s4 s5 s6 s7 s9 s10 s12 => ls_8 (s0 := s0) (s2 := s2) (s3 := s3) (s4 := s4) (s5 := s5) (s6 := s6) (s7 := s7) (s9 := s9) (s10 := s10) (s12 := s12) (tm := tm) rl ln
  have L16 := fun s0 s2 s3 s4 s5 s6 s7 s9 s10 s12 => ls_16 (s0 := s0) (s2 := s2) (s3 := s3) (s4 := s4) (s5 := s5) (s6 := s6) (s7 := s7) (s9 := s9) (s10 := s10) (s12 := s12) (tm := tm) rl ln (by omega)
  have L20 := fun s0 s2 s3 s4 s5 s6 s7 s8 s9 s10 s12 s13 => ls_20 (s0 := s0) (s2 := s2) (s3 := s3) (s4 := s4) (s5 := s5) (s6 := s6) (s7 := s7) (s8 := s8) (s9 := s9) (s10 := s10) (s12 := s12) (s13 := s13) ln
  have L23 := fun s0 s2 s3 s5 s6 s7 s8 s9 s10 s12 s13 => ls_23 (s0 := s0) (s2 := s2) (s3 := s3) (s5 := s5) (s6 := s6) (s7 := s7) (s8 := s8) (s9 := s9) (s10 := s10) (s12 := s12) (s13 := s13) (sz := sz) ln
  have L29 := fun s0 s2 s3 s4 s5 s6 s7 s8 s9 s10 s12 s13 => ls_29 (s0 := s0) (s2 := s2) (s3 := s3) (s4 := s4) (s5 := s5) (s6 := s6) (s7 := s7) (s8 := s8) (s9 := s9) (s10 := s10) (s12 := s12) (s13 := s13) ln
  have L32 := fun s0 s2 s3 s4 s5 s6 s7 s8 s9 s10 s12 s13 => ls_32 (s0 := s0) (s2 := s2) (s3 := s3) (s4 := s4) (s5 := s5) (s6 := s6) (s7 := s7) (s8 := s8) (s9 := s9) (s10 := s10) (s12 := s12) (s13 := s13) rl2 ln
  have L26 := fun s0 s1 s2 s3 s5 s6 s8 s9 s10 s11 s13 => ls_26 (s0 := s0) (s1 := s1) (s2 := s2) (s3 := s3) (s5 := s5) (s6 := s6) (s8 := s8) (s9 := s9) (s10 := s10) (s11 := s11) (s13 := s13) (t := t) (sz := sz) ht (by omega) sz2
  have L39 := fun s0 s2 s3 s4 s6 s7 s8 s9 s10 s12 s13 => ls_39 (s0 := s0) (s2 := s2) (s3 := s3) (s4 := s4) (s6 := s6) (s7 := s7) (s8 := s8) (s9 := s9) (s10 := s10) (s12 := s12) (s13 := s13) (sd := sd) IP (by omega) ln
  have S23 := sumD_N (fun row : List Int => row.count (sz : Int)) R
  have S29 := sumD_N (fun row : List Int => row.count (1 : Int)) R
  have S32 := sumD_N (fun row : List Int => (ssI row).length) R
  rw [F5] at S29
  rw [F4] at S23
  have S26 : sumD ((vec (t / sz) fun o => ((bt (t - sz * (1 + o)) (t - sz * (1 + o)) : Nat) : Int)).map PyData.int) = some (.fz (.int ((sN' (fun o => bt (t - sz * (1 + o)) (t - sz * (1 + o))) (t / sz) : Nat) : Int))) := by
    rw [sumD_map, sum_vec, sN_sm]
  have mu := many_unlike_ok (t := t) (by omega)
  have p0 := parts_ok (t := t) (by omega)
  have p1 := parts_ok (t := t - 1) (by omega)
  have t1 : 0 < t → (t : Int) - 1 = ((t - 1 : Nat) : Int) := fun _ => by omega
  have F3' : 0 < t → (((R.filter fun row => decide (¬ (1 : Int) ∈ row)).map roI).length : Int) = ((bt t t : Nat) : Int) - ((bt (t - 1) (t - 1) : Nat) : Int) := fun h => by
    rw [List.length_map]
    have := F3 h
    omega
  have F1' : ((R.filter (noRep tm)).map roI).length = ((R.filter (noDiv tm)).map roI).length := by rw [List.length_map, List.length_map, F1]
  have F2' : tm = 2 → (((R.filter (noRep tm)).map roI).length : Int) = ((un t : Nat) : Int) := fun h => by subst h; rw [List.length_map, F2]
  -- squares
  have due : ∃ y z L : Option Vl, sq_law_lists_right_40 [some (.ow q4), some (.fz (.list (R.map roI))), some (.fz (.list ((R.filter (noRep tm)).map roI))), some (.fz (.list ((R.filter (noDiv tm)).map roI))), some (.fz (.int (sz : Int))), some (.fz (.int (sd : Int))), none, some (.fz (.int (t : Int))), some (.fz (.int (tm : Int))), none, none, none, none, none] = some (.rt (.fz (.bool true)) [some (.ow q4), some (.fz (.list (R.map roI))), some (.fz (.list ((R.filter (noRep tm)).map roI))), some (.fz (.list ((R.filter (noDiv tm)).map roI))), some (.fz (.int (sz : Int))), some (.fz (.int (sd : Int))), y, some (.fz (.int (t : Int))), some (.fz (.int (tm : Int))), z, L, none, none, none]) := by
    have mu2 : mulOk (sd : Int) (sd : Int) = true := mulOk_l (by omega) (by omega)
    have l39 : (((R.filter fun row => decide (sqr row = sd)).map roI).length : Int) = ((if sd * sd ≤ t then sN' (duN sd (t - sd * sd)) (t - sd * sd + 1) else 0 : Nat) : Int) := by rw [List.length_map, F6]
    by_cases h : sd * sd ≤ t
    · have sb : (t : Int) - (sd : Int) * (sd : Int) = ((t - sd * sd : Nat) : Int) := by
        rw [Int.ofNat_sub h, Int.natCast_mul]
      rw [if_pos h] at l39
      obtain ⟨y, e35⟩ := ls_35 (s0 := some (.ow q4)) (s1 := some (.fz (.list (R.map roI)))) (s2 := some (.fz (.list ((R.filter (noRep tm)).map roI)))) (s3 := some (.fz (.list ((R.filter (noDiv tm)).map roI)))) (s4 := some (.fz (.int (sz : Int)))) (s6 := none) (s7 := some (.fz (.int (t : Int)))) (s8 := some (.fz (.int (tm : Int)))) (s11 := none) (s12 := none) (s13 := none) (sd := sd) (L := t - sd * sd) (by omega) sd2 fun h hh => (fac hh).hb
      refine ⟨y, some (.fz (.int ((t - sd * sd : Nat) : Int))), some (.fz (.int ((sN' (duN sd (t - sd * sd)) (t - sd * sd + 1) : Nat) : Int))), ?_⟩
      generalize ((sN' (duN sd (t - sd * sd)) (t - sd * sd + 1) : Nat) : Int) = N at *
      generalize ((t - sd * sd : Nat) : Int) = LL at *
      generalize (R.filter fun row => decide (sqr row = sd)).map roI = Q at *
      generalize R.map roI = R1 at *
      generalize (R.filter (noRep tm)).map roI = R2 at *
      generalize (R.filter (noDiv tm)).map roI = R3 at *
      simp [sq_law_lists_right_40, mu2, sb, e35, L39, l39]
    · have sb : (t : Int) - (sd : Int) * (sd : Int) < 0 := by
        rw [← Int.natCast_mul]
        omega
      have sb2 : (sd : Int) * (sd : Int) ≤ 16 := by
        have := Nat.mul_le_mul sd2 sd2
        rw [← Int.natCast_mul]
        omega
      rw [if_neg h] at l39
      have sm := smallI_of (a := (t : Int) - (sd : Int) * (sd : Int) + 1) (by omega) (by omega)
      have tn : ((t : Int) - (sd : Int) * (sd : Int) + 1).toNat = 0 := by omega
      refine ⟨none, some (.fz (.int ((t : Int) - (sd : Int) * (sd : Int)))), some (.fz (.int 0)), ?_⟩
      obtain ⟨SS, hSS⟩ : ∃ SS, (sd : Int) * (sd : Int) = SS := ⟨_, rfl⟩
      rw [hSS] at sm tn
      rw [hSS]
      have e35 : fo_law_lists_right_35 [some (.ow q4), some (.fz (.list (R.map roI))), some (.fz (.list ((R.filter (noRep tm)).map roI))), some (.fz (.list ((R.filter (noDiv tm)).map roI))), some (.fz (.int (sz : Int))), some (.fz (.int (sd : Int))), none, some (.fz (.int (t : Int))), some (.fz (.int (tm : Int))), some (.fz (.int ((t : Int) - SS))), some (.fz (.int 0)), none, none, none] = some (.nx [some (.ow q4), some (.fz (.list (R.map roI))), some (.fz (.list ((R.filter (noRep tm)).map roI))), some (.fz (.list ((R.filter (noDiv tm)).map roI))), some (.fz (.int (sz : Int))), some (.fz (.int (sd : Int))), none, some (.fz (.int (t : Int))), some (.fz (.int (tm : Int))), some (.fz (.int ((t : Int) - SS))), some (.fz (.int 0)), none, none, none]) := by
        refine forS_of (ds := rngD 0 0) (ρ1 := [some (.ow q4), some (.fz (.list (R.map roI))), some (.fz (.list ((R.filter (noRep tm)).map roI))), some (.fz (.list ((R.filter (noDiv tm)).map roI))), some (.fz (.int (sz : Int))), some (.fz (.int (sd : Int))), none, some (.fz (.int (t : Int))), some (.fz (.int (tm : Int))), some (.fz (.int ((t : Int) - SS))), some (.fz (.int 0)), none, none, none]) ?_ rfl
        generalize R.map roI = R1 at *
        generalize (R.filter (noRep tm)).map roI = R2 at *
        generalize (R.filter (noDiv tm)).map roI = R3 at *
        simp [fi_law_lists_right_34, sm, tn]
      generalize (R.filter fun row => decide (sqr row = sd)).map roI = Q at *
      generalize R.map roI = R1 at *
      generalize (R.filter (noRep tm)).map roI = R2 at *
      generalize (R.filter (noDiv tm)).map roI = R3 at *
      have l39' : (Q.length : Int) = 0 := l39
      simp [sq_law_lists_right_40, mu2, hSS, e35, L39, -Int.natCast_eq_zero, l39']
  obtain ⟨y, z, L, due⟩ := due
  generalize (R.filter fun row => decide (sqr row = sd)).map roI = Q at *
  generalize (R.filter fun row => decide (¬ (1 : Int) ∈ row)).map roI = R4 at *
  generalize (R.filter (noRep tm)).map roI = R2 at *
  generalize (R.filter (noDiv tm)).map roI = R3 at *
  generalize (R.map fun row => PyData.int ((row.count (sz : Int) : Nat) : Int)) = C1 at *
  generalize (R.map fun row => PyData.int ((row.count (1 : Int) : Nat) : Int)) = C2 at *
  generalize (R.map fun row => PyData.int (((ssI row).length : Nat) : Int)) = C3 at *
  generalize (vec (t / sz) fun o => ((bt (t - sz * (1 + o)) (t - sz * (1 + o)) : Nat) : Int)).map PyData.int = C4 at *
  generalize ((sN' (fun o => bt (t - sz * (1 + o)) (t - sz * (1 + o))) (t / sz) : Nat) : Int) = N1 at *
  generalize (((R.map fun row => (ssI row).length).sum : Nat) : Int) = N2 at *
  generalize R.map roI = R1 at *
  have b41 : sq_law_lists_right_41 [some (.ow q2), some (.fz (.list R1)), some (.fz (.list R2)), some (.fz (.list R3)), none, none, none, some (.fz (.int (t : Int))), some (.fz (.int (tm : Int))), none, none, none, none, none] = some (.rt (.fz (.bool true)) [some (.ow q4), some (.fz (.list R1)), some (.fz (.list R2)), some (.fz (.list R3)), some (.fz (.int (sz : Int))), some (.fz (.int (sd : Int))), y, some (.fz (.int (t : Int))), some (.fz (.int (tm : Int))), z, L, none, none, none]) := by
    refine (seq_nx (ρ1 := [some (.ow q2), some (.fz (.list R1)), some (.fz (.list R2)), some (.fz (.list R3)), none, none, none, some (.fz (.int (t : Int))), some (.fz (.int (tm : Int))), none, none, none, none, none]) ?_).trans ?_
    · by_cases h : 0 < t
      · have a := F3' h
        have b := t1 h
        have h' : (0 : Int) < (t : Int) := by omega
        generalize ((bt t t : Nat) : Int) = BT1 at *
        generalize ((bt (t - 1) (t - 1) : Nat) : Int) = BT2 at *
        generalize ((t - 1 : Nat) : Int) = T1 at *
        generalize (t : Int) = T at *
        simp [h', L20, p0, p1, b, a]
      · have h' : ¬ (0 : Int) < (t : Int) := by omega
        generalize (t : Int) = T at *
        simp [h']
    refine (seq_nx (ρ1 := [some (.ow q3), some (.fz (.list R1)), some (.fz (.list R2)), some (.fz (.list R3)), some (.fz (.int (sz : Int))), none, none, some (.fz (.int (t : Int))), some (.fz (.int (tm : Int))), none, none, none, none, none]) (by simp [e3, hm])).trans ?_
    refine (seq_nx (ρ1 := [some (.ow q3), some (.fz (.list R1)), some (.fz (.list R2)), some (.fz (.list R3)), some (.fz (.int (sz : Int))), none, none, some (.fz (.int (t : Int))), some (.fz (.int (tm : Int))), none, none, none, none, none]) (by simp [L23, L26, S23, S26])).trans ?_
    refine (seq_nx (ρ1 := [some (.ow q3), some (.fz (.list R1)), some (.fz (.list R2)), some (.fz (.list R3)), some (.fz (.int (sz : Int))), none, none, some (.fz (.int (t : Int))), some (.fz (.int (tm : Int))), none, none, none, none, none]) (by simp [L29, L32, S29, S32])).trans ?_
    refine (seq_nx (ρ1 := [some (.ow q4), some (.fz (.list R1)), some (.fz (.list R2)), some (.fz (.list R3)), some (.fz (.int (sz : Int))), some (.fz (.int (sd : Int))), none, some (.fz (.int (t : Int))), some (.fz (.int (tm : Int))), none, none, none, none, none]) (by simp [e4])).trans ?_
    exact due
  refine (show den__law_lists_right _ = _ from fn_body (n := 1) (N := 14) (r := .bool true) (ρ' := [some (.ow q4), some (.fz (.list R1)), some (.fz (.list R2)), some (.fz (.list R3)), some (.fz (.int (sz : Int))), some (.fz (.int (sd : Int))), y, some (.fz (.int (t : Int))), some (.fz (.int (tm : Int))), z, L, none, none, none]) rfl ?_).trans (by rw [maskR_1]; rfl)
  refine (seq_nx (ρ1 := [some (.ow q2), none, none, none, none, none, none, some (.fz (.int (t : Int))), some (.fz (.int (tm : Int))), none, none, none, none, none]) ?_).trans ?_
  · show parS _ _ [some (.ow q), none, none, none, none, none, none, none, none, none, none, none, none, none] = _
    simp [e1, e2, hk]
  refine (seq_nx (ρ1 := [some (.ow q2), some (.fz (.list R1)), none, none, none, none, none, some (.fz (.int (t : Int))), some (.fz (.int (tm : Int))), none, none, none, none, none]) (by simp [pr])).trans ?_
  refine (seq_nx (ρ1 := [some (.ow q2), some (.fz (.list R1)), some (.fz (.list R2)), none, none, none, none, some (.fz (.int (t : Int))), some (.fz (.int (tm : Int))), none, none, none, none, none]) (by simp [L8])).trans ?_
  refine (seq_nx (ρ1 := [some (.ow q2), some (.fz (.list R1)), some (.fz (.list R2)), some (.fz (.list R3)), none, none, none, some (.fz (.int (t : Int))), some (.fz (.int (tm : Int))), none, none, none, none, none]) (by simp [L16])).trans ?_
  refine (seq_nx (ρ1 := [some (.ow q2), some (.fz (.list R1)), some (.fz (.list R2)), some (.fz (.list R3)), none, none, none, some (.fz (.int (t : Int))), some (.fz (.int (tm : Int))), none, none, none, none, none]) ?_).trans b41
  by_cases h : tm = 2
  · have a := F2' h
    have h' : (tm : Int) = 2 := by omega
    rw [h']
    generalize ((un t : Nat) : Int) = U at *
    rw [F1'] at a
    simp [F1', mu, a]
  · have h' : ¬ (tm : Int) = 2 := by omega
    generalize (tm : Int) = T at *
    simp [F1', h']
end
end DL

namespace DL
open PySem PySem.Spec PyProof.Rows L2
noncomputable section
theorem ssF_ow {ρ : Rho} {ns : List Int} (h : ns.length < 64) : ssF ρ [.ow (ns.map .int)] = some (.ow ((ssI ns).map .int)) := by
  show ((intsD (ns.map .int)).bind fun ns => if ns.length < 64 then some (Vl.ow ((ssI ns).map .int)) else none) = _
  rw [intsD_map, Option.bind_some, if_pos h]
structure Fac1 (t k : Nat) : Prop where
  hb : un t ≤ 2000
  ln : (sortR (RWS 1 t)).length ≤ 2000
  n : ((sortR (RWS 1 t)).filter fun row => decide (row.length = k)).length = if k * (k - 1) / 2 ≤ t then mop (t - k * (k - 1) / 2) k else 0
  pr : ∀ r ∈ (sortR (RWS 1 t)).filter fun row => decide (row.length = k), IsPR t r
  down : ∀ r ∈ (sortR (RWS 1 t)).filter fun row => decide (row.length = k), flatP k r = (sortI (flatP k r)).reverse
  pos : ∀ r ∈ (sortR (RWS 1 t)).filter fun row => decide (row.length = k), ∀ x ∈ flatP k r, 1 ≤ x
  ss : ∀ r ∈ (sortR (RWS 1 t)).filter fun row => decide (row.length = k), ssI (turnP r) = (List.range k).map fun i : Nat => 1 + (i : Int)
  tl : ∀ r ∈ (sortR (RWS 1 t)).filter fun row => decide (row.length = k), (turnP r).length ≤ 60
theorem fac1 {t k : Nat} (ht : t ≤ 30) (hk : k < 8) : Fac1 t k := by
  have h : ck30 t = true := List.all_eq_true.mp c30 t (List.mem_range.mpr (by omega))
  have w := lv1 ht
  have p := sortR_perm (RWS 1 t)
  unfold ck30 at h
  simp only [Bool.and_eq_true, Bool.or_eq_true, List.all_eq_true, List.mem_range, decide_eq_true_eq] at h
  obtain ⟨h1, h2⟩ := h
  obtain ⟨h3, h4⟩ := h2 k hk
  have mem : ∀ r, (r ∈ (sortR (RWS 1 t)).filter fun row => decide (row.length = k)) → r ∈ (RWS 1 t).filter fun row => decide (row.length = k) := fun r hr => (p.filter _).mem_iff.mp hr
  refine ⟨h1, ?_, ?_, fun r hr => isPR (w.ok r (List.mem_filter.mp (mem r hr)).1), fun r hr => (h4 r (mem r hr)).1.1.1, fun r hr => (h4 r (mem r hr)).1.1.2, fun r hr => (h4 r (mem r hr)).1.2, fun r hr => (h4 r (mem r hr)).2⟩
  · rw [p.length_eq]
    exact w.l2 (t + 1) (Nat.le_refl _)
  · rw [permF _ p]; exact h3
section
variable {s0 s1 s2 s3 s4 s5 s6 s7 s8 : Option Vl} {row : List Int} {R : List (List Int)} {t k : Nat}
theorem ur_4 (F : Fac1 t k) (w : LvOk 1 t) (ht : t ≤ 30) : lc_law_unlike_right_4 [s0, s1, s2, s3, some (.fz (.int (t : Int))), some (.fz (.int (k : Int))), none, s7, s8] = some (.ow (((sortR (RWS 1 t)).filter fun row => decide (row.length = k)).map roI), [s0, s1, s2, s3, some (.fz (.int (t : Int))), some (.fz (.int (k : Int))), none, s7, s8]) := by
  have u := unlike_rows_ok (by omega) w F.hb
  refine lcE_tabF (L := sortR (RWS 1 t)) (F := roI) (G := roI) (T := fun row => decide (row.length = k)) (ρ1 := [s0, s1, s2, s3, some (.fz (.int (t : Int))), some (.fz (.int (k : Int))), none, s7, s8]) ?_ (by have := F.ln; omega) fun r hr => ⟨_, .fz (roI r), rfl, ?_, rfl, fun _ => ⟨?_, rfl⟩⟩
  · generalize (sortR (RWS 1 t)).map roI = V at *
    simp [li_law_unlike_right_1, u]
  · simp [lt_law_unlike_right_3, roI]
    omega
  · simp [le_law_unlike_right_2]
theorem ur_7 (h : row.length ≤ 1000) : lc_law_unlike_right_7 [s0, s1, s2, s3, s4, some (.fz (.int (k : Int))), some (.fz (roI row)), none, none] = some (.ow ((flatP k row).map .int), [s0, s1, s2, s3, s4, some (.fz (.int (k : Int))), some (.fz (roI row)), none, none]) := by
  have e0 : (flatP k row).map PyData.int = (List.range row.length).map fun i => .int (xat row i - (k : Int) + 1 + (i : Int)) := by
    unfold flatP
    rw [List.map_map]
    rfl
  rw [e0]
  refine lcE_tab (n := row.length) (F := fun j : Nat => .tuple [.int (j : Int), .int (xat row j)]) (G := fun i => .int (xat row i - (k : Int) + 1 + (i : Int))) (ρ1 := [s0, s1, s2, s3, s4, some (.fz (.int (k : Int))), some (.fz (roI row)), none, none]) ?_ (by omega) fun j hj => ⟨_, .fz (.int (xat row j - (k : Int) + 1 + (j : Int))), rfl, rfl, ?_, rfl, rfl⟩
  · rw [← enum_tab]
    simp [li_law_unlike_right_5, roI]
  · simp [le_law_unlike_right_6]
theorem ur_10 (hR : ∀ r ∈ R, r.length ≤ 1000) (hl : R.length ≤ 100000) : lc_law_unlike_right_10 [s0, some (.fz (.list (R.map roI))), s2, s3, s4, some (.fz (.int (k : Int))), none, none, none] = some (.ow (R.map fun r => roI (flatP k r)), [s0, some (.fz (.list (R.map roI))), s2, s3, s4, some (.fz (.int (k : Int))), none, none, none]) := by
  refine lcE_tabL (L := R) (F := roI) (G := fun r => roI (flatP k r)) (ρ1 := [s0, some (.fz (.list (R.map roI))), s2, s3, s4, some (.fz (.int (k : Int))), none, none, none]) ?_ (by omega) fun r hr => ⟨_, .ow ((flatP k r).map .int), rfl, rfl, rfl, ?_, rfl⟩
  · generalize R.map roI = V at *
    simp [li_law_unlike_right_8]
  · exact ur_7 (hR r hr)
theorem ur_14 (hR : ∀ r ∈ R, r.length ≤ 1000) (hd : ∀ r ∈ R, flatP k r = (sortI (flatP k r)).reverse) (hp : ∀ r ∈ R, ∀ x ∈ flatP k r, 1 ≤ x) (hl : R.length ≤ 100000) : lc_law_unlike_right_14 [s0, s1, s2, some (.fz (.list (R.map fun r => roI (flatP k r)))), s4, s5, none, s7, s8] = some (.ow [], [s0, s1, s2, some (.fz (.list (R.map fun r => roI (flatP k r)))), s4, s5, none, s7, s8]) := by
  have e0 : (R.filter fun _ => false).map (fun r => roI (flatP k r)) = ([] : List D) := by
    rw [List.filter_eq_nil_iff.mpr (by simp)]
    rfl
  rw [← e0]
  refine lcE_tabF (L := R) (F := fun r => roI (flatP k r)) (G := fun r => roI (flatP k r)) (T := fun _ => false) (ρ1 := [s0, s1, s2, some (.fz (.list (R.map fun r => roI (flatP k r)))), s4, s5, none, s7, s8]) ?_ (by omega) fun r hr => ⟨_, .fz .none, rfl, ?_, rfl, fun h => by cases h⟩
  · generalize R.map (fun r => roI (flatP k r)) = V at *
    simp [li_law_unlike_right_11]
  · have d := hd r hr
    have ne := fun ρ => neF_vecB (ρ := ρ) (xs := flatP k r)
    have po := hp r hr
    have fl : (flatP k r).length ≤ 1000 := by unfold flatP; rw [List.length_map, List.length_range]; exact hR r hr
    have sr : ((sortI (flatP k r)).map PyData.int).reverse = (flatP k r).map .int := by rw [← List.map_reverse, ← d]
    have so := fun ρ => sortF_l (ρ := ρ) (ns := flatP k r)
    have c : catL ((flatP k r).map PyData.int) [.int 1] = some (.ow ((flatP k r ++ [1]).map .int)) := by
      rw [List.map_append]
      exact catL_ok (by rw [List.length_map]; show _ + 1 ≤ _; omega)
    obtain ⟨a, q, hq⟩ : ∃ a q, flatP k r ++ [1] = a :: q := by
      cases h : flatP k r ++ [1] with
      | nil => simp at h
      | cons a q => exact ⟨a, q, rfl⟩
    have mi : ∀ ρ, minF ρ [.ow ((flatP k r ++ [1]).map .int)] = some (.fz (.int (mnI a q))) := fun ρ => by
      rw [hq]
      unfold minF ctF
      simp only [curA_cons, curA_nil, curR_ow, Option.bind_some, intsD_map]
      all_goals rfl
    have ge : ¬ mnI a q < 1 := by
      have := (mnI_spec q a).1
      rw [← hq, List.mem_append] at this
      rcases this with h | h
      · have := po _ h; omega
      · have := List.mem_singleton.mp h; omega
    generalize R.map (fun r => roI (flatP k r)) = V at *
    unfold roI
    generalize (flatP k r ++ [1]).map PyData.int = X1 at *
    generalize (sortI (flatP k r)).map PyData.int = X2 at *
    generalize (flatP k r).map PyData.int = X3 at *
    simp [lt_law_unlike_right_13, so, sr, ne, c, mi, ge]
theorem ur_18 (w : ∀ r ∈ R, IsPR t r) (ht : t ≤ 200) (hk : k < 8) (hs : ∀ r ∈ R, ssI (turnP r) = (List.range k).map fun i : Nat => 1 + (i : Int)) (ht2 : ∀ r ∈ R, (turnP r).length ≤ 60) (hl : R.length ≤ 100000) : lc_law_unlike_right_18 [s0, some (.fz (.list (R.map roI))), s2, s3, s4, some (.fz (.int (k : Int))), none, s7, s8] = some (.ow [], [s0, some (.fz (.list (R.map roI))), s2, s3, s4, some (.fz (.int (k : Int))), none, s7, s8]) := by
  have e0 : (R.filter fun _ => false).map roI = ([] : List D) := by
    rw [List.filter_eq_nil_iff.mpr (by simp)]
    rfl
  rw [← e0]
  refine lcE_tabF (L := R) (F := roI) (G := roI) (T := fun _ => false) (ρ1 := [s0, some (.fz (.list (R.map roI))), s2, s3, s4, some (.fz (.int (k : Int))), none, s7, s8]) ?_ (by omega) fun r hr => ⟨_, .fz .none, rfl, ?_, rfl, fun h => by cases h⟩
  · generalize R.map roI = V at *
    simp [li_law_unlike_right_15]
  · have tr := turned_ok (w r hr) ht
    have sf := fun ρ => ssF_ow (ρ := ρ) (ns := turnP r) (by have := ht2 r hr; omega)
    rw [hs r hr] at sf
    have ne := fun ρ => neF_vec (ρ := ρ) (xs := (List.range k).map fun i : Nat => 1 + (i : Int))
    have rg : rngD 1 k = ((List.range k).map fun i : Nat => 1 + (i : Int)).map .int := by
      rw [rngD_tab, List.map_map]
      rfl
    have h1 : rgOk 1 ((k : Int) + 1) = true := rgOk_small (by decide) (by decide) (by omega) (by omega)
    have h2 : ((k : Int) + 1 - 1).toNat = k := by omega
    rw [← rg] at sf ne
    generalize R.map roI = V at *
    unfold roI
    generalize r.map PyData.int = X1 at *
    generalize (turnP r).map PyData.int = X2 at *
    simp [lt_law_unlike_right_17, tr, sf, h1, h2, ne]
end
theorem unlike_right {p : Vl} (hp : IsPot p) : ∃ p', den__law_unlike_right [some p] = some (.fz (.bool true), [some p']) ∧ IsPot p' := by
  obtain ⟨q, rfl⟩ : ∃ q, p = .ow q := by obtain ⟨a, b, rfl, _⟩ := hp; exact ⟨_, rfl⟩
  obtain ⟨d0, p1, e1, g0, g1, hp1⟩ := draw_ok hp (n := 31) (by decide) (by decide)
  obtain ⟨t, rfl⟩ := Int.eq_ofNat_of_zero_le g0
  obtain ⟨q1, rfl⟩ : ∃ q, p1 = .ow q := by obtain ⟨a, b, rfl, _⟩ := hp1; exact ⟨_, rfl⟩
  obtain ⟨d1, p2, e2, f0, f1, hp2⟩ := draw_ok hp1 (n := 8) (by decide) (by decide)
  obtain ⟨k, rfl⟩ := Int.eq_ofNat_of_zero_le f0
  obtain ⟨q2, rfl⟩ : ∃ q, p2 = .ow q := by obtain ⟨a, b, rfl, _⟩ := hp2; exact ⟨_, rfl⟩
  refine ⟨.ow q2, ?_, hp2⟩
  have F := fac1 (t := t) (k := k) (by omega) (by omega)
  have w := lv1 (t := t) (by omega)
  obtain ⟨R, hR⟩ : ∃ R, ((sortR (RWS 1 t)).filter fun row => decide (row.length = k)) = R := ⟨_, rfl⟩
  have L4 := fun s0 s1 s2 s3 s7 s8 => ur_4 (s0 := s0) (s1 := s1) (s2 := s2) (s3 := s3) (s7 := s7) (s8 := s8) F w (by omega)
  have n := F.n
  have pr := F.pr
  have dn := F.down
  have po := F.pos
  have ss := F.ss
  have tl := F.tl
  rw [hR] at L4 n pr dn po ss tl
  have ln : R.length ≤ 100000 := by
    rw [← hR]
    have := F.ln
    have := List.length_filter_le (fun row : List Int => decide (row.length = k)) (sortR (RWS 1 t))
    omega
  have rl : ∀ r ∈ R, r.length ≤ 1000 := fun r hr => by have := (pr r hr).len; omega
  have L10 := fun s0 s2 s3 s4 => ur_10 (s0 := s0) (s2 := s2) (s3 := s3) (s4 := s4) (k := k) rl ln
  have L14 := fun s0 s1 s2 s4 s5 s7 s8 => ur_14 (s0 := s0) (s1 := s1) (s2 := s2) (s4 := s4) (s5 := s5) (s7 := s7) (s8 := s8) (k := k) rl dn po ln
  have L18 := fun s0 s2 s3 s4 s7 s8 => ur_18 (s0 := s0) (s2 := s2) (s3 := s3) (s4 := s4) (s7 := s7) (s8 := s8) (k := k) pr (by omega) (by omega) ss tl ln
  have ne1 : neD (.list []) (.list []) = some false := neD_e []
  have eq1 : eqD (.list []) (.list []) = some true := eqD_ints []
  -- the count
  have hk8 : k * (k - 1) / 2 ≤ 21 := by
    have : k < 8 := by omega
    have h2 : ∀ k, k < 8 → k * (k - 1) / 2 ≤ 21 := by decide
    exact h2 k this
  obtain ⟨L, hL1, hL2⟩ : ∃ L : Int, (L = (t : Int) - (k : Int) * ((k : Int) - 1) / 2) ∧ ((k : Int) * ((k : Int) - 1) / 2 = ((k * (k - 1) / 2 : Nat) : Int)) := by
    refine ⟨_, rfl, ?_⟩
    have : k < 8 := by omega
    have h2 : ∀ k : Nat, k < 8 → (k : Int) * ((k : Int) - 1) / 2 = ((k * (k - 1) / 2 : Nat) : Int) := by decide
    exact h2 k this
  have mu : mulOk (k : Int) ((k : Int) - 1) = true := mulOk_l (by omega) (by omega)
  have dv : ∀ c, divOk c 2 = true := fun c => divOk_of (by decide) (by decide)
  have cmp : ifS (bT (opE neF (consA (opE lenF (consA (nmE 1) (nilA))) (consA (ifE (bT (opE geI (consA (nmE 2) (consA (cE (.int 0)) nilA)))) (callE [false, false] den_many_of_parts (consA (nmE 2) (consA (nmE 5) (nilA)))) (cE (.int 0))) nilA)))) (retS (cE (.bool false))) (nxS) [some (.ow q2), some (.fz (.list (R.map roI))), some (.fz (.int L)), none, some (.fz (.int (t : Int))), some (.fz (.int (k : Int))), none, none, none] = some (.nx [some (.ow q2), some (.fz (.list (R.map roI))), some (.fz (.int L)), none, some (.fz (.int (t : Int))), some (.fz (.int (k : Int))), none, none, none]) := by
    have l : ((R.map roI).length : Int) = ((if k * (k - 1) / 2 ≤ t then mop (t - k * (k - 1) / 2) k else 0 : Nat) : Int) := by rw [List.length_map, n]
    by_cases h : k * (k - 1) / 2 ≤ t
    · have hL3 : L = ((t - k * (k - 1) / 2 : Nat) : Int) := by omega
      have o := ofparts_ok (t := t - k * (k - 1) / 2) (k := k) (by omega) (by omega)
      rw [if_pos h] at l
      have ge : 0 ≤ L := by omega
      rw [← hL3] at o
      generalize ((mop (t - k * (k - 1) / 2) k : Nat) : Int) = M at *
      generalize R.map roI = R1 at *
      simp [ge, o, l]
    · have ge : ¬ 0 ≤ L := by omega
      rw [if_neg h] at l
      generalize R.map roI = R1 at *
      have l' : (R1.length : Int) = 0 := l
      simp [ge, -Int.natCast_eq_zero, l']
  generalize R.map (fun r => roI (flatP k r)) = R2 at *
  generalize R.map roI = R1 at *
  have b19 : sq_law_unlike_right_19 [some (.ow q2), some (.fz (.list R1)), some (.fz (.int L)), some (.fz (.list R2)), some (.fz (.int (t : Int))), some (.fz (.int (k : Int))), none, none, none] = some (.rt (.fz (.bool true)) [some (.ow q2), some (.fz (.list R1)), some (.fz (.int L)), some (.fz (.list R2)), some (.fz (.int (t : Int))), some (.fz (.int (k : Int))), none, none, none]) := by
    simp [sq_law_unlike_right_19, L14, L18, ne1, eq1]
  refine (show den__law_unlike_right _ = _ from fn_body (n := 1) (N := 9) (r := .bool true) (ρ' := [some (.ow q2), some (.fz (.list R1)), some (.fz (.int L)), some (.fz (.list R2)), some (.fz (.int (t : Int))), some (.fz (.int (k : Int))), none, none, none]) rfl ?_).trans (by rw [maskR_1]; rfl)
  refine (seq_nx (ρ1 := [some (.ow q2), none, none, none, some (.fz (.int (t : Int))), some (.fz (.int (k : Int))), none, none, none]) ?_).trans ?_
  · show parS _ _ [some (.ow q), none, none, none, none, none, none, none, none] = _
    simp [e1, e2]
  refine (seq_nx (ρ1 := [some (.ow q2), some (.fz (.list R1)), none, none, some (.fz (.int (t : Int))), some (.fz (.int (k : Int))), none, none, none]) (by simp [L4])).trans ?_
  refine (seq_nx (ρ1 := [some (.ow q2), some (.fz (.list R1)), some (.fz (.int L)), none, some (.fz (.int (t : Int))), some (.fz (.int (k : Int))), none, none, none]) (by simp [mu, dv, hL1])).trans ?_
  refine (seq_nx cmp).trans ?_
  refine (seq_nx (ρ1 := [some (.ow q2), some (.fz (.list R1)), some (.fz (.int L)), some (.fz (.list R2)), some (.fz (.int (t : Int))), some (.fz (.int (k : Int))), none, none, none]) (by simp [L10])).trans ?_
  exact b19
theorem law_true (ns : List Int) (hn : ns.length ≤ 63) : ∃ ρ, den_law [some (.lk (ns.map .int))] = some (.fz (.bool true), ρ) := by
  obtain ⟨p0, e0, h0⟩ := pot_ok ns 0 (by decide) (by decide)
  obtain ⟨q0, rfl⟩ : ∃ q, p0 = .ow q := by obtain ⟨a, b, rfl, _⟩ := h0; exact ⟨_, rfl⟩
  obtain ⟨p1, e1, h1⟩ := total_right h0
  obtain ⟨q1, rfl⟩ : ∃ q, p1 = .ow q := by obtain ⟨a, b, rfl, _⟩ := h1; exact ⟨_, rfl⟩
  obtain ⟨p2, e2, h2⟩ := total_right h1
  obtain ⟨q2, rfl⟩ : ∃ q, p2 = .ow q := by obtain ⟨a, b, rfl, _⟩ := h2; exact ⟨_, rfl⟩
  obtain ⟨p3, e3, h3⟩ := lists_right h2
  obtain ⟨q3, rfl⟩ : ∃ q, p3 = .ow q := by obtain ⟨a, b, rfl, _⟩ := h3; exact ⟨_, rfl⟩
  obtain ⟨p4, e4, h4⟩ := unlike_right h3
  obtain ⟨q4, rfl⟩ : ∃ q, p4 = .ow q := by obtain ⟨a, b, rfl, _⟩ := h4; exact ⟨_, rfl⟩
  generalize ns.map PyData.int = N at *
  exact ⟨_, by simp [den_law, e0, e1, e2, e3, e4, maskR_1]; rfl⟩
end
end DL

open PySem PySem.W PyProof.Rows
set_option maxHeartbeats 0 in
theorem PySem.Challenge.cw_twowaycounts_k58_whole_part_rows_counted_holds : PySem.Challenge.rw_twowaycounts_k58_whole_part_rows_counted.Holds := by
  w_on; o_law; k_head; (case hw => w_witness2)
  k_fill
  refine DL.walkG (l := PySem.Challenge.rw_twowaycounts_k58_whole_part_rows_counted) (n := 63) (k := 7) (x := "script") (sp := fun K => DL.spF K 1 DL.den_law) rfl (by decide) rfl ⟨rfl, by decide, by decide⟩ (fun w h Y => PySem.W.kIn_of Y) ?F ?hsp
  case hsp =>
    intro K H a ns hn hO hS
    exact DL.law_end hS (DL.law_true ns hn)
  case F =>
    intro w mg fa h KX G hmg
    refine' DL.all_mk KX G hmg ?a__law_pot ?l__law_pot ?e__law_pot ?k__law_pot ?a__law_draw ?l__law_draw ?e__law_draw ?k__law_draw ?a__law_is ?l__law_is ?e__law_is ?k__law_is ?a_is_integer ?l_is_integer ?e_is_integer ?k_is_integer ?a_is_within ?l_is_within ?e_is_within ?k_is_within ?a_want_total ?l_want_total ?e_want_total ?k_want_total ?a_want_bound ?l_want_bound ?e_want_bound ?k_want_bound ?a_bounded_table ?l_bounded_table ?e_bounded_table ?k_bounded_table ?a_many_bounded ?l_many_bounded ?e_many_bounded ?k_many_bounded ?a_many_of_parts ?l_many_of_parts ?e_many_of_parts ?k_many_of_parts ?a_count_of ?l_count_of ?e_count_of ?k_count_of ?a_many_part_rows ?l_many_part_rows ?e_many_part_rows ?k_many_part_rows ?a__law_total_right ?l__law_total_right ?e__law_total_right ?k__law_total_right ?a_want_listed ?l_want_listed ?e_want_listed ?k_want_listed ?a_rows_with ?l_rows_with ?e_rows_with ?k_rows_with ?a_part_rows ?l_part_rows ?e_part_rows ?k_part_rows ?a_unlike_table ?l_unlike_table ?e_unlike_table ?k_unlike_table ?a_many_unlike ?l_many_unlike ?e_many_unlike ?k_many_unlike ?a_is_list ?l_is_list ?e_is_list ?k_is_list ?a_is_part_row_value ?l_is_part_row_value ?e_is_part_row_value ?k_is_part_row_value ?a_want_part_row ?l_want_part_row ?e_want_part_row ?k_want_part_row ?a_square_in ?l_square_in ?e_square_in ?k_square_in ?a_square_of ?l_square_of ?e_square_of ?k_square_of ?a__law_lists_right ?l__law_lists_right ?e__law_lists_right ?k__law_lists_right ?a_unlike_with ?l_unlike_with ?e_unlike_with ?k_unlike_with ?a_unlike_rows ?l_unlike_rows ?e_unlike_rows ?k_unlike_rows ?a_turned_of ?l_turned_of ?e_turned_of ?k_turned_of ?a_turned_parts ?l_turned_parts ?e_turned_parts ?k_turned_parts ?a__law_unlike_right ?l__law_unlike_right ?e__law_unlike_right ?k__law_unlike_right ?a_law ?l_law ?e_law ?k_law ?z_abs ?z_all ?z_bool ?z_divmod ?z_enumerate ?z_int ?z_isinstance ?z_len ?z_list ?z_max ?z_min ?z_range ?z_set ?z_sorted ?z_str ?z_sum ?z_tuple ?z_zip ?c_MOST_LISTED ?c_MOST_TOTAL
    (case a__law_pot => k_is); (case l__law_pot => k_is); (case e__law_pot => k_is); (case k__law_pot => k_is); (case a__law_draw => k_is); (case l__law_draw => k_is); (case e__law_draw => k_is); (case k__law_draw => k_is); (case a__law_is => k_is); (case l__law_is => k_is); (case e__law_is => k_is); (case k__law_is => k_is); (case a_is_integer => k_is); (case l_is_integer => k_is); (case e_is_integer => k_is); (case k_is_integer => k_is); (case a_is_within => k_is); (case l_is_within => k_is); (case e_is_within => k_is); (case k_is_within => k_is); (case a_want_total => k_is); (case l_want_total => k_is); (case e_want_total => k_is); (case k_want_total => k_is); (case a_want_bound => k_is); (case l_want_bound => k_is); (case e_want_bound => k_is); (case k_want_bound => k_is); (case a_bounded_table => k_is); (case l_bounded_table => k_is); (case e_bounded_table => k_is); (case k_bounded_table => k_is); (case a_many_bounded => k_is); (case l_many_bounded => k_is); (case e_many_bounded => k_is); (case k_many_bounded => k_is); (case a_many_of_parts => k_is); (case l_many_of_parts => k_is); (case e_many_of_parts => k_is); (case k_many_of_parts => k_is); (case a_count_of => k_is); (case l_count_of => k_is); (case e_count_of => k_is); (case k_count_of => k_is); (case a_many_part_rows => k_is); (case l_many_part_rows => k_is); (case e_many_part_rows => k_is); (case k_many_part_rows => k_is); (case a__law_total_right => k_is); (case l__law_total_right => k_is); (case e__law_total_right => k_is); (case k__law_total_right => k_is); (case a_want_listed => k_is); (case l_want_listed => k_is); (case e_want_listed => k_is); (case k_want_listed => k_is); (case a_rows_with => k_is); (case l_rows_with => k_is); (case e_rows_with => k_is); (case k_rows_with => k_is); (case a_part_rows => k_is); (case l_part_rows => k_is); (case e_part_rows => k_is); (case k_part_rows => k_is); (case a_unlike_table => k_is); (case l_unlike_table => k_is); (case e_unlike_table => k_is); (case k_unlike_table => k_is); (case a_many_unlike => k_is); (case l_many_unlike => k_is); (case e_many_unlike => k_is); (case k_many_unlike => k_is); (case a_is_list => k_is); (case l_is_list => k_is); (case e_is_list => k_is); (case k_is_list => k_is); (case a_is_part_row_value => k_is); (case l_is_part_row_value => k_is); (case e_is_part_row_value => k_is); (case k_is_part_row_value => k_is); (case a_want_part_row => k_is); (case l_want_part_row => k_is); (case e_want_part_row => k_is); (case k_want_part_row => k_is); (case a_square_in => k_is); (case l_square_in => k_is); (case e_square_in => k_is); (case k_square_in => k_is); (case a_square_of => k_is); (case l_square_of => k_is); (case e_square_of => k_is); (case k_square_of => k_is); (case a__law_lists_right => k_is); (case l__law_lists_right => k_is); (case e__law_lists_right => k_is); (case k__law_lists_right => k_is); (case a_unlike_with => k_is); (case l_unlike_with => k_is); (case e_unlike_with => k_is); (case k_unlike_with => k_is); (case a_unlike_rows => k_is); (case l_unlike_rows => k_is); (case e_unlike_rows => k_is); (case k_unlike_rows => k_is); (case a_turned_of => k_is); (case l_turned_of => k_is); (case e_turned_of => k_is); (case k_turned_of => k_is); (case a_turned_parts => k_is); (case l_turned_parts => k_is); (case e_turned_parts => k_is); (case k_turned_parts => k_is); (case a__law_unlike_right => k_is); (case l__law_unlike_right => k_is); (case e__law_unlike_right => k_is); (case k__law_unlike_right => k_is); (case a_law => k_is); (case l_law => k_is); (case e_law => k_is); (case k_law => k_is); (case z_abs => k_is); (case z_all => k_is); (case z_bool => k_is); (case z_divmod => k_is); (case z_enumerate => k_is); (case z_int => k_is); (case z_isinstance => k_is); (case z_len => k_is); (case z_list => k_is); (case z_max => k_is); (case z_min => k_is); (case z_range => k_is); (case z_set => k_is); (case z_sorted => k_is); (case z_str => k_is); (case z_sum => k_is); (case z_tuple => k_is); (case z_zip => k_is); (case c_MOST_LISTED => k_is); (case c_MOST_TOTAL => k_is)
