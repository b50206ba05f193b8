import PyProof.Rows.All
import Wide.All
import OpenK.AllK
import Wide.FinOn
import PyProof.ReprRoads
import HandS.Base
import HandS.Call
import HandS.List
import HandS.Ends
import HandS.Exc
import HandS.ExcOwn
import HandS.ExcInit
import HandS.TryMany
import HandS.ExcCtx
import HandS.ExcField
import HandS.Words
import HandS.Comp
import HandS.Hot
import HandS.HotCalls
import KE.KSortTupG
import HandS.IsInst
import HandS.Gcd
import HandS.Defaults
import HandS.CallSlots
import HandS.WordsExc
import PySem.Challenge.RW_tautparcel_k04_whole_slopes_and_directio
import HandS.TryOnly
import HandS.Evl
import HandS.HeadHook1
import HandS.HeadHook2
import KE.KStateDown
import HandS.Head0
import HandS.Head1
import HandS.Head2
import HandS.Head3
set_option Elab.async false
set_option linter.all false
set_option maxRecDepth 100000
set_option maxHeartbeats 0
/-! E1: calls where it is known that no repr is running (repr of lists and tuples asks that). -/
namespace G4
open PySem PySem.Spec PyProof.Rows L2
abbrev St := L2.St
/-- no repr of a container is under way -/
def Quiet (A : Around) : Prop := A.guards = some []
theorem Quiet.deeper {A : Around} (q : Quiet A) (env : Env) : Quiet (A.deeper env) := q

/-! ### repr -/
/-- what is asked of data that are shown -/
structure Shows (d : PyData) : Prop where
  sh : d.showable = true
  nd : d.hasDict = false
  dp : d.depth ≤ 40
  ln : d.shown.length ≤ sizeLine
def rRepr (K : PySem.W.Frag) : List V → Hp → VK → Prop := fun vs H Q => ∃ x d, vs = [x] ∧ Dp K H x d ∧ Shows d ∧ Q (.str d.shown) H
theorem cr_repr {X : Cx} (hq : Quiet X.A) (hu : X.A.units + 64 < cLine) : CallR X (.builtin "repr") (rRepr X.K) := by
  intro pins s σ H vs us Q I r h
  obtain ⟨x, d, rfl, hd, sh, q⟩ := h
  obtain ⟨u, rfl, rx⟩ := vals1 r
  have fin : ∀ (s' : Shared) (z : Str) (t : Tok), Inv X pins σ H s' → z = d.shown → EP X pins σ Q (.str z t) s' := fun s' z t I' e => ⟨.str d.shown, H, I', ⟨t, by rw [e]⟩, q⟩
  cases hd with
  | non =>
    cases rx
    exact PySem.P.repr_of_none (fin _ _ _ (I.tok _) (by simp only [PyData.shown]))
  | bl b =>
    cases rx
    exact PySem.P.repr_of_bool (fin _ _ _ (I.tok _) (by simp only [PyData.shown]))
  | int i =>
    obtain ⟨t, rfl⟩ := rx
    have hi : i.natAbs.log2 < 1920 := by have := sh.sh; simpa [PyData.showable] using this
    exact PySem.P.repr_of_int hi (fin _ _ _ (I.tok _) (by simp only [PyData.shown]))
  | str z =>
    obtain ⟨t, rfl⟩ := rx
    exact PySem.P.repr_of_str (fin _ _ _ (I.tok _) (by simp only [PyData.shown])) (by have := sh.ln; simpa only [PyData.shown] using this)
  | @lst a xs ds hs ha =>
    cases rx
    obtain ⟨as, rd⟩ := Dp.reads I _ _ _ (Dp.lst hs ha) (show RelV (V.ref a) (Value.ref a) from rfl)
    have hdp := sh.dp
    exact repr_of_reads' rd sh.sh (PyData.noDict_hsm sh.nd) hq (by omega) (fun _ _ e => e) (fun h' w' tk hk => fin _ _ _ (I.kept hk) rfl) sh.ln
  | @tup a xs ds hs ha =>
    cases rx
    obtain ⟨as, rd⟩ := Dp.reads I _ _ _ (Dp.tup hs ha) (show RelV (V.ref a) (Value.ref a) from rfl)
    have hdp := sh.dp
    exact repr_of_reads' rd sh.sh (PyData.noDict_hsm sh.nd) hq (by omega) (fun _ _ e => e) (fun h' w' tk hk => fin _ _ _ (I.kept hk) rfl) sh.ln

/-! ### promises of defs that are called where nothing is being shown -/
structure FnG (P : Program) (w : World) (K : PySem.W.Frag) (mg : Str → Option Value) (base : Heap) (CX : CXT) (k : Nat) (f : Addr) (fd : FuncData) (ps : List Str) (sp : Sp) : Prop where
  len : ∀ vs H Q E, sp vs H Q E → vs.length = ps.length
  go : ∀ (A : Around) (outer : List Env) (s : Shared) (H : Hp) (args : Args) (us : List Value) (vs : List V) (Q : VK) (E : XK),
    Quiet A → Room k A → Env0 P w K mg base A outer s H → BindsTo s fd args (ps.zip us) → Vals vs us → sp vs H Q E → codeAny (model P w) A (.call (.ref f) args) (CR CX outer P w H s Q E) s

section
variable {CX : CXT} {P : Program} {w : World} {K : PySem.W.Frag} {mg : Str → Option Value} {base : Heap} {k : Nat} {f : Addr} {N ps : List Str} {sp : Sp}
/-- by the body, which may lean on the quiet -/
theorem fnG_of {name qual : Str} {params : Arguments} {body : List Stmt} {scope : Scope} {dV kV doc pm cdv ct oc : Value} {an od : Option Addr} {osl : Array (Option Value)}
    (lk : K.lookup f = some ⟨oc, od, .func (PySem.W.fnOf name qual params body scope dV kV doc pm an cdv ct), osl⟩) (hcd : PySem.W.codeIn K cdv qual = true) (S : FnScope N ps scope)
    (len : ∀ vs H Q E, sp vs H Q E → vs.length = ps.length)
    (hbody : ∀ (A : Around) (outer : List Env) (s : Shared) (H : Hp) (vs : List V) (Q : VK) (E : XK), Quiet (A.deeper (envOfC qual scope s.heap.objs.size f cdv)) → Room k (A.deeper (envOfC qual scope s.heap.objs.size f cdv)) → sp vs H Q E →
      ∃ t, PSs (cxOf CX P w K mg base N qual scope f cdv A outer s H E) body t ∧ t { nx := fun _ H' => Q .non H', rt := Q } (start N vs) H) :
    FnG P w K mg base CX (k + 1) f (PySem.W.fnOf name qual params body scope dV kV doc pm an cdv ct) ps sp where
  len := len
  go := by
    intro A outer s H args us vs Q E quiet room env0 binds rel promise
    have inK : K.In s.heap := e0_kin env0
    have free : s.heap.NoLimit := env0.mod.nolimit.keeps fun b o e => (env0.bs b o e).1
    refine codeAny_call_function room.depth (inK _ _ lk) rfl S.co S.gen rfl (PySem.W.codeRec_of inK hcd) (binds _ _ _ _ ?_)
    refine wpAny_newFunctionEnv_cells S.kind (kinds S us s) fun env he s1 entered => ?_
    subst he
    refine ⟨free.keeps entered.toInCall.keep, codeAny_func ?_⟩
    obtain ⟨t, ht, htq⟩ := hbody A outer s H vs Q E (quiet.deeper _) (room.deeper _) promise
    have I := inv_start (CX := CX) (E := E) S room.hd env0 (len _ _ _ _ promise) rel entered
    refine wpAny_mono (ht.run [] s1 (start N vs) H _ I htq) (fun fl s' done => ?_) fun e s' raised => raised
    have back : ∀ (σ' : St) (H' : Hp) (v : V) (u : Value), Inv (cxOf CX P w K mg base N qual scope f cdv A outer s H E) [] σ' H' s' → RelV v u → Q v H' → CE outer P w H s Q u s' :=
      fun σ' H' v u J rv q => ⟨v, H', J.os, J.bare, J.base, J.hok, rv, q⟩
    cases fl with
    | ret u => obtain ⟨v, σ', H', J, rv, q⟩ := done; exact back σ' H' v u J rv q
    | next => obtain ⟨σ', H', J, q⟩ := done; exact back σ' H' V.non Value.none J rfl q
    | brk => obtain ⟨_, _, _, q⟩ := done; exact q.elim
    | cont => obtain ⟨_, _, _, q⟩ := done; exact q.elim
where
  e0_kin {A : Around} {outer : List Env} {s : Shared} {H : Hp} (e : Env0 P w K mg base A outer s H) : K.In s.heap := e.mod.kin.keeps fun b o z => (e.bs b o z).1
  kinds {scope : Scope} (S : FnScope N ps scope) (us : List Value) (s : Shared) : ∀ y ∈ ps.zip us, scope.names.lookup y.1 = some .local ∨ (scope.names.lookup y.1 = some .cell ∧ ((cellsFrom (s.heap.objs.size + 1) scope.names []).lookup y.1).isSome = true) := by
    rintro ⟨n, v⟩ hy
    rcases S.par n (List.of_mem_zip hy).1 with l | c
    · exact Or.inl l
    · exact Or.inr ⟨c, PySem.W.cellsFrom_some _ _ _ (Or.inl c)⟩
theorem FnG.of {fd : FuncData} (F : FnOk P w K mg base CX k f fd ps sp) : FnG P w K mg base CX k f fd ps sp := ⟨F.len, fun A outer s H args us vs Q E _ hr => F.run A outer s H args us vs Q E hr⟩
end

section
variable {X : Cx} {CX : CXT} {k : Nat} {f : Addr} {fd : FuncData} {ps : List Str} {sp : Sp} {x : Str} {p pos : Pos} {e : Expr} {es : List Expr} {t : TA} {E : XK}
theorem runG {pins : List (Addr × Obj)} {σ : St} {H : Hp} {s : Shared} {Q : VK} {us : List Value} {vs : List V} (F : FnG X.prog X.w X.K X.mg X.base CX k f fd ps sp) (hq : Quiet X.A) (hr : Room k X.A) (hb : Binds X.K fd ps []) (hx : Passes CX X E)
    (I : Inv X pins σ H s) (r : Vals vs us) (h : sp vs H Q E) : wpAny (model X.prog X.w) X.A (call (.ref f) us) (EP X pins σ Q) X.xe s := by
  have hl : (us ++ []).length = ps.length := by rw [List.append_nil, ← r.length]; exact F.len _ _ _ _ h
  have bound := hb s us I.kIn hl
  rw [List.append_nil] at bound
  refine wpAny_call (codeAny_mono (F.go X.A X.stack s H ⟨us, []⟩ us vs Q E hq hr I.env0 bound r h) fun r s' hc => ?_)
  match r, hc with
  | .error e, hc => exact hx pins σ H s e s' I hc
  | .ok (.ret u), hc => exact I.after hc
/-- f(e, ..) -/
theorem pe_callG (F : FnG X.prog X.w X.K X.mg X.base CX k f fd ps sp) (hq : Quiet X.A) (hr : Room k X.A) (hg : Gl X x) (hm : X.mg x = some (.ref f)) (hk : PySem.W.keepIn X.K (.ref f) = true) (hb : Binds X.K fd ps []) (hx : Passes CX X E)
    (ha : PA X (e :: es) t) (hdb : (x == ("__debug__" : Str)) = false := by decide) (he : starEach (e :: es) X.env = (false, eval e X.env) :: starEach es X.env := by rfl) (hpl : (backTo pos (starEach es X.env)).any (·.1) = false := by rfl) :
    PE X (.Call (.Name x p) (e :: es) [] pos) (tCall sp [] E t) where
  run := by
    intro pins s σ H Q I h
    refine wpAny_Call_Name_kw (ld_glob I hg hm ?_ hdb)
    refine PySem.W.callWith_K (h₀ := X.base) I.ok.mod.kin hk (thn (ha.run pos pins s σ H _ I h) fun us s1 ⟨vs, H1, I1, r, q⟩ => ⟨I1.kIn, ?_⟩) he hpl
    have q' : sp vs H1 Q E := by have z : sp (vs ++ []) H1 Q E := q; rwa [List.append_nil] at z
    exact runG F hq hr hb hx I1 r q'
end
end G4
/-! E2: the end of a law whose def is entered where no repr is running. -/
namespace G4
open PySem PySem.Spec PyProof.Rows L2

section
variable {P : Program} {w : World} {K : PySem.W.Frag} {mg mb : Str → Option Value} {CX : CXT} {k : Nat} {fa a : Addr} {fd : FuncData} {x : Str} {sp : Sp} {s₁ : Shared} {vs : List Value} {ns : List Int}
theorem quiet_caller : Quiet callerA := rfl
/-- from an abstract heap that tracks at most the script, frozen -/
theorem law_from (H : Hp) (only : ∀ b, H b = none ∨ (b = a ∧ ∃ o xs, H b = some (.frz o (.lst xs)))) (apart : H a ≠ none → K.lookup a = none)
    (KX : K.In s₁.heap) (hns : s₁.heap.Ns mainGlobals mg) (hb : s₁.heap.Ns builtinsNs mb) (hbb : ∀ x : Str, x ≠ "__name__" → mb x = bootBuiltins x) (hlim : s₁.heap.NoLimit) (hg : s₁.gens = #[])
    (ha : s₁.heap.get? a = some { cls := .type "list", data := .seq vs.toArray }) (hr : Room k callerA) (hS : SqL K H a (ns.map V.int)) (hok : HOk P w H s₁.heap)
    (F : ∀ base : Heap, K.In base → base.Ns mainGlobals mg → FnG P w K mg base CX k fa fd [x] sp) (hbind : ∀ (s : Shared) (u : Value), BindsTo s fd ⟨[u], []⟩ [(x, u)])
    (hsp : SqL K H a (ns.map V.int) → sp [.ref a] H (fun v _ => v = .bl true) fun _ _ _ => False) (hCX : ∀ H e s', CX [] H s₁ (fun _ _ _ => False) e s' → False) :
    codeAny (model P w) callerA (.call (.ref fa) ⟨[.ref a], []⟩) (fun r s' => r = .ok (.ret (.bool true)) ∧ OldK s₁.heap s'.heap ∧ s'.os = s₁.os ∧ AllBare s'.gens) s₁ := by
  have dictFree : ∀ {b : Addr} {o : Obj} {es : Array DictEntry} {ep : Nat}, s₁.heap.get? b = some o → o.data = .dict es ep → H b = none := by
    intro b o es ep e d
    rcases only b with n | ⟨rfl, _⟩
    · exact n
    · rw [ha] at e
      cases e
      exact absurd (show Data.seq vs.toArray _ = Data.dict es ep from d) (by intro z; cases z)
  have nsIn : ∀ {b : Addr} {m : Str → Option Value}, s₁.heap.Ns b m → (hidT s₁.heap H).Ns b m := fun {b m} ⟨o, es, ep, e, d, r⟩ => ⟨o, es, ep, hidT_get e (dictFree e d), d, r⟩
  have KB : K.In (hidT s₁.heap H) := fun b o e => hidT_get (KX b o e) (by
    rcases only b with n | ⟨rfl, o', xs, z⟩
    · exact n
    · have y := apart (by rw [z]; simp)
      rw [y] at e
      cases e)
  have M : Mod K mg (hidT s₁.heap H) := ⟨KB, nsIn hns, ⟨mb, nsIn hb, hbb⟩, by
    obtain ⟨mc, h1, h2⟩ := hlim
    exact ⟨mc, nsIn h1, h2⟩⟩
  have e0 : Env0 P w K mg (hidT s₁.heap H) callerA [] s₁ H :=
    ⟨rfl, M, fun b o e => of_hidT e, Nat.le_of_eq (hidT_size _ _), trivial, fun b hb => (List.not_mem_nil (show b ∈ ([] : List Addr) from hb)).elim, hok, .of_eq hg⟩
  refine codeAny_mono ((F _ KB (nsIn hns)).go callerA [] s₁ H ⟨[.ref a], []⟩ [.ref a] [.ref a] _ _ quiet_caller hr e0 (hbind s₁ (.ref a)) (.cons rfl .nil) (hsp hS)) fun r s' h => ?_
  match r, h with
  | .error e, h => exact (hCX H e s' h).elim
  | .ok (.ret u), h =>
    obtain ⟨v, H', os, bare, un, hok', r', q⟩ := h
    obtain rfl : v = .bl true := q
    obtain rfl : u = Value.bool true := r'
    refine ⟨rfl, OldK.of_keep fun b o e => ?_, os, bare⟩
    rcases only b with n | ⟨_, ob, xs, z⟩
    · exact un.keep b o e n (by intro z; exact List.not_mem_nil z) (by simp)
    · obtain ⟨e1, _⟩ := hok b _ z
      obtain ⟨e2, _⟩ := hok' b _ (un.frzs b ob _ z)
      rw [e] at e1
      cases e1
      exact e2
theorem law_callG (KX : K.In s₁.heap) (hns : s₁.heap.Ns mainGlobals mg) (hb : s₁.heap.Ns builtinsNs mb) (hbb : ∀ x : Str, x ≠ "__name__" → mb x = bootBuiltins x) (hlim : s₁.heap.NoLimit) (hg : s₁.gens = #[])
    (ha : s₁.heap.get? a = some { cls := .type "list", data := .seq vs.toArray }) (hi : IntsAre vs ns) (hl : ns.length ≤ sizeLine) (hr : Room k callerA)
    (F : ∀ base : Heap, K.In base → base.Ns mainGlobals mg → FnG P w K mg base CX k fa fd [x] sp) (hbind : ∀ (s : Shared) (u : Value), BindsTo s fd ⟨[u], []⟩ [(x, u)])
    (hsp : ∀ H : Hp, SqL K H a (ns.map V.int) → sp [.ref a] H (fun v _ => v = .bl true) fun _ _ _ => False) (hCX : ∀ H e s', CX [] H s₁ (fun _ _ _ => False) e s' → False) :
    codeAny (model P w) callerA (.call (.ref fa) ⟨[.ref a], []⟩) (fun r s' => r = .ok (.ret (.bool true)) ∧ OldK s₁.heap s'.heap ∧ s'.os = s₁.os ∧ AllBare s'.gens) s₁ := by
  have lv := hi.length
  have rv := vals_ints hi
  cases hk : K.lookup a with
  | some o =>
    have e := KX a o hk
    rw [ha] at e
    cases e
    exact law_from (fun _ => none) (fun _ => Or.inl rfl) (fun z => absurd rfl z) KX hns hb hbb hlim hg ha hr
      (Or.inr ⟨_, vs.toArray, _, hk, rfl, rfl, rfl, by rw [List.size_toArray, lv]; exact hl, by simpa using rv⟩) (fun b u z => absurd (show (none : Option HO) = some u from z) (by simp)) F hbind (hsp _) hCX
  | none =>
    let H : Hp := fun b => if b = a then some (.frz { cls := .type "list", data := .seq vs.toArray } (.lst (ns.map V.int))) else none
    have at_a : H a = some (.frz { cls := .type "list", data := .seq vs.toArray } (.lst (ns.map V.int))) := if_pos rfl
    have off : ∀ b, b ≠ a → H b = none := fun b hb => if_neg hb
    refine law_from H (fun b => ?_) (fun _ => hk) KX hns hb hbb hlim hg ha hr (Or.inl (Or.inr ⟨_, at_a⟩)) (fun b u z => ?_) F hbind (hsp _) hCX
    · by_cases hb : b = a
      · exact Or.inr ⟨hb, _, _, by rw [hb]; exact at_a⟩
      · exact Or.inl (off b hb)
    · by_cases hb : b = a
      · subst hb
        rw [at_a] at z
        cases z
        exact ⟨ha, by rw [List.length_map]; exact hl, vs, _, rv, ha⟩
      · rw [off b hb] at z
        cases z
end
/-- the walk of a law by such a promise -/
theorem walk_ofG {l : PySem.W.OpenLaw} {n k : Nat} {q : Program} {loose : List Str} {XP : (Str → Option Value) → Heap → Prop} {YP : World → Heap → Prop} {d : DefRec} {CX : World → CXT} {x : Str}
    (hn : l.most = some n) (hn2 : n ≤ sizeLine) (hdf : d.params.defaults = []) (hr : Room k callerA)
    (F : ∀ (w : World) (mg : Str → Option Value) (fa : Addr) (h : Heap), YP w h → h.Ns mainGlobals mg → mg d.name = some (.ref fa) →
      ∃ (K : PySem.W.Frag) (fd : FuncData) (sp : Sp), K.In h ∧ (∀ (s : Shared) (u : Value), BindsTo s fd ⟨[u], []⟩ [(x, u)]) ∧
        (∀ (H : Hp) (a : Addr) (ns : List Int), ns.length ≤ n → SqL K H a (ns.map V.int) → sp [.ref a] H (fun v _ => v = .bl true) fun _ _ _ => False) ∧
        ∀ base : Heap, K.In base → base.Ns mainGlobals mg → FnG l.prog w K mg base (CX w) k fa fd [x] sp)
    (hCX : ∀ (w : World) (H : Hp) (s : Shared) (e : Value) (s' : Shared), CX w [] H s (fun _ _ _ => False) e s' → False) :
    PySem.W.WalkO q loose XP YP l.row.toRowW d [] (fun f vs => PySem.call f vs) := by
  refine Att.attach_call hn hdf fun w s₀ s₁ mg mb fa o pm cd doc a vs ns G Y ho hd hcd hmg hobj hints hlen hg => ?_
  obtain ⟨K, fd, sp, KX, hb, hsp, hF⟩ := F w mg fa _ Y G.T.g hmg
  exact law_callG KX G.T.g G.T.b G.T.builtins G.T.nolimit hg hobj hints (Nat.le_trans hlen hn2) hr hF hb (fun H hS => hsp H a ns hlen hS) fun H e s' => hCX w H s₁ e s'
end G4
/-! E3: own errors with one field: made, raised; a try with several clauses that bear names. -/
namespace G4
open PySem PySem.Spec PyProof.Rows L2

/-! ### C(e), C's __init__ stores its one argument -/
/-- __init__(self, v): self.f = v, on a fresh exception of the class at C -/
def spErrInit (C : Addr) (f : Str) : Sp := fun vs H Q _ => ∃ (a : Addr) (v : V), vs = [.ref a, v] ∧ H a = some (exo a C none) ∧
  ∀ dx, H dx = none → dx ≠ a → Q .non (upd (upd H dx (exd dx [(f, v)])) a (exo a C (some dx)))
/-- C(e): the error's own dict d, new, holds the value; the error itself is not tracked -/
def tErr (C : Addr) (f : Str) (te : TE) : L2.St → Hp → XK → Prop := fun σ H Q => te σ H fun v H1 => ∀ d, H1 d = none → Q (.ref C) (some d) (upd H1 d (.xd [(f, v)]))
def oneV (vs : List V) (P : V → Prop) : Prop := match vs with
  | [v] => P v
  | _ => False
section
variable {X : Cx} {x f : Str} {C fI : Addr} {k : Nat} {fd : FuncData} {ps : List Str} {e : Expr} {te : TE} {p pos : Pos}
theorem pmk_err (T : OexC X.K C) (iC : PySem.W.findIn X.K (.ref C) "__init__" = some (some (.ref fI))) (tI : PySem.W.typeIn X.K (.ref fI) = some (.type "function"))
    (F1 : FnOk X.prog X.w X.K X.mg X.base CX0 k fI fd ps (spErrInit C f)) (hr : Room (k + 1) X.A) (hb : Binds X.K fd ps []) (hg : Gl X x) (hm : X.mg x = some (.ref C)) (he : PE X e te)
    (hdb : (x == ("__debug__" : Str)) = false := by decide) (hs : starEach (e :: []) X.env = (false, eval e X.env) :: starEach [] X.env := by rfl) (hpl : (backTo pos (starEach [] X.env)).any (·.1) = false := by rfl) :
    L2N.PMk X (.Call (.Name x p) [e] [] pos) (tErr C f te) := by
  intro pins s σ H Q I want
  obtain ⟨nm, q, N, bs, bm, sn, sub, ab, col, dd, k0, k1, k2, k3, k5, clsAt, chain⟩ := T.cls
  refine wpAny_Call_Name_kw (ld_glob I hg hm ?_ hdb)
  refine PySem.W.callWith_K (h₀ := X.base) I.ok.mod.kin T.kC (thn ((pa_cons he pa_nil hs).run pos pins s σ H (fun vs H1 => oneV vs fun v => ∀ d, H1 d = none → Q (.ref C) (some d) (upd H1 d (.xd [(f, v)]))) I want) fun us s1 got => ?_) hs hpl
  obtain ⟨vs, H1, I1, rel, give⟩ := got
  match vs, rel, give with
  | [v], rel, give =>
  obtain ⟨u, rfl, ru⟩ := vals1 rel
  refine ⟨I1.kIn, ?_⟩
  show wpAny _ _ (call (.ref C) [u]) _ _ _
  obtain ⟨hp, g, dr, tk, os⟩ := s1
  have behind : hp.objs.size ≤ hp.objs.size + 1 := Nat.le_succ _
  have new : H1 (hp.objs.size + 1) = none := I1.hok.fresh behind
  have kept : ∀ b o, hp.get? b = some o → ((hp.push (PySem.W.kdv_tup [u])).push (PySem.HandSPX.excO C hp.objs.size)).get? b = some o := fun b o z => Heap.get?_push_of_some _ (Heap.get?_push_of_some _ z)
  have stands : ((hp.push (PySem.W.kdv_tup [u])).push (PySem.HandSPX.excO C hp.objs.size)).get? (hp.objs.size + 1) = some (PySem.HandSPX.excO C hp.objs.size) := by heap_get
  have I2 : Inv X pins σ (upd H1 (hp.objs.size + 1) (exo (hp.objs.size + 1) C none)) ⟨(hp.push (PySem.W.kdv_tup [u])).push (PySem.HandSPX.excO C hp.objs.size), g, dr, tk, os⟩ :=
    I1.laid (t' := tk) kept behind (exo_ok stands)
  have promise : spErrInit C f [.ref (hp.objs.size + 1), v] (upd H1 (hp.objs.size + 1) (exo (hp.objs.size + 1) C none))
      (fun r H2 => r = .non ∧ ∃ d, H1 d = none ∧ d ≠ hp.objs.size + 1 ∧ H2 = upd (upd (upd H1 (hp.objs.size + 1) (exo (hp.objs.size + 1) C none)) d (exd d [(f, v)])) (hp.objs.size + 1) (exo (hp.objs.size + 1) C (some d))) E0 := by
    refine ⟨_, v, rfl, upd_same, fun dx n ne => ⟨rfl, dx, ?_, ne, rfl⟩⟩
    rw [upd_ne ne] at n
    exact n
  have count : (([Value.ref (hp.objs.size + 1), u] : List Value) ++ []).length = ps.length := (F1.len _ _ _ _ promise)
  have bound := hb _ [Value.ref (hp.objs.size + 1), u] I2.kIn count
  rw [List.append_nil] at bound
  refine wpAny_call (PySem.HandSPX.call_own F.excBase_ValueError (fun Y => PySem.HandSPX.refsVE_contains Y bm chain) (I1.kIn _ _ clsAt) (PySem.W.looks_findIn I1.kIn iC) (fun self => PySem.W.bind_fn I1.kIn self tI) (by show 1 ≤ sizeLine; decide)
    (codeAny_mono (F1.run _ X.stack _ _ ⟨[Value.ref (hp.objs.size + 1), u], []⟩ [Value.ref (hp.objs.size + 1), u] _ _ _ (hr.make C [u] []) (I2.env0.make C [u] []) bound (Paired.cons (show RelV (.ref (hp.objs.size + 1)) (.ref (hp.objs.size + 1)) from rfl) (Paired.cons ru Paired.nil)) promise) fun r s' done => ?_))
  match r, done with
  | .ok (.ret w), done =>
    obtain ⟨rv, H2, os2, bare2, un2, hok2, rr, erv, d, hd, hne, eH⟩ := done
    subst erv
    subst eH
    obtain ⟨h2, g2, d2, t2, os'⟩ := s'
    obtain ⟨t0, G, J, kG, gone, at2, na⟩ := mk_end0 (d2 := d2) (t2 := t2) I1 behind kept un2 hok2 os2 bare2 upd_same (by rw [upd_ne hne, upd_same]) hd
    refine ⟨rr, hp.objs.size + 1, _, _, ⟨G, g2, d2, t2, os'⟩, _, .ref C, some d, rfl, J, kG, gone, at2, ⟨rfl, rfl, fun vs' hv => ?_⟩, rfl, rfl, na, rfl, bare2, raises_own T.exC T.tyC, ?_⟩
    · cases hv
      rfl
    · have same : upd (del (upd (upd (upd H1 (hp.objs.size + 1) (exo (hp.objs.size + 1) C none)) d (exd d [(f, v)])) (hp.objs.size + 1) (exo (hp.objs.size + 1) C (some d))) (hp.objs.size + 1)) d (.xd [(f, v)]) = upd H1 d (.xd [(f, v)]) := by
        funext b
        by_cases bd : b = d
        · rw [bd, upd_same, upd_same]
        · rw [upd_ne bd, upd_ne bd]
          by_cases ba : b = hp.objs.size + 1
          · rw [ba, del_same, new]
          · rw [del_ne ba, upd_ne ba, upd_ne bd, upd_ne ba]
      rw [same]
      exact give d hd
end

/-! ### try: body, except C1 as n: suite, except C2: suite, .. -/
/-- a clause: its class, the slot of its name (if it bears one), its suite's reading -/
structure Cl where
  c : Value
  slot : Option Nat
  ts : Addr → Value → Option Addr → TS
/-- behind a suite its name is gone -/
def clear (i : Nat) (D : Ends) : Ends := { nx := fun σ H => D.nx (σ.set i none) H, rt := D.rt, bk := fun σ H => D.bk (σ.set i none) H, ct := fun σ H => D.ct (σ.set i none) H }
def Cl.wish (q : Cl) (a : Addr) (cls : Value) (d : Option Addr) (D : Ends) (σ : L2.St) (H : Hp) : Prop := match q.slot with
  | none => q.ts a cls d D σ H
  | some i => q.ts a cls d (clear i D) (σ.set i (some (.ref a))) H
def wCl (K : PySem.W.Frag) (Wout : WX) (D : Ends) : List Cl → WX
  | [] => Wout
  | q :: r => fun cls d σ H => ∃ b, PySem.W.exmOne K cls q.c = some b ∧ (b = true → ∀ a, H a = none → q.wish a cls d D σ H) ∧ (b = false → wCl K Wout D r cls d σ H)
/-- the suite of a clause keeps its reading -/
def SuiteOk (X : Cx) (suite : List Stmt) (ts : Addr → Value → Option Addr → TS) : Prop :=
  ∀ (a : Addr) (oe : Obj) (cls : Value) (d : Option Addr) (pn : List (Addr × Obj)), L2N.Zn cls d oe → (∃ vs, oe.data = .fields vs) → PSs (X.suite a ((a, oe) :: pn)) suite (ts a cls d)
inductive ClsOk (X : Cx) : List ExceptHandler → List Cl → Prop
  | nil : ClsOk X [] []
  | bare {x : Str} {c : Value} {ts : Addr → Value → Option Addr → TS} {st : Stmt} {sts : List Stmt} {np pos : Pos} {hs : List ExceptHandler} {l : List Cl} (hc : Names X x c) (hsu : SuiteOk X (st :: sts) ts) (r : ClsOk X hs l) :
      ClsOk X (.ExceptHandler (some (.Name x np)) none (st :: sts) pos :: hs) (⟨c, none, ts⟩ :: l)
  | named {x n : Str} {i : Nat} {c : Value} {ts : Addr → Value → Option Addr → TS} {st : Stmt} {sts : List Stmt} {np pos : Pos} {hs : List ExceptHandler} {l : List Cl} (hc : Names X x c) (hN : X.N.Nodup) (hi : X.N[i]? = some n) (hl : X.env.kindOf n = some .local)
      (hsu : SuiteOk X (st :: sts) ts) (r : ClsOk X hs l) : ClsOk X (.ExceptHandler (some (.Name x np)) (some n) (st :: sts) pos :: hs) (⟨c, some i, ts⟩ :: l)
/-- an exception that the frame has caught: it stands in h, the state apart from it is sI -/
structure Caught (X : Cx) (pins : List (Addr × Obj)) (σ : L2.St) (H : Hp) (cls : Value) (d : Option Addr) (a : Addr) (B : Heap) (sI s : Shared) : Prop where
  inv : Inv X pins σ H sI
  ground : ∀ b o, sI.heap.get? b = some o → b ∉ frs X.stack → B.get? b = some o
  up : sI.heap.UpToSlots s.heap
  fly : HandSPX.FlyingZ B (X.env :: X.outer) a (L2N.Zn cls d) s.heap
  free : H a = none
  os : s.os = sI.os
  bare : AllBare s.gens
section
variable {X : Cx} {pins : List (Addr × Obj)} {σ : L2.St} {H : Hp} {cls : Value} {d : Option Addr} {a : Addr} {B : Heap} {sI s : Shared} {D : Ends} {Wout : WX}
theorem Caught.here (k : Caught X pins σ H cls d a B sI s) : Inv X pins σ H s :=
  k.inv.landed (s' := s) k.ground k.fly.1 k.up k.os k.bare
/-- the caught exception is none of the frames -/
theorem Caught.apart (k : Caught X pins σ H cls d a B sI s) (hf : X.env.frame = some X.env.locals) : ∃ oe vs, s.heap.get? a = some oe ∧ L2N.Zn cls d oe ∧ oe.data = .fields vs ∧ a ≠ X.env.locals ∧ a ∉ X.fs := by
  obtain ⟨oe, vs, at_a, z, dat⟩ := k.fly.there
  have out : a ∉ frs (X.env :: X.outer) := fun hm => by
    obtain ⟨_, o', e', nf⟩ := k.fly.2.2.1.mem hm
    rw [at_a] at e'
    cases e'
    exact nf _ dat
  refine ⟨oe, vs, at_a, z, dat, fun e => out (List.mem_filterMap.mpr ⟨X.env, List.mem_cons_self, by rw [hf, e]⟩), fun hm => ?_⟩
  obtain ⟨env, he, q⟩ := List.mem_filterMap.mp hm
  exact out (List.mem_filterMap.mpr ⟨env, List.mem_cons_of_mem _ he, q⟩)
/-- into a clause's suite -/
theorem Caught.enter (k : Caught X pins σ H cls d a B sI s) (hf : X.env.frame = some X.env.locals) :
    ∃ oe, L2N.Zn cls d oe ∧ (∃ vs, oe.data = .fields vs) ∧ Inv (X.suite a ((a, oe) :: (X.pn ++ pins))) [] σ H s := by
  obtain ⟨oe, vs, at_a, z, dat, nL, nF⟩ := k.apart hf
  exact ⟨oe, z, ⟨vs, dat⟩, k.here.suite at_a dat k.free nL nF⟩
/-- the class that a clause names is evaluated -/
theorem clause_class {x : Str} {c : Value} {np : Pos} {oe : Obj} {Q : Value → Shared → Prop} {E : Value → Shared → Prop} (hc : Names X x c) (I : Inv (X.suite a ((a, oe) :: (X.pn ++ pins))) [] σ H s) (q : Q c s) :
    wpAny (model X.prog X.w) (X.A.mark (some (.ref a))) (eval (.Name x np) X.env) Q E s := by
  obtain ⟨glob, dbg, own | ⟨noOwn, boot, nn⟩⟩ := hc
  · exact ld_glob (X := X.suite a ((a, oe) :: (X.pn ++ pins))) I glob own q dbg
  · exact ld_blt (X := X.suite a ((a, oe) :: (X.pn ++ pins))) I glob noOwn boot q nn dbg
/-- a suite's ends are the def's ends -/
theorem suite_end {oe : Obj} {f : Flow} (ok : X.Ok) (h : SP (X.suite a ((a, oe) :: (X.pn ++ pins))) [] D f s) : SP X pins D f s := by
  cases f with
  | ret u => obtain ⟨v, σ', H', J, r, q⟩ := h; exact ⟨v, σ', H', J.unsuite ok, r, q⟩
  | next => obtain ⟨σ', H', J, q⟩ := h; exact ⟨σ', H', J.unsuite ok, q⟩
  | brk => obtain ⟨σ', H', J, q⟩ := h; exact ⟨σ', H', J.unsuite ok, q⟩
  | cont => obtain ⟨σ', H', J, q⟩ := h; exact ⟨σ', H', J.unsuite ok, q⟩
/-- no clause took it -/
theorem Caught.out (k : Caught X pins σ H cls d a B sI s) (hs : X.stack = X.env :: X.outer) (hf : X.env.frame = some X.env.locals) (tk : L2N.Takes X Wout) (w : Wout cls d σ H) :
    wpAny (model X.prog X.w) X.A (handleBy (.ref a) X.env []) (SP X pins D) X.xe s := by
  obtain ⟨_, _, _, oe, vs, T, oT, ts, at_a, _, dat, h1, _⟩ := id k.fly
  refine wpAny_handleBy_nil ?_
  unfold PySem.passOn
  refine wpAny_bind (wpAny_field at_a dat h1 ?_)
  rw [if_neg (show ¬ ((Value.ref T == Value.none) = true) from by simp)]
  have rest : wpAny (model X.prog X.w) X.A (setFlight (.ref a) X.env.frame) (fun _ s4 => wpAny (model X.prog X.w) X.A (throw (.ref a) : Sem Flow) (SP X pins D) X.xe s4) X.xe s := by
    rw [hf]
    refine HandSPX.setFlight_upZ k.fly fun h4 held up4 => wpAny_throw (tk _ _ ?_)
    exact ⟨a, B, sI, pins, σ, H, cls, d, rfl, k.inv, k.ground, k.up.trans up4, Or.inr (Or.inr (by rw [hs]; exact held)), k.free, k.os, k.bare, w⟩
  first
    | exact wpAny_bind (wpAny_pure (wpAny_bind rest))
    | exact wpAny_bind rest
theorem Caught.run (k : Caught X pins σ H cls d a B sI s) (hs : X.stack = X.env :: X.outer) (hf : X.env.frame = some X.env.locals) (tk : L2N.Takes X Wout) {hds : List ExceptHandler} {l : List Cl} (h : ClsOk X hds l) (w : wCl X.K Wout D l cls d σ H) :
    wpAny (model X.prog X.w) X.A (handleBy (.ref a) X.env hds) (SP X pins D) X.xe s := by
  have ok := k.inv.ok
  obtain ⟨oe, z, _, S⟩ := k.enter hf
  obtain ⟨oe', _, at_a, z', _, _⟩ := k.apart hf
  have typ : PySem.W.Looks (model X.prog X.w) s.heap (typeOf (.ref a)) cls := fun A Q E s' kp q => wpAny_typeOf_ref (kp _ _ at_a) (by rw [z'.1]; exact q)
  -- the exception behind a further look: the state of the suite
  have again : ∀ {Q : Shared → Prop}, (∀ h4, Caught X pins σ H cls d a B sI { s with heap := h4 } → Q { s with heap := h4 }) → ∀ h4, HandSPX.FlyingZ B (X.env :: X.outer) a (L2N.Zn cls d) h4 → s.heap.UpToSlots h4 → Q { s with heap := h4 } :=
    fun q h4 fl up4 => q h4 ⟨k.inv, k.ground, k.up.trans up4, fl, k.free, k.os, k.bare⟩
  induction h with
  | nil => exact k.out hs hf tk w
  | @bare x c ts st sts np pos hds' l' hc hsu r ih =>
    obtain ⟨b, eb, yes, no⟩ := w
    refine wpAny_handleBy_cons (codeAny_handlers_test ?_) (by intro q; cases q)
    refine clause_class hc S ((PySem.W.exm_one (M := model X.prog X.w) k.here.kIn typ eb).here ?_)
    cases b with
    | false => exact ih (no rfl)
    | true =>
      refine codeAny_handlers_suite (HandSPX.lands_againZ k.fly (again fun h4 k4 => ?_))
      obtain ⟨oe4, z4, d4, S4⟩ := k4.enter hf
      exact wpAny_mono ((hsu a oe4 cls d (X.pn ++ pins) z4 d4).run [] _ _ H D S4 (yes rfl a k.free)) (fun f s6 e6 => suite_end ok e6) fun _ _ e6 => e6.elim
  | @named x n i c ts st sts np pos hds' l' hc hN hi hl hsu r ih =>
    obtain ⟨b, eb, yes, no⟩ := w
    refine wpAny_handleBy_cons (codeAny_handlers_test ?_) (by intro q; cases q)
    refine clause_class hc S ((PySem.W.exm_one (M := model X.prog X.w) k.here.kIn typ eb).here ?_)
    cases b with
    | false => exact ih (no rfl)
    | true =>
      refine codeAny_handlers_suite_as (HandSPX.lands_againZ k.fly (again fun h4 k4 => ?_))
      obtain ⟨oe4, z4, d4, S4⟩ := k4.enter hf
      refine store_ok (X := X.suite a ((a, oe4) :: (X.pn ++ pins))) (v := .ref a) S4 hN hi (.inl hl) rfl (fun s5 S5 => ?_) (.inr hl)
      refine wpAny_mono ((hsu a oe4 cls d (X.pn ++ pins) z4 d4).run [] s5 _ H _ S5 (yes rfl a k.free)) (fun f s6 e6 => ?_) fun _ _ e6 => e6.elim
      have e7 := suite_end ok e6
      cases f with
      | ret u => obtain ⟨v, σ', H', J, rv, q⟩ := e7; exact gone_ok J hN hi hl fun s7 J7 => ⟨v, _, H', J7, rv, q⟩
      | next => obtain ⟨σ', H', J, q⟩ := e7; exact gone_ok J hN hi hl fun s7 J7 => ⟨_, H', J7, q⟩
      | brk => obtain ⟨σ', H', J, q⟩ := e7; exact gone_ok J hN hi hl fun s7 J7 => ⟨_, H', J7, q⟩
      | cont => obtain ⟨σ', H', J, q⟩ := e7; exact gone_ok J hN hi hl fun s7 J7 => ⟨_, H', J7, q⟩
end
section
variable {X : Cx} {body : List Stmt} {h₀ : ExceptHandler} {hds : List ExceptHandler} {l : List Cl} {pos : Pos} {tb : WX → TS} {Wout : WX}
def tTryC (K : PySem.W.Frag) (Wout : WX) (l : List Cl) (tb : WX → TS) : TS := fun D σ H => tb (wCl K Wout D l) D σ H
theorem ps_tryC (hs : X.stack = X.env :: X.outer) (hf : X.env.frame = some X.env.locals) (tk : L2N.Takes X Wout) (hh : ClsOk X (h₀ :: hds) l)
    (hb : ∀ (W : WX) (pn : List (Addr × Obj)) (xe : Value → Shared → Prop), L2N.Takes (X.tr pn xe) W → PassesOwn (model X.prog X.w) X.A X.env xe → PSs (X.tr pn xe) body (tb W)) :
    PS X (.Try body (h₀ :: hds) [] [] pos) (tTryC X.K Wout l tb) where
  run := by
    intro pins s σ H D I want
    have ok := I.ok
    have fr : X.A.frames = some (X.env :: X.outer) := by rw [ok.frames, hs]
    refine wpAny_Try_except ?_
    let catching : Value → Shared → Prop := fun e s₁ => wpAny (model X.prog X.w) X.A (noteFrame e X.env) (fun _ s₂ => wpAny (model X.prog X.w) X.A (setFlight e none) (fun _ s₃ =>
      wpAny (model X.prog X.w) X.A (handleBy e X.env (h₀ :: hds)) (SP X pins D) X.xe s₃) X.xe s₂) X.xe s₁
    have taken : L2N.Takes (X.tr (X.pn ++ pins) catching) (wCl X.K Wout D l) := by
      rintro u s' ⟨a, B, sI, pins', σ', H', cls, d, rfl, J', nb, up, sky, na, os, ag, w⟩
      have sky' : Sky B (X.env :: X.outer) a (L2N.Zn cls d) X.env.locals s'.heap := by rw [← hs]; exact sky
      show wpAny (model X.prog X.w) X.A (noteFrame (.ref a) X.env) _ _ _
      refine L2N.Sky.land L2N.Zn.steady fr hf sky' fun h3 fl3 up3 => ?_
      exact Caught.run (s := { s' with heap := h3 }) ⟨J'.ofTry ok, nb, up.trans up3, fl3, na, os, ag⟩ hs hf tk hh w
    refine wpAny_mono ((hb _ (X.pn ++ pins) catching taken PassesOwn.looking).run [] s σ H D (I.toTry _) want) (fun f s1 e1 => ?_) (fun e s1 he => he)
    cases f with
    | ret u => obtain ⟨v, σ', H', J, r, q⟩ := e1; exact ⟨v, σ', H', J.ofTry ok, r, q⟩
    | next => obtain ⟨σ', H', J, q⟩ := e1; exact wpAny_execs_nil ⟨σ', H', J.ofTry ok, q⟩
    | brk => obtain ⟨σ', H', J, q⟩ := e1; exact ⟨σ', H', J.ofTry ok, q⟩
    | cont => obtain ⟨σ', H', J, q⟩ := e1; exact ⟨σ', H', J.ofTry ok, q⟩
end
end G4
/-! E4: a list or a tuple walked; a list comprehension while an exception is handled. -/
namespace G4
open PySem PySem.Spec PyProof.Rows L2 L2H HotX

/-! ### the end of a list's, a tuple's iterator while an exception is handled -/
section
variable {prog : Program} {w : World} {A : Around} {E : Value → Shared → Prop} {s : Shared}
/-- the iterator's own StopIteration, made and caught at once -/
theorem stop_hot {x1 it : Addr} {α : Type} {Q : α → Shared → Prop} (hot : HotAt A x1 s.heap)
    (hE : ∀ (a : Addr) (h' : Heap) (o : Obj), (∀ b u, s.heap.get? b = some u → h'.get? b = some u) → h'.get? a = some o → o.cls = .type "StopIteration" → E (.ref a) { s with heap := h' }) :
    wpAny (model prog w) A (newExc (.type "StopIteration") [] >>= fun e => (raiseNew e : Sem α)) Q E s := by
  obtain ⟨hh, o1, vs1, h1, d1, c1⟩ := hot
  refine wpAny_bind ?_
  simp only [newExc, newTuple]
  refine wpAny_bind (wpAny_newObj_type ?_ (by size_fits))
  refine wpAny_bind (m := firstArgMember _ _) (wpAny_of_eq (a := Value.none) (by first | rfl | (simp only [firstArgMember]; rfl)) ?_)
  refine wpAny_newObj_type ?_ (by size_fits)
  have two : ∀ {b : Addr} {u : Obj} (x y : Obj), s.heap.get? b = some u → ((s.heap.push x).push y).get? b = some u := fun x y e => Heap.get?_push_of_some _ (Heap.get?_push_of_some _ e)
  refine raiseNew_hot ⟨hh, o1, vs1, two _ _ h1, d1, c1⟩ (Nat.ne_of_lt (Heap.lt_size (Heap.get?_push_of_some _ h1))) (Heap.get?_push_size _ rfl) rfl (by first | (simp; done) | (simp; omega) | (simp only [Array.size_append]; simp; omega)) ?_
  refine hE _ _ _ (fun b u e => ?_) (Heap.get?_update_self _ (Heap.get?_push_size _ rfl) rfl) rfl
  rw [Heap.get?_update_other _ _ (Nat.ne_of_gt (Heap.lt_size (Heap.get?_push_of_some _ e)))]
  exact two _ _ e
theorem list_end_hot {it l x1 : Addr} {i : Nat} {items : Array Value} {Q : Option Value → Shared → Prop} (hot : HotAt A x1 s.heap) (ne : x1 ≠ it) (hit : s.heap.IsListIter it l i) (hl : s.heap.IsList l items) (hx : items[i]? = none)
    (hQ : ∀ h', Heap.ExtBut it s.heap h' → Q none { s with heap := h' }) : wpAny (model prog w) A (pyNext (.ref it)) Q E s := by
  obtain ⟨oi, at_it, cls, dat⟩ := id hit
  obtain ⟨ol, at_l, _, n, datl⟩ := hl
  unfold pyNext
  refine wpAny_bind (wpAny_attempt (wpAny_callSpecial?_slot (name := Str.ofString "__next__") hit.typeIs slot_listiter_next
    (wpAny_call_entry slot_listiter_next hit.typeIs entry_listiter_next ?_ (args_listiter_next _))))
  show wpAny _ _ (field (.ref it) 0 >>= _) _ _ s
  refine wpAny_bind (wpAny_field at_it dat (x := .ref l) rfl ?_)
  rw [if_neg (show ¬ ((Value.ref l == Value.none) = true) from Bool.false_ne_true)]
  show wpAny _ _ (field (.ref it) 1 >>= _) _ _ s
  refine wpAny_bind (wpAny_field at_it dat (x := .int i 0) rfl ?_)
  show wpAny _ _ (seqItems? (.ref l) >>= _) _ _ s
  refine wpAny_bind (wpAny_seqItems at_l datl ?_)
  simp only [Int.toNat_natCast, hx]
  refine wpAny_bind (wpAny_rule (wpAny_bind (wpAny_setField at_it dat (by simp) ?_)))
  obtain ⟨hh, o1, vs1, h1, d1, c1⟩ := hot
  refine stop_hot (it := it) ⟨hh, o1, vs1, (Heap.get?_update_other _ _ (Ne.symm ne)).trans h1, d1, c1⟩ fun a h' o kp at_a co => ?_
  refine wpAny_bind (wpAny_isInstance (T := "StopIteration") (b := true) ⟨_, at_a, co⟩ isSubtype_stop ?_)
  exact wpAny_pure (hQ _ fun b u hb e => kp b u ((Heap.get?_update_other _ _ (Ne.symm hb)).trans e))
theorem tuple_end_hot {it l x1 : Addr} {i : Nat} {items : Array Value} {Q : Option Value → Shared → Prop} (hot : HotAt A x1 s.heap) (ne : x1 ≠ it) (hit : s.heap.IsTupleIter it l i) (hl : s.heap.IsTuple l items) (hx : items[i]? = none)
    (hQ : ∀ h', Heap.ExtBut it s.heap h' → Q none { s with heap := h' }) : wpAny (model prog w) A (pyNext (.ref it)) Q E s := by
  obtain ⟨oi, at_it, cls, dat⟩ := id hit
  obtain ⟨ol, at_l, _, n, datl⟩ := hl
  unfold pyNext
  refine wpAny_bind (wpAny_attempt (wpAny_callSpecial?_slot (name := Str.ofString "__next__") hit.typeIs F.slot_tuple_iterator_next
    (wpAny_call_entry F.slot_tuple_iterator_next hit.typeIs F.entry_tuple_iterator_next ?_ (F.args_tuple_iterator_next_1 _))))
  show wpAny _ _ (field (.ref it) 0 >>= _) _ _ s
  refine wpAny_bind (wpAny_field at_it dat (x := .ref l) rfl ?_)
  rw [if_neg (show ¬ ((Value.ref l == Value.none) = true) from Bool.false_ne_true)]
  show wpAny _ _ (field (.ref it) 1 >>= _) _ _ s
  refine wpAny_bind (wpAny_field at_it dat (x := .int i 0) rfl ?_)
  show wpAny _ _ (seqItems? (.ref l) >>= _) _ _ s
  refine wpAny_bind (wpAny_seqItems at_l datl ?_)
  simp only [Int.toNat_natCast, hx]
  refine wpAny_bind (wpAny_rule (wpAny_bind (wpAny_setField at_it dat (by simp) ?_)))
  obtain ⟨hh, o1, vs1, h1, d1, c1⟩ := hot
  refine stop_hot (it := it) ⟨hh, o1, vs1, (Heap.get?_update_other _ _ (Ne.symm ne)).trans h1, d1, c1⟩ fun a h' o kp at_a co => ?_
  refine wpAny_bind (wpAny_isInstance (T := "StopIteration") (b := true) ⟨_, at_a, co⟩ isSubtype_stop ?_)
  exact wpAny_pure (hQ _ fun b u hb e => kp b u ((Heap.get?_update_other _ _ (Ne.symm hb)).trans e))
end

/-! ### walks over a list or a tuple: b tells which -/
def Sq (b : Bool) (K : PySem.W.Frag) (H : Hp) (a : Addr) (xs : List V) : Prop := match b with
  | true => SqL K H a xs
  | false => SqT K H a xs
def Itx (b : Bool) (K : PySem.W.Frag) (a : Addr) : It := match b with
  | true => Itl K a
  | false => Itt K a
def iSeq (K : PySem.W.Frag) (tl : TE) : TI := fun σ H R => tl σ H fun x H1 => ∃ b a, x = .ref a ∧ (∃ xs, Sq b K H1 a xs) ∧ R (Itx b K a) H1
section
variable {X : Cx} {tg l : Expr} {tl : TE}
theorem fresh_it {pins : List (Addr × Obj)} {σ : L2.St} {H : Hp} {s : Shared} (I : Inv X pins σ H s) : ∀ b ∈ [s.heap.objs.size], FpOk X pins H b := fun b hb => by
  obtain rfl : b = s.heap.objs.size := by simpa using hb
  exact I.fpOk (Nat.le_refl _) (I.hok.fresh (Nat.le_refl _))
theorem pi_seq (hl : PE X l tl) : PI X tg l (iSeq X.K tl) where
  run := by
    intro pins s σ H R I want
    refine thn (hl.run pins s σ H _ I want) fun v s1 ⟨x, H1, I1, r1, b, a, ex, ⟨xs, hq⟩, q⟩ => ?_
    subst ex
    cases r1
    cases b with
    | true =>
      obtain ⟨its, rv, pl, hz⟩ := I1.list hq
      exact wpAny_pyIter_list pl.isList ⟨_, [s1.heap.objs.size], _, _, H1, rfl, I1.kept (t' := s1.toks) fun b o e => Heap.get?_push_of_some _ e, turn_list a _, ⟨_, Heap.get?_push_size _ rfl, rfl, rfl⟩, fresh_it I1, q⟩
    | false =>
      obtain ⟨its, rv, pl, hz⟩ := I1.tuple hq
      exact wpAny_pyIter_tuple (show s1.heap.IsTuple a its.toArray from pl) ⟨_, [s1.heap.objs.size], _, _, H1, rfl, I1.kept (t' := s1.toks) fun b o e => Heap.get?_push_of_some _ e, turn_tuple a _, ⟨_, Heap.get?_push_size _ rfl, rfl, rfl⟩, fresh_it I1, q⟩
end
/-! the same while an exception is handled -/
section
variable {P : Program} {w : World} {K : PySem.W.Frag} {tg : Expr}
theorem turn_listH (a it : Addr) : TurnH P w K tg (Itl K a) [it] it (fun i h => h.IsListIter it a i) where
  mem := (turn_list (P := P) (w := w) (K := K) (tg := tg) a it).mem
  obj := (turn_list (P := P) (w := w) (K := K) (tg := tg) a it).obj
  keep := (turn_list (P := P) (w := w) (K := K) (tg := tg) a it).keep
  self := (turn_list (P := P) (w := w) (K := K) (tg := tg) a it).self
  item := by
    rintro X rfl rfl rfl hot i pins s σ H E I own st ⟨xs, x, hq, hx⟩
    obtain ⟨its, rv, pl, hz⟩ := I.list hq
    obtain ⟨u, hu, ru⟩ := rv.get hx
    obtain ⟨f0, f1, f2, f3, f4, f5⟩ := own it (by simp)
    refine wpAny_pyNext_list_item st pl.isList (x := u) (by simpa using hu) fun h' st' only => ?_
    have J : Inv X pins σ H { s with heap := h' } := I.turned (t' := s.toks) (fun b o hb e => (only.2 b hb).trans e) f0 f1 f3 f4 f5
    obtain ⟨o, at_it, co, dat⟩ := id st'
    refine ⟨u, rfl, go_of (s := { s with heap := h' }) at_it co dat (by decide) ⟨x, H, J, ru, ⟨rfl, fun ys hy => ?_⟩, st', fun b hb => (own b hb).1⟩⟩
    rw [I.list_inj hy hq]
    exact hx
  done := by
    rintro X rfl rfl rfl hot i pins s σ H E I own st ⟨xs, hq, hx⟩
    obtain ⟨its, rv, pl, hz⟩ := I.list hq
    obtain ⟨f0, f1, f2, f3, f4, f5⟩ := own it (by simp)
    have lv := rv.length
    obtain ⟨p, ⟨hp1, vs, hp2, hp3⟩, hp⟩ := hot
    have P1 := I.pin p (List.mem_append_left _ hp)
    exact list_end_hot ⟨hp1, p.2, vs, P1.1, hp2, hp3⟩ (f5 p (List.mem_append_left _ hp)) st pl.isList (by simp; omega) fun h' only => ⟨rfl, I.turned (t' := s.toks) (fun b o hb e => only b o hb e) f0 f1 f3 f4 f5⟩
theorem turn_tupleH (a it : Addr) : TurnH P w K tg (Itt K a) [it] it (fun i h => h.IsTupleIter it a i) where
  mem := (turn_tuple (P := P) (w := w) (K := K) (tg := tg) a it).mem
  obj := (turn_tuple (P := P) (w := w) (K := K) (tg := tg) a it).obj
  keep := (turn_tuple (P := P) (w := w) (K := K) (tg := tg) a it).keep
  self := (turn_tuple (P := P) (w := w) (K := K) (tg := tg) a it).self
  item := by
    rintro X rfl rfl rfl hot i pins s σ H E I own st ⟨xs, x, hq, hx⟩
    obtain ⟨its, rv, pl, hz⟩ := I.tuple hq
    obtain ⟨u, hu, ru⟩ := rv.get hx
    obtain ⟨f0, f1, f2, f3, f4, f5⟩ := own it (by simp)
    refine wpAny_pyNext_tuple_item st (show s.heap.IsTuple a its.toArray from pl) (x := u) (by simpa using hu) fun h' st' only => ?_
    have J : Inv X pins σ H { s with heap := h' } := I.turned (t' := s.toks) (fun b o hb e => (only.2 b hb).trans e) f0 f1 f3 f4 f5
    obtain ⟨o, at_it, co, dat⟩ := id st'
    refine ⟨u, rfl, go_of (s := { s with heap := h' }) at_it co dat (by decide) ⟨x, H, J, ru, ⟨rfl, fun ys hy => ?_⟩, st', fun b hb => (own b hb).1⟩⟩
    rw [I.tuple_inj hy hq]
    exact hx
  done := by
    rintro X rfl rfl rfl hot i pins s σ H E I own st ⟨xs, hq, hx⟩
    obtain ⟨its, rv, pl, hz⟩ := I.tuple hq
    obtain ⟨f0, f1, f2, f3, f4, f5⟩ := own it (by simp)
    have lv := rv.length
    obtain ⟨p, ⟨hp1, vs, hp2, hp3⟩, hp⟩ := hot
    have P1 := I.pin p (List.mem_append_left _ hp)
    exact tuple_end_hot ⟨hp1, p.2, vs, P1.1, hp2, hp3⟩ (f5 p (List.mem_append_left _ hp)) st (show s.heap.IsTuple a its.toArray from pl) (by simp; omega) fun h' only => ⟨rfl, I.turned (t' := s.toks) (fun b o hb e => only b o hb e) f0 f1 f3 f4 f5⟩
end
section
variable {X : Cx} {tg l : Expr} {tl : TE}
theorem pi_seqH (hl : PE X l tl) : PIH X tg l (iSeq X.K tl) where
  run := by
    intro pins s σ H R I want
    refine thn (hl.run pins s σ H _ I want) fun v s1 ⟨x, H1, I1, r1, b, a, ex, ⟨xs, hq⟩, q⟩ => ?_
    subst ex
    cases r1
    cases b with
    | true =>
      obtain ⟨its, rv, pl, hz⟩ := I1.list hq
      exact wpAny_pyIter_list pl.isList ⟨_, [s1.heap.objs.size], _, _, H1, rfl, I1.kept (t' := s1.toks) fun b o e => Heap.get?_push_of_some _ e, turn_listH a _, ⟨_, Heap.get?_push_size _ rfl, rfl, rfl⟩, fresh_it I1, q⟩
    | false =>
      obtain ⟨its, rv, pl, hz⟩ := I1.tuple hq
      exact wpAny_pyIter_tuple (show s1.heap.IsTuple a its.toArray from pl) ⟨_, [s1.heap.objs.size], _, _, H1, rfl, I1.kept (t' := s1.toks) fun b o e => Heap.get?_push_of_some _ e, turn_tupleH a _, ⟨_, Heap.get?_push_size _ rfl, rfl, rfl⟩, fresh_it I1, q⟩
end

/-! ### [elt for target in iter] while the exception p is handled -/
/-- the block's context, the handled exception borne along -/
abbrev blkH (X : Cx) (p : Addr × Obj) (s : Shared) (H : Hp) (scope : Scope) (cenv : Env) (fp : List Addr) : Cx := { X.blk s H scope cenv fp with pn := [p] }
section
variable {X : Cx} {p : Addr × Obj}
/-- a pin more -/
theorem inv_bear {scope : Scope} {cenv : Env} {fp : List Addr} {s s' : Shared} {σ : L2.St} {H H' : Hp} (I : Inv (X.blk s H scope cenv fp) [] σ H' s') (at_p : s'.heap.get? p.1 = some p.2) (free : H' p.1 = none) (nl : p.1 ≠ cenv.locals) (nf : p.1 ∉ frs X.stack) (nc : ∀ v, p.2.data ≠ .cell v) :
    Inv (blkH X p s H scope cenv fp) [] σ H' s' := by
  have ok := I.ok
  refine ⟨⟨ok.mod, ok.kind, ok.glob, ok.blt, ok.above, ok.inj, ok.has, ok.cab, ok.hd, ok.frames, ok.stk, ok.exf, ok.bs, ok.bsz, ok.noex, ok.exfs, ok.funs, ok.frf⟩, I.os, I.bare, I.base, I.loc, I.cell, I.free, I.freeC, fun r hr => ?_, I.hok, I.len⟩
  obtain rfl : r = p := by simpa using (show r ∈ [p] ++ ([] : List (Addr × Obj)) from hr)
  exact ⟨at_p, free, nl, nf, nc⟩
theorem pe_lcH {elt tg iter : Expr} {scope : Scope} {own : List (Str × Nat)} {pos : Pos} {wi : TI} {g : TG} {te : TE} (hot : Hot1 X.A p) (hp : p ∈ X.pn) (hN : X.N.Nodup) (hi : PIH X tg iter wi) (ok : BlkOk X.N X.env.scope scope own)
    (hg : ∀ (s : Shared) (H : Hp) (C : Addr) (cl : List (Str × Addr)) (fp : List Addr), PG (blkH X p s H scope (compEnvC scope cl C X.env) fp) tg g)
    (he : ∀ (s : Shared) (H : Hp) (C : Addr) (cl : List (Str × Addr)) (fp : List Addr), PE (blkH X p s H scope (compEnvC scope cl C X.env) fp) elt te) (hs : ∀ x, foldedSetIterable iter X.env x = pure x := by intro _; rfl) :
    PE X (.ListComp elt [⟨tg, iter, [], 0⟩] scope pos) (tLc wi g tYes te (own.map (·.2))) where
  run := by
    intro pins s σ H Q I want
    have captured : ∀ y ∈ scope.names, y.2 = .free → ∃ c, X.env.cells.lookup y.1 = some c := fun y hy e => (ok.free y hy e).elim (fun k => I.ok.has _ (Or.inl k)) fun k => I.ok.has _ (Or.inr k)
    rw [eval_ListComp]
    refine wpAny_comprehension_free (use := none) rfl hs (closure_ok captured) ok.kind (fun y hy e => by rw [ok.uniq y hy, e])
      (thn (hi.run pins s σ H _ I want) fun xv s1 begun => thn begun fun itv s2 ⟨it, fp, tn, J, H2, eit, I2, T, st2, f2, q⟩ => ?_)
    subst eit
    refine wpAny_newObj_type (newEnv_comp ?_) (by show 0 ≤ sizeLine; decide)
    obtain ⟨D, hD⟩ : ∃ D, D = s2.heap.objs.size := ⟨_, rfl⟩
    have freshD : H2 D = none := I2.hok.fresh (Nat.le_of_eq hD.symm)
    obtain ⟨W, ⟨m0, w0⟩, turn⟩ := q D freshD
    rw [← hD]
    -- the state with the new list
    obtain ⟨s3, hs3⟩ : ∃ s3 : Shared, s3 = { s2 with heap := s2.heap.push { cls := .type "list", data := .seq ([] : List Value).toArray } } := ⟨_, rfl⟩
    obtain ⟨H3, hH3⟩ : ∃ H3, H3 = upd H2 D (.lst []) := ⟨_, rfl⟩
    have old3 : ∀ b o, s2.heap.get? b = some o → s3.heap.get? b = some o := fun b o e => by rw [hs3]; exact Heap.get?_push_of_some _ e
    have I3 : Inv X pins σ H3 s3 := by
      rw [hs3, hH3]
      refine I2.laid (t' := s2.toks) (fun b o e => Heap.get?_push_of_some _ e) (Nat.le_of_eq hD.symm) ⟨Nat.zero_le _, [], 0, .nil, ?_⟩
      rw [hD]
      exact Heap.get?_push_size _ rfl
    have size3 : s3.heap.objs.size = s2.heap.objs.size + 1 := by rw [hs3]; exact Heap.size_push _ _
    have below : ∀ b ∈ fp, b < s2.heap.objs.size := fun b hb => by
      obtain ⟨o, e, _⟩ := T.obj _ _ st2 b hb
      exact Heap.lt_size e
    have f3 : ∀ b ∈ fp, FpOk X pins H3 b ∧ b < s3.heap.objs.size := fun b hb => by
      have lt := below b hb
      refine ⟨⟨?_, (f2 b hb).2⟩, by rw [size3]; exact Nat.lt_succ_of_lt lt⟩
      rw [hH3, upd_ne (by rw [hD]; exact Nat.ne_of_lt lt)]
      exact (f2 b hb).1
    have st3 : tn 0 s3.heap := T.keep _ _ _ st2 fun b _ o e => old3 b o e
    have w3 : W 0 m0 H3 := by rw [hH3]; exact w0
    -- the block's frame
    obtain ⟨ce, hce⟩ : ∃ ce, ce = compEnvC scope (cellsFrom (s3.heap.objs.size + 1) scope.names (cloFrom X.env.cells scope.names [])) s3.heap.objs.size X.env := ⟨_, rfl⟩
    obtain ⟨s4, hs4⟩ : ∃ s4 : Shared, s4 = { s3 with heap := pushCells (s3.heap.push { cls := .type "dict", data := .dict #[] }) scope.names } := ⟨_, rfl⟩
    have old4 : ∀ b o, s3.heap.get? b = some o → s4.heap.get? b = some o := fun b o e => by rw [hs4]; exact pushCells_keeps _ _ _ _ (Heap.get?_push_of_some _ e)
    have locals : ce.locals = s3.heap.objs.size := by rw [hce]; rfl
    have I4 : Inv (blkH X p s3 H3 scope ce fp) [] (wipe σ (own.map (·.2))) H3 s4 := by
      have B := block_start I3 ok hN f3
      rw [← hce, ← hs4] at B
      obtain ⟨p1, p2, p3, p4, p5⟩ := I3.pin p (List.mem_append_left _ hp)
      refine inv_bear B (old4 _ _ p1) p2 (by rw [locals]; exact Nat.ne_of_lt (Heap.lt_size p1)) (fun hm => ?_) p5
      rcases List.mem_cons.mp (I3.stkSub p.1 hm) with e | e
      · exact p3 e
      · exact p4 e
    have gOk : PG (blkH X p s3 H3 scope ce fp) tg g := by rw [hce]; exact hg _ _ _ _ _
    have eOk : PE (blkH X p s3 H3 scope ce fp) elt te := by rw [hce]; exact he _ _ _ _ _
    have hotB : HotC (blkH X p s3 H3 scope ce fp) := ⟨p, hot, List.mem_cons_self⟩
    have st4 : tn 0 s4.heap := T.keep _ _ _ st3 fun b _ o e => old4 b o e
    have free3 : ∀ b ∈ fp, H3 b = none := fun b hb => (f3 b hb).1.1
    have pin3 := fun b hb => (f3 b hb).1.2.2.2.2.2 p (List.mem_append_left _ hp)
    have ownOk : ∀ {σ' : L2.St} {H' : Hp} {s' : Shared}, Inv (blkH X p s3 H3 scope ce fp) [] σ' H' s' → (∀ b ∈ fp, H' b = none) → ∀ b ∈ fp, FpOk (blkH X p s3 H3 scope ce fp) [] H' b := fun {σ' H' s'} I' hn b hb => by
      refine ⟨hn b hb, (I'.ok.exf b hb).1, I'.ok.exfs b hb, Or.inl hb, fun x c e => (I'.ok.exf b hb).2 x c e, fun r hr => ?_⟩
      obtain rfl : r = p := by simpa using (show r ∈ [p] ++ ([] : List (Addr × Obj)) from hr)
      exact pin3 b hb
    rw [show ({ s2 with heap := s2.heap.push { cls := .type "list", data := .seq ([] : List Value).toArray } } : Shared) = s3 from hs3.symm]
    show codeAny _ _ (.compStart (.ListComp elt [⟨tg, iter, [], 0⟩] scope pos) 0 (.ref it) (.ref D) (compEnvC scope (cellsFrom (s3.heap.objs.size + 1) scope.names (cloFrom X.env.cells scope.names [])) s3.heap.objs.size X.env))
      (compPost (model X.prog X.w) X.A X.xe none (EP X pins σ Q) (.ref D) s3.heap.objs.size) { s3 with heap := pushCells (s3.heap.push { cls := .type "dict", data := .dict #[] }) scope.names }
    rw [← hce, ← hs4]
    have loop : codeAny (model X.prog X.w) X.A (.compLoop (.ListComp elt [⟨tg, iter, [], 0⟩] scope pos) 0 (.ref it) (.ref D) ce) (compPost (model X.prog X.w) X.A X.xe none (EP X pins σ Q) (.ref D) s3.heap.objs.size) s4 := by
      refine compLoop_any (fun n s' => ∃ i H', Inv (blkH X p s3 H3 scope ce fp) [] (wipe σ (own.map (·.2))) H' s' ∧ tn i s'.heap ∧ (∀ b ∈ fp, H' b = none) ∧ W i n H') ?_ m0 ⟨0, H3, I4, st4, free3, w3⟩
      rintro n s5 ⟨i, H5, I5, st5, n5, w5⟩
      rcases turn i n H5 w5 with ⟨stop, finish⟩ | ⟨go, Nx, reach, step⟩
      · refine thnF (T.done (blkH X p s3 H3 scope ce fp) rfl rfl rfl hotB i [] s5 _ H5 (fun _ _ => False) I5 (ownOk I5 n5) st5 stop) fun r s6 ⟨er, I6⟩ => ?_
        subst er
        have I7 : Inv X pins σ H5 s6 := I3.call' (ch := fp) I6.os I6.base I6.hok I6.bare fun b hb => ⟨(f3 b hb).1.2.2.2.1, (f3 b hb).1.2.1, (f3 b hb).1.2.2.2.2.1, (f3 b hb).1.2.2.2.2.2⟩
        obtain ⟨m, ns, _⟩ := I6.loc
        have freeC : H5 s3.heap.objs.size = none := locals ▸ I6.free
        refine ⟨m, locals ▸ ns, fun h'' only => ?_⟩
        obtain ⟨c0, c1, c2, c3, c4, c5⟩ := I3.fpOk (Nat.le_refl _) freeC
        exact ⟨.ref D, H5, I7.turned (t' := s6.toks) (fun b o hb e => (only.2 b hb).trans e) c0 c1 c3 c4 c5, rfl, finish⟩
      · refine thnF (T.item (blkH X p s3 H3 scope ce fp) rfl rfl rfl hotB i [] s5 _ H5 (fun _ _ => False) I5 (ownOk I5 n5) st5 go) fun r s6 ⟨u, er, h6⟩ => ?_
        subst er
        refine thnF h6 fun _ s7 ⟨x, H7, I7, r7, y7, st7, n7⟩ => ?_
        have I7' := I7.pinned (ownOk I7 n7) (T.obj _ _ st7)
        refine thnF (gOk.run _ s7 _ H7 x u _ I7' r7 (step x H7 y7)) fun _ s8 ⟨σ8, H8, I8, own8, q8⟩ => ?_
        refine wpAny_tests_nil ?_
        refine thnF (eOk.run _ s8 σ8 H8 _ I8 q8) fun z s10 ⟨yv, H10, I10, r10, acc, hD10, hz10, nx⟩ => ?_
        refine app_ok (X := blkH X p s3 H3 scope ce fp) I10 hD10 hz10 r10 fun s11 I11 => ?_
        obtain ⟨m', less, w'⟩ := reach _ nx
        have stay : ∀ b ∈ fp, ∀ o, s7.heap.get? b = some o → s11.heap.get? b = some o ∧ (upd H10 D (.lst (acc ++ [yv]))) b = none := fun b hb o e =>
          let z := I11.pin (b, o) (List.mem_append_right _ (List.mem_append_right _ (mem_pinsAt hb e)))
          ⟨z.1, z.2.1⟩
        have len8 : (wipe σ (own.map (·.2))).length = σ8.length := by rw [← own8, wipe_length]
        refine ⟨m', less, i + 1, _, (I11.unpinned (pins := [])).weak len8 (fun j v e => ?_), T.keep _ _ _ st7 fun b hb o e => (stay b hb o e).1, fun b hb => ?_, w'⟩
        · rw [← own8] at e
          exact (wipe_some e).1
        · obtain ⟨o, e, _⟩ := T.obj _ _ st7 b hb
          exact (stay b hb o e).2
    exact codeAny_compStart_list loop (T.self X.A 0 _ _ _ st4 loop)
end
end G4
/-! E5: sorted of a list of tuples of ints. -/
namespace G4
open PySem PySem.Spec PyProof.Rows L2
/-- a tuple's ints as a key -/
def keyI (ns : List Int) : List (Int ⊕ List Nat) := ns.map Sum.inl
/-- a before b, or equal -/
def leI (a b : List Int) : Prop := lexLt itemOrd (keyI b) (keyI a) = false
theorem keyI_inj {a b : List Int} (h : keyI a = keyI b) : a = b := by
  induction a generalizing b with
  | nil =>
    cases b with
    | nil => rfl
    | cons y b => cases h
  | cons x a ih =>
    cases b with
    | nil => cases h
    | cons y b =>
      injection h with h1 h2
      injection h1 with h1
      rw [h1, ih h2]
theorem leI_anti {a b : List Int} (h1 : leI a b) (h2 : leI b a) : a = b := keyI_inj (lex_total _ _ h2 h1)
theorem leI_refl (a : List Int) : leI a a := lex_irrefl _
theorem leI_trans {a b c : List Int} (h1 : leI a b) (h2 : leI b c) : leI a c := by
  unfold leI
  cases e : lexLt itemOrd (keyI c) (keyI a) with
  | false => rfl
  | true =>
    rcases lex_negTrans (O := itemOrd) (keyI c) (keyI b) (keyI a) e with z | z
    · unfold leI at h2
      rw [h2] at z
      cases z
    · unfold leI at h1
      rw [h1] at z
      cases z
/-- two ordered lists of the same things are one -/
theorem ordered_one : ∀ {l m : List (List Int)}, l.Perm m → l.Pairwise leI → m.Pairwise leI → l = m
  | [], m, p, _, _ => (List.perm_nil.mp p.symm).symm
  | a :: l, [], p, _, _ => (List.cons_ne_nil _ _ (List.perm_nil.mp p)).elim
  | a :: l, b :: m, p, hl, hm => by
    have ab : leI a b := by
      rcases List.mem_cons.mp (p.mem_iff.mpr (List.mem_cons_self : b ∈ b :: m)) with e | e
      · rw [e]
        exact leI_refl _
      · exact (List.pairwise_cons.mp hl).1 b e
    have ba : leI b a := by
      rcases List.mem_cons.mp (p.mem_iff.mp (List.mem_cons_self : a ∈ a :: l)) with e | e
      · rw [e]
        exact leI_refl _
      · exact (List.pairwise_cons.mp hm).1 a e
    have e := leI_anti ab ba
    subst e
    rw [ordered_one p.cons_inv (List.pairwise_cons.mp hl).2 (List.pairwise_cons.mp hm).2]

section
variable {h : Heap}
abbrev noText : Nat → Bool := fun _ => false
theorem items_ints {vs : List Value} {ns : List Int} (hi : IntsAre vs ns) : ∀ i, tupItems noText i vs = some (keyI ns) := by
  induction hi with
  | nil => intro i; rfl
  | cons n t _ ih =>
    intro i
    show (if noText i = true then none else (tupItems noText (i + 1) _).map (Sum.inl n :: ·)) = _
    rw [if_neg (show ¬ (false = true) from Bool.false_ne_true), ih]
    rfl
theorem key_of {t : Addr} {o : Obj} {its : List Value} {n : Nat} {ns : List Int} (ho : h.get? t = some o) (hc : o.cls = .type "tuple") (hd : o.data = .seq its.toArray n) (hi : IntsAre its ns) : G.tupKeyC h noText (.ref t) = some (keyI ns) := by
  unfold G.tupKeyC
  rw [if_pos (show G.isTupObj h (.ref t) = true by simp [G.isTupObj, ho, hc])]
  simp only [tupKey, ho, hd]
  exact items_ints hi 0
end
def refV (p : Addr × List Int) : V := .ref p.1
def refU (p : Addr × List Int) : Value := .ref p.1
theorem vals_refs : ∀ {L : List (Addr × List Int)} {us : List Value}, Vals (L.map refV) us → us = L.map refU
  | [], us, r => by cases r; rfl
  | p :: L, us, r => by
    cases r with
    | cons r1 r2 => rw [vals_refs r2, show _ = Value.ref p.1 from r1]; rfl
theorem refs_vals : ∀ L : List (Addr × List Int), Vals (L.map refV) (L.map refU)
  | [] => .nil
  | p :: L => .cons (show RelV (.ref p.1) (.ref p.1) from rfl) (refs_vals L)
theorem map_int_inj {a b : List Int} (h : a.map V.int = b.map V.int) : a = b := by
  induction a generalizing b with
  | nil =>
    cases b with
    | nil => rfl
    | cons y b => cases h
  | cons x a ih =>
    cases b with
    | nil => cases h
    | cons y b =>
      injection h with h1 h2
      injection h1 with h1
      rw [h1, ih h2]
def rSortN (K : PySem.W.Frag) : List V → Hp → VK → Prop := fun vs H Q => ∃ (a : Addr) (L : List (Addr × List Int)), vs = [.ref a] ∧ SqL K H a (L.map refV) ∧ (∀ p ∈ L, SqT K H p.1 (p.2.map V.int) ∧ p.2 ≠ []) ∧
  ∀ (M : List (Addr × List Int)) (q : Addr), M.Perm L → (M.map (·.2)).Pairwise leI → H q = none → Q (.ref q) (upd H q (.lst (M.map refV)))
theorem cr_sortN {X : Cx} : CallR X (.builtin "sorted") (rSortN X.K) := by
  intro pins s σ H vs us Q I r want
  obtain ⟨a, L, rfl, hs, ht, q⟩ := want
  obtain ⟨u, rfl, ru⟩ := vals1 r
  obtain rfl : u = Value.ref a := ru
  obtain ⟨its, rv, hl, hz⟩ := I.list hs
  have eits := vals_refs rv
  subst eits
  -- an address tells its ints
  have one : ∀ p ∈ L, ∀ p' ∈ L, p.1 = p'.1 → p = p' := by
    rintro ⟨t, ns⟩ hp ⟨t', ns'⟩ hp' (e : t = t')
    subst e
    have e2 := map_int_inj (I.tuple_inj (ht _ hp).1 (ht _ hp').1)
    rw [show ns = ns' from e2]
  let dat : Addr → List Int := fun t => ((L.find? fun p => p.1 == t).map (·.2)).getD []
  have dat_of : ∀ p ∈ L, dat p.1 = p.2 := by
    intro p hp
    cases e : L.find? (fun p' => p'.1 == p.1) with
    | none => exact absurd (List.find?_eq_none.mp e p hp) (by simp)
    | some p' =>
      have e1 := List.mem_of_find?_eq_some e
      have e2 : p'.1 = p.1 := by simpa using List.find?_some e
      show ((L.find? fun p' => p'.1 == p.1).map (·.2)).getD [] = p.2
      rw [e, one p' e1 p hp e2]
      rfl
  have obj : ∀ p ∈ L, ∃ (o : Obj) (vs : List Value) (n : Nat), s.heap.get? p.1 = some o ∧ o.cls = .type "tuple" ∧ o.data = .seq vs.toArray n ∧ IntsAre vs p.2 := by
    intro p hp
    obtain ⟨vs, rvs, ⟨o, ho, hc, n, hd⟩, _⟩ := I.tuple (ht p hp).1
    exact ⟨o, vs, n, ho, hc, hd, rvs.ints⟩
  have keys : ∀ p ∈ L, G.tupKeyC s.heap noText (refU p) = some (keyI p.2) := by
    intro p hp
    obtain ⟨o, vs, n, ho, hc, hd, hi⟩ := obj p hp
    exact key_of ho hc hd hi
  have firsts : ∀ l : List (Addr × List Int), (∀ p ∈ l, p ∈ L) → ∃ fs, TupsOf s.heap noText (l.map refU) fs := by
    intro l
    induction l with
    | nil => exact fun _ => ⟨[], .nil⟩
    | cons p l ih =>
      intro hl'
      obtain ⟨fs, hfs⟩ := ih fun p' hp' => hl' p' (List.mem_cons_of_mem _ hp')
      have hp := hl' p List.mem_cons_self
      obtain ⟨o, vs, n, ho, hc, hd, hi⟩ := obj p hp
      have ne := (ht p hp).2
      cases hi' : p.2 with
      | nil => exact absurd hi' ne
      | cons k ks =>
        rw [hi'] at hi
        cases hi with
        | cons _ t hi =>
          exact ⟨_ :: fs, .cons ⟨p.1, o, _, n, rfl, ho, hc, hd, by simp, fun _ => ⟨k, t, rfl⟩, fun z => absurd z (by decide)⟩ hfs⟩
  obtain ⟨fs, hfs⟩ := firsts L fun p hp => hp
  refine G.sorted_tups (shape := noText) hl.isList hfs (fun v hv => ?_) (by rw [List.length_map]; rw [List.length_map] at hz; exact hz) fun st' hperm hsort _ => ?_
  · obtain ⟨p, hp, rfl⟩ := List.mem_map.mp hv
    exact ⟨_, keys p hp⟩
  · have perm : (arrOf st').toList.Perm ((L.map refU).zip (L.map refU)) := by
      rw [← pairsOf_toList]
      exact Array.perm_iff_toList_perm.mp hperm
    have back : ∀ kd ∈ (arrOf st').toList, ∃ p ∈ L, kd.1 = refU p ∧ kd.2 = refU p := by
      intro kd hkd
      obtain ⟨e, m⟩ := mem_zip_self (perm.mem_iff.mp hkd)
      obtain ⟨p, hp, e2⟩ := List.mem_map.mp m
      exact ⟨p, hp, e2.symm, by rw [← e, e2]⟩
    let tell : Value → Addr × List Int := fun v => match v with
      | .ref t => (t, dat t)
      | _ => (0, [])
    have tell_of : ∀ p ∈ L, tell (refU p) = p := by
      intro p hp
      show (p.1, dat p.1) = p
      rw [dat_of p hp]
    have out : ((arrOf st').map (·.2)).toList = (arrOf st').toList.map (·.2) := Array.toList_map
    let M := ((arrOf st').toList.map (·.2)).map tell
    have MU : M.map refU = (arrOf st').toList.map (·.2) := by
      show (((arrOf st').toList.map (·.2)).map tell).map refU = _
      rw [List.map_map]
      conv => rhs; rw [← List.map_id ((arrOf st').toList.map (·.2))]
      refine List.map_congr_left fun v hv => ?_
      obtain ⟨kd, hkd, rfl⟩ := List.mem_map.mp hv
      obtain ⟨p, hp, _, e⟩ := back kd hkd
      show refU (tell kd.2) = kd.2
      rw [e, tell_of p hp]
    have ML : M.Perm L := by
      have e1 := (perm.map Prod.snd).map tell
      rw [List.map_snd_zip (Nat.le_refl _)] at e1
      have e2 : (L.map refU).map tell = L := by
        rw [List.map_map]
        conv => rhs; rw [← List.map_id L]
        exact List.map_congr_left fun p hp => tell_of p hp
      rw [e2] at e1
      exact e1
    have MS : (M.map (·.2)).Pairwise leI := by
      show ((((arrOf st').toList.map (·.2)).map tell).map (·.2)).Pairwise leI
      rw [List.map_map, List.map_map, List.pairwise_map, List.pairwise_iff_getElem]
      intro i j hi hj hij
      have key_at : ∀ (i : Nat) (hi : i < (arrOf st').toList.length), KK (G.tupKindC s.heap noText) (arrOf st') i = keyI (tell ((arrOf st').toList[i]).2).2 := by
        intro i hi
        obtain ⟨p, hp, e1, e2⟩ := back _ (List.getElem_mem hi)
        rw [e2, tell_of p hp]
        have at_i : (arrOf st')[i]? = some ((arrOf st').toList[i]) := by
          rw [← Array.getElem?_toList, List.getElem?_eq_getElem hi]
        unfold KK
        rw [at_i]
        show (G.tupKeyC s.heap noText ((arrOf st').toList[i]).1).getD [] = _
        rw [e1, keys p hp]
        rfl
      have e := hsort i j (Nat.le_of_lt hij) (by rw [← hperm.size_eq, ← Array.length_toList]; exact hj)
      rw [key_at i hi, key_at j hj] at e
      exact e
    have len : (M.map refV).length ≤ sizeLine := by
      rw [List.length_map, ML.length_eq]
      rw [List.length_map] at hz
      exact hz
    obtain ⟨ep, at_new⟩ := PyProof.Rows.sortedAll_at s.heap (L.map refU) ((arrOf st').map (·.2))
    refine ⟨.ref (s.heap.objs.size + 1), upd H (s.heap.objs.size + 1) (.lst (M.map refV)), I.laid (t' := s.toks) (fun _ _ => PyProof.Rows.sortedAll_old) (Nat.le_succ _) ⟨len, M.map refU, ep, refs_vals M, ?_⟩, rfl, q M _ ML MS (I.hok.fresh (Nat.le_succ _))⟩
    rw [MU, ← out]
    exact at_new
end G4
/-! E6: readings told by data: what an expression is worth as a tree of None, bools, ints, texts, lists, tuples; how a def answers or raises. -/
namespace G4
open PySem PySem.Spec PyProof.Rows L2
abbrev D := PyData
/-- the three errors that are met -/
inductive Kd where
  | face | slope | dirn
  deriving DecidableEq
def Kd.fld : Kd → Str
  | .face => "face"
  | .slope => "slope"
  | .dirn => "what"
/-- how a call ends: data handed back, an error with data in its field; no: outside of what is told -/
inductive Out where
  | ok (d : D) | bad (k : Kd) (e : D) | no

/-- the items of a list or tuple -/
def its? : D → Option (List D)
  | .list xs => some xs
  | .tuple xs => some xs
  | _ => none
end G4
namespace L2
open PySem PySem.Spec PyProof.Rows G4
/-! ### data and heaps -/
section
variable {K : PySem.W.Frag} {H H' : Hp} {v : V} {d : D}
theorem Same.sql {a : Addr} {xs : List V} (e : Same H H') (h : SqL K H a xs) : SqL K H' a xs := e.seq h
theorem Same.sqt {a : Addr} {xs : List V} (e : Same H H') (h : SqT K H a xs) : SqT K H' a xs := by
  rcases h with (h | ⟨o, h⟩) | h
  · exact Or.inl (Or.inl (e _ _ h))
  · exact Or.inl (Or.inr ⟨o, e _ _ h⟩)
  · exact Or.inr h
mutual
theorem Dp.same (e : Same H H') : ∀ {d : D} {v : V}, Dp K H v d → Dp K H' v d
  | .none, _, .non => .non
  | .bool _, _, .bl b => .bl b
  | .int _, _, .int i => .int i
  | .str _, _, .str x => .str x
  | .list _, _, .lst h a => .lst (Same.sql e h) (DpAll.same e a)
  | .tuple _, _, .tup h a => .tup (Same.sqt e h) (DpAll.same e a)
  | .dict _, _, h => by cases h
theorem DpAll.same (e : Same H H') : ∀ {ds : List D} {vs : List V}, DpAll K H vs ds → DpAll K H' vs ds
  | [], _, .nil => .nil
  | _ :: _, _, .cons h t => .cons (Dp.same e h) (DpAll.same e t)
end
theorem DpAll.len {ds : List D} : ∀ {vs : List V}, DpAll K H vs ds → vs.length = ds.length := by
  induction ds with
  | nil => intro vs h; cases h; rfl
  | cons d ds ih =>
    intro vs h
    cases h with
    | cons h t => rw [List.length_cons, List.length_cons, ih t]
theorem DpAll.get : ∀ {ds : List D} {vs : List V} {i : Nat} {v : V}, DpAll K H vs ds → vs[i]? = some v → ∃ d, ds[i]? = some d ∧ Dp K H v d
  | [], _, i, v, .nil, e => by simp at e
  | c :: ds, _, 0, v, .cons h t, e => by simp at e; subst e; exact ⟨_, rfl, h⟩
  | c :: ds, _, i + 1, v, .cons h t, e => by
    obtain ⟨d, e1, e2⟩ := DpAll.get (i := i) (v := v) t (by simpa using e)
    exact ⟨d, by simpa using e1, e2⟩
theorem DpAll.at : ∀ {ds : List D} {vs : List V} {i : Nat} {d : D}, DpAll K H vs ds → ds[i]? = some d → ∃ v, vs[i]? = some v ∧ Dp K H v d
  | [], _, i, d, _, e => by simp at e
  | c :: ds, _, 0, d, .cons h t, e => by simp at e; subst e; exact ⟨_, rfl, h⟩
  | c :: ds, _, i + 1, d, .cons h t, e => by
    obtain ⟨v, e1, e2⟩ := DpAll.at (i := i) (d := d) t (by simpa using e)
    exact ⟨v, by simpa using e1, e2⟩
theorem DpAll.app {ds es : List D} : ∀ {vs ws : List V}, DpAll K H vs ds → DpAll K H ws es → DpAll K H (vs ++ ws) (ds ++ es) := by
  induction ds with
  | nil => intro vs ws h t; cases h; exact t
  | cons d ds ih =>
    intro vs ws h t
    cases h with
    | cons h h2 => exact .cons h (ih h2 t)
theorem DpAll.set {ds : List D} {u : V} {e : D} (hu : Dp K H u e) : ∀ {vs : List V} (i : Nat), DpAll K H vs ds → DpAll K H (vs.set i u) (ds.set i e) := by
  induction ds with
  | nil => intro vs i h; cases h; exact .nil
  | cons d ds ih =>
    intro vs i h
    cases h with
    | cons h t =>
      cases i with
      | zero => exact .cons hu t
      | succ i => exact .cons h (ih i t)
theorem DpAll.take {ds : List D} : ∀ {vs : List V} (n : Nat), DpAll K H vs ds → DpAll K H (vs.take n) (ds.take n) := by
  induction ds with
  | nil => intro vs n h; cases h; simp; exact .nil
  | cons d ds ih =>
    intro vs n h
    cases h with
    | cons h t =>
      cases n with
      | zero => exact .nil
      | succ n => exact .cons h (ih n t)
theorem Dp.scalI {i : Int} (h : Dp K H v (.int i)) : v = .int i := by cases h; rfl
theorem Dp.scalB {b : Bool} (h : Dp K H v (.bool b)) : v = .bl b := by cases h; rfl
theorem Dp.scalN (h : Dp K H v .none) : v = .non := by cases h; rfl
theorem Dp.scalS {x : Str} (h : Dp K H v (.str x)) : v = .str x := by cases h; rfl
theorem Dp.seq {xs : List D} (h : Dp K H v d) (e : its? d = some xs) : ∃ b a vs, v = .ref a ∧ Sq b K H a vs ∧ DpAll K H vs xs := by
  cases h with
  | lst h a => cases e; exact ⟨true, _, _, rfl, h, a⟩
  | tup h a => cases e; exact ⟨false, _, _, rfl, h, a⟩
  | _ => cases e
theorem Sq.same {b : Bool} {a : Addr} {xs : List V} (e : Same H H') (h : Sq b K H a xs) : Sq b K H' a xs := by
  cases b with
  | true => exact Same.sql e h
  | false => exact Same.sqt e h
theorem Same.new {p : Addr} {o : HO} (h : H p = none) : Same H (upd H p o) := fun b u e => by
  rw [upd_ne (ne_of_none e h)]
  exact e
theorem Same.newR {p : Addr} {o : HO} (s : Same H H') (h : H' p = none) : Same H (upd H' p o) := s.trans (Same.new h)
/-- what was not known may change -/
theorem Same.mut {p : Addr} {o : HO} (s : Same H H') (h : H p = none) : Same H (upd H' p o) := fun b u e => by
  rw [upd_ne (ne_of_none e h)]
  exact s b u e
end

end L2
namespace G4
open PySem PySem.Spec PyProof.Rows L2
/-! ### the type of data, for isinstance -/
def tyD : D → String
  | .none => "NoneType"
  | .bool _ => "bool"
  | .int _ => "int"
  | .str _ => "str"
  | .list _ => "list"
  | .tuple _ => "tuple"
  | .dict _ => "dict"
theorem _root_.L2.Dp.ty {K : PySem.W.Frag} {H : Hp} {v : V} {d : D} (h : Dp K H v d) : TyX K H v (.type (tyD d)) := by
  cases h with
  | non => exact .base .non
  | bl b => exact .base (.bl b)
  | int i => exact .base (.int i)
  | str x => exact .base (.str x)
  | lst h _ =>
    rcases h with (h | ⟨o, h⟩) | ⟨o, its, n, h, c, _⟩
    · exact .base (.lst h)
    · exact .base (.frz h)
    · exact .kList h c
  | tup h _ =>
    rcases h with (h | ⟨o, h⟩) | ⟨o, its, n, h, c, _⟩
    · exact .base (.tup h)
    · exact .fTuple h
    · exact .kTuple h c

/-! ### what an expression is worth -/
section
variable (K : PySem.W.Frag)
/-- a value, exactly -/
def EvV (te : TE) (σ : L2.St) (H : Hp) (v : V) : Prop := ∀ H1, Same H H1 → ∀ Q : VK, (∀ H2, Same H1 H2 → Q v H2) → te σ H1 Q
/-- data -/
def EvD (te : TE) (σ : L2.St) (H : Hp) (d : D) : Prop := ∀ H1, Same H H1 → ∀ Q : VK, (∀ u H2, Same H1 H2 → Dp K H2 u d → Q u H2) → te σ H1 Q
/-- arguments -/
def EvA (ta : TA) (σ : L2.St) (H : Hp) (ds : List D) : Prop := ∀ H1, Same H H1 → ∀ Q : List V → Hp → Prop, (∀ us H2, Same H1 H2 → DpAll K H2 us ds → Q us H2) → ta σ H1 Q
end
/-- a test -/
def EvT (t : TT) (σ : L2.St) (H : Hp) (b : Bool) : Prop := ∀ H1, Same H H1 → ∀ Q : Bool → Hp → Prop, (∀ H2, Same H1 H2 → Q b H2) → t σ H1 Q
section
variable {K : PySem.W.Frag} {σ : L2.St} {H H' : Hp} {te ta tb : TE} {d e : D} {v : V} {t u : TT} {r : R2}
theorem EvV.mono (s : Same H H') (h : EvV te σ H v) : EvV te σ H' v := fun H1 a Q q => h H1 (s.trans a) Q q
theorem EvD.mono (s : Same H H') (h : EvD K te σ H d) : EvD K te σ H' d := fun H1 a Q q => h H1 (s.trans a) Q q
theorem EvA.mono {ts : TA} {ds : List D} (s : Same H H') (h : EvA K ts σ H ds) : EvA K ts σ H' ds := fun H1 a Q q => h H1 (s.trans a) Q q
theorem EvT.mono {b : Bool} (s : Same H H') (h : EvT t σ H b) : EvT t σ H' b := fun H1 a Q q => h H1 (s.trans a) Q q
theorem ev_var {i : Nat} (h : σ[i]? = some (some v) := by rfl) : EvV (tVar i) σ H v := fun H1 _ _ q => ⟨v, h, q H1 (Same.refl H1)⟩
theorem ev_c : EvV (tC v) σ H v := fun H1 _ _ q => q H1 (Same.refl H1)
theorem ed_of (h : EvV te σ H v) (hd : Dp K H v d) : EvD K te σ H d := fun H1 s Q q => h H1 s Q fun H2 s2 => q v H2 s2 (Dp.same (s.trans s2) hd)
theorem ed_var {i : Nat} (hd : Dp K H v d) (h : σ[i]? = some (some v) := by rfl) : EvD K (tVar i) σ H d := ed_of (ev_var h) hd
theorem ed_int {i : Int} : EvD K (tC (.int i)) σ H (.int i) := ed_of ev_c (.int i)
theorem ed_str {x : Str} : EvD K (tC (.str x)) σ H (.str x) := ed_of ev_c (.str x)
theorem ed_bl {b : Bool} : EvD K (tC (.bl b)) σ H (.bool b) := ed_of ev_c (.bl b)
theorem ed_non : EvD K (tC .non) σ H .none := ed_of ev_c .non
theorem ed_I {i : Int} (h : EvV te σ H (.int i)) : EvD K te σ H (.int i) := ed_of h (.int i)
theorem ed_B {b : Bool} (h : EvV te σ H (.bl b)) : EvD K te σ H (.bool b) := ed_of h (.bl b)
theorem ev_I {i : Int} (h : EvD K te σ H (.int i)) : EvV te σ H (.int i) := fun H1 s Q q => h H1 s Q fun u H2 s2 hu => by
  rw [hu.scalI]
  exact q H2 s2
theorem ev_B {b : Bool} (h : EvD K te σ H (.bool b)) : EvV te σ H (.bl b) := fun H1 s Q q => h H1 s Q fun u H2 s2 hu => by
  rw [hu.scalB]
  exact q H2 s2
theorem ev_N (h : EvD K te σ H .none) : EvV te σ H .non := fun H1 s Q q => h H1 s Q fun u H2 s2 hu => by
  rw [hu.scalN]
  exact q H2 s2
/-! arguments, displays -/
theorem ea_nil : EvA K tNil σ H [] := fun H1 _ _ q => q [] H1 (Same.refl H1) .nil
theorem ea_cons {tr : TA} {ds : List D} (h : EvD K te σ H d) (hr : EvA K tr σ H ds) : EvA K (tCons te tr) σ H (d :: ds) := fun H1 s _ q =>
  h H1 s _ fun x H2 s2 hx => hr H2 (s.trans s2) _ fun xs H3 s3 hxs => q _ H3 (s2.trans s3) (.cons (Dp.same s3 hx) hxs)
theorem small_line {n : Nat} (h : n ≤ 1000) : n ≤ sizeLine := Nat.le_trans h (by decide)
theorem ed_tup {ts : TA} {ds : List D} (h : EvA K ts σ H ds) (hl : ds.length ≤ 1000) : EvD K (tTup ts) σ H (.tuple ds) := fun H1 s _ q =>
  h H1 s _ fun xs H2 s2 hxs => ⟨by rw [hxs.len]; exact small_line hl, fun p hp => q _ _ (s2.newR hp) (.tup (SqT.of upd_same) (DpAll.same (Same.new hp) hxs))⟩
theorem ed_lst {ts : TA} {ds : List D} (h : EvA K ts σ H ds) (hl : ds.length ≤ 1000) : EvD K (tLst ts) σ H (.list ds) := fun H1 s _ q =>
  h H1 s _ fun xs H2 s2 hxs => ⟨by rw [hxs.len]; exact small_line hl, fun p hp => q _ _ (s2.newR hp) (.lst (SqL.of upd_same) (DpAll.same (Same.new hp) hxs))⟩
/-! operators -/
theorem ev_op {x y z : V} (ha : EvV ta σ H x) (hb : EvV tb σ H y) (hr : ∀ H1, Same H H1 → ∀ Q : VK, Q z H1 → r x y H1 Q) : EvV (tOp r ta tb) σ H z := fun H1 s Q q =>
  ha H1 s _ fun H2 s2 => hb H2 (s.trans s2) _ fun H3 s3 => hr H3 ((s.trans s2).trans s3) Q (q H3 (s2.trans s3))
theorem ev_opI0 {g : Int → Int → V} {i j : Int} (ha : EvV ta σ H (.int i)) (hb : EvV tb σ H (.int j)) : EvV (tOp (rI0 g) ta tb) σ H (g i j) := ev_op ha hb fun _ _ _ q => ⟨i, j, rfl, rfl, q⟩
theorem ev_opI {C : Int → Int → Prop} {g : Int → Int → V} {i j : Int} (ha : EvV ta σ H (.int i)) (hb : EvV tb σ H (.int j)) (hc : C i j) : EvV (tOp (rI C g) ta tb) σ H (g i j) := ev_op ha hb fun _ _ _ q => ⟨i, j, rfl, rfl, hc, q⟩
theorem ev_neg {i : Int} (ha : EvV ta σ H (.int i)) : EvV (tUn (rU fun i => .int (-i)) ta) σ H (.int (-i)) := fun H1 s Q q => ha H1 s _ fun H2 s2 => ⟨i, rfl, q H2 s2⟩
theorem ev_eqS {x y : V} (ha : EvV ta σ H x) (hb : EvV tb σ H y) (hs : scal x y = true) : EvV (tOp rEq ta tb) σ H (.bl (decide (x = y))) := ev_op ha hb fun _ _ _ q => ⟨hs, q⟩
theorem ev_neS {x y : V} (ha : EvV ta σ H x) (hb : EvV tb σ H y) (hs : scal x y = true) : EvV (tOp rNe ta tb) σ H (.bl (!decide (x = y))) := ev_op ha hb fun _ _ _ q => ⟨hs, q⟩
theorem ev_eqI {i j : Int} (ha : EvV ta σ H (.int i)) (hb : EvV tb σ H (.int j)) : EvV (tOp rEq ta tb) σ H (.bl (decide (i = j))) := by
  have h := ev_eqS ha hb rfl
  have e : decide (V.int i = V.int j) = decide (i = j) := decide_eq_decide.mpr ⟨fun z => V.int.inj z, fun z => by rw [z]⟩
  rw [e] at h
  exact h
theorem ev_neI {i j : Int} (ha : EvV ta σ H (.int i)) (hb : EvV tb σ H (.int j)) : EvV (tOp rNe ta tb) σ H (.bl (!decide (i = j))) := by
  have h := ev_neS ha hb rfl
  have e : decide (V.int i = V.int j) = decide (i = j) := decide_eq_decide.mpr ⟨fun z => V.int.inj z, fun z => by rw [z]⟩
  rw [e] at h
  exact h
theorem ev_isN {x : V} (ha : EvV ta σ H x) : EvV (tOp (fun x y H Q => y = .non ∧ Q (.bl (decide (x = .non))) H) ta (tC .non)) σ H (.bl (decide (x = .non))) := ev_op ha ev_c fun _ _ _ q => ⟨rfl, q⟩
theorem ev_notN {x : V} (ha : EvV ta σ H x) : EvV (tOp (fun x y H Q => y = .non ∧ Q (.bl (!decide (x = .non))) H) ta (tC .non)) σ H (.bl (!decide (x = .non))) := ev_op ha ev_c fun _ _ _ q => ⟨rfl, q⟩
/-- data compared -/
theorem ev_eqD (ha : EvD K ta σ H d) (hb : EvD K tb σ H e) (sd : SeqAt.shaped d = true) (se : SeqAt.shaped e = true) : EvV (tOp (rEqD K) ta tb) σ H (.bl (PyData.eqv d e)) := fun H1 s Q q =>
  ha H1 s _ fun x H2 s2 hx => hb H2 (s.trans s2) _ fun y H3 s3 hy => ⟨d, e, Dp.same s3 hx, hy, sd, se, q H3 (s2.trans s3)⟩
theorem ev_neD (ha : EvD K ta σ H d) (hb : EvD K tb σ H e) (sd : SeqAt.shaped d = true) (se : SeqAt.shaped e = true) : EvV (tOp (rNeD K) ta tb) σ H (.bl (!PyData.eqv d e)) := fun H1 s Q q =>
  ha H1 s _ fun x H2 s2 hx => hb H2 (s.trans s2) _ fun y H3 s3 hy => ⟨d, e, Dp.same s3 hx, hy, sd, se, q H3 (s2.trans s3)⟩
/-- an item of a list or tuple -/
theorem ed_ix {xs : List D} {c : D} {j : Nat} (ha : EvD K ta σ H d) (hx : its? d = some xs) (hb : EvV tb σ H (.int (j : Int))) (hj : xs[j]? = some c) : EvD K (tOp (rIx K) ta tb) σ H c := fun H1 s Q q =>
  ha H1 s _ fun x H2 s2 dx => hb H2 (s.trans s2) _ fun H3 s3 => by
    obtain ⟨b, a, vs, rfl, hs, hall⟩ := dx.seq hx
    obtain ⟨v, hv, dv⟩ := hall.at hj
    have fin := q v H3 (s2.trans s3) (Dp.same s3 dv)
    cases b with
    | true => exact Or.inl ⟨a, vs, _, v, rfl, rfl, Same.sql s3 hs, atI_nat hv, fin⟩
    | false => exact Or.inr (Or.inl ⟨a, vs, _, v, rfl, rfl, Same.sqt s3 hs, atI_nat hv, fin⟩)
/-- len -/
def rLenS (K : PySem.W.Frag) : List V → Hp → VK → Prop := fun xs H Q => ∃ p ys, xs = [.ref p] ∧ (SqL K H p ys ∨ SqT K H p ys) ∧ Q (.int ys.length) H
theorem ev_len {xs : List D} (ha : EvD K ta σ H d) (hx : its? d = some xs) : EvV (tCB (rLenS K) (tCons ta tNil)) σ H (.int (xs.length : Int)) := fun H1 s Q q =>
  ha H1 s _ fun x H2 s2 dx => by
    obtain ⟨b, a, vs, rfl, hs, hall⟩ := dx.seq hx
    refine ⟨a, vs, rfl, ?_, ?_⟩
    · cases b with
      | true => exact Or.inl hs
      | false => exact Or.inr hs
    · rw [hall.len]
      exact q H2 s2
/-- isinstance(x, T) of a built-in T; isinstance(x, (list, tuple)) -/
theorem ev_isi {T : String} {b : Bool} (ha : EvD K ta σ H d) (hk : kitB (tyD d) T = some b) : EvV (tCB (rIsi K) (tCons ta (tCons (tC (.ty T)) tNil))) σ H (.bl b) := fun H1 s Q q =>
  ha H1 s _ fun x H2 s2 dx => ⟨x, .ty T, .type (tyD d), .type T, b, rfl, .ty T, dx.ty, kit_ty hk, q H2 s2⟩
def isSeq (d : D) : Bool := (its? d).isSome
theorem kit_seq (d : D) : PySem.W.kitAny K (.type (tyD d)) [.type "list", .type "tuple"] = some (isSeq d) := by
  cases d with
  | list xs => exact kitAny_cons (b := true) (kit_ty (show kitB "list" "list" = some true by decide +kernel)) (fun z => by cases z) fun _ => rfl
  | tuple xs => exact kitAny_cons (b := false) (kit_ty (show kitB "tuple" "list" = some false by decide +kernel)) (fun _ => kitAny_cons (b := true) (kit_ty (show kitB "tuple" "tuple" = some true by decide +kernel)) (fun z => by cases z) fun _ => rfl) fun z => by cases z
  | none => exact kitAny_cons (b := false) (kit_ty (show kitB "NoneType" "list" = some false by decide +kernel)) (fun _ => kitAny_cons (b := false) (kit_ty (show kitB "NoneType" "tuple" = some false by decide +kernel)) (fun _ => kitAny_nil) fun z => by cases z) fun z => by cases z
  | bool b => exact kitAny_cons (b := false) (kit_ty (show kitB "bool" "list" = some false by decide +kernel)) (fun _ => kitAny_cons (b := false) (kit_ty (show kitB "bool" "tuple" = some false by decide +kernel)) (fun _ => kitAny_nil) fun z => by cases z) fun z => by cases z
  | int i => exact kitAny_cons (b := false) (kit_ty (show kitB "int" "list" = some false by decide +kernel)) (fun _ => kitAny_cons (b := false) (kit_ty (show kitB "int" "tuple" = some false by decide +kernel)) (fun _ => kitAny_nil) fun z => by cases z) fun z => by cases z
  | str x => exact kitAny_cons (b := false) (kit_ty (show kitB "str" "list" = some false by decide +kernel)) (fun _ => kitAny_cons (b := false) (kit_ty (show kitB "str" "tuple" = some false by decide +kernel)) (fun _ => kitAny_nil) fun z => by cases z) fun z => by cases z
  | dict kv => exact kitAny_cons (b := false) (kit_ty (show kitB "dict" "list" = some false by decide +kernel)) (fun _ => kitAny_cons (b := false) (kit_ty (show kitB "dict" "tuple" = some false by decide +kernel)) (fun _ => kitAny_nil) fun z => by cases z) fun z => by cases z
theorem ev_isiS (ha : EvD K ta σ H d) : EvV (tCB (rIsiT K) (tCons ta (tCons (tTup (tCons (tC (.ty "list")) (tCons (tC (.ty "tuple")) tNil))) tNil))) σ H (.bl (isSeq d)) := fun H1 s Q q =>
  ha H1 s _ fun x H2 s2 dx => ⟨by show 2 ≤ sizeLine; decide, fun p hp =>
    ⟨x, p, [.ty "list", .ty "tuple"], .type (tyD d), [.type "list", .type "tuple"], isSeq d, rfl, upd_same, .cons (.ty _) (.cons (.ty _) .nil), (Dp.same (Same.new hp) dx).ty, kit_seq d, q _ (s2.newR hp)⟩⟩
/-! tests -/
theorem et_test {b : Bool} (h : EvV te σ H (.bl b)) : EvT (tTest te) σ H b := fun H1 s _ q => h H1 s _ fun H2 s2 => ⟨b, rfl, q H2 s2⟩
theorem et_B {b : Bool} (h : EvV te σ H (.bl b)) : EvT (tB te) σ H b := fun H1 s _ q => h H1 s _ fun H2 s2 => ⟨b, rfl, q H2 s2⟩
theorem et_not {b : Bool} (h : EvT t σ H b) : EvT (tNot t) σ H (!b) := fun H1 s _ q => h H1 s _ q
theorem et_and {a b : Bool} (h1 : EvT t σ H a) (h2 : a = true → EvT u σ H b) : EvT (tAnd t u) σ H (a && b) := fun H1 s Q q => h1 H1 s _ fun H2 s2 => by
  cases a with
  | true => exact h2 rfl H2 (s.trans s2) Q fun H3 s3 => q H3 (s2.trans s3)
  | false => exact q H2 s2
theorem et_or {a b : Bool} (h1 : EvT t σ H a) (h2 : a = false → EvT u σ H b) : EvT (tOr t u) σ H (a || b) := fun H1 s Q q => h1 H1 s _ fun H2 s2 => by
  cases a with
  | true => exact q H2 s2
  | false => exact h2 rfl H2 (s.trans s2) Q fun H3 s3 => q H3 (s2.trans s3)
theorem et_is {a b : Bool} (h : EvT t σ H a) (e : a = b) : EvT t σ H b := e ▸ h
theorem ev_is {w : V} (h : EvV te σ H v) (e : v = w) : EvV te σ H w := e ▸ h
theorem ed_is (h : EvD K te σ H d) (e : d = e') : EvD K te σ H e' := e ▸ h
theorem ev_andV {a b : Bool} (h1 : EvV ta σ H (.bl a)) (h2 : a = true → EvV tb σ H (.bl b)) : EvV (tAndV ta tb) σ H (.bl (a && b)) := fun H1 s Q q => h1 H1 s _ fun H2 s2 => ⟨a, rfl, by
  cases a with
  | true => exact h2 rfl H2 (s.trans s2) Q fun H3 s3 => q H3 (s2.trans s3)
  | false => exact q H2 s2⟩
theorem ev_orV {a b : Bool} (h1 : EvV ta σ H (.bl a)) (h2 : a = false → EvV tb σ H (.bl b)) : EvV (tOrV ta tb) σ H (.bl (a || b)) := fun H1 s Q q => h1 H1 s _ fun H2 s2 => ⟨a, rfl, by
  cases a with
  | true => exact q H2 s2
  | false => exact h2 rfl H2 (s.trans s2) Q fun H3 s3 => q H3 (s2.trans s3)⟩
theorem ev_notV {a : Bool} (h1 : EvV ta σ H (.bl a)) : EvV (tNotV ta) σ H (.bl (!a)) := fun H1 s _ q => h1 H1 s _ fun H2 s2 => ⟨a, rfl, q H2 s2⟩
theorem ed_if {b : Bool} (h : EvT t σ H b) (h1 : b = true → EvD K ta σ H d) (h2 : b = false → EvD K tb σ H d) : EvD K (tIf t ta tb) σ H d := fun H1 s Q q => h H1 s _ fun H2 s2 => by
  cases b with
  | true => exact h1 rfl H2 (s.trans s2) Q fun u H3 s3 => q u H3 (s2.trans s3)
  | false => exact h2 rfl H2 (s.trans s2) Q fun u H3 s3 => q u H3 (s2.trans s3)
/-- math.gcd -/
theorem ev_gcd {i j : Int} (ha : EvV ta σ H (.int i)) (hb : EvV tb σ H (.int j)) : EvV (tCB rGcd (tCons ta (tCons tb tNil))) σ H (.int ((Nat.gcd i.natAbs j.natAbs : Nat) : Int)) := fun H1 s Q q =>
  ha H1 s _ fun H2 s2 => hb H2 (s.trans s2) _ fun H3 s3 => ⟨i, j, rfl, q H3 (s2.trans s3)⟩
/-- tuple(x), list(x) of a list or tuple -/
def rTupS (K : PySem.W.Frag) : List V → Hp → VK → Prop := fun xs H Q => ∃ p ys, xs = [.ref p] ∧ ((SqL K H p ys ∧ ∀ l, H l = none → Q (.ref l) (upd H l (.tup ys))) ∨ (SqT K H p ys ∧ Q (.ref p) H))
theorem ed_tuple {xs : List D} (ha : EvD K ta σ H d) (hx : its? d = some xs) : EvD K (tCB (rTupS K) (tCons ta tNil)) σ H (.tuple xs) := fun H1 s Q q =>
  ha H1 s _ fun x H2 s2 dx => by
    obtain ⟨b, a, vs, rfl, hs, hall⟩ := dx.seq hx
    refine ⟨a, vs, rfl, ?_⟩
    cases b with
    | true => exact Or.inl ⟨hs, fun l hl => q _ _ (s2.newR hl) (.tup (SqT.of upd_same) (DpAll.same (Same.new hl) hall))⟩
    | false => exact Or.inr ⟨hs, q _ H2 s2 (.tup hs hall)⟩
def rLstS (K : PySem.W.Frag) : List V → Hp → VK → Prop := fun xs H Q => ∃ p ys, xs = [.ref p] ∧ (SqL K H p ys ∨ SqT K H p ys) ∧ ∀ l, H l = none → Q (.ref l) (upd H l (.lst ys))
theorem ed_list {xs : List D} (ha : EvD K ta σ H d) (hx : its? d = some xs) : EvD K (tCB (rLstS K) (tCons ta tNil)) σ H (.list xs) := fun H1 s Q q =>
  ha H1 s _ fun x H2 s2 dx => by
    obtain ⟨b, a, vs, rfl, hs, hall⟩ := dx.seq hx
    refine ⟨a, vs, rfl, ?_, fun l hl => q _ _ (s2.newR hl) (.lst (SqL.of upd_same) (DpAll.same (Same.new hl) hall))⟩
    cases b with
    | true => exact Or.inl hs
    | false => exact Or.inr hs
/-- repr -/
theorem ev_repr (ha : EvD K ta σ H d) (sh : Shows d) : EvV (tCB (rRepr K) (tCons ta tNil)) σ H (.str d.shown) := fun H1 s Q q =>
  ha H1 s _ fun x H2 s2 dx => ⟨x, d, rfl, dx, sh, q H2 s2⟩
end

/-! ### defs told by data -/
section
variable (K : PySem.W.Frag) (cl : Kd → Addr)
def Ret (r : D) (H : Hp) (Q : VK) : Prop := ∀ u H', Same H H' → Dp K H' u r → Q u H'
/-- the error of kind k with e in its field -/
def Bad (k : Kd) (e : D) (H : Hp) (E : XK) : Prop := ∀ u dd H', Same H H' → H dd = none → Dp K H' u e → H' dd = some (.xd [(k.fld, u)]) → E (.ref (cl k)) (some dd) H'
def Gets (o : Out) (H : Hp) (Q : VK) (E : XK) : Prop := match o with
  | .ok r => Ret K r H Q
  | .bad k e => Bad K cl k e H E
  | .no => False
def spF (F : List D → Out) : Sp := fun vs H Q E => ∃ ds, DpAll K H vs ds ∧ Gets K cl (F ds) H Q E
/-- te raises -/
def EvR (W : WX) (te : TE) (σ : L2.St) (H : Hp) (k : Kd) (e : D) : Prop := ∀ H1, Same H H1 → (Bad K cl k e H1 fun c d H' => W c d σ H') → ∀ Q, te σ H1 Q
def EvRA (W : WX) (ta : TA) (σ : L2.St) (H : Hp) (k : Kd) (e : D) : Prop := ∀ H1, Same H H1 → (Bad K cl k e H1 fun c d H' => W c d σ H') → ∀ Q, ta σ H1 Q
end
section
variable {K : PySem.W.Frag} {cl : Kd → Addr} {σ : L2.St} {H H' : Hp} {te ta tb : TE} {d e r : D} {F : List D → Out} {k : Kd} {W : WX} {E : XK} {Q : VK}
theorem Ret.mono (s : Same H H') (h : Ret K r H Q) : Ret K r H' Q := fun u H2 s2 hu => h u H2 (s.trans s2) hu
theorem Bad.mono (s : Same H H') (h : Bad K cl k e H E) : Bad K cl k e H' E := fun u dd H2 s2 n hu hd => h u dd H2 (s.trans s2) (s.free n) hu hd
theorem Gets.mono {o : Out} (s : Same H H') (h : Gets K cl o H Q E) : Gets K cl o H' Q E := by
  cases o with
  | ok r => exact Ret.mono s h
  | bad k e => exact Bad.mono s h
  | no => exact h
theorem spF_len {n : Nat} (h : ∀ ds, F ds ≠ .no → ds.length = n) : ∀ vs H Q E, spF K cl F vs H Q E → vs.length = n := by
  rintro vs H Q E ⟨ds, hd, g⟩
  rw [hd.len]
  refine h ds fun z => ?_
  rw [z] at g
  exact g
/-- a call that answers -/
theorem ed_call {dvs : List V} {ts : TA} {ds dds : List D} (h : EvA K ts σ H ds) (hd : DpAll K H dvs dds) (hF : F (ds ++ dds) = .ok r) : EvD K (tCall (spF K cl F) dvs E ts) σ H r := fun H1 s Q q =>
  h H1 s _ fun xs H2 s2 hxs => ⟨ds ++ dds, hxs.app (DpAll.same (s.trans s2) hd), by rw [hF]; exact fun u H3 s3 hu => q u H3 (s2.trans s3) hu⟩
theorem ed_call0 {ts : TA} {ds : List D} (h : EvA K ts σ H ds) (hF : F ds = .ok r) : EvD K (tCall (spF K cl F) [] E ts) σ H r := ed_call h .nil (by rw [List.append_nil]; exact hF)
theorem ed_callS {Es : L2.St → XK} {ts : TA} {ds : List D} (h : EvA K ts σ H ds) (hF : F ds = .ok r) : EvD K (tCallS (spF K cl F) Es ts) σ H r := fun H1 s Q q =>
  h H1 s _ fun xs H2 s2 hxs => ⟨ds, hxs, by rw [hF]; exact fun u H3 s3 hu => q u H3 (s2.trans s3) hu⟩
/-- a call that raises -/
theorem er_callS {ts : TA} {ds : List D} (h : EvA K ts σ H ds) (hF : F ds = .bad k e) : EvR K cl W (tCallS (spF K cl F) (WE W) ts) σ H k e := fun H1 s b Q =>
  h H1 s _ fun xs H2 s2 hxs => ⟨ds, hxs, by rw [hF]; exact fun u dd H3 s3 n hu hd => b u dd H3 (s2.trans s3) (s2.free n) hu hd⟩
theorem er_callA {sp : Sp} {Es : L2.St → XK} {ts : TA} (h : EvRA K cl W ts σ H k e) : EvR K cl W (tCallS sp Es ts) σ H k e := fun H1 s b Q => h H1 s b _
theorem er_opL {r : R2} (h : EvR K cl W ta σ H k e) : EvR K cl W (tOp r ta tb) σ H k e := fun H1 s b Q => h H1 s b _
theorem er_opR {r : R2} (ha : EvD K ta σ H d) (h : EvR K cl W tb σ H k e) : EvR K cl W (tOp r ta tb) σ H k e := fun H1 s b Q =>
  ha H1 s _ fun x H2 s2 _ => h H2 (s.trans s2) (Bad.mono s2 b) _
theorem er_opRV {r : R2} {x : V} (ha : EvV ta σ H x) (h : EvR K cl W tb σ H k e) : EvR K cl W (tOp r ta tb) σ H k e := fun H1 s b Q =>
  ha H1 s _ fun H2 s2 => h H2 (s.trans s2) (Bad.mono s2 b) _
theorem er_head {tr : TA} (h : EvR K cl W te σ H k e) : EvRA K cl W (tCons te tr) σ H k e := fun H1 s b Q => h H1 s b _
theorem er_tail {tr : TA} (ha : EvD K te σ H d) (h : EvRA K cl W tr σ H k e) : EvRA K cl W (tCons te tr) σ H k e := fun H1 s b Q =>
  ha H1 s _ fun x H2 s2 _ => h H2 (s.trans s2) (Bad.mono s2 b) _
theorem er_cb {r : List V → Hp → VK → Prop} {ts : TA} (h : EvRA K cl W ts σ H k e) : EvR K cl W (tCB r ts) σ H k e := fun H1 s b Q => h H1 s b _
end
/-! ### statements -/
section
variable {K : PySem.W.Frag} {cl : Kd → Addr} {σ : L2.St} {H : Hp} {te ta tb : TE} {d e : D} {v : V} {k : Kd} {W : WX} {D' : Ends} {t : TT} {tu tw tz : TS} {i : Nat}
theorem s_ret (h : EvD K te σ H d) (q : Ret K d H D'.rt) : tRet te D' σ H := h H (Same.refl H) _ q
theorem s_retR (h : EvR K cl W te σ H k e) (b : Bad K cl k e H fun c dd H' => W c dd σ H') : tRet te D' σ H := h H (Same.refl H) b _
theorem s_retV (h : EvV te σ H v) (q : ∀ H1, Same H H1 → D'.rt v H1) : tRet te D' σ H := h H (Same.refl H) _ q
theorem s_asg (h : EvD K te σ H d) (q : ∀ u H1, Same H H1 → Dp K H1 u d → D'.nx (σ.set i (some u)) H1) : tAsg te (gName i) D' σ H := h H (Same.refl H) _ q
theorem q_asg (h : EvD K te σ H d) (q : ∀ u H1, Same H H1 → Dp K H1 u d → tz D' (σ.set i (some u)) H1) : tSeq (tAsg te (gName i)) tz D' σ H := h H (Same.refl H) _ q
theorem s_asgV (h : EvV te σ H v) (q : ∀ H1, Same H H1 → D'.nx (σ.set i (some v)) H1) : tAsg te (gName i) D' σ H := h H (Same.refl H) _ q
theorem q_asgV (h : EvV te σ H v) (q : ∀ H1, Same H H1 → tz D' (σ.set i (some v)) H1) : tSeq (tAsg te (gName i)) tz D' σ H := h H (Same.refl H) _ q
theorem q_asgR (h : EvR K cl W te σ H k e) (b : Bad K cl k e H fun c dd H' => W c dd σ H') : tSeq (tAsg te (gName i)) tz D' σ H := h H (Same.refl H) b _
theorem q_asgRg {g : TG} (h : EvR K cl W te σ H k e) (b : Bad K cl k e H fun c dd H' => W c dd σ H') : tSeq (tAsg te g) tz D' σ H := h H (Same.refl H) b _
/-- a, b = e -/
theorem q_asg2 {j : Nat} {x y : D} (h : EvD K te σ H d) (hx : d = .tuple [x, y]) (q : ∀ u w H1, Same H H1 → Dp K H1 u x → Dp K H1 w y → tz D' ((σ.set i (some u)).set j (some w)) H1) :
    tSeq (tAsg te (gTup K 2 (gCons (gName i) (gCons (gName j) gNil)))) tz D' σ H := h H (Same.refl H) _ fun z H1 s hz => by
  subst hx
  cases hz with
  | @tup a xs _ hs ha =>
    cases ha with
    | cons h1 h2 =>
      cases h2 with
      | cons h2 h3 =>
        cases h3
        exact ⟨a, _, rfl, hs, rfl, _, _, rfl, _, _, rfl, rfl, q _ _ H1 s h1 h2⟩
theorem s_if {b : Bool} (h : EvT t σ H b) (h1 : b = true → ∀ H1, Same H H1 → tu D' σ H1) (h2 : b = false → ∀ H1, Same H H1 → tw D' σ H1) : tIfS t tu tw D' σ H := h H (Same.refl H) _ fun H1 s => by
  cases b with
  | true => exact h1 rfl H1 s
  | false => exact h2 rfl H1 s
/-- an if without else, something behind -/
theorem q_when {b : Bool} (h : EvT t σ H b) (h1 : b = true → ∀ H1, Same H H1 → tu { D' with nx := tz D' } σ H1) (h2 : b = false → ∀ H1, Same H H1 → tz D' σ H1) : tSeq (tIfS t tu tNext) tz D' σ H :=
  s_if (D' := { D' with nx := tz D' }) (tw := tNext) h h1 h2
theorem q_drop (h : EvV te σ H v) (q : ∀ H1, Same H H1 → tz D' σ H1) : tSeq (tDrop te) tz D' σ H := h H (Same.refl H) _ q
theorem q_dropD (h : EvD K te σ H d) (q : ∀ H1, Same H H1 → tz D' σ H1) : tSeq (tDrop te) tz D' σ H := h H (Same.refl H) _ fun _ H1 s _ => q H1 s
theorem q_dropR (h : EvR K cl W te σ H k e) (b : Bad K cl k e H fun c dd H' => W c dd σ H') : tSeq (tDrop te) tz D' σ H := h H (Same.refl H) b _
/-- raise C(e) -/
def tRaise (C : Addr) (f : Str) (W : WX) (te : TE) : TS := fun _ σ H => tErr C f te σ H fun cls d H' => W cls d σ H'
theorem s_raise (h : EvD K te σ H d) (b : Bad K cl k d H fun c dd H' => W c dd σ H') : tRaise (cl k) k.fld W te D' σ H := h H (Same.refl H) _ fun u H1 s hu => fun dd hdd =>
  b u dd _ (s.newR hdd) (s.free hdd) (Dp.same (Same.new hdd) hu) upd_same
end
end G4
/-! T1: the text by places; what the top has left of each def and error class. -/
namespace G4
open PySem PySem.Spec PyProof.Rows L2
def top (i : Nat) : Stmt := PySem.Challenge.pw_tautparcel_k04_whole_slopes_and_directio.main.body.getD i (.Pass ⟨0, 0, 0, 0⟩)
abbrev sWhole : Stmt := top 7
abbrev nWhole : List Str := ["thing", "low", "high"]
abbrev pWhole : List Str := ["thing", "low", "high"]
theorem scWhole : FnScope nWhole pWhole (defScope sWhole) := ⟨rfl, rfl, rfl, by decide +kernel, rfl, by decide +kernel, by decide +kernel⟩
abbrev sCFace : Stmt := top 10
abbrev nCFace : List Str := ["face"]
abbrev pCFace : List Str := ["face"]
theorem scCFace : FnScope nCFace pCFace (defScope sCFace) := ⟨rfl, rfl, rfl, by decide +kernel, rfl, by decide +kernel, by decide +kernel⟩
abbrev sAxes : Stmt := top 11
abbrev nAxes : List Str := ["face"]
abbrev pAxes : List Str := ["face"]
theorem scAxes : FnScope nAxes pAxes (defScope sAxes) := ⟨rfl, rfl, rfl, by decide +kernel, rfl, by decide +kernel, by decide +kernel⟩
abbrev sFramed : Stmt := top 13
abbrev nFramed : List Str := ["face", "triple", "axes"]
abbrev pFramed : List Str := ["face", "triple"]
theorem scFramed : FnScope nFramed pFramed (defScope sFramed) := ⟨rfl, rfl, rfl, by decide +kernel, rfl, by decide +kernel, by decide +kernel⟩
abbrev sCSlope : Stmt := top 17
abbrev nCSlope : List Str := ["slope", "band"]
abbrev pCSlope : List Str := ["slope", "band"]
theorem scCSlope : FnScope nCSlope pCSlope (defScope sCSlope) := ⟨rfl, rfl, rfl, by decide +kernel, rfl, by decide +kernel, by decide +kernel⟩
abbrev sMirror : Stmt := top 18
abbrev nMirror : List Str := ["slope", "p", "q"]
abbrev pMirror : List Str := ["slope"]
theorem scMirror : FnScope nMirror pMirror (defScope sMirror) := ⟨rfl, rfl, rfl, by decide +kernel, rfl, by decide +kernel, by decide +kernel⟩
abbrev sCDir : Stmt := top 19
abbrev nCDir : List Str := ["face", "direction", "step", "first", "second"]
abbrev pCDir : List Str := ["face", "direction"]
theorem scCDir : FnScope nCDir pCDir (defScope sCDir) := ⟨rfl, rfl, rfl, by decide +kernel, rfl, by decide +kernel, by decide +kernel⟩
abbrev sUnfr : Stmt := top 20
abbrev nUnfr : List Str := ["face", "first", "second", "axes", "triple"]
abbrev pUnfr : List Str := ["face", "first", "second"]
theorem scUnfr : FnScope nUnfr pUnfr (defScope sUnfr) := ⟨rfl, rfl, rfl, by decide +kernel, rfl, by decide +kernel, by decide +kernel⟩
abbrev sDirsOn : Stmt := top 21
abbrev nDirsOn : List Str := ["face", "slope", "p", "q", "a", "b"]
abbrev pDirsOn : List Str := ["face", "slope"]
theorem scDirsOn : FnScope nDirsOn pDirsOn (defScope sDirsOn) := ⟨rfl, rfl, rfl, by decide +kernel, rfl, by decide +kernel, by decide +kernel⟩
abbrev sSlopeOf : Stmt := top 22
abbrev nSlopeOf : List Str := ["face", "direction", "first", "second", "turn"]
abbrev pSlopeOf : List Str := ["face", "direction"]
theorem scSlopeOf : FnScope nSlopeOf pSlopeOf (defScope sSlopeOf) := ⟨rfl, rfl, rfl, by decide +kernel, rfl, by decide +kernel, by decide +kernel⟩
abbrev sLeftOf : Stmt := top 23
abbrev nLeftOf : List Str := ["face", "direction", "first", "second"]
abbrev pLeftOf : List Str := ["face", "direction"]
theorem scLeftOf : FnScope nLeftOf pLeftOf (defScope sLeftOf) := ⟨rfl, rfl, rfl, by decide +kernel, rfl, by decide +kernel, by decide +kernel⟩
abbrev sBackOf : Stmt := top 24
abbrev nBackOf : List Str := ["face", "direction", "step"]
abbrev pBackOf : List Str := ["face", "direction"]
theorem scBackOf : FnScope nBackOf pBackOf (defScope sBackOf) := ⟨rfl, rfl, rfl, by decide +kernel, rfl, by decide +kernel, by decide +kernel⟩
abbrev sOutStep : Stmt := top 25
abbrev nOutStep : List Str := ["beside", "direction", "step"]
abbrev pOutStep : List Str := ["beside", "direction"]
theorem scOutStep : FnScope nOutStep pOutStep (defScope sOutStep) := ⟨rfl, rfl, rfl, by decide +kernel, rfl, by decide +kernel, by decide +kernel⟩
abbrev sHand : Stmt := top 27
abbrev nHand : List Str := ["_law_script", "_law_total", "_law_cells", "_law_cell"]
abbrev pHand : List Str := ["_law_script"]
theorem scHand : FnScope nHand pHand (defScope sHand) := ⟨rfl, rfl, rfl, by decide +kernel, rfl, by decide +kernel, by decide +kernel⟩
abbrev sMixed : Stmt := top 28
abbrev nMixed : List Str := ["_law_number", "_law_turn", "_law_once", "_law_twice"]
abbrev pMixed : List Str := ["_law_number", "_law_turn"]
theorem scMixed : FnScope nMixed pMixed (defScope sMixed) := ⟨rfl, rfl, rfl, by decide +kernel, rfl, by decide +kernel, by decide +kernel⟩
abbrev sTake : Stmt := top 29
abbrev nTake : List Str := ["_law_hand_here", "_law_many", "_law_cell", "_law_rest"]
abbrev pTake : List Str := ["_law_hand_here", "_law_many"]
theorem scTake : FnScope nTake pTake (defScope sTake) := ⟨rfl, rfl, rfl, by decide +kernel, rfl, by decide +kernel, by decide +kernel⟩
abbrev sCommon : Stmt := top 30
abbrev nCommon : List Str := ["_law_one", "_law_other"]
abbrev pCommon : List Str := ["_law_one", "_law_other"]
theorem scCommon : FnScope nCommon pCommon (defScope sCommon) := ⟨rfl, rfl, rfl, by decide +kernel, rfl, by decide +kernel, by decide +kernel⟩
abbrev sLAxes : Stmt := top 31
abbrev nLAxes : List Str := ["_law_face"]
abbrev pLAxes : List Str := ["_law_face"]
theorem scLAxes : FnScope nLAxes pLAxes (defScope sLAxes) := ⟨rfl, rfl, rfl, by decide +kernel, rfl, by decide +kernel, by decide +kernel⟩
abbrev sSteps : Stmt := top 32
abbrev nSteps : List Str := ["_law_face", "_law_first", "_law_second", "_law_axes_here", "_law_out_here"]
abbrev pSteps : List Str := ["_law_face", "_law_first", "_law_second"]
theorem scSteps : FnScope nSteps pSteps (defScope sSteps) := ⟨rfl, rfl, rfl, by decide +kernel, rfl, by decide +kernel, by decide +kernel⟩
abbrev sFour : Stmt := top 33
abbrev nFour : List Str := ["_law_face", "_law_slope", "_law_p", "_law_q"]
abbrev pFour : List Str := ["_law_face", "_law_slope"]
theorem scFour : FnScope nFour pFour (defScope sFour) := ⟨rfl, rfl, rfl, by decide +kernel, rfl, by decide +kernel, by decide +kernel⟩
abbrev sLOut : Stmt := top 34
abbrev nLOut : List Str := ["_law_beside", "_law_steps_here"]
abbrev pLOut : List Str := ["_law_beside", "_law_steps_here"]
theorem scLOut : FnScope nLOut pLOut (defScope sLOut) := ⟨rfl, rfl, rfl, by decide +kernel, rfl, by decide +kernel, by decide +kernel⟩
abbrev sTuples : Stmt := top 35
abbrev nTuples : List Str := ["_law_thing", "_law_item"]
abbrev pTuples : List Str := ["_law_thing"]
theorem scTuples : FnScope nTuples pTuples (defScope sTuples) := ⟨rfl, rfl, rfl, by decide +kernel, rfl, by decide +kernel, by decide +kernel⟩
abbrev sOdd : Stmt := top 36
abbrev nOdd : List Str := ["_law_hand_here", "_law_high"]
abbrev pOdd : List Str := ["_law_hand_here", "_law_high"]
theorem scOdd : FnScope nOdd pOdd (defScope sOdd) := ⟨rfl, rfl, rfl, by decide +kernel, rfl, by decide +kernel, by decide +kernel⟩
abbrev sRid : Stmt := top 37
abbrev nRid : List Str := ["_law_hand_here"]
abbrev pRid : List Str := ["_law_hand_here"]
theorem scRid : FnScope nRid pRid (defScope sRid) := ⟨rfl, rfl, rfl, by decide +kernel, rfl, by decide +kernel, by decide +kernel⟩
abbrev sLWhole : Stmt := top 38
abbrev nLWhole : List Str := ["_law_thing", "_law_low", "_law_high"]
abbrev pLWhole : List Str := ["_law_thing", "_law_low", "_law_high"]
theorem scLWhole : FnScope nLWhole pLWhole (defScope sLWhole) := ⟨rfl, rfl, rfl, by decide +kernel, rfl, by decide +kernel, by decide +kernel⟩
abbrev sShaped : Stmt := top 39
abbrev nShaped : List Str := ["_law_hand_here", "_law_items"]
abbrev pShaped : List Str := ["_law_hand_here", "_law_items"]
theorem scShaped : FnScope nShaped pShaped (defScope sShaped) := ⟨rfl, rfl, rfl, by decide +kernel, rfl, by decide +kernel, by decide +kernel⟩
abbrev sPlain : Stmt := top 40
abbrev nPlain : List Str := ["_law_thing", "_law_item"]
abbrev pPlain : List Str := ["_law_thing"]
theorem scPlain : FnScope nPlain pPlain (defScope sPlain) := ⟨rfl, rfl, rfl, by decide +kernel, rfl, by decide +kernel, by decide +kernel⟩
abbrev sLike : Stmt := top 41
abbrev nLike : List Str := ["_law_one", "_law_other"]
abbrev pLike : List Str := ["_law_one", "_law_other"]
theorem scLike : FnScope nLike pLike (defScope sLike) := ⟨rfl, rfl, rfl, by decide +kernel, rfl, by decide +kernel, by decide +kernel⟩
abbrev sSlopeL : Stmt := top 42
abbrev nSlopeL : List Str := ["_law_slope", "_law_band", "_law_found", "raised"]
abbrev pSlopeL : List Str := ["_law_slope", "_law_band"]
theorem scSlopeL : FnScope nSlopeL pSlopeL (defScope sSlopeL) := ⟨rfl, rfl, rfl, by decide +kernel, rfl, by decide +kernel, by decide +kernel⟩
abbrev sMirrorL : Stmt := top 43
abbrev nMirrorL : List Str := ["_law_slope", "_law_found", "raised"]
abbrev pMirrorL : List Str := ["_law_slope"]
theorem scMirrorL : FnScope nMirrorL pMirrorL (defScope sMirrorL) := ⟨rfl, rfl, rfl, by decide +kernel, rfl, by decide +kernel, by decide +kernel⟩
abbrev sDeed : Stmt := top 44
abbrev nDeed : List Str := ["_law_deed_here", "_law_face", "_law_thing", "_law_found", "raised"]
abbrev pDeed : List Str := ["_law_deed_here", "_law_face", "_law_thing"]
theorem scDeed : FnScope nDeed pDeed (defScope sDeed) := ⟨rfl, rfl, rfl, by decide +kernel, rfl, by decide +kernel, by decide +kernel⟩
abbrev sIsSlope : Stmt := top 45
abbrev nIsSlope : List Str := ["_law_slope", "_law_band"]
abbrev pIsSlope : List Str := ["_law_slope", "_law_band"]
theorem scIsSlope : FnScope nIsSlope pIsSlope (defScope sIsSlope) := ⟨rfl, rfl, rfl, by decide +kernel, rfl, by decide +kernel, by decide +kernel⟩
abbrev sSlopes : Stmt := top 46
abbrev nSlopes : List Str := ["_law_hand_here", "_law_first", "_law_second", "_law_odd_here", "_law_shaped_here", "_law_slope", "_law_band", "_law_due", "_law_face", "_law_told", "raised"]
abbrev pSlopes : List Str := ["_law_hand_here"]
theorem scSlopes : FnScope nSlopes pSlopes (defScope sSlopes) := ⟨rfl, rfl, rfl, by decide +kernel, rfl, by decide +kernel, by decide +kernel⟩
abbrev sWord : Stmt := top 47
abbrev nWord : List Str := ["_law_face", "_law_steps_here", "_law_axes_here", "_law_step"]
abbrev pWord : List Str := ["_law_face", "_law_steps_here"]
theorem scWord : FnScope nWord pWord (defScope sWord) := ⟨rfl, rfl, rfl, by decide +kernel, rfl, by decide +kernel, by decide +kernel⟩
abbrev sDrawn : Stmt := top 48
abbrev nDrawn : List Str := ["_law_hand_here", "_law_face", "_law_most", "_law_first", "_law_second", "_law_common_here", "_law_size"]
abbrev pDrawn : List Str := ["_law_hand_here", "_law_face"]
theorem scDrawn : FnScope nDrawn pDrawn (defScope sDrawn) := ⟨rfl, rfl, rfl, by decide +kernel, rfl, by decide +kernel, by decide +kernel⟩
abbrev sSpoilt : Stmt := top 49
abbrev nSpoilt : List Str := ["_law_hand_here", "_law_face", "_law_steps_here", "_law_out_here", "_law_kind", "_law_step"]
abbrev pSpoilt : List Str := ["_law_hand_here", "_law_face", "_law_steps_here"]
theorem scSpoilt : FnScope nSpoilt pSpoilt (defScope sSpoilt) := ⟨rfl, rfl, rfl, by decide +kernel, rfl, by decide +kernel, by decide +kernel⟩
abbrev sFaceless : Stmt := top 50
abbrev nFaceless : List Str := ["_law_hand_here", "_law_odd_here", "_law_found", "raised"]
abbrev pFaceless : List Str := ["_law_hand_here"]
theorem scFaceless : FnScope nFaceless pFaceless (defScope sFaceless) := ⟨rfl, rfl, rfl, by decide +kernel, rfl, by decide +kernel, by decide +kernel⟩
abbrev sLaw : Stmt := top 51
abbrev nLaw : List Str := ["_law_script", "_law_hand_here", "_law_face", "_law_steps_here", "_law_axes_here", "_law_first", "_law_second", "_law_turns", "_law_due", "_law_beside", "_law_other", "_law_word_here", "_law_deed_here", "_law_found", "_law_step", "_law_turn"]
abbrev pLaw : List Str := ["_law_script"]
theorem scLaw : FnScope nLaw pLaw (defScope sLaw) := ⟨rfl, rfl, rfl, by decide +kernel, rfl, by decide +kernel, by decide +kernel⟩
abbrev sInitFace : Stmt := inClass (top 3) 0
theorem scInitFace : FnScope ["self", "face"] ["self", "face"] (defScope sInitFace) := ⟨rfl, rfl, rfl, by decide +kernel, rfl, by decide +kernel, by decide +kernel⟩
abbrev sInitSlope : Stmt := inClass (top 4) 0
theorem scInitSlope : FnScope ["self", "slope"] ["self", "slope"] (defScope sInitSlope) := ⟨rfl, rfl, rfl, by decide +kernel, rfl, by decide +kernel, by decide +kernel⟩
abbrev sInitDirn : Stmt := inClass (top 5) 0
theorem scInitDirn : FnScope ["self", "what"] ["self", "what"] (defScope sInitDirn) := ⟨rfl, rfl, rfl, by decide +kernel, rfl, by decide +kernel, by decide +kernel⟩
/-! ### what stands behind the top -/
/-- the def x of the top, as the statement st has it, dvs its defaults -/
def At (K : PySem.W.Frag) (mg : Str → Option Value) (x : Str) (st : Stmt) (dvs : List V) : Prop :=
  ∃ f fd, FunD K x x (defArgs st) (defBody st) (defScope st) dvs [] f fd ∧ mg x = some (.ref f)
/-- an error class with one field -/
structure Err (K : PySem.W.Frag) (mg : Str → Option Value) (C : Addr) (x q f : Str) (st : Stmt) : Prop where
  gC : mg x = some (.ref C)
  oex : OexC K C
  ini : ∃ fI fd, PySem.W.findIn K (.ref C) "__init__" = some (some (.ref fI)) ∧ PySem.W.typeIn K (.ref fI) = some (.type "function") ∧ FunD K "__init__" q (defArgs st) (defBody st) (defScope st) [] [] fI fd
  no : PySem.W.findIn K (.ref C) f = some none
  xf : XfC K C
/-- what is known of the module -/
structure Mo (K : PySem.W.Frag) (mg : Str → Option Value) (cl : Kd → Addr) (pe : Addr) : Prop where
  eF : Err K mg (cl .face) "BadFace" "BadFace.__init__" "face" sInitFace
  eS : Err K mg (cl .slope) "BadSlope" "BadSlope.__init__" "slope" sInitSlope
  eD : Err K mg (cl .dirn) "BadDirection" "BadDirection.__init__" "what" sInitDirn
  gP : mg "ParcelError" = some (.ref pe)
  exm : ∀ k k', PySem.W.exmOne K (.ref (cl k)) (.ref (cl k')) = some (decide (k = k'))
  exP : ∀ k, PySem.W.exmOne K (.ref (cl k)) (.ref pe) = some true
  gcd : mg "gcd" = some (.builtin "math.gcd")
  frames : ∃ a, mg "FRAMES" = some (.ref a) ∧ ∀ H, Dp K H (.ref a) (.tuple [.tuple [.int 2, .int 1], .tuple [.int 1, .int 2], .tuple [.int 0, .int 2], .tuple [.int 2, .int 0], .tuple [.int 1, .int 0], .tuple [.int 0, .int 1]])
  mSlope : ∃ t, mg "MOST_SLOPE" = some (.int 9 t)
  mStep : ∃ t, mg "MOST_STEP" = some (.int 10000 t)
  free : ∀ x ∈ (["isinstance", "bool", "int", "list", "tuple", "len", "sorted", "range", "abs", "max", "repr"] : List Str), mg x = none
  aWhole : At K mg "is_whole" sWhole [.non, .non]
  aCFace : At K mg "check_face" sCFace []
  aAxes : At K mg "face_axes" sAxes []
  aFramed : At K mg "framed" sFramed []
  aCSlope : At K mg "check_slope" sCSlope [.bl false]
  aMirror : At K mg "mirrored_slope" sMirror []
  aCDir : At K mg "check_direction" sCDir []
  aUnfr : At K mg "unframed" sUnfr []
  aDirsOn : At K mg "directions_on" sDirsOn []
  aSlopeOf : At K mg "slope_of" sSlopeOf []
  aLeftOf : At K mg "left_of" sLeftOf []
  aBackOf : At K mg "back_of" sBackOf []
  aOutStep : At K mg "outward_step" sOutStep []
  aHand : At K mg "_law_hand" sHand []
  aMixed : At K mg "_law_mixed" sMixed []
  aTake : At K mg "_law_take" sTake []
  aCommon : At K mg "_law_common" sCommon []
  aLAxes : At K mg "_law_axes" sLAxes []
  aSteps : At K mg "_law_steps" sSteps []
  aFour : At K mg "_law_four" sFour []
  aLOut : At K mg "_law_out" sLOut []
  aTuples : At K mg "_law_tuples" sTuples []
  aOdd : At K mg "_law_odd" sOdd []
  aRid : At K mg "_law_rid" sRid []
  aLWhole : At K mg "_law_whole" sLWhole []
  aShaped : At K mg "_law_shaped" sShaped []
  aPlain : At K mg "_law_plain" sPlain []
  aLike : At K mg "_law_like" sLike []
  aSlopeL : At K mg "_law_slope_of" sSlopeL []
  aMirrorL : At K mg "_law_mirror" sMirrorL []
  aDeed : At K mg "_law_deed" sDeed []
  aIsSlope : At K mg "_law_is_slope" sIsSlope []
  aSlopes : At K mg "_law_slopes" sSlopes []
  aWord : At K mg "_law_word" sWord []
  aDrawn : At K mg "_law_drawn" sDrawn []
  aSpoilt : At K mg "_law_spoilt" sSpoilt []
  aFaceless : At K mg "_law_faceless" sFaceless []
  aLaw : At K mg "law" sLaw []
/-- a def that keeps its promise, found by its name; dvs: the defaults that a call leaves out -/
def Kept (P : Program) (w : World) (K : PySem.W.Frag) (mg : Str → Option Value) (base : Heap) (k : Nat) (x : Str) (sp : Sp) (dvs : List V) : Prop :=
  ∃ f fd ps ds, FnOk P w K mg base (L2N.CX P w) k f fd ps sp ∧ mg x = some (.ref f) ∧ PySem.W.keepIn K (.ref f) = true ∧ Binds K fd ps ds ∧ Vals dvs ds
section
variable {X : Cx} {k j : Nat} {x : Str} {sp : Sp} {dvs : List V} {E : L2.St → XK} {p pos : Pos} {e : Expr} {es : List Expr} {t : TA}
theorem pass0N (σ : L2.St) : PassesAt (L2N.CX X.prog X.w) X σ E0 := fun _ _ _ _ _ _ c => by
  obtain ⟨_, _, _, _, _, _, _, _, _, _, _, _, z⟩ := c
  exact z.elim
theorem takes0N : L2N.Takes X (fun _ _ _ _ => False) := fun _ _ x => by
  obtain ⟨_, _, _, _, _, _, _, _, _, _, _, _, _, _, _, _, z⟩ := x
  exact z.elim
/-- f(e, ..) -/
theorem pe_k (F : Kept X.prog X.w X.K X.mg X.base j x sp dvs) (hr : Room k X.A) (hj : j ≤ k) (hx : ∀ σ, PassesAt (L2N.CX X.prog X.w) X σ (E σ)) (ha : PA X (e :: es) t) (hg : Gl X x := by rfl)
    (hdb : (x == ("__debug__" : Str)) = false := by decide) (he : starEach (e :: es) X.env = (false, eval e X.env) :: starEach es X.env := by rfl) (hpl : (backTo pos (starEach es X.env)).any (·.1) = false := by rfl) :
    PE X (.Call (.Name x p) (e :: es) [] pos) (tCallSD sp dvs E t) := by
  obtain ⟨f, fd, ps, ds, fn, at_x, keeps, binds, vals⟩ := F
  exact pe_callSD fn (hr.mono hj) hg at_x keeps binds vals hx ha hdb he hpl
end
section
variable {K : PySem.W.Frag} {cl : Kd → Addr} {σ : L2.St} {H : Hp} {te : TE} {d e r : D} {F : List D → Out} {k : Kd} {W : WX} {E : L2.St → XK}
theorem ed_k {dvs : List V} {ts : TA} {ds dds : List D} (h : EvA K ts σ H ds) (hd : DpAll K H dvs dds) (hF : F (ds ++ dds) = .ok r) : EvD K (tCallSD (spF K cl F) dvs E ts) σ H r := fun H1 s Q q =>
  h H1 s _ fun xs H2 s2 hxs => ⟨ds ++ dds, hxs.app (DpAll.same (s.trans s2) hd), by rw [hF]; exact fun u H3 s3 hu => q u H3 (s2.trans s3) hu⟩
theorem ed_k0 {ts : TA} {ds : List D} (h : EvA K ts σ H ds) (hF : F ds = .ok r) : EvD K (tCallSD (spF K cl F) [] E ts) σ H r := ed_k h .nil (by rw [List.append_nil]; exact hF)
theorem er_k {dvs : List V} {ts : TA} {ds dds : List D} (h : EvA K ts σ H ds) (hd : DpAll K H dvs dds) (hF : F (ds ++ dds) = .bad k e) : EvR K cl W (tCallSD (spF K cl F) dvs (WE W) ts) σ H k e := fun H1 s b Q =>
  h H1 s _ fun xs H2 s2 hxs => ⟨ds ++ dds, hxs.app (DpAll.same (s.trans s2) hd), by rw [hF]; exact fun u dd H3 s3 n hu hdd => b u dd H3 (s2.trans s3) (s2.free n) hu hdd⟩
theorem er_k0 {ts : TA} {ds : List D} (h : EvA K ts σ H ds) (hF : F ds = .bad k e) : EvR K cl W (tCallSD (spF K cl F) [] (WE W) ts) σ H k e := er_k h .nil (by rw [List.append_nil]; exact hF)
theorem er_kA {sp : Sp} {dvs : List V} {Es : L2.St → XK} {ts : TA} (h : EvRA K cl W ts σ H k e) : EvR K cl W (tCallSD sp dvs Es ts) σ H k e := fun H1 s b Q => h H1 s b _
end
/-- from a def of the top: all parameters are given -/
theorem kept_all {P : Program} {w : World} {K : PySem.W.Frag} {mg : Str → Option Value} {base : Heap} {k : Nat} {x : Str} {sp : Sp} {st : Stmt} {ps : List Str} (a : At K mg x st [])
    (F : ∀ f fd, FunD K x x (defArgs st) (defBody st) (defScope st) [] [] f fd → FnOk P w K mg base (L2N.CX P w) k f fd ps sp)
    (h : ∀ (kV doc pm : Value) (an : Option Addr) (cdv ct : Value) (us : List Value), us.length = ps.length → bindArgs (PySem.W.fnOf x x (defArgs st) (defBody st) (defScope st) .none kV doc pm an cdv ct) ⟨us, []⟩ = pure (ps.zip us)) :
    Kept P w K mg base k x sp [] := by
  obtain ⟨f, fd, F0, g⟩ := a
  exact ⟨f, fd, ps, [], F f fd F0, g, F0.kp, F0.bindsN h, .nil⟩
end G4
/-! D1: built-ins by name; is_whole, check_face, face_axes, framed. -/
namespace G4
open PySem PySem.Spec PyProof.Rows L2
section
variable {X : Cx} {cl : Kd → Addr} {pe : Addr} {a b : Expr} {ta tb : TE} {p p2 p3 p4 pos : Pos} {k4 : Nat}
theorem Mo.nob {K : PySem.W.Frag} {mg : Str → Option Value} (M : Mo K mg cl pe) (x : Str) (h : x ∈ (["isinstance", "bool", "int", "list", "tuple", "len", "sorted", "range", "abs", "max", "repr"] : List Str) := by decide) : mg x = none := M.free x h
theorem e_ty (M : Mo X.K X.mg cl pe) (T : String) {x : Str} (hx : x ∈ (["isinstance", "bool", "int", "list", "tuple", "len", "sorted", "range", "abs", "max", "repr"] : List Str) := by decide) (hg : Gl X x := by rfl) (hv : bootBuiltins x = some (.type T) := by decide +kernel)
    (hn : x ≠ "__name__" := by decide) (hd : (x == ("__debug__" : Str)) = false := by decide) : PE X (.Name x p) (tC (.ty T)) := pe_bltn (v := .ty T) hg (M.nob x hx) hv rfl hn hd
/-- isinstance(e, T) -/
theorem e_isi (M : Mo X.K X.mg cl pe) (T : String) {x : Str} (ha : PE X a ta) (hx : x ∈ (["isinstance", "bool", "int", "list", "tuple", "len", "sorted", "range", "abs", "max", "repr"] : List Str) := by decide) (hg : Gl X "isinstance" := by rfl) (hgT : Gl X x := by rfl) (hv : bootBuiltins x = some (.type T) := by decide +kernel)
    (hn : x ≠ "__name__" := by decide) (hd : (x == ("__debug__" : Str)) = false := by decide) (h1 : starEach (a :: .Name x p2 :: []) X.env = (false, eval a X.env) :: starEach (.Name x p2 :: []) X.env := by rfl) (h2 : starEach (.Name x p2 :: []) X.env = (false, eval (.Name x p2) X.env) :: starEach [] X.env := by rfl)
    (h3 : (backTo pos (starEach [.Name x p2] X.env)).any (·.1) = false := by rfl) :
    PE X (.Call (.Name "isinstance" p) [a, .Name x p2] [] pos) (tCB (rIsi X.K) (tCons ta (tCons (tC (.ty T)) tNil))) :=
  pe_callB call_isi hg (M.nob "isinstance") (by decide +kernel) (pa_cons ha (pa_cons (e_ty M T hx hgT hv hn hd) pa_nil h2) h1) (by decide) (by decide) h1 h3
/-- isinstance(e, (list, tuple)) -/
theorem e_isiS (M : Mo X.K X.mg cl pe) (ha : PE X a ta) (hg : Gl X "isinstance" := by rfl) (hgL : Gl X "list" := by rfl) (hgT : Gl X "tuple" := by rfl)
    (h1 : starEach (a :: .Tuple [.Name "list" p2, .Name "tuple" p3] k4 p4 :: []) X.env = (false, eval a X.env) :: starEach (.Tuple [.Name "list" p2, .Name "tuple" p3] k4 p4 :: []) X.env := by rfl)
    (h2 : starEach (.Tuple [.Name "list" p2, .Name "tuple" p3] k4 p4 :: []) X.env = (false, eval (.Tuple [.Name "list" p2, .Name "tuple" p3] k4 p4) X.env) :: starEach [] X.env := by rfl)
    (h3 : (backTo pos (starEach [.Tuple [.Name "list" p2, .Name "tuple" p3] k4 p4] X.env)).any (·.1) = false := by rfl)
    (h4 : starEach (.Name "list" p2 :: .Name "tuple" p3 :: []) X.env = (false, eval (.Name "list" p2) X.env) :: starEach (.Name "tuple" p3 :: []) X.env := by rfl)
    (h5 : starEach (.Name "tuple" p3 :: []) X.env = (false, eval (.Name "tuple" p3) X.env) :: starEach [] X.env := by rfl) :
    PE X (.Call (.Name "isinstance" p) [a, .Tuple [.Name "list" p2, .Name "tuple" p3] k4 p4] [] pos) (tCB (rIsiT X.K) (tCons ta (tCons (tTup (tCons (tC (.ty "list")) (tCons (tC (.ty "tuple")) tNil))) tNil))) :=
  pe_callB call_isiT hg (M.nob "isinstance") (by decide +kernel) (pa_cons ha (pa_cons (pe_tup (pa_cons (e_ty M "list" (by decide) hgL) (pa_cons (e_ty M "tuple" (by decide) hgT) pa_nil h5) h4)) pa_nil h2) h1) (by decide) (by decide) h1 h3
section
variable (h1 : starEach (a :: []) X.env = (false, eval a X.env) :: starEach [] X.env := by rfl) (h3 : (backTo pos (starEach [] X.env)).any (·.1) = false := by rfl)
include h1 h3
theorem e_len (M : Mo X.K X.mg cl pe) (ha : PE X a ta) (hg : Gl X "len" := by rfl) : PE X (.Call (.Name "len" p) [a] [] pos) (tCB (rLenS X.K) (tCons ta tNil)) :=
  pe_callB call_len_seq hg (M.nob "len") (by decide +kernel) (pa_cons ha pa_nil h1) (by decide) (by decide) h1 h3
theorem e_tuple (M : Mo X.K X.mg cl pe) (ha : PE X a ta) (hg : Gl X "tuple" := by rfl) : PE X (.Call (.Name "tuple" p) [a] [] pos) (tCB (rTupS X.K) (tCons ta tNil)) :=
  pe_callTy call_tuple_of hg (M.nob "tuple") (by decide +kernel) (pa_cons ha pa_nil h1) (by decide) (by decide) h1 h3
theorem e_list (M : Mo X.K X.mg cl pe) (ha : PE X a ta) (hg : Gl X "list" := by rfl) : PE X (.Call (.Name "list" p) [a] [] pos) (tCB (rLstS X.K) (tCons ta tNil)) :=
  pe_callTy call_list_of hg (M.nob "list") (by decide +kernel) (pa_cons ha pa_nil h1) (by decide) (by decide) h1 h3
end
theorem e_gcd (M : Mo X.K X.mg cl pe) (ha : PE X a ta) (hb : PE X b tb) (hg : Gl X "gcd" := by rfl) (h1 : starEach (a :: b :: []) X.env = (false, eval a X.env) :: starEach (b :: []) X.env := by rfl) (h2 : starEach (b :: []) X.env = (false, eval b X.env) :: starEach [] X.env := by rfl)
    (h3 : (backTo pos (starEach [b] X.env)).any (·.1) = false := by rfl) : PE X (.Call (.Name "gcd" p) [a, b] [] pos) (tCB rGcd (tCons ta (tCons tb tNil))) :=
  pe_callBfun cr_gcd hg M.gcd (pa_cons ha (pa_cons hb pa_nil h2) h1) (by decide) h1 h3
end

/-! ### is_whole -/
/-- a whole number from lo to hi -/
def wholeB (d : D) (lo hi : Int) : Bool := match d with
  | .int i => decide (lo ≤ i) && decide (i ≤ hi)
  | _ => false
def fWhole : List D → Out
  | [d, .int lo, .int hi] => .ok (.bool (wholeB d lo hi))
  | _ => .no
def isInt : D → Bool
  | .int _ => true
  | _ => false
theorem kitB_bool (d : D) : kitB (tyD d) "bool" = some (match d with | .bool _ => true | _ => false) := by
  cases d with
  | none => exact (show kitB "NoneType" "bool" = some false by decide +kernel)
  | bool b => exact (show kitB "bool" "bool" = some true by decide +kernel)
  | int i => exact (show kitB "int" "bool" = some false by decide +kernel)
  | str x => exact (show kitB "str" "bool" = some false by decide +kernel)
  | list xs => exact (show kitB "list" "bool" = some false by decide +kernel)
  | tuple xs => exact (show kitB "tuple" "bool" = some false by decide +kernel)
  | dict kv => exact (show kitB "dict" "bool" = some false by decide +kernel)
theorem kitB_int (d : D) : kitB (tyD d) "int" = some (match d with | .bool _ => true | .int _ => true | _ => false) := by
  cases d with
  | none => exact (show kitB "NoneType" "int" = some false by decide +kernel)
  | bool b => exact (show kitB "bool" "int" = some true by decide +kernel)
  | int i => exact (show kitB "int" "int" = some true by decide +kernel)
  | str x => exact (show kitB "str" "int" = some false by decide +kernel)
  | list xs => exact (show kitB "list" "int" = some false by decide +kernel)
  | tuple xs => exact (show kitB "tuple" "int" = some false by decide +kernel)
  | dict kv => exact (show kitB "dict" "int" = some false by decide +kernel)
section
variable {P : Program} {w : World} {K : PySem.W.Frag} {mg : Str → Option Value} {base : Heap} {cl : Kd → Addr} {pe : Addr}
theorem ok_whole (M : Mo K mg cl pe) : Kept P w K mg base 1 "is_whole" (spF K cl fWhole) [] := by
  obtain ⟨f, fd, F, g⟩ := M.aWhole
  obtain ⟨ds, vds, binds⟩ := F.binds1 (ps := pWhole) 3 2 (by decide) rfl fun T kV doc pm an cdv ct us its h1 h2 => match us, its, h1, h2 with
    | [_, _, _], [_, _], _, _ => ⟨_, rfl, rfl⟩
  refine ⟨f, fd, pWhole, ds, F.ok scWhole (spF_len fun ds h => ?_) (fun cdv A outer s H vs Q E hr h => ?_), g, F.kp, binds, vds⟩
  · match ds, h with
    | [d, .int lo, .int hi], _ => rfl
  · obtain ⟨ds, hd, q⟩ := h
    match ds, hd, q with
    | [d, .int lo, .int hi], .cons (v := v) hv (.cons h1 (.cons h2 .nil)), q =>
      cases h1
      cases h2
      refine ⟨_, pss_cons (ps_if (PW.pt (pw_or (pt_val (e_isi M "bool" (pv 0))) (pw_or1 (pt_not (pt_val (e_isi M "int" (pv 0))))))) (pss_one (ps_ret pe_bl)) pss_nil)
        (pss_one (ps_ret (pe_and (pe_or (pe_cmpR op_isN (pv 1) pe_non (nomark _)) (pe_one (pe_cmpR op_ge (pv 0) (pv 1) (nomark _))))
          (pe_one (pe_or (pe_cmpR op_isN (pv 2) pe_non (nomark _)) (pe_one (pe_cmpR op_le (pv 0) (pv 2) (nomark _)))))))), ?_⟩
      refine q_when (et_or (et_B (ev_isi (ed_var hv) (kitB_bool d))) fun _ => et_not (et_B (ev_isi (ed_var hv) (kitB_int d)))) (fun hb H1 s1 => ?_) (fun hb H1 s1 => ?_)
      · have e : wholeB d lo hi = false := by
          cases d <;> first | rfl | (simp at hb)
        refine s_ret (K := K) ed_bl ?_
        rw [← e]
        exact Ret.mono s1 q
      · cases d with
        | int i =>
          have hv' := hv.scalI
          subst hv'
          refine s_ret (d := .bool (wholeB (.int i) lo hi)) (ed_B (ev_is (ev_andV (ev_orV (ev_isN (x := .int lo) ev_var) fun _ => ev_opI0 ev_var ev_var) fun _ => ev_orV (ev_isN (x := .int hi) ev_var) fun _ => ev_opI0 ev_var ev_var) ?_)) (Ret.mono s1 q)
          simp [wholeB]
        | _ => simp at hb
end
end G4
/-! D2: the errors raised; check_face, face_axes, framed, unframed. -/
namespace G4
open PySem PySem.Spec PyProof.Rows L2
section
variable {P : Program} {w : World} {K : PySem.W.Frag} {mg : Str → Option Value} {base : Heap} {cl : Kd → Addr} {pe : Addr}
/-- the reading of self.f = v on a fresh error -/
theorem init_run {C a : Addr} {f : Str} {v : V} {H : Hp} {Q : VK} {σ : L2.St} (hσ : σ = [some (.ref a), some v]) (T : OexC K C) (no : PySem.W.findIn K (.ref C) f = some none) (h : H a = some (exo a C none))
    (q : ∀ dx, H dx = none → dx ≠ a → Q .non (upd (upd H dx (exd dx [(f, v)])) a (exo a C (some dx)))) : tOst K f (tVar 0) (tVar 1) { nx := fun _ H' => Q .non H', rt := Q } σ H := by
  subst hσ
  exact ⟨v, rfl, .ref a, rfl, a, C, rfl, T, no, Or.inl ⟨h, fun dx n ne => q dx n ne⟩⟩
theorem init_len {C : Addr} {f g : Str} : ∀ vs H Q E, spErrInit C f vs H Q E → vs.length = ([("self" : Str), g] : List Str).length := by
  rintro vs H Q E ⟨a, v, rfl, _⟩
  rfl
/-- what a class of errors needs for being raised -/
def Thrown (P : Program) (w : World) (K : PySem.W.Frag) (mg : Str → Option Value) (base : Heap) (C : Addr) (x f : Str) : Prop :=
  OexC K C ∧ mg x = some (.ref C) ∧ ∃ fI fd ps, PySem.W.findIn K (.ref C) "__init__" = some (some (.ref fI)) ∧ PySem.W.typeIn K (.ref fI) = some (.type "function") ∧ FnOk P w K mg base CX0 1 fI fd ps (spErrInit C f) ∧ Binds K fd ps []
theorem thrown_face (M : Mo K mg cl pe) : Thrown P w K mg base (cl .face) "BadFace" (Kd.fld .face) := by
  obtain ⟨fI, fd, i1, i2, F⟩ := M.eF.ini
  refine ⟨M.eF.oex, M.eF.gC, fI, fd, ["self", "face"], i1, i2, F.ok scInitFace init_len (fun cdv A outer s H vs Q E hr h => ?_), F.bindsN fun _ _ _ _ _ _ us hl => match us, hl with | [_, _], _ => rfl⟩
  obtain ⟨a, v, rfl, ha, q⟩ := h
  exact ⟨_, pss_one (ps_ost (pv 0) (pv 1)), init_run rfl M.eF.oex M.eF.no ha q⟩
theorem thrown_slope (M : Mo K mg cl pe) : Thrown P w K mg base (cl .slope) "BadSlope" (Kd.fld .slope) := by
  obtain ⟨fI, fd, i1, i2, F⟩ := M.eS.ini
  refine ⟨M.eS.oex, M.eS.gC, fI, fd, ["self", "slope"], i1, i2, F.ok scInitSlope init_len (fun cdv A outer s H vs Q E hr h => ?_), F.bindsN fun _ _ _ _ _ _ us hl => match us, hl with | [_, _], _ => rfl⟩
  obtain ⟨a, v, rfl, ha, q⟩ := h
  exact ⟨_, pss_one (ps_ost (pv 0) (pv 1)), init_run rfl M.eS.oex M.eS.no ha q⟩
theorem thrown_dirn (M : Mo K mg cl pe) : Thrown P w K mg base (cl .dirn) "BadDirection" (Kd.fld .dirn) := by
  obtain ⟨fI, fd, i1, i2, F⟩ := M.eD.ini
  refine ⟨M.eD.oex, M.eD.gC, fI, fd, ["self", "what"], i1, i2, F.ok scInitDirn init_len (fun cdv A outer s H vs Q E hr h => ?_), F.bindsN fun _ _ _ _ _ _ us hl => match us, hl with | [_, _], _ => rfl⟩
  obtain ⟨a, v, rfl, ha, q⟩ := h
  exact ⟨_, pss_one (ps_ost (pv 0) (pv 1)), init_run rfl M.eD.oex M.eD.no ha q⟩
end
section
variable {X : Cx} {C : Addr} {x f : Str} {k : Nat} {W : WX} {e : Expr} {te : TE} {p pos pos2 : Pos}
/-- raise C(e) -/
theorem ps_throw (T : Thrown X.prog X.w X.K X.mg X.base C x f) (hc : X.calm = true) (hr : Room k X.A) (hk : 2 ≤ k) (tk : L2N.Takes X W) (he : PE X e te) (hg : Gl X x := by rfl) (hdb : (x == ("__debug__" : Str)) = false := by decide)
    (hs : starEach (e :: []) X.env = (false, eval e X.env) :: starEach [] X.env := by rfl) (hpl : (backTo pos (starEach [] X.env)).any (·.1) = false := by rfl) :
    PS X (.Raise (some (.Call (.Name x p) [e] [] pos)) none pos2) (tRaise C f W te) := by
  obtain ⟨o, g, fI, fd, ps, i1, i2, F, b⟩ := T
  exact L2N.ps_raise hc tk (pmk_err o i1 i2 F (hr.mono hk) b hg g he hdb hs hpl)
end
/-- a def's own wish about errors -/
abbrev own (E : XK) : WX := fun c d _ H => E c d H

/-! ### the mathematics of faces -/
def faceB (d : D) : Bool := wholeB d 0 5
def faceN : D → Nat
  | .int n => n.toNat
  | _ => 0
def axN (n : Nat) : Nat × Nat := ([(2, 1), (1, 2), (0, 2), (2, 0), (1, 0), (0, 1)] : List (Nat × Nat)).getD n (0, 0)
def pairN (a : Nat × Nat) : D := .tuple [.int (a.1 : Int), .int (a.2 : Int)]
theorem face_int {d : D} (h : faceB d = true) : ∃ n : Nat, d = .int (n : Int) ∧ n ≤ 5 ∧ faceN d = n := by
  cases d with
  | int i =>
    have e : (decide (0 ≤ i) && decide (i ≤ 5)) = true := h
    simp at e
    refine ⟨i.toNat, ?_, by omega, rfl⟩
    congr 1
    omega
  | _ => cases h
def fCFace : List D → Out
  | [d] => if faceB d then .ok d else .bad .face d
  | _ => .no
def fAxes : List D → Out
  | [d] => if faceB d then .ok (pairN (axN (faceN d))) else .bad .face d
  | _ => .no
/-- the two items over the face axes -/
def overAx (n : Nat) (xs : List D) : List D := [xs.getD (axN n).1 .none, xs.getD (axN n).2 .none]
def fFramed : List D → Out
  | [d, t] => if faceB d then (match its? t with
    | some xs => if xs.length = 3 then .ok (.tuple (overAx (faceN d) xs)) else .no
    | none => .no) else .bad .face d
  | _ => .no
/-- the triple with two items over the face axes -/
def unAx (n : Nat) (x y : D) : List D := ((([.int 0, .int 0, .int 0] : List D).set (axN n).1 x).set (axN n).2 y)
def fUnfr : List D → Out
  | [d, x, y] => if faceB d then .ok (.tuple (unAx (faceN d) x y)) else .bad .face d
  | _ => .no
theorem axN_lt {n : Nat} (h : n ≤ 5) : (axN n).1 < 3 ∧ (axN n).2 < 3 ∧ (axN n).1 ≠ (axN n).2 := by
  have : n = 0 ∨ n = 1 ∨ n = 2 ∨ n = 3 ∨ n = 4 ∨ n = 5 := by omega
  rcases this with rfl | rfl | rfl | rfl | rfl | rfl <;> decide
theorem getD_at {xs : List D} {j : Nat} (h : j < xs.length) : xs[j]? = some (xs.getD j .none) := by
  rw [List.getD_eq_getElem?_getD, List.getElem?_eq_getElem h]
  rfl
/-- one argument that is handed on, refused or taken -/
theorem len1 {F : List D → Out} (h0 : F [] = .no) (h2 : ∀ a b l, F (a :: b :: l) = .no) : ∀ ds, F ds ≠ .no → ds.length = 1
  | [], h => absurd h0 h
  | [_], _ => rfl
  | a :: b :: l, h => absurd (h2 a b l) h
theorem len2 {F : List D → Out} (h0 : F [] = .no) (h1 : ∀ a, F [a] = .no) (h3 : ∀ a b c l, F (a :: b :: c :: l) = .no) : ∀ ds, F ds ≠ .no → ds.length = 2
  | [], h => absurd h0 h
  | [a], h => absurd (h1 a) h
  | [_, _], _ => rfl
  | a :: b :: c :: l, h => absurd (h3 a b c l) h
theorem len3 {F : List D → Out} (h0 : F [] = .no) (h1 : ∀ a, F [a] = .no) (h2 : ∀ a b, F [a, b] = .no) (h4 : ∀ a b c d l, F (a :: b :: c :: d :: l) = .no) : ∀ ds, F ds ≠ .no → ds.length = 3
  | [], h => absurd h0 h
  | [a], h => absurd (h1 a) h
  | [a, b], h => absurd (h2 a b) h
  | [_, _, _], _ => rfl
  | a :: b :: c :: d :: l, h => absurd (h4 a b c d l) h
section
variable {K : PySem.W.Frag} {H : Hp} {vs : List V} {ds : List D} {a b c : D}
theorem dp1 (h : DpAll K H vs [a]) : ∃ x, vs = [x] ∧ Dp K H x a := by
  cases h with
  | cons h t => cases t; exact ⟨_, rfl, h⟩
theorem dp2 (h : DpAll K H vs [a, b]) : ∃ x y, vs = [x, y] ∧ Dp K H x a ∧ Dp K H y b := by
  cases h with
  | cons h t =>
    obtain ⟨y, rfl, hy⟩ := dp1 t
    exact ⟨_, _, rfl, h, hy⟩
theorem dp3 (h : DpAll K H vs [a, b, c]) : ∃ x y z, vs = [x, y, z] ∧ Dp K H x a ∧ Dp K H y b ∧ Dp K H z c := by
  cases h with
  | cons h t =>
    obtain ⟨y, z, rfl, hy, hz⟩ := dp2 t
    exact ⟨_, _, _, rfl, h, hy, hz⟩
end
theorem in1 {F : List D → Out} {K : PySem.W.Frag} {cl : Kd → Addr} {vs : List V} {H : Hp} {Q : VK} {E : XK} (hF : ∀ ds, F ds ≠ .no → ds.length = 1) (h : spF K cl F vs H Q E) : ∃ d x, vs = [x] ∧ Dp K H x d ∧ Gets K cl (F [d]) H Q E := by
  obtain ⟨ds, hd, q⟩ := h
  have l := hF ds fun z => by rw [z] at q; exact q
  match ds, l with
  | [d], _ =>
    obtain ⟨x, rfl, hx⟩ := dp1 hd
    exact ⟨d, x, rfl, hx, q⟩
theorem in2 {F : List D → Out} {K : PySem.W.Frag} {cl : Kd → Addr} {vs : List V} {H : Hp} {Q : VK} {E : XK} (hF : ∀ ds, F ds ≠ .no → ds.length = 2) (h : spF K cl F vs H Q E) : ∃ d e x y, vs = [x, y] ∧ Dp K H x d ∧ Dp K H y e ∧ Gets K cl (F [d, e]) H Q E := by
  obtain ⟨ds, hd, q⟩ := h
  have l := hF ds fun z => by rw [z] at q; exact q
  match ds, l with
  | [d, e], _ =>
    obtain ⟨x, y, rfl, hx, hy⟩ := dp2 hd
    exact ⟨d, e, x, y, rfl, hx, hy, q⟩
theorem in3 {F : List D → Out} {K : PySem.W.Frag} {cl : Kd → Addr} {vs : List V} {H : Hp} {Q : VK} {E : XK} (hF : ∀ ds, F ds ≠ .no → ds.length = 3) (h : spF K cl F vs H Q E) :
    ∃ d e c x y z, vs = [x, y, z] ∧ Dp K H x d ∧ Dp K H y e ∧ Dp K H z c ∧ Gets K cl (F [d, e, c]) H Q E := by
  obtain ⟨ds, hd, q⟩ := h
  have l := hF ds fun z => by rw [z] at q; exact q
  match ds, l with
  | [d, e, c], _ =>
    obtain ⟨x, y, z, rfl, hx, hy, hz⟩ := dp3 hd
    exact ⟨d, e, c, x, y, z, rfl, hx, hy, hz, q⟩
theorem n1CFace : ∀ ds, fCFace ds ≠ .no → ds.length = 1 := len1 rfl fun _ _ _ => rfl
theorem n1Axes : ∀ ds, fAxes ds ≠ .no → ds.length = 1 := len1 rfl fun _ _ _ => rfl
theorem n2Framed : ∀ ds, fFramed ds ≠ .no → ds.length = 2 := len2 rfl (fun _ => rfl) fun _ _ _ _ => rfl
theorem n3Unfr : ∀ ds, fUnfr ds ≠ .no → ds.length = 3 := len3 rfl (fun _ => rfl) (fun _ _ => rfl) fun _ _ _ _ _ => rfl
section
variable {P : Program} {w : World} {K : PySem.W.Frag} {mg : Str → Option Value} {base : Heap} {cl : Kd → Addr} {pe : Addr}
theorem ok_cface (M : Mo K mg cl pe) : Kept P w K mg base 3 "check_face" (spF K cl fCFace) [] := by
  refine kept_all (ps := pCFace) M.aCFace (fun f fd F => F.ok scCFace (spF_len n1CFace) fun cdv A outer s H vs Q E hr h => ?_) fun _ _ _ _ _ _ us hl => match us, hl with | [_], _ => rfl
  obtain ⟨d, v, rfl, hv, q⟩ := in1 n1CFace h
  refine ⟨_, pss_cons (ps_if (pt_not (pt_val (pe_k (E := fun _ => E0) (ok_whole M) hr (by decide) pass0N (pa_cons (pv 0) (pa_cons pe_int (pa_cons pe_int pa_nil)))))) (pss_one (ps_throw (W := own E) (thrown_face M) rfl hr (by decide) (L2N.takes_of rfl rfl rfl rfl) (pv 0))) pss_nil)
    (pss_one (ps_ret (pv 0))), ?_⟩
  refine q_when (et_not (et_B (ev_B (ed_k0 (ea_cons (ed_var hv) (ea_cons ed_int (ea_cons ed_int ea_nil))) rfl)))) (fun hb H1 s1 => ?_) (fun hb H1 s1 => ?_)
  · have e : faceB d = false := by simpa [faceB] using hb
    have q' : Bad K cl .face d H E := by
      have : Gets K cl (fCFace [d]) H Q E := q
      simp only [fCFace, e] at this
      exact this
    exact s_raise (cl := cl) (k := .face) (ed_var (Dp.same s1 hv)) (Bad.mono s1 q')
  · have e : faceB d = true := by simpa [faceB] using hb
    have q' : Ret K d H Q := by
      have : Gets K cl (fCFace [d]) H Q E := q
      simp only [fCFace, e] at this
      exact this
    exact s_ret (ed_var (Dp.same s1 hv)) (Ret.mono s1 q')
theorem ok_axes (M : Mo K mg cl pe) : Kept P w K mg base 4 "face_axes" (spF K cl fAxes) [] := by
  refine kept_all (ps := pAxes) M.aAxes (fun f fd F => F.ok scAxes (spF_len n1Axes) fun cdv A outer s H vs Q E hr h => ?_) fun _ _ _ _ _ _ us hl => match us, hl with | [_], _ => rfl
  obtain ⟨d, v, rfl, hv, q⟩ := in1 n1Axes h
  obtain ⟨fr, gfr, dfr⟩ := M.frames
  have tk : L2N.Takes (cxOf (L2N.CX P w) P w K mg base nAxes "face_axes" (defScope sAxes) f cdv A outer s H E) (own E) := L2N.takes_of rfl rfl rfl rfl
  refine ⟨_, pss_one (ps_ret (pe_ix ix_seq (pe_glob (v := .ref fr) rfl gfr rfl) (pe_k (E := WE (own E)) (ok_cface M) hr (by decide) (fun σ => L2N.passAt tk σ) (pa_cons (pv 0) pa_nil)) (fun _ _ => rfl))), ?_⟩
  cases e : faceB d with
  | false =>
    have q' : Bad K cl .face d H E := by
      have : Gets K cl (fAxes [d]) H Q E := q
      simp only [fAxes, e] at this
      exact this
    exact s_retR (er_opRV ev_c (er_k0 (F := fCFace) (ea_cons (ed_var hv) ea_nil) (by simp [fCFace, e]))) q'
  | true =>
    have q' : Ret K (pairN (axN (faceN d))) H Q := by
      have : Gets K cl (fAxes [d]) H Q E := q
      simp only [fAxes, e] at this
      exact this
    obtain ⟨n, rfl, hn, _⟩ := face_int e
    refine s_ret (ed_ix (ed_of ev_c (dfr H)) rfl (ev_I (ed_k0 (F := fCFace) (r := .int (n : Int)) (ea_cons (ed_var hv) ea_nil) (by simp [fCFace, e]))) ?_) q'
    show _ = some (pairN (axN n))
    have : n = 0 ∨ n = 1 ∨ n = 2 ∨ n = 3 ∨ n = 4 ∨ n = 5 := by omega
    rcases this with rfl | rfl | rfl | rfl | rfl | rfl <;> rfl
theorem ok_framed (M : Mo K mg cl pe) : Kept P w K mg base 5 "framed" (spF K cl fFramed) [] := by
  refine kept_all (ps := pFramed) M.aFramed (fun f fd F => F.ok scFramed (spF_len n2Framed) fun cdv A outer s H vs Q E hr h => ?_) fun _ _ _ _ _ _ us hl => match us, hl with | [_, _], _ => rfl
  obtain ⟨d, t, v, u, rfl, hv, hu, q⟩ := in2 n2Framed h
  have tk : L2N.Takes (cxOf (L2N.CX P w) P w K mg base nFramed "framed" (defScope sFramed) f cdv A outer s H E) (own E) := L2N.takes_of rfl rfl rfl rfl
  refine ⟨_, pss_cons (ps_set (i := 2) scFramed.nd rfl (Or.inl rfl) (pe_k (E := WE (own E)) (ok_axes M) hr (by decide) (fun σ => L2N.passAt tk σ) (pa_cons (pv 0) pa_nil)))
    (pss_one (ps_ret (pe_tup (pa_cons (pe_ix ix_seq (pv 1) (pe_ix ix_seq (pv 2) pe_int (fun _ _ => rfl)) (fun _ _ => rfl)) (pa_cons (pe_ix ix_seq (pv 1) (pe_ix ix_seq (pv 2) pe_int (fun _ _ => rfl)) (fun _ _ => rfl)) pa_nil))))), ?_⟩
  cases e : faceB d with
  | false =>
    have q' : Bad K cl .face d H E := by
      have : Gets K cl (fFramed [d, t]) H Q E := q
      simp only [fFramed, e] at this
      exact this
    exact q_asgR (er_k0 (F := fAxes) (ea_cons (ed_var hv) ea_nil) (by simp [fAxes, e])) q'
  | true =>
    have q1 : Gets K cl (match its? t with
      | some xs => if xs.length = 3 then .ok (.tuple (overAx (faceN d) xs)) else .no
      | none => .no) H Q E := by
      have : Gets K cl (fFramed [d, t]) H Q E := q
      simp only [fFramed, e] at this
      exact this
    cases ex : its? t with
    | none => rw [ex] at q1; exact q1.elim
    | some xs =>
      rw [ex] at q1
      by_cases l3 : xs.length = 3
      · have q' : Ret K (.tuple (overAx (faceN d) xs)) H Q := by
          have : Gets K cl (if xs.length = 3 then .ok (.tuple (overAx (faceN d) xs)) else .no) H Q E := q1
          rw [if_pos l3] at this
          exact this
        obtain ⟨n, rfl, hn, en⟩ := face_int e
        obtain ⟨a1, a2, _⟩ := axN_lt hn
        refine q_asg (d := pairN (axN n)) (ed_k0 (F := fAxes) (ea_cons (ed_var hv) ea_nil) (by simp [fAxes, e, en])) fun ax H1 s1 hax => ?_
        rw [en] at q'
        refine s_ret (ed_tup (ea_cons (ed_ix (ed_var (Dp.same s1 hu)) ex (ev_I (ed_ix (j := 0) (ed_var hax) rfl ev_c rfl)) (getD_at (by omega))) (ea_cons (ed_ix (ed_var (Dp.same s1 hu)) ex (ev_I (ed_ix (j := 1) (ed_var hax) rfl ev_c rfl)) (getD_at (by omega))) ea_nil)) (by simp)) (Ret.mono s1 q')
      · have : Gets K cl (if xs.length = 3 then .ok (.tuple (overAx (faceN d) xs)) else .no) H Q E := q1
        rw [if_neg l3] at this
        exact this.elim
end
end G4
/-! D3: unframed, check_slope, mirrored_slope. -/
namespace G4
open PySem PySem.Spec PyProof.Rows L2
section
variable {K : PySem.W.Frag} {cl : Kd → Addr} {σ : L2.St} {H : Hp} {te to ti : TE} {D' : Ends} {tz : TS}
theorem ixN_of {n j : Nat} (h : j < n) : ixN n (j : Int) = some j := by
  unfold ixN
  rw [if_pos (Int.natCast_nonneg j), if_pos (Int.ofNat_lt.mpr h)]
  simp
/-- xs[j] = e, the value told exactly -/
theorem s_setV {l : Addr} {xs : List V} {j : Nat} {u : V} (hl : H l = some (.lst xs)) (h : EvV te σ H u) (ho : EvV to σ H (.ref l)) (hi : EvV ti σ H (.int (j : Int))) (hj : j < xs.length) (q : ∀ H1, Same H H1 → D'.nx σ (upd H1 l (.lst (xs.set j u)))) :
    tAsg te (gSub to ti rSetL) D' σ H := h H (Same.refl H) _ fun H1 s1 => ho H1 s1 _ fun H2 s2 => hi H2 (s1.trans s2) _ fun H3 s3 =>
  ⟨l, xs, (j : Int), j, rfl, rfl, ((s1.trans s2).trans s3) l _ hl, ixN_of hj, q H3 ((s1.trans s2).trans s3)⟩
theorem q_setV {l : Addr} {xs : List V} {j : Nat} {u : V} (hl : H l = some (.lst xs)) (h : EvV te σ H u) (ho : EvV to σ H (.ref l)) (hi : EvV ti σ H (.int (j : Int))) (hj : j < xs.length) (q : ∀ H1, Same H H1 → tz D' σ (upd H1 l (.lst (xs.set j u)))) :
    tSeq (tAsg te (gSub to ti rSetL)) tz D' σ H := s_setV (D' := { D' with nx := tz D' }) hl h ho hi hj q
/-- xs = [..], kept as an object that will change -/
theorem q_asgL {i : Nat} {ts : TA} {ds : List D} (h : EvA K ts σ H ds) (hl : ds.length ≤ 1000) (q : ∀ p us H1, H p = none → Same H H1 → DpAll K H us ds → H1 p = some (.lst us) → tz D' (σ.set i (some (.ref p))) H1) (hs : ∀ us, ∀ H1, DpAll K H1 us ds → DpAll K H us ds) :
    tSeq (tAsg (tLst ts) (gName i)) tz D' σ H := h H (Same.refl H) _ fun us H1 s1 hus => ⟨by rw [hus.len]; exact small_line hl, fun p hp => q p us _ (s1.free hp) (s1.newR hp) (hs us H1 hus) upd_same⟩
end
section
variable {P : Program} {w : World} {K : PySem.W.Frag} {mg : Str → Option Value} {base : Heap} {cl : Kd → Addr} {pe : Addr}
theorem zeros {H : Hp} {us : List V} (h : DpAll K H us [.int 0, .int 0, .int 0]) : us = [.int 0, .int 0, .int 0] := by
  obtain ⟨x, y, z, rfl, hx, hy, hz⟩ := dp3 h
  rw [hx.scalI, hy.scalI, hz.scalI]
theorem zeros_dp {H : Hp} : DpAll K H [.int 0, .int 0, .int 0] [.int 0, .int 0, .int 0] := .cons (.int 0) (.cons (.int 0) (.cons (.int 0) .nil))
theorem ok_unfr (M : Mo K mg cl pe) : Kept P w K mg base 5 "unframed" (spF K cl fUnfr) [] := by
  refine kept_all (ps := pUnfr) M.aUnfr (fun f fd F => F.ok scUnfr (spF_len n3Unfr) fun cdv A outer s H vs Q E hr h => ?_) fun _ _ _ _ _ _ us hl => match us, hl with | [_, _, _], _ => rfl
  obtain ⟨d, dx, dy, v, x, y, rfl, hv, hx, hy, q⟩ := in3 n3Unfr h
  have tk : L2N.Takes (cxOf (L2N.CX P w) P w K mg base nUnfr "unframed" (defScope sUnfr) f cdv A outer s H E) (own E) := L2N.takes_of rfl rfl rfl rfl
  refine ⟨_, pss_cons (ps_set (i := 3) scUnfr.nd rfl (Or.inl rfl) (pe_k (E := WE (own E)) (ok_axes M) hr (by decide) (fun σ => L2N.passAt tk σ) (pa_cons (pv 0) pa_nil)))
    (pss_cons (ps_set (i := 4) scUnfr.nd rfl (Or.inl rfl) (pe_lst (pa_cons pe_int (pa_cons pe_int (pa_cons pe_int pa_nil)))))
    (pss_cons (ps_asg (pv 1) (pg_sub (pv 4) (pe_ix ix_seq (pv 3) pe_int (fun _ _ => rfl)) set_list))
    (pss_cons (ps_asg (pv 2) (pg_sub (pv 4) (pe_ix ix_seq (pv 3) pe_int (fun _ _ => rfl)) set_list))
    (pss_one (ps_ret (e_tuple (M := M) (ha := pv 4))))))), ?_⟩
  cases e : faceB d with
  | false =>
    have q' : Bad K cl .face d H E := by
      have : Gets K cl (fUnfr [d, dx, dy]) H Q E := q
      simp only [fUnfr, e] at this
      exact this
    exact q_asgR (er_k0 (F := fAxes) (ea_cons (ed_var hv) ea_nil) (by simp [fAxes, e])) q'
  | true =>
    have q' : Ret K (.tuple (unAx (faceN d) dx dy)) H Q := by
      have : Gets K cl (fUnfr [d, dx, dy]) H Q E := q
      simp only [fUnfr, e] at this
      exact this
    obtain ⟨n, rfl, hn, en⟩ := face_int e
    obtain ⟨a1, a2, _⟩ := axN_lt hn
    rw [en] at q'
    refine q_asg (d := pairN (axN n)) (ed_k0 (F := fAxes) (ea_cons (ed_var hv) ea_nil) (by simp [fAxes, e, en])) fun ax H1 s1 hax => ?_
    refine q_asgL (K := K) (ea_cons ed_int (ea_cons ed_int (ea_cons ed_int ea_nil))) (by decide) (fun l us H2 nl s2 hus at_l => ?_) (fun us H1 h => by rw [zeros h]; exact zeros_dp)
    rw [zeros hus] at at_l
    have fl : H l = none := s1.free nl
    have s02 := s1.trans s2
    refine q_setV at_l ev_var ev_var (ev_I (ed_ix (j := 0) (ed_var (Dp.same s2 hax)) rfl ev_c rfl)) (by show (axN n).1 < 3; omega) fun H3 s3 => ?_
    have s03 : Same H (upd H3 l (.lst ([V.int 0, V.int 0, V.int 0].set (axN n).1 x))) := Same.mut (s02.trans s3) fl
    have ax3 : Dp K (upd H3 l (.lst ([V.int 0, V.int 0, V.int 0].set (axN n).1 x))) ax (pairN (axN n)) := Dp.same (Same.mut (s2.trans s3) nl) hax
    refine q_setV upd_same ev_var ev_var (ev_I (ed_ix (j := 1) (ed_var ax3) rfl ev_c rfl)) (by rw [List.length_set]; show (axN n).2 < 3; omega) fun H4 s4 => ?_
    have s04 : Same H (upd H4 l (.lst (([V.int 0, V.int 0, V.int 0].set (axN n).1 x).set (axN n).2 y))) := Same.mut (s03.trans s4) fl
    refine s_ret (ed_tuple (xs := unAx n dx dy) (ed_var (d := .list (unAx n dx dy)) (.lst (SqL.of upd_same) ?_)) rfl) (Ret.mono s04 q')
    exact DpAll.set (Dp.same s04 hy) _ (DpAll.set (Dp.same s04 hx) _ zeros_dp)

/-! ### slopes -/
/-- two numbers as a slope, the band among them -/
def slopePQ (d : D) : Option (Int × Int) := match its? d with
  | some [.int p, .int q] => if (1 ≤ p ∧ p ≤ 9) ∧ (0 ≤ q ∧ q ≤ 9) ∧ Nat.gcd p.natAbs q.natAbs = 1 then some (p, q) else none
  | _ => none
def pairI (p q : Int) : D := .tuple [.int p, .int q]
/-- a slope as it is checked -/
def slopeO (d : D) (band : Bool) : Option (Int × Int) := match slopePQ d with
  | some (p, q) => if band = true ∨ q ≠ 0 then some (p, q) else none
  | none => none
def fCSlope : List D → Out
  | [d, .bool b] => (match slopeO d b with
    | some (p, q) => .ok (pairI p q)
    | none => .bad .slope d)
  | _ => .no
def fMirror : List D → Out
  | [d] => (match slopeO d true with
    | some (p, q) => if q = 0 then .ok (pairI p q) else .ok (pairI q p)
    | none => .bad .slope d)
  | _ => .no
theorem n2CSlope : ∀ ds, fCSlope ds ≠ .no → ds.length = 2
  | [d, .bool b], _ => rfl
theorem n1Mirror : ∀ ds, fMirror ds ≠ .no → ds.length = 1 := len1 rfl fun _ _ _ => rfl
theorem whole_int {d : D} {lo hi : Int} (h : wholeB d lo hi = true) : ∃ i, d = .int i ∧ lo ≤ i ∧ i ≤ hi := by
  cases d with
  | int i =>
    have e : (decide (lo ≤ i) && decide (i ≤ hi)) = true := h
    simp at e
    exact ⟨i, rfl, e.1, e.2⟩
  | _ => cases h
theorem slopeO_no {d : D} {b : Bool} (h : slopePQ d = none) : slopeO d b = none := by unfold slopeO; rw [h]
theorem slopePQ_seq {d : D} (h : its? d = none) : slopePQ d = none := by unfold slopePQ; rw [h]
theorem slopePQ_len {d : D} {xs : List D} (h : its? d = some xs) (l : xs.length ≠ 2) : slopePQ d = none := by
  unfold slopePQ
  rw [h]
  match xs, l with
  | [], _ => rfl
  | [a], _ => cases a <;> rfl
  | [_, _], l => exact absurd rfl l
  | a :: b :: _ :: _, _ => cases a <;> first | rfl | (cases b <;> rfl)
theorem slopePQ_whole {d x y : D} (h : its? d = some [x, y]) (l : wholeB x 1 9 = false ∨ wholeB y 0 9 = false) : slopePQ d = none := by
  unfold slopePQ
  rw [h]
  cases x with
  | int p =>
    cases y with
    | int q =>
      refine if_neg fun z => ?_
      rcases l with l | l
      · simp [wholeB] at l
        omega
      · simp [wholeB] at l
        omega
    | _ => rfl
  | _ => rfl
theorem two_of {xs : List D} (h : xs.length = 2) : ∃ x y, xs = [x, y] := match xs, h with
  | [x, y], _ => ⟨x, y, rfl⟩
theorem ok_cslope_fn (M : Mo K mg cl pe) (f : Addr) (fd : FuncData) (F : FunD K "check_slope" "check_slope" (defArgs sCSlope) (defBody sCSlope) (defScope sCSlope) [.bl false] [] f fd) :
    FnOk P w K mg base (L2N.CX P w) 3 f fd pCSlope (spF K cl fCSlope) := by
  refine F.ok scCSlope (spF_len n2CSlope) fun cdv A outer s H vs Q E hr h => ?_
  obtain ⟨d, db, v, vb, rfl, hv, hvb, q⟩ := in2 n2CSlope h
  have ⟨b, eb⟩ : ∃ b, db = .bool b := by
    cases db with
    | bool b => exact ⟨b, rfl⟩
    | _ => exact q.elim
  subst eb
  have := hvb.scalB
  subst this
  have tk : L2N.Takes (cxOf (L2N.CX P w) P w K mg base nCSlope "check_slope" (defScope sCSlope) f cdv A outer s H E) (own E) := L2N.takes_of rfl rfl rfl rfl
  obtain ⟨tS, gS⟩ := M.mSlope
  have th : Thrown P w K mg base (cl .slope) "BadSlope" (Kd.fld .slope) := thrown_slope M
  refine ⟨_, pss_cons (ps_if (PW.pt (pw_or (pt_not (pt_val (e_isiS M (pv 0)))) (pw_or1 (pt_cmpR op_ne (e_len (M := M) (ha := pv 0)) pe_int (nomark _))))) (pss_one (ps_throw (W := own E) th rfl hr (by decide) tk (pv 0))) pss_nil)
    (pss_cons (ps_if (PW.pt (pw_or (pt_not (pt_val (pe_k (E := fun _ => E0) (ok_whole M) hr (by decide) pass0N (pa_cons (pe_ix ix_seq (pv 0) pe_int (fun _ _ => rfl)) (pa_cons pe_int (pa_cons (pe_glob (v := .int 9) rfl gS ⟨_, rfl⟩) pa_nil))))))
        (pw_or1 (pt_not (pt_val (pe_k (E := fun _ => E0) (ok_whole M) hr (by decide) pass0N (pa_cons (pe_ix ix_seq (pv 0) pe_int (fun _ _ => rfl)) (pa_cons pe_int (pa_cons (pe_glob (v := .int 9) rfl gS ⟨_, rfl⟩) pa_nil)))))))))
        (pss_one (ps_throw (W := own E) th rfl hr (by decide) tk (pv 0))) pss_nil)
    (pss_cons (ps_if (PW.pt (pw_or (pt_cmpR op_ne (e_gcd M (pe_ix ix_seq (pv 0) pe_int (fun _ _ => rfl)) (pe_ix ix_seq (pv 0) pe_int (fun _ _ => rfl))) pe_int (nomark _))
        (pw_or1 (PW.pt (pw_and (pt_cmpR op_eq (pe_ix ix_seq (pv 0) pe_int (fun _ _ => rfl)) pe_int (nomark _)) (pw_and1 (pt_not (pt_val (pv 1)))))))))
        (pss_one (ps_throw (W := own E) th rfl hr (by decide) tk (pv 0))) pss_nil)
    (pss_one (ps_ret (pe_tup (pa_cons (pe_ix ix_seq (pv 0) pe_int (fun _ _ => rfl)) (pa_cons (pe_ix ix_seq (pv 0) pe_int (fun _ _ => rfl)) pa_nil))))))), ?_⟩
  -- the refused ones
  have no : slopeO d b = none → Bad K cl .slope d H E := fun e => by
    have : Gets K cl (fCSlope [d, .bool b]) H Q E := q
    simp only [fCSlope, e] at this
    exact this
  have out : ∀ {H1 : Hp} {D1 : Ends}, Same H H1 → slopeO d b = none → tRaise (cl .slope) (Kd.fld .slope) (own E) (tVar 0) D1 (start nCSlope [v, .bl b]) H1 := fun s1 e =>
    s_raise (cl := cl) (k := .slope) (ed_var (Dp.same s1 hv)) (Bad.mono s1 (no e))
  have seq : ∀ xs, its? d = some xs → isSeq d = true := fun xs e => by unfold isSeq; rw [e]; rfl
  refine q_when (b := !isSeq d || !decide ((((its? d).getD []).length : Int) = 2)) (et_or (et_not (et_B (ev_isiS (ed_var hv)))) fun hb => ?_) (fun hb H1 s1 => ?_) (fun hb H1 s1 => ?_)
  · have sq : isSeq d = true := by simpa using hb
    obtain ⟨xs, ex⟩ := Option.isSome_iff_exists.mp sq
    refine et_test (ev_neI (ev_len (ed_var hv) ?_) ev_c)
    rw [ex]
    rfl
  · refine out s1 (slopeO_no ?_)
    cases ex : its? d with
    | none => exact slopePQ_seq ex
    | some xs =>
      refine slopePQ_len ex fun l => ?_
      rw [seq xs ex, ex] at hb
      simp [l] at hb
  · cases ex : its? d with
    | none =>
      have : isSeq d = false := by unfold isSeq; rw [ex]; rfl
      rw [this] at hb
      simp at hb
    | some xs =>
      have l2 : xs.length = 2 := by
        rw [seq xs ex, ex] at hb
        simp at hb
        omega
      obtain ⟨x, y, rfl⟩ := two_of l2
      have hv1 := Dp.same s1 hv
      refine q_when (b := !wholeB x 1 9 || !wholeB y 0 9) (et_or (et_not (et_B (ev_B (ed_k0 (ea_cons (ed_ix (j := 0) (ed_var hv1) ex ev_c rfl) (ea_cons ed_int (ea_cons ed_int ea_nil))) rfl))))
        fun _ => et_not (et_B (ev_B (ed_k0 (ea_cons (ed_ix (j := 1) (ed_var hv1) ex ev_c rfl) (ea_cons ed_int (ea_cons ed_int ea_nil))) rfl)))) (fun hb H2 s2 => ?_) (fun hb H2 s2 => ?_)
      · refine out (s1.trans s2) (slopeO_no (slopePQ_whole ex ?_))
        simpa using hb
      · have hx : wholeB x 1 9 = true ∧ wholeB y 0 9 = true := by simpa using hb
        obtain ⟨p, rfl, p1, p2⟩ := whole_int hx.1
        obtain ⟨r, rfl, r1, r2⟩ := whole_int hx.2
        have hv2 := Dp.same s2 hv1
        have i0 : EvD K (tOp (rIx K) (tVar 0) (tC (.int 0))) (start nCSlope [v, .bl b]) H2 (.int p) := ed_ix (j := 0) (ed_var hv2) ex ev_c rfl
        have i1 : EvD K (tOp (rIx K) (tVar 0) (tC (.int 1))) (start nCSlope [v, .bl b]) H2 (.int r) := ed_ix (j := 1) (ed_var hv2) ex ev_c rfl
        have pq : slopePQ d = if Nat.gcd p.natAbs r.natAbs = 1 then some (p, r) else none := by
          unfold slopePQ
          rw [ex]
          show (if _ then some (p, r) else none) = _
          by_cases g : Nat.gcd p.natAbs r.natAbs = 1
          · rw [if_pos ⟨⟨p1, p2⟩, ⟨r1, r2⟩, g⟩, if_pos g]
          · rw [if_neg fun z => g z.2.2, if_neg g]
        refine q_when (et_or (et_test (ev_neI (ev_gcd (ev_I i0) (ev_I i1)) ev_c)) fun _ => et_and (et_test (ev_eqI (ev_I i1) ev_c)) fun _ => et_not (et_B ev_var)) (fun hb H3 s3 => ?_) (fun hb H3 s3 => ?_)
        · refine out ((s1.trans s2).trans s3) ?_
          unfold slopeO
          rw [pq]
          by_cases g : Nat.gcd p.natAbs r.natAbs = 1
          · rw [if_pos g]
            simp [g] at hb
            show (if b = true ∨ r ≠ 0 then some (p, r) else none) = none
            rw [if_neg]
            simp [hb]
          · rw [if_neg g]
        · have s03 := (s1.trans s2).trans s3
          have e : slopeO d b = some (p, r) := by
            unfold slopeO
            rw [pq]
            have g : Nat.gcd p.natAbs r.natAbs = 1 := by
              simp at hb
              have := hb.1
              omega
            rw [if_pos g]
            show (if b = true ∨ r ≠ 0 then some (p, r) else none) = some (p, r)
            rw [if_pos]
            simp at hb
            by_cases r0 : r = 0
            · exact Or.inl (hb.2 r0)
            · exact Or.inr r0
          have q' : Ret K (pairI p r) H Q := by
            have : Gets K cl (fCSlope [d, .bool b]) H Q E := q
            simp only [fCSlope, e] at this
            exact this
          exact s_ret (ed_tup (ea_cons (i0.mono s3) (ea_cons (i1.mono s3) ea_nil)) (by simp)) (Ret.mono s03 q')
theorem ok_cslope (M : Mo K mg cl pe) : Kept P w K mg base 3 "check_slope" (spF K cl fCSlope) [] := by
  obtain ⟨f, fd, F, g⟩ := M.aCSlope
  obtain ⟨ds, vds, binds⟩ := F.binds1 (ps := pCSlope) 2 1 (by decide) rfl fun T kV doc pm an cdv ct us its h1 h2 => match us, its, h1, h2 with
    | [_, _], [_], _, _ => ⟨_, rfl, rfl⟩
  exact ⟨f, fd, pCSlope, ds, ok_cslope_fn M f fd F, g, F.kp, binds, vds⟩
theorem ok_cslope1 (M : Mo K mg cl pe) : Kept P w K mg base 3 "check_slope" (spF K cl fCSlope) [.bl false] := by
  obtain ⟨f, fd, F, g⟩ := M.aCSlope
  obtain ⟨ds, vds, binds⟩ := F.binds1 (ps := pCSlope) 1 0 (by decide) rfl fun T kV doc pm an cdv ct us its h1 h2 => match us, its, h1, h2 with
    | [_], [_], _, _ => ⟨_, rfl, rfl⟩
  exact ⟨f, fd, pCSlope, ds, ok_cslope_fn M f fd F, g, F.kp, binds, vds⟩
theorem ok_mirror (M : Mo K mg cl pe) : Kept P w K mg base 4 "mirrored_slope" (spF K cl fMirror) [] := by
  refine kept_all (ps := pMirror) M.aMirror (fun f fd F => F.ok scMirror (spF_len n1Mirror) fun cdv A outer s H vs Q E hr h => ?_) fun _ _ _ _ _ _ us hl => match us, hl with | [_], _ => rfl
  obtain ⟨d, v, rfl, hv, q⟩ := in1 n1Mirror h
  have tk : L2N.Takes (cxOf (L2N.CX P w) P w K mg base nMirror "mirrored_slope" (defScope sMirror) f cdv A outer s H E) (own E) := L2N.takes_of rfl rfl rfl rfl
  refine ⟨_, pss_cons (ps_asg (pe_k (E := WE (own E)) (ok_cslope M) hr (by decide) (fun σ => L2N.passAt tk σ) (pa_cons (pv 0) (pa_cons pe_bl pa_nil))) (pg_tup rfl (pgs_cons (pg_name (i := 1) scMirror.nd rfl (.inl rfl)) (pgs_cons (pg_name (i := 2) scMirror.nd rfl (.inl rfl)) pgs_nil))))
    (pss_one (ps_ret (pe_ifExp (pt_cmpR op_eq (pv 2) pe_int (nomark _)) (pe_tup (pa_cons (pv 1) (pa_cons (pv 2) pa_nil))) (pe_tup (pa_cons (pv 2) (pa_cons (pv 1) pa_nil)))))), ?_⟩
  cases e : slopeO d true with
  | none =>
    have q' : Bad K cl .slope d H E := by
      have : Gets K cl (fMirror [d]) H Q E := q
      simp only [fMirror, e] at this
      exact this
    exact q_asgRg (er_k0 (F := fCSlope) (ea_cons (ed_var hv) (ea_cons ed_bl ea_nil)) (by simp [fCSlope, e])) q'
  | some pr =>
    obtain ⟨p, r⟩ := pr
    have q' : Gets K cl (if r = 0 then .ok (pairI p r) else .ok (pairI r p)) H Q E := by
      have : Gets K cl (fMirror [d]) H Q E := q
      simp only [fMirror, e] at this
      exact this
    refine q_asg2 (d := pairI p r) (ed_k0 (F := fCSlope) (ea_cons (ed_var hv) (ea_cons ed_bl ea_nil)) (by simp [fCSlope, e])) rfl fun u z H1 s1 hu hz => ?_
    have eu := hu.scalI
    have ez := hz.scalI
    subst eu ez
    by_cases r0 : r = 0
    · rw [if_pos r0] at q'
      refine s_ret (d := pairI p r) (ed_if (et_test (ev_eqI ev_var ev_c)) (fun _ => ed_tup (ea_cons (ed_var (.int p)) (ea_cons (ed_var (.int r)) ea_nil)) (by simp)) fun hb => ?_) (Ret.mono s1 q')
      simp [r0] at hb
    · rw [if_neg r0] at q'
      refine s_ret (d := pairI r p) (ed_if (et_test (ev_eqI ev_var ev_c)) (fun hb => ?_) fun _ => ed_tup (ea_cons (ed_var (.int r)) (ea_cons (ed_var (.int p)) ea_nil)) (by simp)) (Ret.mono s1 q')
      simp [r0] at hb
end
end G4
/-! E7: loops and comprehensions over data; data that outlast a change of a list. -/
namespace G4
open PySem PySem.Spec PyProof.Rows L2
/-! ### data without lists -/
mutual
def noL : D → Bool
  | .list _ => false
  | .tuple xs => noLs xs
  | _ => true
def noLs : List D → Bool
  | [] => true
  | d :: ds => noL d && noLs ds
end
theorem noLs_mem : ∀ {ds : List D}, (∀ d ∈ ds, noL d = true) → noLs ds = true
  | [], _ => by simp [noLs]
  | d :: ds, h => by
    unfold noLs
    rw [h d List.mem_cons_self, noLs_mem fun e he => h e (List.mem_cons_of_mem _ he)]
    rfl
theorem mem_noLs : ∀ {ds : List D}, noLs ds = true → ∀ d ∈ ds, noL d = true
  | [], _, d, h => by cases h
  | e :: ds, h, d, hd => by
    unfold noLs at h
    rw [Bool.and_eq_true] at h
    rcases List.mem_cons.mp hd with z | z
    · rw [z]
      exact h.1
    · exact mem_noLs h.2 d z
section
variable {K : PySem.W.Frag} {H : Hp} {p : Addr} {o : HO}
theorem sqt_off {a : Addr} {xs ys : List V} (hp : H p = some (.lst xs)) (h : SqT K H a ys) : SqT K (upd H p o) a ys := by
  have ne : a = p → (∃ u, H a = some u ∧ u ≠ .lst xs) → False := by
    rintro rfl ⟨u, e, n⟩
    rw [hp] at e
    cases e
    exact n rfl
  rcases h with (h | ⟨u, h⟩) | h
  · exact Or.inl (Or.inl (by rw [upd_ne fun e => ne e ⟨_, h, by intro z; cases z⟩]; exact h))
  · exact Or.inl (Or.inr ⟨u, by rw [upd_ne fun e => ne e ⟨_, h, by intro z; cases z⟩]; exact h⟩)
  · exact Or.inr h
mutual
theorem dp_off {xs : List V} (hp : H p = some (.lst xs)) : ∀ {d : D} {v : V}, noL d = true → Dp K H v d → Dp K (upd H p o) v d
  | .none, _, _, .non => .non
  | .bool _, _, _, .bl b => .bl b
  | .int _, _, _, .int i => .int i
  | .str _, _, _, .str x => .str x
  | .list _, _, n, _ => by unfold noL at n; cases n
  | .tuple ds, _, n, .tup h a => .tup (sqt_off hp h) (dps_off hp (by unfold noL at n; exact n) a)
  | .dict _, _, _, h => by cases h
theorem dps_off {xs : List V} (hp : H p = some (.lst xs)) : ∀ {ds : List D} {vs : List V}, noLs ds = true → DpAll K H vs ds → DpAll K (upd H p o) vs ds
  | [], _, _, .nil => .nil
  | _ :: _, _, n, .cons h t => .cons (dp_off hp (by unfold noLs at n; exact (Bool.and_eq_true _ _ ▸ n).1) h) (dps_off hp (by unfold noLs at n; exact (Bool.and_eq_true _ _ ▸ n).2) t)
end
end
/-! ### comprehensions -/
theorem take_some {α : Type} {xs : List α} {i : Nat} {c : α} (h : xs[i]? = some c) : xs.take (i + 1) = xs.take i ++ [c] := by
  rw [List.take_succ, h]
  rfl
section
variable {K : PySem.W.Frag} {σ : L2.St} {H : Hp} {tl te : TE} {g : TG} {t : TT} {d : D} {vs : List Nat}
/-- one turn -/
def Turns (K : PySem.W.Frag) (g : TG) (t : TT) (te : TE) (σ : L2.St) (vs : List Nat) (f : D → Bool) (v : D → D) (x : V) (c : D) (H : Hp) : Prop :=
  ∀ R : L2.St → Hp → Prop, (∀ σ2, wipe σ2 vs = wipe σ vs → EvT t σ2 H (f c) → (f c = true → EvD K te σ2 H (v c)) → R σ2 H) → g x (wipe σ vs) H R
def Cz (K : PySem.W.Frag) (H : Hp) (xs : List D) (f : D → Bool) (v : D → D) (Dl : Addr) (i : Nat) (H' : Hp) : Prop :=
  H Dl = none ∧ Same H H' ∧ ∃ acc, H' Dl = some (.lst acc) ∧ DpAll K H' acc (((xs.take i).filter f).map v)
theorem cz_turn {H' : Hp} {f : D → Bool} {v : D → D} {Dl : Addr} {i : Nat} {xs : List D} {c : D} {σ2 : L2.St} (p : Cz K H xs f v Dl i H') (hi : xs[i]? = some c) (hz : xs.length ≤ 1000) (hn : ∀ c ∈ xs, f c = true → noL (v c) = true)
    (ht : EvT t σ2 H' (f c)) (he : f c = true → EvD K te σ2 H' (v c)) :
    t σ2 H' fun b H3 => if b = true then te σ2 H3 fun y H4 => ∃ acc, H4 Dl = some (.lst acc) ∧ acc.length < sizeLine ∧ Cz K H xs f v Dl (i + 1) (upd H4 Dl (.lst (acc ++ [y]))) else Cz K H xs f v Dl (i + 1) H3 := by
  obtain ⟨p1, p2, acc, p3, p4⟩ := p
  have lt : i < xs.length := (List.getElem?_eq_some_iff.mp hi).1
  have all : noLs (((xs.take i).filter f).map v) = true := noLs_mem fun d hd => by
    obtain ⟨c', hc, rfl⟩ := List.mem_map.mp hd
    obtain ⟨h1, h2⟩ := List.mem_filter.mp hc
    exact hn c' (List.mem_of_mem_take h1) h2
  refine ht H' (Same.refl H') _ fun H3 s3 => ?_
  cases hf : f c with
  | true =>
    show te σ2 H3 fun y H4 => ∃ acc, H4 Dl = some (.lst acc) ∧ acc.length < sizeLine ∧ Cz K H xs f v Dl (i + 1) (upd H4 Dl (.lst (acc ++ [y])))
    refine he hf H3 s3 _ fun u H4 s4 hu => ⟨acc, s4 _ _ (s3 _ _ p3), ?_, p1, Same.mut ((p2.trans s3).trans s4) p1, acc ++ [u], upd_same, ?_⟩
    · have l := p4.len
      have l2 := List.length_filter_le f (xs.take i)
      rw [List.length_map] at l
      rw [List.length_take] at l2
      exact Nat.lt_of_le_of_lt (by omega : acc.length ≤ 1000) (by decide)
    · have at4 := s4 _ _ (s3 _ _ p3)
      rw [take_some hi, List.filter_append, List.map_append, List.filter_cons, if_pos hf]
      exact (dps_off at4 all (DpAll.same (s3.trans s4) p4)).app (.cons (dp_off at4 (hn c (List.mem_of_getElem? hi) hf) hu) .nil)
  | false =>
    show Cz K H xs f v Dl (i + 1) H3
    refine ⟨p1, p2.trans s3, acc, s3 _ _ p3, ?_⟩
    rw [take_some hi, List.filter_append, List.map_append, List.filter_cons, if_neg (by rw [hf]; decide)]
    show DpAll K H3 acc (_ ++ [])
    rw [List.append_nil]
    exact DpAll.same s3 p4
/-- [e for target in xs if test] -/
theorem ed_lc {xs : List D} (f : D → Bool) (v : D → D) (h : EvD K tl σ H d) (hx : its? d = some xs) (hz : xs.length ≤ 1000) (hn : ∀ c ∈ xs, f c = true → noL (v c) = true)
    (ht : ∀ (i : Nat) (x : V) (c : D) H1, Same H H1 → xs[i]? = some c → Dp K H1 x c → Turns K g t te σ vs f v x c H1) : EvD K (tLc (iSeq K tl) g t te vs) σ H (.list ((xs.filter f).map v)) := fun H0 s0 Q q =>
  h H0 s0 _ fun u H1 s1 hu => by
    obtain ⟨b, a, ys, rfl, hs, hall⟩ := hu.seq hx
    refine ⟨b, a, rfl, ⟨ys, hs⟩, fun Dl hD => ?_⟩
    have len := hall.len
    have s01 := s0.trans s1
    have step : ∀ (i : Nat) (x : V) (H' : Hp), ys[i]? = some x → Cz K H1 xs f v Dl i H' → g x (wipe σ vs) H' fun σ2 H2 => wipe σ2 vs = wipe σ vs ∧ t σ2 H2 fun b H3 =>
        if b = true then te σ2 H3 fun y H4 => ∃ acc, H4 Dl = some (.lst acc) ∧ acc.length < sizeLine ∧ Cz K H1 xs f v Dl (i + 1) (upd H4 Dl (.lst (acc ++ [y]))) else Cz K H1 xs f v Dl (i + 1) H3 := fun i x H' hi p => by
      obtain ⟨c, hc, dx⟩ := hall.get hi
      have sp : Same H1 H' := p.2.1
      exact ht i x c H' (s01.trans sp) hc (Dp.same sp dx) _ fun σ2 hw et ed => ⟨hw, cz_turn p hc hz hn et ed⟩
    have fin : ∀ H', Cz K H1 xs f v Dl ys.length H' → Q (.ref Dl) H' := fun H' p => by
      obtain ⟨p1, p2, acc, p3, p4⟩ := p
      refine q _ H' (s1.trans p2) (.lst (SqL.of p3) ?_)
      rw [len, List.take_length] at p4
      exact p4
    have start : Cz K H1 xs f v Dl 0 (upd H1 Dl (.lst [])) := ⟨hD, Same.new hD, [], upd_same, .nil⟩
    cases b with
    | true => exact lc_list (xs := ys) (Cz K H1 xs f v Dl) start (fun i H' _ p => Same.sql p.2.1 hs) step fin
    | false => exact lc_tup (xs := ys) (Cz K H1 xs f v Dl) start (fun i H' _ p => Same.sqt p.2.1 hs) step fin
theorem turns_name {j : Nat} {f : D → Bool} {v : D → D} {x : V} {c : D} (hw : wipe ((wipe σ vs).set j (some x)) vs = wipe σ vs) (ht : EvT t ((wipe σ vs).set j (some x)) H (f c)) (he : f c = true → EvD K te ((wipe σ vs).set j (some x)) H (v c)) :
    Turns K (gName j) t te σ vs f v x c H := fun R r => r _ hw ht he
theorem et_yes : EvT tYes σ H true := fun H1 s Q q => q H1 (Same.refl H1)
/-! ### for -/
theorem s_for {tb : TS} {D' : Ends} {xs : List D} (h : EvD K tl σ H d) (hx : its? d = some xs) (Pv : Nat → L2.St → Prop) (h0 : Pv 0 σ)
    (hs : ∀ (i : Nat) (x : V) (c : D) (σ' : L2.St) (H' : Hp), Same H H' → xs[i]? = some c → Dp K H' x c → Pv i σ' → g x σ' H' fun σ2 H2 => tb { D' with nx := fun s h => Same H' h ∧ Pv (i + 1) s, ct := fun s h => Same H' h ∧ Pv (i + 1) s, bk := D'.nx } σ2 H2)
    (hd : ∀ σ' H', Same H H' → Pv xs.length σ' → D'.nx σ' H') : tFor (iSeq K tl) g tb D' σ H :=
  h H (Same.refl H) _ fun u H1 s1 hu => by
    obtain ⟨b, a, ys, rfl, hs1, hall⟩ := hu.seq hx
    refine ⟨b, a, rfl, ⟨ys, hs1⟩, ?_⟩
    have len := hall.len
    let W : Nat → Nat → L2.St → Hp → Prop := fun i m s h => m = ys.length - i ∧ i ≤ ys.length ∧ Same H1 h ∧ Pv i s
    refine ⟨W, ⟨ys.length, by simp, Nat.zero_le _, Same.refl H1, h0⟩, ?_⟩
    rintro i m s h ⟨rfl, hi, sm, pv⟩
    by_cases lt : i < ys.length
    · refine Or.inr ⟨?_, fun s' h' => Same h h' ∧ Pv (i + 1) s', fun s' h' z => ⟨ys.length - (i + 1), by omega, rfl, lt, sm.trans z.1, z.2⟩, fun x H' y => ?_⟩
      · cases b with
        | true => exact ⟨ys, ys[i], Same.sql sm hs1, by simp [lt]⟩
        | false => exact ⟨ys, ys[i], Same.sqt sm hs1, by simp [lt]⟩
      · have y' : H' = h ∧ ys[i]? = some x := by
          cases b with
          | true => exact ⟨y.1, y.2 _ (Same.sql sm hs1)⟩
          | false => exact ⟨y.1, y.2 _ (Same.sqt sm hs1)⟩
        obtain ⟨e, hx'⟩ := y'
        subst e
        obtain ⟨c, hc, dx⟩ := hall.get hx'
        exact hs i x c s _ (s1.trans sm) hc (Dp.same sm dx) pv
    · have e : i = ys.length := by omega
      subst e
      refine Or.inl ⟨?_, hd s h (s1.trans sm) (by rw [← len]; exact pv)⟩
      cases b with
      | true => exact ⟨ys, Same.sql sm hs1, Nat.le_refl _⟩
      | false => exact ⟨ys, Same.sqt sm hs1, Nat.le_refl _⟩
end
end G4
/-! D4: check_direction. -/
namespace G4
open PySem PySem.Spec PyProof.Rows L2
/-- three small numbers -/
def ints3 (d : D) : Option (List Int) := match its? d with
  | some [.int a, .int b, .int c] => if (-10000 ≤ a ∧ a ≤ 10000) ∧ (-10000 ≤ b ∧ b ≤ 10000) ∧ (-10000 ≤ c ∧ c ≤ 10000) then some [a, b, c] else none
  | _ => none
/-- what is wrong with a direction on the face n -/
def wordV (n : Nat) (v : List Int) : Option Str :=
  if v.getD (n / 2) 0 ≠ 0 then some "axis"
  else if v.getD (axN n).1 0 = 0 ∧ v.getD (axN n).2 0 = 0 then some "both"
  else if Nat.gcd (v.getD (axN n).1 0).natAbs (v.getD (axN n).2 0).natAbs ≠ 1 then some "common"
  else none
def dirO (n : Nat) (d : D) : Str ⊕ List Int := match ints3 d with
  | none => .inl "kind"
  | some v => match wordV n v with
    | some w => .inl w
    | none => .inr v
def fCDir : List D → Out
  | [f, d] => if faceB f then (match dirO (faceN f) d with
    | .inl w => .bad .dirn (.str w)
    | .inr v => .ok (.tuple (v.map .int))) else .bad .face f
  | _ => .no
theorem n2CDir : ∀ ds, fCDir ds ≠ .no → ds.length = 2 := len2 rfl (fun _ => rfl) fun _ _ _ _ => rfl
theorem three_of {xs : List D} (h : xs.length = 3) : ∃ x y z, xs = [x, y, z] := match xs, h with
  | [x, y, z], _ => ⟨x, y, z, rfl⟩
theorem ints3_none {d : D} (h : its? d = none) : ints3 d = none := by unfold ints3; rw [h]
theorem ints3_len {d : D} {xs : List D} (h : its? d = some xs) (l : xs.length ≠ 3) : ints3 d = none := by
  unfold ints3
  rw [h]
  match xs, l with
  | [], _ => rfl
  | [a], _ => cases a <;> rfl
  | [a, b], _ => cases a <;> first | rfl | (cases b <;> rfl)
  | [_, _, _], l => exact absurd rfl l
  | a :: b :: c :: _ :: _, _ => cases a <;> first | rfl | (cases b <;> first | rfl | (cases c <;> rfl))
theorem ints3_bad {d x y z : D} (h : its? d = some [x, y, z]) (l : wholeB x (-10000) 10000 = false ∨ wholeB y (-10000) 10000 = false ∨ wholeB z (-10000) 10000 = false) : ints3 d = none := by
  unfold ints3
  rw [h]
  cases x with
  | int p =>
    cases y with
    | int q =>
      cases z with
      | int r =>
        refine if_neg fun w => ?_
        rcases l with l | l | l <;> (simp [wholeB] at l; omega)
      | _ => rfl
    | _ => rfl
  | _ => rfl
theorem ints3_good {d x y z : D} (h : its? d = some [x, y, z]) (l : wholeB x (-10000) 10000 = true ∧ wholeB y (-10000) 10000 = true ∧ wholeB z (-10000) 10000 = true) :
    ∃ a b c : Int, x = .int a ∧ y = .int b ∧ z = .int c ∧ ints3 d = some [a, b, c] := by
  obtain ⟨h1, h2, h3⟩ := l
  obtain ⟨a, rfl, a1, a2⟩ := whole_int h1
  obtain ⟨b, rfl, b1, b2⟩ := whole_int h2
  obtain ⟨c, rfl, c1, c2⟩ := whole_int h3
  refine ⟨a, b, c, rfl, rfl, rfl, ?_⟩
  unfold ints3
  rw [h]
  exact if_pos ⟨⟨a1, a2⟩, ⟨b1, b2⟩, c1, c2⟩
theorem ints3_its {d : D} {v : List Int} (h : ints3 d = some v) : its? d = some (v.map .int) ∧ v.length = 3 := by
  unfold ints3 at h
  split at h
  · rename_i a b c e
    split at h
    · cases h
      exact ⟨e, rfl⟩
    · cases h
  · cases h
theorem dirO_kind {n : Nat} {d : D} (h : ints3 d = none) : dirO n d = .inl "kind" := by unfold dirO; rw [h]
theorem map_getD {v : List Int} {j : Nat} (h : j < v.length) : (v.map (PyData.int))[j]? = some (.int (v.getD j 0)) := by
  rw [List.getElem?_map, List.getElem?_eq_getElem h, List.getD_eq_getElem?_getD, List.getElem?_eq_getElem h]
  rfl
theorem over_map {v : List Int} {n : Nat} (h : (axN n).1 < v.length ∧ (axN n).2 < v.length) : overAx n (v.map PyData.int) = [.int (v.getD (axN n).1 0), .int (v.getD (axN n).2 0)] := by
  unfold overAx
  rw [List.getD_eq_getElem?_getD, List.getD_eq_getElem?_getD, map_getD h.1, map_getD h.2]
  rfl
/-- n items -/
def isLen (d : D) (n : Nat) : Bool := match its? d with
  | some xs => decide (xs.length = n)
  | none => false
theorem isLen_yes {d : D} {n : Nat} (h : isLen d n = true) : ∃ xs, its? d = some xs ∧ xs.length = n := by
  unfold isLen at h
  split at h
  · rename_i xs e
    exact ⟨xs, e, by simpa using h⟩
  · cases h
theorem isLen_no {d : D} {n : Nat} (h : isLen d n = false) : its? d = none ∨ ∃ xs, its? d = some xs ∧ xs.length ≠ n := by
  unfold isLen at h
  split at h
  · rename_i xs e
    exact Or.inr ⟨xs, e, by simpa using h⟩
  · rename_i e
    exact Or.inl e
theorem et_len {K : PySem.W.Frag} {σ : L2.St} {H : Hp} {ta tb : TE} {d : D} {n : Nat} (ha : EvD K ta σ H d) (hb : EvD K tb σ H d) :
    EvT (tOr (tNot (tB (tCB (rIsiT K) (tCons ta (tCons (tTup (tCons (tC (.ty "list")) (tCons (tC (.ty "tuple")) tNil))) tNil))))) (tTest (tOp rNe (tCB (rLenS K) (tCons tb tNil)) (tC (.int (n : Int)))))) σ H (!isLen d n) := by
  refine et_is (b := !isLen d n) (et_or (b := !decide ((((its? d).getD []).length : Int) = (n : Int))) (et_not (et_B (ev_isiS ha))) fun hb' => ?_) ?_
  · have sq : isSeq d = true := by simpa using hb'
    obtain ⟨xs, ex⟩ := Option.isSome_iff_exists.mp sq
    refine et_test (ev_neI (ev_len hb ?_) ev_c)
    rw [ex]
    rfl
  · unfold isSeq isLen
    cases its? d with
    | none => rfl
    | some xs =>
      show (!true || !decide ((xs.length : Int) = (n : Int))) = !decide (xs.length = n)
      rw [Bool.not_true, Bool.false_or]
      congr 1
      exact decide_eq_decide.mpr Int.ofNat_inj
section
variable {P : Program} {w : World} {K : PySem.W.Frag} {mg : Str → Option Value} {base : Heap} {cl : Kd → Addr} {pe : Addr}
theorem ok_cdir (M : Mo K mg cl pe) : Kept P w K mg base 6 "check_direction" (spF K cl fCDir) [] := by
  refine kept_all (ps := pCDir) M.aCDir (fun f fd F => F.ok scCDir (spF_len n2CDir) fun cdv A outer s H vs Q E hr h => ?_) fun _ _ _ _ _ _ us hl => match us, hl with | [_, _], _ => rfl
  obtain ⟨d, t, v, u, rfl, hv, hu, q⟩ := in2 n2CDir h
  have tk : L2N.Takes (cxOf (L2N.CX P w) P w K mg base nCDir "check_direction" (defScope sCDir) f cdv A outer s H E) (own E) := L2N.takes_of rfl rfl rfl rfl
  have th : Thrown P w K mg base (cl .dirn) "BadDirection" (Kd.fld .dirn) := thrown_dirn M
  obtain ⟨tS, gS⟩ := M.mStep
  refine ⟨_, pss_cons (ps_expr (pe_k (E := WE (own E)) (ok_cface M) hr (by decide) (fun σ => L2N.passAt tk σ) (pa_cons (pv 0) pa_nil)))
    (pss_cons (ps_if (PW.pt (pw_or (pt_not (pt_val (e_isiS M (pv 1)))) (pw_or1 (pt_cmpR op_ne (e_len (M := M) (ha := pv 1)) pe_int (nomark _))))) (pss_one (ps_throw (W := own E) th rfl hr (by decide) tk pe_str)) pss_nil)
    (pss_cons (ps_for (L2.passes_of rfl) rfl (pi_seq (pv 1)) (pg_name (i := 2) scCDir.nd rfl (.inl rfl))
      (pss_one (ps_if (pt_not (pt_val (pe_k (E := fun _ => E0) (ok_whole M) hr (by decide) pass0N (pa_cons (pv 2) (pa_cons (pe_un un_neg (pe_glob (v := .int 10000) rfl gS ⟨_, rfl⟩)) (pa_cons (pe_glob (v := .int 10000) rfl gS ⟨_, rfl⟩) pa_nil))))))
        (pss_one (ps_throw (W := own E) th rfl hr (by decide) tk pe_str)) pss_nil)))
    (pss_cons (ps_if (pt_cmpR op_ne (pe_ix ix_seq (pv 1) (pe_op op_fdiv (pv 0) pe_int) (fun _ _ => rfl)) pe_int (nomark _)) (pss_one (ps_throw (W := own E) th rfl hr (by decide) tk pe_str)) pss_nil)
    (pss_cons (ps_asg (pe_k (E := WE (own E)) (ok_framed M) hr (by decide) (fun σ => L2N.passAt tk σ) (pa_cons (pv 0) (pa_cons (pv 1) pa_nil))) (pg_tup rfl (pgs_cons (pg_name (i := 3) scCDir.nd rfl (.inl rfl)) (pgs_cons (pg_name (i := 4) scCDir.nd rfl (.inl rfl)) pgs_nil))))
    (pss_cons (ps_if (PW.pt (pw_and (pt_cmpR op_eq (pv 3) pe_int (nomark _)) (pw_and1 (pt_cmpR op_eq (pv 4) pe_int (nomark _))))) (pss_one (ps_throw (W := own E) th rfl hr (by decide) tk pe_str)) pss_nil)
    (pss_cons (ps_if (pt_cmpR op_ne (e_gcd M (pv 3) (pv 4)) pe_int (nomark _)) (pss_one (ps_throw (W := own E) th rfl hr (by decide) tk pe_str)) pss_nil)
    (pss_one (ps_ret (e_tuple (M := M) (ha := pv 1)))))))))), ?_⟩
  cases e : faceB d with
  | false =>
    have q' : Bad K cl .face d H E := by
      have : Gets K cl (fCDir [d, t]) H Q E := q
      simp only [fCDir, e] at this
      exact this
    exact q_dropR (er_k0 (F := fCFace) (ea_cons (ed_var hv) ea_nil) (by simp [fCFace, e])) q'
  | true =>
    have q1 : Gets K cl (match dirO (faceN d) t with
      | .inl w => .bad .dirn (.str w)
      | .inr v => .ok (.tuple (v.map .int))) H Q E := by
      have : Gets K cl (fCDir [d, t]) H Q E := q
      simp only [fCDir, e] at this
      exact this
    obtain ⟨n, rfl, hn, en⟩ := face_int e
    rw [en] at q1
    obtain ⟨a1, a2, _⟩ := axN_lt hn
    refine q_dropD (ed_k0 (F := fCFace) (r := .int (n : Int)) (ea_cons (ed_var hv) ea_nil) (by simp [fCFace, e])) fun H1 s1 => ?_
    have out : ∀ {wd : Str} {H1 : Hp} {σ : L2.St} {D1 : Ends}, Same H H1 → dirO n t = .inl wd → tRaise (cl .dirn) (Kd.fld .dirn) (own E) (tC (.str wd)) D1 σ H1 := fun s1 e => by
      rw [e] at q1
      exact s_raise (cl := cl) (k := .dirn) ed_str (Bad.mono s1 q1)
    refine q_when (et_len (n := 3) (ed_var (Dp.same s1 hu)) (ed_var (Dp.same s1 hu))) (fun hb H2 s2 => ?_) (fun hb H2 s2 => ?_)
    · refine out (s1.trans s2) (dirO_kind ?_)
      rcases isLen_no (n := 3) (by simpa using hb) with z | ⟨xs, z, l⟩
      · exact ints3_none z
      · exact ints3_len z l
    obtain ⟨xs, ex, l3⟩ := isLen_yes (n := 3) (d := t) (by simpa using hb)
    have s02 := s1.trans s2
    let σ0 : L2.St := [some v, some u, none, none, none]
    refine s_for (K := K) (ed_var (Dp.same s02 hu)) ex (fun i σ' => (∃ o, σ' = [some v, some u, o, none, none]) ∧ ∀ j < i, ∀ c, xs[j]? = some c → wholeB c (-10000) 10000 = true) ⟨⟨none, rfl⟩, fun j h => absurd h (Nat.not_lt_zero j)⟩ (fun i x c σ' H' s3 hc hx pv => ?_) (fun σ' H' s3 pv => ?_)
    · obtain ⟨⟨o, rfl⟩, pv⟩ := pv
      have hx' : EvD K (tVar 2) [some v, some u, some x, none, none] H' c := ed_var hx
      refine s_if (b := !wholeB c (-10000) 10000) (et_not (et_B (ev_B (ed_k0 (F := fWhole) (ea_cons hx' (ea_cons (ed_I (ev_neg ev_c)) (ea_cons ed_int ea_nil))) rfl)))) (fun hb H4 s4 => ?_) (fun hb H4 s4 => ?_)
      · refine out ((s02.trans s3).trans s4) (dirO_kind ?_)
        obtain ⟨x1, x2, x3, rfl⟩ := three_of l3
        refine ints3_bad ex ?_
        have hb' : wholeB c (-10000) 10000 = false := by simpa using hb
        match i, hc with
        | 0, hc => cases hc; exact Or.inl hb'
        | 1, hc => cases hc; exact Or.inr (Or.inl hb')
        | 2, hc => cases hc; exact Or.inr (Or.inr hb')
      · refine ⟨s4, ⟨some x, rfl⟩, fun j hj c' hc' => ?_⟩
        rcases Nat.lt_succ_iff_lt_or_eq.mp hj with z | z
        · exact pv j z c' hc'
        · subst z
          rw [hc] at hc'
          cases hc'
          simpa using hb
    · obtain ⟨⟨o, rfl⟩, pv⟩ := pv
      obtain ⟨x1, x2, x3, rfl⟩ := three_of l3
      obtain ⟨i1, i2, i3, rfl, rfl, rfl, e3⟩ := ints3_good ex ⟨pv 0 (by simp) _ rfl, pv 1 (by simp) _ rfl, pv 2 (by simp) _ rfl⟩
      have s03 := s02.trans s3
      have hu3 := Dp.same s03 hu
      have hv3 := Dp.same s03 hv
      have n2 : n / 2 < 3 := by omega
      have ex' : its? t = some (([i1, i2, i3] : List Int).map PyData.int) := ex
      refine q_when (et_test (ev_neI (ev_I (ed_ix (j := n / 2) (c := .int (([i1, i2, i3] : List Int).getD (n / 2) 0)) (ed_var hu3) ex' (ev_is (ev_opI (ev_I (ed_var hv3)) ev_c ⟨by decide, by decide⟩) (by rfl)) (map_getD n2))) ev_c)) (fun hb H4 s4 => ?_) (fun hb H4 s4 => ?_)
      · refine out (s03.trans s4) ?_
        unfold dirO
        rw [e3]
        show (match wordV n [i1, i2, i3] with | some w => Sum.inl w | none => Sum.inr [i1, i2, i3]) = _
        unfold wordV
        rw [if_pos (by simpa using hb)]
      have hb1 : ([i1, i2, i3] : List Int).getD (n / 2) 0 = 0 := by simpa using hb
      have ov := over_map (v := [i1, i2, i3]) (n := n) ⟨a1, a2⟩
      obtain ⟨p1, hp1⟩ : ∃ p1, p1 = ([i1, i2, i3] : List Int).getD (axN n).1 0 := ⟨_, rfl⟩
      obtain ⟨p2, hp2⟩ : ∃ p2, p2 = ([i1, i2, i3] : List Int).getD (axN n).2 0 := ⟨_, rfl⟩
      rw [← hp1, ← hp2] at ov
      have wd : wordV n [i1, i2, i3] = (if p1 = 0 ∧ p2 = 0 then some ("both" : Str) else if Nat.gcd p1.natAbs p2.natAbs ≠ 1 then some ("common" : Str) else none : Option Str) := by
        unfold wordV
        rw [if_neg (by simpa using hb1), ← hp1, ← hp2]
      have dr : dirO n t = match wordV n [i1, i2, i3] with | some w => Sum.inl w | none => Sum.inr [i1, i2, i3] := by
        unfold dirO
        rw [e3]
      rw [wd] at dr
      have fr : fFramed [.int (n : Int), t] = .ok (.tuple [.int p1, .int p2]) := by
        simp only [fFramed, e]
        rw [ex']
        show (if (([i1, i2, i3] : List Int).map PyData.int).length = 3 then Out.ok (.tuple (overAx (faceN (.int (n : Int))) _)) else Out.no) = _
        have l3' : (([i1, i2, i3] : List Int).map PyData.int).length = 3 := rfl
        rw [if_pos l3', en, ov]
      refine q_asg2 (d := .tuple [.int p1, .int p2]) (ed_k0 (F := fFramed) (ea_cons (ed_var (Dp.same s4 hv3)) (ea_cons (ed_var (Dp.same s4 hu3)) ea_nil)) fr) rfl fun w1 w2 H5 s5 h1 h2 => ?_
      have ew1 := h1.scalI
      have ew2 := h2.scalI
      subst ew1 ew2
      have s05 := (s03.trans s4).trans s5
      refine q_when (et_and (et_test (ev_eqI ev_var ev_c)) fun _ => et_test (ev_eqI ev_var ev_c)) (fun hb H6 s6 => ?_) (fun hb H6 s6 => ?_)
      · refine out (s05.trans s6) ?_
        rw [dr, if_pos (by simpa using hb)]
      have hb2 : ¬ (p1 = 0 ∧ p2 = 0) := by simpa using hb
      refine q_when (et_test (ev_neI (ev_gcd ev_var ev_var) ev_c)) (fun hb H7 s7 => ?_) (fun hb H7 s7 => ?_)
      · refine out ((s05.trans s6).trans s7) ?_
        have g : Nat.gcd p1.natAbs p2.natAbs ≠ 1 := fun z => by
          rw [z] at hb
          simp at hb
        rw [dr, if_neg hb2, if_pos g]
      have q' : Ret K (.tuple (([i1, i2, i3] : List Int).map PyData.int)) H Q := by
        have g : ¬ (Nat.gcd p1.natAbs p2.natAbs ≠ 1) := fun z => by
          simp at hb
          exact z (by omega)
        rw [dr, if_neg hb2, if_neg g] at q1
        exact q1
      exact s_ret (ed_tuple (ed_var (Dp.same ((s05.trans s6).trans s7) hu)) ex') (Ret.mono ((s05.trans s6).trans s7) q')
end
end G4
/-! D5: directions_on. -/
namespace G4
open PySem PySem.Spec PyProof.Rows L2
/-! ### in order -/
theorem leI_total (a b : List Int) : leI a b ∨ leI b a := by
  unfold leI
  cases h1 : lexLt itemOrd (keyI b) (keyI a) with
  | false => exact Or.inl rfl
  | true =>
    cases h2 : lexLt itemOrd (keyI a) (keyI b) with
    | false => exact Or.inr rfl
    | true =>
      have z := lex_trans (O := itemOrd) (keyI a) (keyI b) (keyI a) h2 h1
      rw [lex_irrefl (O := itemOrd)] at z
      cases z
instance (a b : List Int) : Decidable (leI a b) := by unfold leI; infer_instance
def sortI (l : List (List Int)) : List (List Int) := l.mergeSort fun a b => decide (leI a b)
theorem sortI_perm (l : List (List Int)) : (sortI l).Perm l := List.mergeSort_perm _ _
theorem sortI_ord (l : List (List Int)) : (sortI l).Pairwise leI := by
  have h := List.pairwise_mergeSort (le := fun a b => decide (leI a b)) (fun a b c h1 h2 => by
    simp at h1 h2 ⊢
    exact leI_trans h1 h2) (fun a b => by
    simp
    exact leI_total a b) l
  exact h.imp fun h => by simpa using h
theorem sortI_same {l m : List (List Int)} (h : l.Perm m) : sortI l = sortI m := ordered_one (((sortI_perm l).trans h).trans (sortI_perm m).symm) (sortI_ord l) (sortI_ord m)
def tupI (v : List Int) : D := .tuple (v.map .int)
theorem noL_ints : ∀ v : List Int, noLs (v.map PyData.int) = true
  | [] => by simp [noLs]
  | i :: v => by
    show noLs (.int i :: v.map PyData.int) = true
    unfold noLs
    rw [noL_ints v]
    rfl
theorem noL_tupI (v : List Int) : noL (tupI v) = true := by
  unfold tupI noL
  exact noL_ints v
section
variable {K : PySem.W.Frag} {H : Hp}
theorem dps_ints : ∀ {v : List Int} {xs : List V}, DpAll K H xs (v.map PyData.int) → xs = v.map V.int
  | [], _, .nil => rfl
  | i :: v, _, .cons h t => by rw [h.scalI, dps_ints t]; rfl
theorem ints_dps : ∀ v : List Int, DpAll K H (v.map V.int) (v.map PyData.int)
  | [] => .nil
  | i :: v => .cons (.int i) (ints_dps v)
theorem dp_tupI {v : List Int} {x : V} (h : Dp K H x (tupI v)) : ∃ a, x = .ref a ∧ SqT K H a (v.map V.int) := by
  unfold tupI at h
  cases h with
  | tup hs ha => exact ⟨_, rfl, by rw [← dps_ints ha]; exact hs⟩
theorem tupI_dp {v : List Int} {a : Addr} (h : SqT K H a (v.map V.int)) : Dp K H (.ref a) (tupI v) := .tup h (ints_dps v)
theorem dps_tups : ∀ {l : List (List Int)} {xs : List V}, DpAll K H xs (l.map tupI) → ∃ L : List (Addr × List Int), xs = L.map refV ∧ L.map (·.2) = l ∧ ∀ p ∈ L, SqT K H p.1 (p.2.map V.int)
  | [], _, .nil => ⟨[], rfl, rfl, fun p h => by cases h⟩
  | v :: l, _, .cons h t => by
    obtain ⟨L, rfl, e2, e3⟩ := dps_tups t
    obtain ⟨a, rfl, hs⟩ := dp_tupI h
    refine ⟨(a, v) :: L, rfl, by rw [List.map_cons, e2], fun p hp => ?_⟩
    rcases List.mem_cons.mp hp with z | z
    · rw [z]
      exact hs
    · exact e3 p z
theorem tups_dps : ∀ {L : List (Addr × List Int)}, (∀ p ∈ L, SqT K H p.1 (p.2.map V.int)) → DpAll K H (L.map refV) ((L.map (·.2)).map tupI)
  | [], _ => .nil
  | p :: L, h => .cons (tupI_dp (h p List.mem_cons_self)) (tups_dps fun p hp => h p (List.mem_cons_of_mem _ hp))
/-- sorted -/
theorem ed_sort {σ : L2.St} {ta : TE} {l : List (List Int)} (h : EvD K ta σ H (.list (l.map tupI))) (hn : ∀ v ∈ l, v ≠ []) : EvD K (tCB (rSortN K) (tCons ta tNil)) σ H (.list ((sortI l).map tupI)) := fun H1 s _ q =>
  h H1 s _ fun x H2 s2 hx => by
    cases hx with
    | @lst a xs _ hs ha =>
      obtain ⟨L, rfl, e2, e3⟩ := dps_tups ha
      refine ⟨a, L, rfl, hs, fun p hp => ⟨e3 p hp, hn p.2 (by rw [← e2]; exact List.mem_map_of_mem hp)⟩, fun Mv q' pm ord hq => q _ _ (s2.newR hq) (.lst (SqL.of upd_same) ?_)⟩
      have e4 : sortI l = Mv.map (·.2) := by
        have e5 := pm.map Prod.snd
        rw [e2] at e5
        exact ordered_one ((sortI_perm l).trans e5.symm) (sortI_ord l) ord
      rw [e4]
      exact DpAll.same (Same.new hq) (tups_dps fun p hp => e3 p (pm.mem_iff.mp hp))
/-- a target of two names -/
theorem turns_pair {t : TT} {te : TE} {σ : L2.St} {vs : List Nat} {i j : Nat} {f : D → Bool} {v : D → D} {x : V} {c1 c2 : D} (hx : Dp K H x (.tuple [c1, c2]))
    (h : ∀ u z, Dp K H u c1 → Dp K H z c2 → wipe (((wipe σ vs).set i (some u)).set j (some z)) vs = wipe σ vs ∧ EvT t (((wipe σ vs).set i (some u)).set j (some z)) H (f (.tuple [c1, c2])) ∧ (f (.tuple [c1, c2]) = true → EvD K te (((wipe σ vs).set i (some u)).set j (some z)) H (v (.tuple [c1, c2])))) :
    Turns K (gTup K 2 (gCons (gName i) (gCons (gName j) gNil))) t te σ vs f v x (.tuple [c1, c2]) H := fun R r => by
  cases hx with
  | @tup a xs _ hs ha =>
    obtain ⟨u, z, rfl, h1, h2⟩ := dp2 ha
    obtain ⟨k1, k2, k3⟩ := h u z h1 h2
    exact ⟨a, _, rfl, hs, rfl, _, _, rfl, _, _, rfl, rfl, r _ k1 k2 k3⟩
end
/-! ### directions_on -/
def unI (n : Nat) (x y : Int) : List Int := (([0, 0, 0] : List Int).set (axN n).1 x).set (axN n).2 y
theorem unAx_int (n : Nat) (x y : Int) : PyData.tuple (unAx n (.int x) (.int y)) = tupI (unI n x y) := by
  unfold tupI unI unAx
  rw [List.map_set, List.map_set]
  rfl
theorem unI_ne (n : Nat) (x y : Int) : unI n x y ≠ [] := fun e => by
  have l : (unI n x y).length = 3 := by unfold unI; rw [List.length_set, List.length_set]; rfl
  rw [e] at l
  cases l
def dirs (n : Nat) (p q : Int) : List (List Int) := [unI n p q, unI n (-q) p, unI n (-p) (-q), unI n q (-p)]
def fDirsOn : List D → Out
  | [f, d] => if faceB f then (match slopeO d true with
    | some (p, q) => .ok (.tuple ((sortI (dirs (faceN f) p q)).map tupI))
    | none => .bad .slope d) else .bad .face f
  | _ => .no
theorem n2DirsOn : ∀ ds, fDirsOn ds ≠ .no → ds.length = 2 := len2 rfl (fun _ => rfl) fun _ _ _ _ => rfl
def unD (n : Nat) : D → D
  | .tuple [.int a, .int b] => tupI (unI n a b)
  | _ => .none
section
variable {X : Cx} {cl : Kd → Addr} {pe : Addr} {a b : Expr} {ta tb : TE} {p p2 p3 p4 pos : Pos} {k4 : Nat}
variable (h1 : starEach (a :: []) X.env = (false, eval a X.env) :: starEach [] X.env := by rfl) (h3 : (backTo pos (starEach [] X.env)).any (·.1) = false := by rfl)
include h1 h3
theorem e_sorted (M : Mo X.K X.mg cl pe) (ha : PE X a ta) (hg : Gl X "sorted" := by rfl) : PE X (.Call (.Name "sorted" p) [a] [] pos) (tCB (rSortN X.K) (tCons ta tNil)) :=
  pe_callB cr_sortN hg (M.nob "sorted") (by decide +kernel) (pa_cons ha pa_nil h1) (by decide) (by decide) h1 h3
end
section
variable {P : Program} {w : World} {K : PySem.W.Frag} {mg : Str → Option Value} {base : Heap} {cl : Kd → Addr} {pe : Addr}
theorem ok_dirson (M : Mo K mg cl pe) : Kept P w K mg base 6 "directions_on" (spF K cl fDirsOn) [] := by
  refine kept_all (ps := pDirsOn) M.aDirsOn (fun f fd F => F.ok scDirsOn (spF_len n2DirsOn) fun cdv A outer s H vs Q E hr h => ?_) fun _ _ _ _ _ _ us hl => match us, hl with | [_, _], _ => rfl
  obtain ⟨d, t, v, u, rfl, hv, hu, q⟩ := in2 n2DirsOn h
  have tk : L2N.Takes (cxOf (L2N.CX P w) P w K mg base nDirsOn "directions_on" (defScope sDirsOn) f cdv A outer s H E) (own E) := L2N.takes_of rfl rfl rfl rfl
  refine ⟨_, pss_cons (ps_expr (pe_k (E := WE (own E)) (ok_cface M) hr (by decide) (fun σ => L2N.passAt tk σ) (pa_cons (pv 0) pa_nil)))
    (pss_cons (ps_asg (pe_k (E := WE (own E)) (ok_cslope M) hr (by decide) (fun σ => L2N.passAt tk σ) (pa_cons (pv 1) (pa_cons pe_bl pa_nil))) (pg_tup rfl (pgs_cons (pg_name (i := 2) scDirsOn.nd rfl (.inl rfl)) (pgs_cons (pg_name (i := 3) scDirsOn.nd rfl (.inl rfl)) pgs_nil))))
    (pss_one (ps_ret (e_tuple (M := M) (ha := e_sorted (M := M) (ha := pe_lc (own := [("a", 4), ("b", 5)]) (g := gTup K 2 (gCons (gName 4) (gCons (gName 5) gNil))) (tt := tYes) (te := tCallSD (spF K cl fUnfr) [] (fun _ => E0) (tCons (tVar 0) (tCons (tVar 4) (tCons (tVar 5) tNil)))) rfl scDirsOn.nd
      (pi_seq (pe_tup (pa_cons (pe_tup (pa_cons (pv 2) (pa_cons (pv 3) pa_nil))) (pa_cons (pe_tup (pa_cons (pe_un un_neg (pv 3)) (pa_cons (pv 2) pa_nil))) (pa_cons (pe_tup (pa_cons (pe_un un_neg (pv 2)) (pa_cons (pe_un un_neg (pv 3)) pa_nil))) (pa_cons (pe_tup (pa_cons (pv 3) (pa_cons (pe_un un_neg (pv 2)) pa_nil))) pa_nil))))))
      (blkOk_by (N := nDirsOn) (sc := defScope sDirsOn) (by decide +kernel)) (fun _ _ _ _ _ => pg_tup rfl (pgs_cons (pg_name (i := 4) scDirsOn.nd rfl (.inl rfl)) (pgs_cons (pg_name (i := 5) scDirsOn.nd rfl (.inl rfl)) pgs_nil))) (fun _ _ _ _ _ => pts_nil)
      (fun _ _ _ _ _ => pe_k (E := fun _ => E0) (ok_unfr M) hr (by decide) pass0N (pa_cons (pv 0) (pa_cons (pv 4) (pa_cons (pv 5) pa_nil)))))))))), ?_⟩
  cases e : faceB d with
  | false =>
    have q' : Bad K cl .face d H E := by
      have : Gets K cl (fDirsOn [d, t]) H Q E := q
      simp only [fDirsOn, e] at this
      exact this
    exact q_dropR (er_k0 (F := fCFace) (ea_cons (ed_var hv) ea_nil) (by simp [fCFace, e])) q'
  | true =>
    have q1 : Gets K cl (match slopeO t true with
      | some (p, q) => .ok (.tuple ((sortI (dirs (faceN d) p q)).map tupI))
      | none => .bad .slope t) H Q E := by
      have : Gets K cl (fDirsOn [d, t]) H Q E := q
      simp only [fDirsOn, e] at this
      exact this
    obtain ⟨n, rfl, hn, en⟩ := face_int e
    rw [en] at q1
    refine q_dropD (ed_k0 (F := fCFace) (r := .int (n : Int)) (ea_cons (ed_var hv) ea_nil) (by simp [fCFace, e])) fun H1 s1 => ?_
    have hu1 := Dp.same s1 hu
    cases es : slopeO t true with
    | none =>
      rw [es] at q1
      exact q_asgRg (er_k0 (F := fCSlope) (ea_cons (ed_var hu1) (ea_cons ed_bl ea_nil)) (by simp [fCSlope, es])) (Bad.mono s1 q1)
    | some pr =>
      obtain ⟨p, r⟩ := pr
      rw [es] at q1
      have q' : Ret K (.tuple ((sortI (dirs n p r)).map tupI)) H Q := q1
      refine q_asg2 (d := pairI p r) (ed_k0 (F := fCSlope) (ea_cons (ed_var hu1) (ea_cons ed_bl ea_nil)) (by simp [fCSlope, es])) rfl fun x z H2 s2 hx hz => ?_
      have ex := hx.scalI
      have ez := hz.scalI
      subst ex ez
      refine s_ret (ed_tuple (xs := (sortI (dirs n p r)).map tupI) (ed_sort (l := dirs n p r) ?_ ?_) rfl) (Ret.mono (s1.trans s2) q')
      · refine ed_is (ed_lc (xs := [pairI p r, pairI (-r) p, pairI (-p) (-r), pairI r (-p)]) (fun _ => true) (unD n) (ed_tup (ea_cons (ed_tup (ea_cons (ed_var (.int p)) (ea_cons (ed_var (.int r)) ea_nil)) (by simp)) (ea_cons (ed_tup (ea_cons (ed_I (ev_neg ev_var)) (ea_cons (ed_var (.int p)) ea_nil)) (by simp))
          (ea_cons (ed_tup (ea_cons (ed_I (ev_neg ev_var)) (ea_cons (ed_I (ev_neg ev_var)) ea_nil)) (by simp)) (ea_cons (ed_tup (ea_cons (ed_var (.int r)) (ea_cons (ed_I (ev_neg ev_var)) ea_nil)) (by simp)) ea_nil)))) (by simp)) rfl (by simp) ?_ ?_) rfl
        · intro c hc _
          have : ∃ a b, c = pairI a b := by
            rcases List.mem_cons.mp hc with z | hc
            · exact ⟨_, _, z⟩
            rcases List.mem_cons.mp hc with z | hc
            · exact ⟨_, _, z⟩
            rcases List.mem_cons.mp hc with z | hc
            · exact ⟨_, _, z⟩
            rcases List.mem_cons.mp hc with z | hc
            · exact ⟨_, _, z⟩
            cases hc
          obtain ⟨a, b, rfl⟩ := this
          exact noL_tupI _
        · intro i y c H3 s3 hc hy
          have : ∃ a b, c = pairI a b := by
            match i, hc with
            | 0, hc => exact ⟨_, _, (Option.some.inj hc).symm⟩
            | 1, hc => exact ⟨_, _, (Option.some.inj hc).symm⟩
            | 2, hc => exact ⟨_, _, (Option.some.inj hc).symm⟩
            | 3, hc => exact ⟨_, _, (Option.some.inj hc).symm⟩
          obtain ⟨a, b, rfl⟩ := this
          refine turns_pair hy fun x1 x2 h1 h2 => ⟨rfl, et_yes, fun _ => ?_⟩
          have := h1.scalI
          subst this
          have := h2.scalI
          subst this
          have fu : fUnfr [.int (n : Int), .int a, .int b] = .ok (tupI (unI n a b)) := by
            rw [← unAx_int]
            simp only [fUnfr, e, en]
            rfl
          exact ed_k0 (F := fUnfr) (ea_cons (ed_var (Dp.same ((s1.trans s2).trans s3) hv)) (ea_cons (ed_var (.int a)) (ea_cons (ed_var (.int b)) ea_nil))) fu
      · intro z hz
        unfold dirs at hz
        rcases List.mem_cons.mp hz with z | hz
        · rw [z]; exact unI_ne _ _ _
        rcases List.mem_cons.mp hz with z | hz
        · rw [z]; exact unI_ne _ _ _
        rcases List.mem_cons.mp hz with z | hz
        · rw [z]; exact unI_ne _ _ _
        rcases List.mem_cons.mp hz with z | hz
        · rw [z]; exact unI_ne _ _ _
        cases hz
end
end G4
/-! D6: slope_of, left_of, back_of, outward_step. -/
namespace G4
open PySem PySem.Spec PyProof.Rows L2
/-! ### what a good direction is -/
structure Good (n : Nat) (d : D) (v : List Int) : Prop where
  its : its? d = some (v.map .int)
  len : v.length = 3
  word : wordV n v = none
theorem dirO_good {n : Nat} {d : D} {v : List Int} (h : dirO n d = .inr v) : Good n d v := by
  unfold dirO at h
  split at h
  · cases h
  · rename_i v' e
    split at h
    · cases h
    · rename_i e2
      cases h
      exact ⟨(ints3_its e).1, (ints3_its e).2, e2⟩
theorem cdir_bad {f d : D} {w : Str} (hf : faceB f = true) (h : dirO (faceN f) d = .inl w) : fCDir [f, d] = .bad .dirn (.str w) := by
  show (if faceB f then (match dirO (faceN f) d with | .inl w => Out.bad .dirn (.str w) | .inr v => .ok (.tuple (v.map .int))) else .bad .face f) = _
  rw [if_pos hf, h]
theorem cdir_ok {f d : D} {v : List Int} (hf : faceB f = true) (h : dirO (faceN f) d = .inr v) : fCDir [f, d] = .ok (tupI v) := by
  show (if faceB f then (match dirO (faceN f) d with | .inl w => Out.bad .dirn (.str w) | .inr v => .ok (.tuple (v.map .int))) else .bad .face f) = _
  rw [if_pos hf, h]
  rfl
theorem cdir_face {f d : D} (hf : faceB f = false) : fCDir [f, d] = .bad .face f := by
  show (if faceB f then _ else Out.bad .face f) = _
  rw [if_neg (by rw [hf]; decide)]
theorem framed_ok {n : Nat} {v : List Int} (hn : n ≤ 5) (l : v.length = 3) : fFramed [.int (n : Int), tupI v] = .ok (pairI (v.getD (axN n).1 0) (v.getD (axN n).2 0)) := by
  obtain ⟨a1, a2, _⟩ := axN_lt hn
  have hf : faceB (.int (n : Int)) = true := by
    show (decide ((0 : Int) ≤ n) && decide ((n : Int) ≤ 5)) = true
    simp
    omega
  show (if faceB (.int (n : Int)) then (if (v.map PyData.int).length = 3 then Out.ok (.tuple (overAx n (v.map .int))) else .no) else .bad .face _) = _
  rw [if_pos hf, if_pos (by rw [List.length_map]; exact l), over_map (by omega)]
  rfl
theorem face_nat {n : Nat} (hn : n ≤ 5) : faceB (.int (n : Int)) = true := by
  show (decide ((0 : Int) ≤ n) && decide ((n : Int) ≤ 5)) = true
  simp
  omega
theorem unfr_ok {n : Nat} {a b : Int} (hn : n ≤ 5) : fUnfr [.int (n : Int), .int a, .int b] = .ok (tupI (unI n a b)) := by
  rw [← unAx_int]
  show (if faceB (.int (n : Int)) then Out.ok (.tuple (unAx n (.int a) (.int b))) else _) = _
  rw [if_pos (face_nat hn)]
/-! ### turned a quarter until it is a slope -/
def quart : Nat → Int → Int → Int × Int
  | 0, a, b => (a, b)
  | k + 1, a, b => if 1 ≤ a ∧ 0 ≤ b then (a, b) else quart k (-b) a
/-- from a good direction something, else its fault -/
def dirF (g : Nat → List Int → D) : List D → Out
  | [f, d] => if faceB f then (match dirO (faceN f) d with
    | .inl w => .bad .dirn (.str w)
    | .inr v => .ok (g (faceN f) v)) else .bad .face f
  | _ => .no
theorem n2dirF {g : Nat → List Int → D} : ∀ ds, dirF g ds ≠ .no → ds.length = 2 := len2 rfl (fun _ => rfl) fun _ _ _ _ => rfl
def gSlopeOf (n : Nat) (v : List Int) : D := let r := quart 4 (v.getD (axN n).1 0) (v.getD (axN n).2 0); pairI r.1 r.2
def gLeftOf (n : Nat) (v : List Int) : D := tupI (unI n (-(v.getD (axN n).2 0)) (v.getD (axN n).1 0))
def gBackOf (_ : Nat) (v : List Int) : D := tupI (v.map fun i => -i)
theorem dirF_face {g : Nat → List Int → D} {f d : D} (hf : faceB f = false) : dirF g [f, d] = .bad .face f := by
  show (if faceB f then _ else Out.bad .face f) = _
  rw [if_neg (by rw [hf]; decide)]
theorem dirF_bad {g : Nat → List Int → D} {f d : D} {w : Str} (hf : faceB f = true) (h : dirO (faceN f) d = .inl w) : dirF g [f, d] = .bad .dirn (.str w) := by
  show (if faceB f then (match dirO (faceN f) d with | .inl w => Out.bad .dirn (.str w) | .inr v => .ok (g (faceN f) v)) else .bad .face f) = _
  rw [if_pos hf, h]
theorem dirF_ok {g : Nat → List Int → D} {f d : D} {v : List Int} (hf : faceB f = true) (h : dirO (faceN f) d = .inr v) : dirF g [f, d] = .ok (g (faceN f) v) := by
  show (if faceB f then (match dirO (faceN f) d with | .inl w => Out.bad .dirn (.str w) | .inr v => .ok (g (faceN f) v)) else .bad .face f) = _
  rw [if_pos hf, h]
section
variable {K : PySem.W.Frag} {cl : Kd → Addr} {σ : L2.St} {H : Hp} {tl te : TE} {g : TG} {t : TT} {e : D} {vs : List Nat} {k : Kd} {W : WX}
/-- the iterable raises -/
theorem er_lc (h : EvR K cl W tl σ H k e) : EvR K cl W (tLc (iSeq K tl) g t te vs) σ H k e := fun H1 s b Q => h H1 s b _
end
section
variable {P : Program} {w : World} {K : PySem.W.Frag} {mg : Str → Option Value} {base : Heap} {cl : Kd → Addr} {pe : Addr}
/-- the three ways of check_direction's answer -/
theorem dir_cases {g : Nat → List Int → D} {f d : D} {H : Hp} {Q : VK} {E : XK} (q : Gets K cl (dirF g [f, d]) H Q E) :
    (∃ kd e, fCDir [f, d] = .bad kd e ∧ Bad K cl kd e H E) ∨ ∃ (n : Nat) (v : List Int), f = .int (n : Int) ∧ n ≤ 5 ∧ Good n d v ∧ fCDir [f, d] = .ok (tupI v) ∧ Ret K (g n v) H Q := by
  cases hf : faceB f with
  | false =>
    rw [dirF_face hf] at q
    exact Or.inl ⟨_, _, cdir_face hf, q⟩
  | true =>
    obtain ⟨n, rfl, hn, en⟩ := face_int hf
    cases hd : dirO n d with
    | inl w =>
      rw [dirF_bad hf (by rw [en]; exact hd)] at q
      exact Or.inl ⟨_, _, cdir_bad hf (by rw [en]; exact hd), q⟩
    | inr v =>
      rw [dirF_ok hf (by rw [en]; exact hd), en] at q
      exact Or.inr ⟨n, v, rfl, hn, dirO_good hd, cdir_ok hf (by rw [en]; exact hd), q⟩
theorem ok_slopeof (M : Mo K mg cl pe) : Kept P w K mg base 7 "slope_of" (spF K cl (dirF gSlopeOf)) [] := by
  refine kept_all (ps := pSlopeOf) M.aSlopeOf (fun f fd F => F.ok scSlopeOf (spF_len n2dirF) fun cdv A outer s H vs Q E hr h => ?_) fun _ _ _ _ _ _ us hl => match us, hl with | [_, _], _ => rfl
  obtain ⟨d, t, v, u, rfl, hv, hu, q⟩ := in2 n2dirF h
  have tk : L2N.Takes (cxOf (L2N.CX P w) P w K mg base nSlopeOf "slope_of" (defScope sSlopeOf) f cdv A outer s H E) (own E) := L2N.takes_of rfl rfl rfl rfl
  refine ⟨_, pss_cons (ps_asg (pe_k (E := WE (own E)) (ok_framed M) hr (by decide) (fun σ => L2N.passAt tk σ) (pa_cons (pv 0) (pa_cons (pe_k (E := WE (own E)) (ok_cdir M) hr (by decide) (fun σ => L2N.passAt tk σ) (pa_cons (pv 0) (pa_cons (pv 1) pa_nil))) pa_nil)))
      (pg_tup rfl (pgs_cons (pg_name (i := 2) scSlopeOf.nd rfl (.inl rfl)) (pgs_cons (pg_name (i := 3) scSlopeOf.nd rfl (.inl rfl)) pgs_nil))))
    (pss_cons (ps_for (L2.passes_of rfl) rfl (pi_range1 rfl (M.nob "range") (pa_cons pe_int pa_nil)) (pg_name (i := 4) scSlopeOf.nd rfl (.inl rfl))
      (pss_cons (ps_if (PW.pt (pw_and (pt_cmpR op_ge (pv 2) pe_int (nomark _)) (pw_and1 (pt_cmpR op_ge (pv 3) pe_int (nomark _))))) (pss_one ps_break) pss_nil)
      (pss_one (ps_par (i := 2) (j := 3) rfl scSlopeOf.nd rfl rfl (by decide) rfl rfl (pa_cons (pe_un un_neg (pv 3)) (pa_cons (pv 2) pa_nil)) rfl))))
    (pss_one (ps_ret (pe_tup (pa_cons (pv 2) (pa_cons (pv 3) pa_nil)))))), ?_⟩
  rcases dir_cases q with ⟨kd, e, eb, b⟩ | ⟨n, x, rfl, hn, good, eok, q⟩
  · exact q_asgRg (er_kA (er_tail (ed_var hv) (er_head (er_k0 (F := fCDir) (ea_cons (ed_var hv) (ea_cons (ed_var hu) ea_nil)) eb)))) b
  obtain ⟨p1, hp1⟩ : ∃ p1, p1 = x.getD (axN n).1 0 := ⟨_, rfl⟩
  obtain ⟨p2, hp2⟩ : ∃ p2, p2 = x.getD (axN n).2 0 := ⟨_, rfl⟩
  have fr := framed_ok hn good.len
  rw [← hp1, ← hp2] at fr
  have q : Ret K (pairI (quart 4 p1 p2).1 (quart 4 p1 p2).2) H Q := by rw [hp1, hp2]; exact q
  refine q_asg2 (d := pairI p1 p2) (ed_k0 (F := fFramed) (ea_cons (ed_var hv) (ea_cons (ed_k0 (F := fCDir) (ea_cons (ed_var hv) (ea_cons (ed_var hu) ea_nil)) eok) ea_nil)) fr) rfl fun a b H1 s1 ha hb => ?_
  have := ha.scalI
  subst this
  have := hb.scalI
  subst this
  have fin : ∀ (a b : Int) (o : Option V) (H2 : Hp), Same H1 H2 → (a, b) = quart 4 p1 p2 → (tRet (tTup (tCons (tVar 2) (tCons (tVar 3) tNil))) : TS) { nx := fun _ H' => Q .non H', rt := Q } [some v, some u, some (.int a), some (.int b), o] H2 := fun a b o H2 s2 e => by
    rw [← e] at q
    exact s_ret (ed_tup (ea_cons (ed_var (.int a)) (ea_cons (ed_var (.int b)) ea_nil)) (by simp)) (Ret.mono (s1.trans s2) q)
  refine ⟨4, rfl, by decide, by decide, for_range (lo := 0) (n := 4) (fun i σ' H' => Same H1 H' ∧ ∃ a b o, σ' = [some v, some u, some (.int a), some (.int b), o] ∧ quart (4 - i) a b = quart 4 p1 p2) ⟨Same.refl H1, p1, p2, none, rfl, rfl⟩ ?_ ?_⟩
  · rintro i σ' H' hi ⟨s2, a, b, o, rfl, e⟩
    have fuel : 4 - i = (4 - (i + 1)) + 1 := by omega
    rw [fuel] at e
    refine q_when (b := decide (1 ≤ a) && decide (0 ≤ b)) (et_and (et_test (ev_opI0 ev_var ev_c)) fun _ => et_test (ev_opI0 ev_var ev_c)) (fun hb H3 s3 => ?_) (fun hb H3 s3 => ?_)
    · have hb' : 1 ≤ a ∧ 0 ≤ b := by simpa using hb
      unfold quart at e
      rw [if_pos hb'] at e
      exact fin a b _ H3 (s2.trans s3) e
    · have hb' : ¬ (1 ≤ a ∧ 0 ≤ b) := by simpa using hb
      unfold quart at e
      rw [if_neg hb'] at e
      refine ea_cons (K := K) (ed_I (ev_neg (i := b) ev_var)) (ea_cons (ed_var (.int a)) ea_nil) H3 (Same.refl H3) _ fun us H4 s4 hus => ?_
      obtain ⟨y, z, rfl, hy, hz⟩ := dp2 hus
      have := hy.scalI
      subst this
      have := hz.scalI
      subst this
      exact ⟨_, _, rfl, (s2.trans s3).trans s4, -b, a, _, rfl, e⟩
  · rintro σ' H' ⟨s2, a, b, o, rfl, e⟩
    exact fin a b o H' s2 e
theorem ok_leftof (M : Mo K mg cl pe) : Kept P w K mg base 7 "left_of" (spF K cl (dirF gLeftOf)) [] := by
  refine kept_all (ps := pLeftOf) M.aLeftOf (fun f fd F => F.ok scLeftOf (spF_len n2dirF) fun cdv A outer s H vs Q E hr h => ?_) fun _ _ _ _ _ _ us hl => match us, hl with | [_, _], _ => rfl
  obtain ⟨d, t, v, u, rfl, hv, hu, q⟩ := in2 n2dirF h
  have tk : L2N.Takes (cxOf (L2N.CX P w) P w K mg base nLeftOf "left_of" (defScope sLeftOf) f cdv A outer s H E) (own E) := L2N.takes_of rfl rfl rfl rfl
  refine ⟨_, pss_cons (ps_asg (pe_k (E := WE (own E)) (ok_framed M) hr (by decide) (fun σ => L2N.passAt tk σ) (pa_cons (pv 0) (pa_cons (pe_k (E := WE (own E)) (ok_cdir M) hr (by decide) (fun σ => L2N.passAt tk σ) (pa_cons (pv 0) (pa_cons (pv 1) pa_nil))) pa_nil)))
      (pg_tup rfl (pgs_cons (pg_name (i := 2) scLeftOf.nd rfl (.inl rfl)) (pgs_cons (pg_name (i := 3) scLeftOf.nd rfl (.inl rfl)) pgs_nil))))
    (pss_one (ps_ret (pe_k (E := fun _ => E0) (ok_unfr M) hr (by decide) pass0N (pa_cons (pv 0) (pa_cons (pe_un un_neg (pv 3)) (pa_cons (pv 2) pa_nil)))))), ?_⟩
  rcases dir_cases q with ⟨kd, e, eb, b⟩ | ⟨n, x, rfl, hn, good, eok, q⟩
  · exact q_asgRg (er_kA (er_tail (ed_var hv) (er_head (er_k0 (F := fCDir) (ea_cons (ed_var hv) (ea_cons (ed_var hu) ea_nil)) eb)))) b
  refine q_asg2 (d := pairI (x.getD (axN n).1 0) (x.getD (axN n).2 0)) (ed_k0 (F := fFramed) (ea_cons (ed_var hv) (ea_cons (ed_k0 (F := fCDir) (ea_cons (ed_var hv) (ea_cons (ed_var hu) ea_nil)) eok) ea_nil)) (framed_ok hn good.len)) rfl fun a b H1 s1 ha hb => ?_
  have := ha.scalI
  subst this
  have := hb.scalI
  subst this
  exact s_ret (ed_k0 (F := fUnfr) (ea_cons (ed_var (Dp.same s1 hv)) (ea_cons (ed_I (ev_neg ev_var)) (ea_cons (ed_var (.int _)) ea_nil))) (unfr_ok hn)) (Ret.mono s1 q)
theorem filter_yes {α : Type} (l : List α) : l.filter (fun _ => true) = l := by
  induction l with
  | nil => rfl
  | cons a l ih => rw [List.filter_cons, if_pos rfl, ih]
def negD : D → D
  | .int i => .int (-i)
  | _ => .none
theorem mem_ints {v : List Int} {c : D} (h : c ∈ v.map PyData.int) : ∃ i, c = .int i := by
  obtain ⟨i, _, rfl⟩ := List.mem_map.mp h
  exact ⟨i, rfl⟩
theorem ok_backof (M : Mo K mg cl pe) : Kept P w K mg base 7 "back_of" (spF K cl (dirF gBackOf)) [] := by
  refine kept_all (ps := pBackOf) M.aBackOf (fun f fd F => F.ok scBackOf (spF_len n2dirF) fun cdv A outer s H vs Q E hr h => ?_) fun _ _ _ _ _ _ us hl => match us, hl with | [_, _], _ => rfl
  obtain ⟨d, t, v, u, rfl, hv, hu, q⟩ := in2 n2dirF h
  have tk : L2N.Takes (cxOf (L2N.CX P w) P w K mg base nBackOf "back_of" (defScope sBackOf) f cdv A outer s H E) (own E) := L2N.takes_of rfl rfl rfl rfl
  refine ⟨_, pss_one (ps_ret (e_tuple (M := M) (ha := pe_lc (own := [("step", 2)]) (g := gName 2) (tt := tYes) (te := tUn (rU fun i => .int (-i)) (tVar 2)) rfl scBackOf.nd
      (pi_seq (pe_k (E := WE (own E)) (ok_cdir M) hr (by decide) (fun σ => L2N.passAt tk σ) (pa_cons (pv 0) (pa_cons (pv 1) pa_nil))))
      (blkOk_by (N := nBackOf) (sc := defScope sBackOf) (by decide +kernel)) (fun _ _ _ _ _ => pg_name (i := 2) scBackOf.nd rfl (.inl rfl)) (fun _ _ _ _ _ => pts_nil)
      (fun _ _ _ _ _ => pe_un un_neg (pv 2))))), ?_⟩
  rcases dir_cases q with ⟨kd, e, eb, b⟩ | ⟨n, x, rfl, hn, good, eok, q⟩
  · exact s_retR (er_cb (er_head (er_lc (er_k0 (F := fCDir) (ea_cons (ed_var hv) (ea_cons (ed_var hu) ea_nil)) eb)))) b
  refine s_ret (ed_tuple (d := .list ((x.map fun i => -i).map .int)) ?_ rfl) q
  refine ed_is (ed_lc (xs := x.map .int) (fun _ => true) negD (ed_k0 (F := fCDir) (ea_cons (ed_var hv) (ea_cons (ed_var hu) ea_nil)) eok) rfl (by rw [List.length_map, good.len]; decide) (fun c hc _ => ?_) (fun i y c H3 s3 hc hy => ?_)) ?_
  · obtain ⟨i, rfl⟩ := mem_ints hc
    rfl
  · obtain ⟨i, rfl⟩ := mem_ints (List.mem_of_getElem? hc)
    have := hy.scalI
    subst this
    exact turns_name rfl et_yes fun _ => ed_I (ev_neg ev_var)
  · rw [filter_yes, List.map_map, List.map_map]
    rfl
/-! ### outward_step -/
def fOutStep : List D → Out
  | [f, d] => if faceB f then (match its? d with
    | some xs => (match xs[faceN f / 2]? with
      | some (.int s) => .ok (.int (if faceN f % 2 = 1 then s else -s))
      | _ => .no)
    | none => .no) else .no
  | _ => .no
theorem n2OutStep : ∀ ds, fOutStep ds ≠ .no → ds.length = 2 := len2 rfl (fun _ => rfl) fun _ _ _ _ => rfl
theorem ok_outstep (M : Mo K mg cl pe) : Kept P w K mg base 1 "outward_step" (spF K cl fOutStep) [] := by
  refine kept_all (ps := pOutStep) M.aOutStep (fun f fd F => F.ok scOutStep (spF_len n2OutStep) fun cdv A outer s H vs Q E hr h => ?_) fun _ _ _ _ _ _ us hl => match us, hl with | [_, _], _ => rfl
  obtain ⟨d, t, v, u, rfl, hv, hu, q⟩ := in2 n2OutStep h
  refine ⟨_, pss_cons (ps_set (i := 2) scOutStep.nd rfl (Or.inl rfl) (pe_ix ix_seq (pv 1) (pe_op op_fdiv (pv 0) pe_int) (fun _ _ => rfl)))
    (pss_one (ps_ret (pe_ifExp (pt_cmpR op_eq (pe_op op_sub (pv 0) (pe_op op_mul (pe_op op_fdiv (pv 0) pe_int) pe_int)) pe_int (nomark _)) (pv 2) (pe_un un_neg (pv 2))))), ?_⟩
  cases hf : faceB d with
  | false =>
    simp only [fOutStep, hf] at q
    exact q.elim
  | true =>
    obtain ⟨n, rfl, hn, en⟩ := face_int hf
    cases ex : its? t with
    | none =>
      simp only [fOutStep, hf, ex] at q
      exact q.elim
    | some xs =>
      have q1 : Gets K cl (match xs[n / 2]? with
        | some (.int s) => .ok (.int (if n % 2 = 1 then s else -s))
        | _ => .no) H Q E := by
        simp only [fOutStep, hf, ex] at q
        rw [en] at q
        exact q
      split at q1
      · rename_i i ei
        refine q_asg (d := .int i) (ed_ix (j := n / 2) (ed_var hu) ex (ev_is (ev_opI (ev_I (ed_var hv)) ev_c ⟨by decide, by decide⟩) (by rfl)) ei) fun z H1 s1 hz => ?_
        have := hz.scalI
        subst this
        have q2 : Ret K (.int (if n % 2 = 1 then i else -i)) H Q := q1
        have hn1 : EvV (tVar 0) [some v, some u, some (.int i)] H1 (.int (n : Int)) := ev_I (ed_var (Dp.same s1 hv))
        refine s_ret (d := .int (if n % 2 = 1 then i else -i)) (ed_if (b := decide (((n : Int) - (n : Int) / 2 * 2) = 1)) (et_test (ev_eqI (ev_opI0 hn1 (ev_opI (ev_opI hn1 ev_c ⟨by decide, by decide⟩) ev_c (Or.inr ⟨by decide, by decide⟩))) ev_c)) (fun hb => ?_) fun hb => ?_) (Ret.mono s1 q2)
        · have hb' : n % 2 = 1 := by
            have : (n : Int) - (n : Int) / 2 * 2 = 1 := by simpa using hb
            omega
          rw [if_pos hb']
          exact ed_var (.int i)
        · have hb' : ¬ n % 2 = 1 := by
            have : ¬ (n : Int) - (n : Int) / 2 * 2 = 1 := by simpa using hb
            omega
          rw [if_neg hb']
          exact ed_I (ev_neg ev_var)
      · exact q1.elim
end
end G4
/-! L1: the law's own helpers that draw nothing. -/
namespace G4
open PySem PySem.Spec PyProof.Rows L2
/-! ### truth of a list -/
def tTru (K : PySem.W.Frag) (ta : TE) : TT := fun σ H Q => ta σ H fun x H' => ∃ k, TruV K x H' k ∧ Q k H'
section
variable {X : Cx} {a : Expr} {ta : TE} {pos : Pos}
theorem pe_notL (ha : PE X a ta) : PE X (.UnaryOp .Not a pos) (fun σ H Q => tTru X.K ta σ H fun k H' => Q (.bl (!k)) H') where
  run := fun pins s σ H Q I h =>
    UnaryOp_ (thn (ha.run pins s σ H _ I h) fun v s1 ⟨x, H1, I1, r1, k, e, q1⟩ =>
      not_of (thn (tru_ok pins s1 σ H1 x v (fun b H' => Q (.bl (!b)) H') I1 r1 ⟨k, e, q1⟩) fun c s2 ⟨H2, I2, q2⟩ => ⟨.bl (!c), H2, I2, rfl, q2⟩))
end
section
variable {K : PySem.W.Frag} {σ : L2.St} {H : Hp} {ta : TE} {d : D}
theorem et_tru {xs : List D} (h : EvD K ta σ H d) (hx : its? d = some xs) : EvT (tTru K ta) σ H (!xs.isEmpty) := fun H1 s _ q =>
  h H1 s _ fun u H2 s2 hu => by
    obtain ⟨b, a, ys, rfl, hs, hall⟩ := hu.seq hx
    have len := hall.len
    have e : (!xs.isEmpty) = !ys.isEmpty := by
      cases xs with
      | nil => cases ys with
        | nil => rfl
        | cons y ys => simp at len
      | cons x xs => cases ys with
        | nil => simp at len
        | cons y ys => rfl
    refine ⟨!xs.isEmpty, ?_, q H2 s2⟩
    rw [e]
    cases b with
    | true => exact Or.inl ⟨ys, hs, rfl⟩
    | false => exact Or.inr (Or.inl ⟨ys, hs, rfl⟩)
end
/-! ### int, abs, max -/
def rInt1 : List V → Hp → VK → Prop := fun xs H Q => (∃ i, xs = [.int i] ∧ Q (.int i) H) ∨ ∃ k, xs = [.bl k] ∧ Q (.int (if k then 1 else 0)) H
def rAbs : List V → Hp → VK → Prop := fun xs H Q => ∃ i, xs = [.int i] ∧ Q (.int (if i < 0 then -i else i)) H
def rMax : List V → Hp → VK → Prop := fun xs H Q => ∃ i j, xs = [.int i, .int j] ∧ Q (.int (if j > i then j else i)) H
section
variable {X : Cx} {cl : Kd → Addr} {pe : Addr} {a b : Expr} {ta tb : TE} {p p2 p3 p4 pos : Pos} {k4 : Nat}
section
variable (h1 : starEach (a :: []) X.env = (false, eval a X.env) :: starEach [] X.env := by rfl) (h3 : (backTo pos (starEach [] X.env)).any (·.1) = false := by rfl)
include h1 h3
theorem e_int1 (M : Mo X.K X.mg cl pe) (ha : PE X a ta) (hg : Gl X "int" := by rfl) : PE X (.Call (.Name "int" p) [a] [] pos) (tCB rInt1 (tCons ta tNil)) :=
  pe_callTy call_int1 hg (M.nob "int") (by decide +kernel) (pa_cons ha pa_nil h1) (by decide) (by decide) h1 h3
theorem e_abs (M : Mo X.K X.mg cl pe) (ha : PE X a ta) (hg : Gl X "abs" := by rfl) : PE X (.Call (.Name "abs" p) [a] [] pos) (tCB rAbs (tCons ta tNil)) :=
  pe_callB call_abs hg (M.nob "abs") (by decide +kernel) (pa_cons ha pa_nil h1) (by decide) (by decide) h1 h3
end
theorem e_max (M : Mo X.K X.mg cl pe) (hc : X.calm = true) (ha : PE X a ta) (hb : PE X b tb) (hg : Gl X "max" := by rfl) (h1 : starEach (a :: b :: []) X.env = (false, eval a X.env) :: starEach (b :: []) X.env := by rfl) (h2 : starEach (b :: []) X.env = (false, eval b X.env) :: starEach [] X.env := by rfl)
    (h3 : (backTo pos (starEach [b] X.env)).any (·.1) = false := by rfl) : PE X (.Call (.Name "max" p) [a, b] [] pos) (tCB rMax (tCons ta (tCons tb tNil))) :=
  pe_callB (call_max2 hc) hg (M.nob "max") (by decide +kernel) (pa_cons ha (pa_cons hb pa_nil h2) h1) (by decide) (by decide) h1 h3
end
section
variable {K : PySem.W.Frag} {σ : L2.St} {H : Hp} {ta tb tc : TE} {d : D}
theorem ev_int1 {i : Int} (h : EvV ta σ H (.int i)) : EvV (tCB rInt1 (tCons ta tNil)) σ H (.int i) := fun H1 s Q q => h H1 s _ fun H2 s2 => Or.inl ⟨i, rfl, q H2 s2⟩
theorem ev_abs {i : Int} (h : EvV ta σ H (.int i)) : EvV (tCB rAbs (tCons ta tNil)) σ H (.int (i.natAbs : Int)) := fun H1 s Q q => h H1 s _ fun H2 s2 => ⟨i, rfl, by
  have e : (if i < 0 then -i else i) = (i.natAbs : Int) := by split <;> omega
  rw [e]
  exact q H2 s2⟩
theorem ev_max {i j : Int} (ha : EvV ta σ H (.int i)) (hb : EvV tb σ H (.int j)) : EvV (tCB rMax (tCons ta (tCons tb tNil))) σ H (.int (if j > i then j else i)) := fun H1 s Q q =>
  ha H1 s _ fun H2 s2 => hb H2 (s.trans s2) _ fun H3 s3 => ⟨i, j, rfl, q H3 (s2.trans s3)⟩
theorem ev_chain {g g' : Int → Int → Bool} {i j k : Int} (ha : EvV ta σ H (.int i)) (hb : EvV tb σ H (.int j)) (hc : EvV tc σ H (.int k)) :
    EvV (tChain (rI0 fun i j => .bl (g i j)) (rI0 fun i j => .bl (g' i j)) ta tb tc) σ H (.bl (g i j && g' j k)) := fun H1 s Q q =>
  ha H1 s _ fun H2 s2 => hb H2 (s.trans s2) _ fun H3 s3 => ⟨i, j, rfl, rfl, g i j, rfl, by
    cases h : g i j with
    | false => rw [h] at q; exact q H3 (s2.trans s3)
    | true =>
      rw [h] at q
      exact hc H3 ((s.trans s2).trans s3) _ fun H4 s4 => ⟨j, k, rfl, rfl, q H4 ((s2.trans s3).trans s4)⟩⟩
end
/-! ### a, b = a list or a tuple -/
def gSq (K : PySem.W.Frag) (n : Nat) (t : TGs) : TG := fun v σ H Q => ∃ b a xs, v = .ref a ∧ Sq b K H a xs ∧ xs.length = n ∧ t xs σ H Q
theorem pg_sq {X : Cx} {pos : Pos} {es : List Expr} {k : Nat} {t : TGs} {n : Nat} (hc : X.calm = true) (h : PGs X es t)
    (hn : (assignEach es X.env).length = n := by rfl) (hst : (assignEach es X.env).findIdx? (·.1) = none := by rfl) : PG X (.Tuple es k pos) (gSq X.K n t) where
  run := fun pins s σ H v u Q I r ⟨b, a, xs, e, hs, hl, q⟩ => match b, hs with
    | true, hs => (pg_lst hc h hn hst).run pins s σ H v u Q I r ⟨a, xs, e, hs, hl, q⟩
    | false, hs => (pg_tup hc h hn hst).run pins s σ H v u Q I r ⟨a, xs, e, hs, hl, q⟩
section
variable {K : PySem.W.Frag} {σ : L2.St} {H : Hp} {te : TE} {d : D} {D' : Ends} {tz : TS}
theorem q_asgS2 {i j : Nat} {x y : D} (h : EvD K te σ H d) (hx : its? d = some [x, y]) (q : ∀ u w H1, Same H H1 → Dp K H1 u x → Dp K H1 w y → tz D' ((σ.set i (some u)).set j (some w)) H1) :
    tSeq (tAsg te (gSq K 2 (gCons (gName i) (gCons (gName j) gNil)))) tz D' σ H := h H (Same.refl H) _ fun z H1 s hz => by
  obtain ⟨b, a, ys, rfl, hs, hall⟩ := hz.seq hx
  obtain ⟨u, w, rfl, h1, h2⟩ := dp2 hall
  exact ⟨b, a, _, rfl, hs, rfl, _, _, rfl, _, _, rfl, rfl, q _ _ H1 s h1 h2⟩
end
/-! ### _law_common -/
def fCommon : List D → Out
  | [.int a, .int b] => .ok (.int ((Nat.gcd a.natAbs b.natAbs : Nat) : Int))
  | _ => .no
theorem n2Common : ∀ ds, fCommon ds ≠ .no → ds.length = 2
  | [.int a, .int b], _ => rfl
section
variable {P : Program} {w : World} {K : PySem.W.Frag} {mg : Str → Option Value} {base : Heap} {cl : Kd → Addr} {pe : Addr}
theorem ok_common (M : Mo K mg cl pe) : Kept P w K mg base 1 "_law_common" (spF K cl fCommon) [] := by
  refine kept_all (ps := pCommon) M.aCommon (fun f fd F => F.ok scCommon (spF_len n2Common) fun cdv A outer s H vs Q E hr h => ?_) fun _ _ _ _ _ _ us hl => match us, hl with | [_, _], _ => rfl
  obtain ⟨d, t, v, u, rfl, hv, hu, q⟩ := in2 n2Common h
  obtain ⟨a, b, rfl, rfl⟩ : ∃ a b, d = .int a ∧ t = .int b := by
    cases d with
    | int a => cases t with
      | int b => exact ⟨a, b, rfl, rfl⟩
      | _ => exact q.elim
    | _ => exact q.elim
  have := hv.scalI
  subst this
  have := hu.scalI
  subst this
  have q : Ret K (.int ((Nat.gcd a.natAbs b.natAbs : Nat) : Int)) H Q := q
  refine ⟨_, pss_cons (ps_set (i := 0) scCommon.nd rfl (Or.inl rfl) (e_abs (M := M) (ha := pv 0)))
    (pss_cons (ps_set (i := 1) scCommon.nd rfl (Or.inl rfl) (e_abs (M := M) (ha := pv 1)))
    (pss_cons (ps_while (L2.passes_of rfl) (pt_cmpR op_gt (pv 1) pe_int (nomark _)) (pss_one (ps_par (i := 0) (j := 1) rfl scCommon.nd rfl rfl (by decide) rfl rfl (pa_cons (pv 1) (pa_cons (pe_op op_mod (e_int1 (M := M) (ha := pv 0)) (pv 1)) pa_nil)) rfl)))
    (pss_one (ps_ret (pv 0))))), ?_⟩
  refine q_asgV (ev_abs ev_var) fun H1 s1 => q_asgV (ev_abs ev_var) fun H2 s2 => ?_
  refine ⟨fun m σ' H' => Same H H' ∧ ∃ x y : Nat, σ' = [some (.int (x : Int)), some (.int (y : Int))] ∧ m = y ∧ Nat.gcd x y = Nat.gcd a.natAbs b.natAbs, ⟨b.natAbs, s1.trans s2, a.natAbs, b.natAbs, rfl, rfl, rfl⟩, ?_⟩
  rintro m σ' H' ⟨s3, x, y, rfl, rfl, e⟩
  refine et_test (b := decide ((0 : Int) < (m : Int))) (ev_opI0 ev_var ev_c) H' (Same.refl H') _ fun H3 s4 => ?_
  by_cases hm : 0 < m
  · rw [if_pos (by simpa using hm)]
    refine ⟨fun σ2 H2 => Same H H2 ∧ ∃ x y : Nat, σ2 = [some (.int (x : Int)), some (.int (y : Int))] ∧ y < m ∧ Nat.gcd x y = Nat.gcd a.natAbs b.natAbs, ?_, ?_⟩
    · rintro σ2 H4 ⟨s5, x2, y2, rfl, lt, e2⟩
      exact ⟨y2, lt, s5, x2, y2, rfl, rfl, e2⟩
    · refine ea_cons (K := K) (ed_var (.int (m : Int))) (ea_cons (ed_I (ev_opI (ev_int1 (ev_var (v := .int (x : Int)))) (ev_var (v := .int (m : Int))) (show (0 : Int) < (m : Int) by omega))) ea_nil) H3 (Same.refl H3) _ fun us H4 s5 hus => ?_
      obtain ⟨z1, z2, rfl, h1, h2⟩ := dp2 hus
      have := h1.scalI
      subst this
      have := h2.scalI
      subst this
      refine ⟨_, _, rfl, (s3.trans s4).trans s5, m, x % m, ?_, Nat.mod_lt _ hm, ?_⟩
      · rfl
      · rw [← e, Nat.gcd_comm x m, Nat.gcd_rec m x, Nat.gcd_comm]
  · rw [if_neg (by simpa using hm)]
    obtain rfl : m = 0 := by omega
    rw [Nat.gcd_zero_right] at e
    rw [← e] at q
    exact s_ret (ed_var (.int (x : Int))) (Ret.mono (s3.trans s4) q)
/-! ### _law_axes, _law_steps, _law_four, _law_out -/
def fLAxes : List D → Out
  | [d] => if faceB d then .ok (pairN (axN (faceN d))) else .no
  | _ => .no
theorem n1LAxes : ∀ ds, fLAxes ds ≠ .no → ds.length = 1 := len1 rfl fun _ _ _ => rfl
theorem laxes_ok {n : Nat} (hn : n ≤ 5) : fLAxes [.int (n : Int)] = .ok (pairN (axN n)) := by
  show (if faceB (.int (n : Int)) then Out.ok (pairN (axN n)) else .no) = _
  rw [if_pos (face_nat hn)]
theorem ok_laxes (M : Mo K mg cl pe) : Kept P w K mg base 1 "_law_axes" (spF K cl fLAxes) [] := by
  refine kept_all (ps := pLAxes) M.aLAxes (fun f fd F => F.ok scLAxes (spF_len n1LAxes) fun cdv A outer s H vs Q E hr h => ?_) fun _ _ _ _ _ _ us hl => match us, hl with | [_], _ => rfl
  obtain ⟨d, v, rfl, hv, q⟩ := in1 n1LAxes h
  refine ⟨_, pss_one (ps_ret (pe_ix ix_seq (pe_tup (pa_cons (pe_tup (pa_cons pe_int (pa_cons pe_int pa_nil))) (pa_cons (pe_tup (pa_cons pe_int (pa_cons pe_int pa_nil))) (pa_cons (pe_tup (pa_cons pe_int (pa_cons pe_int pa_nil)))
    (pa_cons (pe_tup (pa_cons pe_int (pa_cons pe_int pa_nil))) (pa_cons (pe_tup (pa_cons pe_int (pa_cons pe_int pa_nil))) (pa_cons (pe_tup (pa_cons pe_int (pa_cons pe_int pa_nil))) pa_nil))))))) (pv 0) (fun _ _ => rfl))), ?_⟩
  cases e : faceB d with
  | false =>
    have : Gets K cl (fLAxes [d]) H Q E := q
    simp only [fLAxes, e] at this
    exact this.elim
  | true =>
    have q' : Ret K (pairN (axN (faceN d))) H Q := by
      have : Gets K cl (fLAxes [d]) H Q E := q
      simp only [fLAxes, e] at this
      exact this
    obtain ⟨n, rfl, hn, en⟩ := face_int e
    have pr : ∀ {i j : Int} {σ : L2.St} {H : Hp}, EvD K (tTup (tCons (tC (.int i)) (tCons (tC (.int j)) tNil))) σ H (.tuple [.int i, .int j]) := ed_tup (ea_cons ed_int (ea_cons ed_int ea_nil)) (by simp)
    refine s_ret (ed_ix (j := n) (ed_tup (ea_cons pr (ea_cons pr (ea_cons pr (ea_cons pr (ea_cons pr (ea_cons pr ea_nil)))))) (by simp)) rfl (ev_I (ed_var hv)) ?_) q'
    rw [en]
    have : n = 0 ∨ n = 1 ∨ n = 2 ∨ n = 3 ∨ n = 4 ∨ n = 5 := by omega
    rcases this with rfl | rfl | rfl | rfl | rfl | rfl <;> rfl
def fSteps : List D → Out
  | [d, .int x, .int y] => if faceB d then .ok (tupI (unI (faceN d) x y)) else .no
  | _ => .no
theorem n3Steps : ∀ ds, fSteps ds ≠ .no → ds.length = 3
  | [d, .int x, .int y], _ => rfl
theorem steps_ok {n : Nat} {a b : Int} (hn : n ≤ 5) : fSteps [.int (n : Int), .int a, .int b] = .ok (tupI (unI n a b)) := by
  show (if faceB (.int (n : Int)) then Out.ok (tupI (unI n a b)) else .no) = _
  rw [if_pos (face_nat hn)]
theorem ok_steps (M : Mo K mg cl pe) : Kept P w K mg base 2 "_law_steps" (spF K cl fSteps) [] := by
  refine kept_all (ps := pSteps) M.aSteps (fun f fd F => F.ok scSteps (spF_len n3Steps) fun cdv A outer s H vs Q E hr h => ?_) fun _ _ _ _ _ _ us hl => match us, hl with | [_, _, _], _ => rfl
  obtain ⟨d, dx, dy, v, x, y, rfl, hv, hx, hy, q⟩ := in3 n3Steps h
  refine ⟨_, pss_cons (ps_set (i := 3) scSteps.nd rfl (Or.inl rfl) (pe_k (E := fun _ => E0) (ok_laxes M) hr (by decide) pass0N (pa_cons (pv 0) pa_nil)))
    (pss_cons (ps_set (i := 4) scSteps.nd rfl (Or.inl rfl) (pe_lst (pa_cons pe_int (pa_cons pe_int (pa_cons pe_int pa_nil)))))
    (pss_cons (ps_asg (pv 1) (pg_sub (pv 4) (pe_ix ix_seq (pv 3) pe_int (fun _ _ => rfl)) set_list))
    (pss_cons (ps_asg (pv 2) (pg_sub (pv 4) (pe_ix ix_seq (pv 3) pe_int (fun _ _ => rfl)) set_list))
    (pss_one (ps_ret (e_tuple (M := M) (ha := pv 4))))))), ?_⟩
  obtain ⟨a, b, rfl, rfl⟩ : ∃ a b, dx = .int a ∧ dy = .int b := by
    cases dx with
    | int a => cases dy with
      | int b => exact ⟨a, b, rfl, rfl⟩
      | _ => exact q.elim
    | _ => exact q.elim
  cases e : faceB d with
  | false =>
    have : Gets K cl (fSteps [d, .int a, .int b]) H Q E := q
    simp only [fSteps, e] at this
    exact this.elim
  | true =>
    obtain ⟨n, rfl, hn, en⟩ := face_int e
    have q' : Ret K (tupI (unI n a b)) H Q := by
      have : Gets K cl (fSteps [.int (n : Int), .int a, .int b]) H Q E := q
      rw [steps_ok hn] at this
      exact this
    rw [← unAx_int] at q'
    obtain ⟨a1, a2, _⟩ := axN_lt hn
    refine q_asg (d := pairN (axN n)) (ed_k0 (F := fLAxes) (ea_cons (ed_var hv) ea_nil) (laxes_ok hn)) fun ax H1 s1 hax => ?_
    refine q_asgL (K := K) (ea_cons ed_int (ea_cons ed_int (ea_cons ed_int ea_nil))) (by decide) (fun l us H2 nl s2 hus at_l => ?_) (fun us H1 h => by rw [zeros h]; exact zeros_dp)
    rw [zeros hus] at at_l
    have fl : H l = none := s1.free nl
    have s02 := s1.trans s2
    refine q_setV at_l ev_var ev_var (ev_I (ed_ix (j := 0) (ed_var (Dp.same s2 hax)) rfl ev_c rfl)) (by show (axN n).1 < 3; omega) fun H3 s3 => ?_
    have s03 : Same H (upd H3 l (.lst ([V.int 0, V.int 0, V.int 0].set (axN n).1 x))) := Same.mut (s02.trans s3) fl
    have ax3 : Dp K (upd H3 l (.lst ([V.int 0, V.int 0, V.int 0].set (axN n).1 x))) ax (pairN (axN n)) := Dp.same (Same.mut (s2.trans s3) nl) hax
    refine q_setV upd_same ev_var ev_var (ev_I (ed_ix (j := 1) (ed_var ax3) rfl ev_c rfl)) (by rw [List.length_set]; show (axN n).2 < 3; omega) fun H4 s4 => ?_
    have s04 : Same H (upd H4 l (.lst (([V.int 0, V.int 0, V.int 0].set (axN n).1 x).set (axN n).2 y))) := Same.mut (s03.trans s4) fl
    refine s_ret (ed_tuple (xs := unAx n (.int a) (.int b)) (ed_var (d := .list (unAx n (.int a) (.int b))) (.lst (SqL.of upd_same) ?_)) rfl) (Ret.mono s04 q')
    exact DpAll.set (Dp.same s04 hy) _ (DpAll.set (Dp.same s04 hx) _ zeros_dp)
def fFour : List D → Out
  | [d, t] => if faceB d then (match its? t with
    | some [.int p, .int q] => .ok (.list ((dirs (faceN d) p q).map tupI))
    | _ => .no) else .no
  | _ => .no
theorem n2Four : ∀ ds, fFour ds ≠ .no → ds.length = 2 := len2 rfl (fun _ => rfl) fun _ _ _ _ => rfl
theorem four_ok {n : Nat} {p q : Int} {t : D} (hn : n ≤ 5) (ht : its? t = some [.int p, .int q]) : fFour [.int (n : Int), t] = .ok (.list [tupI (unI n p q), tupI (unI n (-q) p), tupI (unI n (-p) (-q)), tupI (unI n q (-p))]) := by
  show (if faceB (.int (n : Int)) then (match its? t with
    | some [.int p, .int q] => Out.ok (.list ((dirs n p q).map tupI))
    | _ => .no) else .no) = _
  rw [if_pos (face_nat hn), ht]
  rfl
theorem ok_four (M : Mo K mg cl pe) : Kept P w K mg base 3 "_law_four" (spF K cl fFour) [] := by
  refine kept_all (ps := pFour) M.aFour (fun f fd F => F.ok scFour (spF_len n2Four) fun cdv A outer s H vs Q E hr h => ?_) fun _ _ _ _ _ _ us hl => match us, hl with | [_, _], _ => rfl
  obtain ⟨d, t, v, u, rfl, hv, hu, q⟩ := in2 n2Four h
  refine ⟨_, pss_cons (ps_asg (pv 1) (pg_sq rfl (pgs_cons (pg_name (i := 2) scFour.nd rfl (.inl rfl)) (pgs_cons (pg_name (i := 3) scFour.nd rfl (.inl rfl)) pgs_nil))))
    (pss_one (ps_ret (pe_lst (pa_cons (pe_k (E := fun _ => E0) (ok_steps M) hr (by decide) pass0N (pa_cons (pv 0) (pa_cons (pv 2) (pa_cons (pv 3) pa_nil)))) (pa_cons (pe_k (E := fun _ => E0) (ok_steps M) hr (by decide) pass0N (pa_cons (pv 0) (pa_cons (pe_un un_neg (pv 3)) (pa_cons (pv 2) pa_nil))))
      (pa_cons (pe_k (E := fun _ => E0) (ok_steps M) hr (by decide) pass0N (pa_cons (pv 0) (pa_cons (pe_un un_neg (pv 2)) (pa_cons (pe_un un_neg (pv 3)) pa_nil)))) (pa_cons (pe_k (E := fun _ => E0) (ok_steps M) hr (by decide) pass0N (pa_cons (pv 0) (pa_cons (pv 3) (pa_cons (pe_un un_neg (pv 2)) pa_nil)))) pa_nil))))))), ?_⟩
  cases e : faceB d with
  | false =>
    simp only [fFour, e] at q
    exact q.elim
  | true =>
    obtain ⟨n, rfl, hn, en⟩ := face_int e
    obtain ⟨p, r, et⟩ : ∃ p r, its? t = some [.int p, .int r] := by
      have key : ∀ o : Option (List D), Gets K cl (match o with
        | some [.int p, .int q] => .ok (.list ((dirs (faceN (.int (n : Int))) p q).map tupI))
        | _ => .no) H Q E → ∃ p r, o = some [.int p, .int r] := fun o h => by
        split at h
        · exact ⟨_, _, rfl⟩
        · exact h.elim
      simp only [fFour, e] at q
      exact key _ q
    rw [four_ok hn et] at q
    refine q_asgS2 (ed_var hu) et fun x y H1 s1 hx hy => ?_
    have := hx.scalI
    subst this
    have := hy.scalI
    subst this
    have st : ∀ {a b : Int} {ta tb : TE} {σ : L2.St} {H1 : Hp}, Same H H1 → σ[0]? = some (some v) → EvV ta σ H1 (.int a) → EvV tb σ H1 (.int b) → EvD K (tCallSD (spF K cl fSteps) [] (fun _ => E0) (tCons (tVar 0) (tCons ta (tCons tb tNil)))) σ H1 (tupI (unI n a b)) :=
      fun s hσ ha hb => ed_k0 (F := fSteps) (ea_cons (ed_var (Dp.same s hv) hσ) (ea_cons (ed_I ha) (ea_cons (ed_I hb) ea_nil))) (steps_ok hn)
    exact s_ret (ed_lst (ea_cons (st s1 rfl ev_var ev_var) (ea_cons (st s1 rfl (ev_neg ev_var) ev_var) (ea_cons (st s1 rfl (ev_neg ev_var) (ev_neg ev_var)) (ea_cons (st s1 rfl ev_var (ev_neg ev_var)) ea_nil)))) (by simp)) (Ret.mono s1 q)
theorem ok_lout (M : Mo K mg cl pe) : Kept P w K mg base 1 "_law_out" (spF K cl fOutStep) [] := by
  refine kept_all (ps := pLOut) M.aLOut (fun f fd F => F.ok scLOut (spF_len n2OutStep) fun cdv A outer s H vs Q E hr h => ?_) fun _ _ _ _ _ _ us hl => match us, hl with | [_, _], _ => rfl
  obtain ⟨d, t, v, u, rfl, hv, hu, q⟩ := in2 n2OutStep h
  refine ⟨_, pss_one (ps_ret (pe_ifExp (pt_cmpR op_eq (pe_op op_mod (e_int1 (M := M) (ha := pv 0)) pe_int) pe_int (nomark _)) (pe_ix ix_seq (pv 1) (pe_op op_fdiv (pv 0) pe_int) (fun _ _ => rfl)) (pe_un un_neg (pe_ix ix_seq (pv 1) (pe_op op_fdiv (pv 0) pe_int) (fun _ _ => rfl))))), ?_⟩
  cases hf : faceB d with
  | false =>
    simp only [fOutStep, hf] at q
    exact q.elim
  | true =>
    obtain ⟨n, rfl, hn, en⟩ := face_int hf
    cases ex : its? t with
    | none =>
      simp only [fOutStep, hf, ex] at q
      exact q.elim
    | some xs =>
      have q1 : Gets K cl (match xs[n / 2]? with
        | some (.int s) => .ok (.int (if n % 2 = 1 then s else -s))
        | _ => .no) H Q E := by
        simp only [fOutStep, hf, ex] at q
        rw [en] at q
        exact q
      split at q1
      · rename_i i ei
        have q2 : Ret K (.int (if n % 2 = 1 then i else -i)) H Q := q1
        have hn1 : EvV (tVar 0) [some v, some u] H (.int (n : Int)) := ev_I (ed_var hv)
        have it : EvD K (tOp (rIx K) (tVar 1) (tOp (rI CDiv fun i j => .int (i / j)) (tVar 0) (tC (.int 2)))) [some v, some u] H (.int i) := ed_ix (j := n / 2) (ed_var hu) ex (ev_is (ev_opI (ev_I (ed_var hv)) ev_c ⟨by decide, by decide⟩) (by rfl)) ei
        refine s_ret (d := .int (if n % 2 = 1 then i else -i)) (ed_if (b := decide ((n : Int) % 2 = 1)) (et_test (ev_eqI (ev_opI (ev_int1 hn1) ev_c (by decide)) ev_c)) (fun hb => ?_) fun hb => ?_) q2
        · have hb' : n % 2 = 1 := by
            have : (n : Int) % 2 = 1 := by simpa using hb
            omega
          rw [if_pos hb']
          exact it
        · have hb' : ¬ n % 2 = 1 := by
            have : ¬ (n : Int) % 2 = 1 := by simpa using hb
            omega
          rw [if_neg hb']
          exact ed_I (ev_neg (ev_I it))
      · exact q1.elim
end
end G4
/-! L2: small data; they are shown, they are equal to themselves. -/
namespace G4
open PySem PySem.Spec PyProof.Rows L2
/-- at most k lists or tuples within one another, short ones, of small leaves -/
def tiny : Nat → D → Bool
  | _, .none => true
  | _, .bool _ => true
  | _, .int i => decide (i.natAbs < 10 ^ 22)
  | _, .str x => PyData.strOk x && decide (x.cps.size ≤ 40)
  | k + 1, .list xs => decide (xs.length ≤ 12) && xs.all (tiny k)
  | k + 1, .tuple xs => decide (xs.length ≤ 12) && xs.all (tiny k)
  | _, _ => false
def heavy : Nat → Nat
  | 0 => 80
  | k + 1 => 12 * (heavy k + 1)
theorem tiny_none {k : Nat} : tiny k .none = true := by cases k <;> rfl
theorem tiny_bool {k : Nat} {b : Bool} : tiny k (.bool b) = true := by cases k <;> rfl
theorem tiny_int {k : Nat} {i : Int} (h : i.natAbs < 10 ^ 22) : tiny k (.int i) = true := by
  cases k <;> (unfold tiny; exact decide_eq_true h)
theorem tiny_str {k : Nat} {x : Str} (h : (PyData.strOk x && decide (x.cps.size ≤ 40)) = true) : tiny k (.str x) = true := by
  cases k <;> (unfold tiny; exact h)
theorem tiny_list {k : Nat} {xs : List D} (hl : xs.length ≤ 12) (h : ∀ x ∈ xs, tiny k x = true) : tiny (k + 1) (.list xs) = true := by
  unfold tiny
  rw [decide_eq_true hl, Bool.true_and]
  exact List.all_eq_true.mpr h
theorem tiny_tup {k : Nat} {xs : List D} (hl : xs.length ≤ 12) (h : ∀ x ∈ xs, tiny k x = true) : tiny (k + 1) (.tuple xs) = true := by
  unfold tiny
  rw [decide_eq_true hl, Bool.true_and]
  exact List.all_eq_true.mpr h
theorem tiny_its {k : Nat} {d : D} {xs : List D} (h : tiny k d = true) (hx : its? d = some xs) : ∃ j, k = j + 1 ∧ xs.length ≤ 12 ∧ ∀ x ∈ xs, tiny j x = true := by
  cases k with
  | zero => cases d <;> first | (cases hx; done) | (unfold tiny at h; cases h)
  | succ k =>
    cases d with
    | list ys =>
      cases hx
      unfold tiny at h
      rw [Bool.and_eq_true] at h
      exact ⟨k, rfl, of_decide_eq_true h.1, List.all_eq_true.mp h.2⟩
    | tuple ys =>
      cases hx
      unfold tiny at h
      rw [Bool.and_eq_true] at h
      exact ⟨k, rfl, of_decide_eq_true h.1, List.all_eq_true.mp h.2⟩
    | _ => cases hx
theorem tiny_up : ∀ {k : Nat} {d : D}, tiny k d = true → tiny (k + 1) d = true
  | _, .none, _ => tiny_none
  | _, .bool _, _ => tiny_bool
  | k, .int i, h => by
    refine tiny_int ?_
    cases k <;> (unfold tiny at h; exact of_decide_eq_true h)
  | k, .str x, h => by
    refine tiny_str ?_
    cases k <;> (unfold tiny at h; exact h)
  | k, .list xs, h => by
    obtain ⟨j, rfl, h1, h2⟩ := tiny_its h rfl
    exact tiny_list h1 fun x hx => tiny_up (h2 x hx)
  | k, .tuple xs, h => by
    obtain ⟨j, rfl, h1, h2⟩ := tiny_its h rfl
    exact tiny_tup h1 fun x hx => tiny_up (h2 x hx)
  | k, .dict _, h => by cases k <;> (unfold tiny at h; cases h)
/-- what small data have -/
structure Lay (k : Nat) (d : D) : Prop where
  lay : d.canLay0 = true
  sh : d.showable = true
  short : d.intsShort 23 = true
  wt : d.weight ≤ heavy k
  dp : d.depth ≤ k
theorem heavy_ge : ∀ k, 80 ≤ heavy k
  | 0 => Nat.le_refl _
  | k + 1 => by have := heavy_ge k; unfold heavy; omega
theorem lay_all {k : Nat} : ∀ {xs : List D}, (∀ x ∈ xs, Lay k x) → PyData.canLayAll0 xs = true ∧ PyData.showableAll xs = true ∧ PyData.intsShortAll 23 xs = true ∧ PyData.weightAll xs ≤ xs.length * (heavy k + 1) ∧ PyData.depthAll xs ≤ k
  | [], _ => ⟨by simp [PyData.canLayAll0], by simp [PyData.showableAll], by simp [PyData.intsShortAll], by simp [PyData.weightAll], by simp [PyData.depthAll]⟩
  | x :: xs, h => by
    obtain ⟨h1, h2, h3, h4, h5⟩ := lay_all fun y hy => h y (List.mem_cons_of_mem _ hy)
    have hx := h x List.mem_cons_self
    refine ⟨by simp [PyData.canLayAll0, hx.lay, h1], by simp [PyData.showableAll, hx.sh, h2], by simp [PyData.intsShortAll, hx.short, h3], ?_, ?_⟩
    · have := hx.wt
      simp only [PyData.weightAll, List.length_cons, Nat.succ_mul]
      omega
    · have := hx.dp
      simp only [PyData.depthAll]
      omega
theorem lay_int {k : Nat} {i : Int} (h : i.natAbs < 10 ^ 22) : Lay k (.int i) := by
  have lg : i.natAbs.log2 < 79 := by
    by_cases z : i.natAbs = 0
    · rw [z]; decide
    · exact (Nat.log2_lt z).mpr (Nat.lt_trans h (by decide))
  refine ⟨by simp [PyData.canLay0], ?_, ?_, ?_, by simp [PyData.depth]⟩
  · simp only [PyData.showable, decide_eq_true_eq]
    omega
  · simp only [PyData.intsShort, decide_eq_true_eq]
    have e := int_text_length_le10 (k := 22) (by decide) h
    show (Str.ofString (toString i)).length ≤ 23
    rw [PySem.ofString_length]
    exact e
  · have := heavy_ge k
    simp only [PyData.weight]
    split <;> omega
theorem lay_str {k : Nat} {x : Str} (h : (PyData.strOk x && decide (x.cps.size ≤ 40)) = true) : Lay k (.str x) := by
  rw [Bool.and_eq_true] at h
  have h2 : x.cps.size ≤ 40 := of_decide_eq_true h.2
  have := heavy_ge k
  exact ⟨by simp only [PyData.canLay0]; exact h.1, by simp [PyData.showable], by simp [PyData.intsShort], by simp only [PyData.weight]; omega, by simp [PyData.depth]⟩
theorem lay_of : ∀ {k : Nat} {d : D}, tiny k d = true → Lay k d
  | k, .none, _ => ⟨by simp [PyData.canLay0], by simp [PyData.showable], by simp [PyData.intsShort], by simp [PyData.weight], by simp [PyData.depth]⟩
  | k, .bool _, _ => ⟨by simp [PyData.canLay0], by simp [PyData.showable], by simp [PyData.intsShort], by simp [PyData.weight], by simp [PyData.depth]⟩
  | k, .int i, h => lay_int (by cases k <;> (unfold tiny at h; exact of_decide_eq_true h))
  | k, .str x, h => lay_str (by cases k <;> (unfold tiny at h; exact h))
  | k, .list xs, h => by
    obtain ⟨j, rfl, h1, h2⟩ := tiny_its h rfl
    obtain ⟨a1, a2, a3, a4, a5⟩ := lay_all fun x hx => lay_of (h2 x hx)
    refine ⟨by simp only [PyData.canLay0]; exact a1, by simp only [PyData.showable]; exact a2, by simp only [PyData.intsShort]; exact a3, ?_, ?_⟩
    · simp only [PyData.weight]
      exact Nat.le_trans a4 (Nat.mul_le_mul_right _ h1)
    · simp only [PyData.depth]
      omega
  | k, .tuple xs, h => by
    obtain ⟨j, rfl, h1, h2⟩ := tiny_its h rfl
    obtain ⟨a1, a2, a3, a4, a5⟩ := lay_all fun x hx => lay_of (h2 x hx)
    refine ⟨by simp only [PyData.canLay0]; exact a1, by simp only [PyData.showable]; exact a2, by simp only [PyData.intsShort]; exact a3, ?_, ?_⟩
    · simp only [PyData.weight]
      exact Nat.le_trans a4 (Nat.mul_le_mul_right _ h1)
    · simp only [PyData.depth]
      omega
  | k, .dict _, h => by cases k <;> (unfold tiny at h; cases h)
/-- they are shown; they are compared -/
structure Fine (d : D) : Prop where
  shows : Shows d
  shaped : SeqAt.shaped d = true
  self : PyData.eqv d d = true
theorem fine_of {d : D} (h : tiny 3 d = true) : Fine d := by
  have L := lay_of h
  have dp := L.dp
  refine ⟨⟨L.sh, PyData.hasDict_of_canLay d L.lay, by omega, ?_⟩, ?_, SeqAt.eqv_refl d L.lay⟩
  · have e := PyData.shown_le 23 (by decide) d (PyData.leavesShort_of_canLay0 23 d L.lay L.short)
    have w : d.weight ≤ heavy 3 := L.wt
    have hv : heavy 3 = 140124 := by decide
    have : sizeLine = 16777216 := sizeLine_eq
    omega
  · unfold SeqAt.shaped
    rw [L.lay, Bool.true_and]
    exact decide_eq_true (by omega)
end G4
/-! L3: _law_tuples, _law_whole, _law_is_slope, _law_word. -/
namespace G4
open PySem PySem.Spec PyProof.Rows L2
def fNone : List D → Out := fun _ => .no
def fT0 : List D → Out
  | [.int _] => .ok (.bool true)
  | _ => .no
def fT1 : List D → Out
  | [.tuple xs] => if xs.length ≤ 12 ∧ xs.all isInt = true then .ok (.bool true) else .no
  | _ => .no
theorem kitB_tuple (d : D) : kitB (tyD d) "tuple" = some (match d with | .tuple _ => true | _ => false) := by
  cases d with
  | none => exact (show kitB "NoneType" "tuple" = some false by decide +kernel)
  | bool b => exact (show kitB "bool" "tuple" = some false by decide +kernel)
  | int i => exact (show kitB "int" "tuple" = some false by decide +kernel)
  | str x => exact (show kitB "str" "tuple" = some false by decide +kernel)
  | list xs => exact (show kitB "list" "tuple" = some false by decide +kernel)
  | tuple xs => exact (show kitB "tuple" "tuple" = some true by decide +kernel)
  | dict kv => exact (show kitB "dict" "tuple" = some false by decide +kernel)
theorem filter_none {α : Type} {l : List α} {f : α → Bool} (h : ∀ a ∈ l, f a = false) : l.filter f = [] := by
  induction l with
  | nil => rfl
  | cons a l ih =>
    rw [List.filter_cons, if_neg (by rw [h a List.mem_cons_self]; decide)]
    exact ih fun b hb => h b (List.mem_cons_of_mem _ hb)
section
variable {P : Program} {w : World} {K : PySem.W.Frag} {mg : Str → Option Value} {base : Heap} {cl : Kd → Addr} {pe : Addr}
theorem ok_none {x : Str} {st : Stmt} {N ps : List Str} (a : At K mg x st []) (sc : FnScope N ps (defScope st)) 
    (h : ∀ (kV doc pm : Value) (an : Option Addr) (cdv ct : Value) (us : List Value), us.length = ps.length → bindArgs (PySem.W.fnOf x x (defArgs st) (defBody st) (defScope st) .none kV doc pm an cdv ct) ⟨us, []⟩ = pure (ps.zip us)) :
    Kept P w K mg base 1 x (spF K cl fNone) [] :=
  kept_all (ps := ps) a (fun f fd F => F.ok sc (spF_len fun ds h => (h rfl).elim) fun cdv A outer s H vs Q E hr h => by
    obtain ⟨_, _, z⟩ := h
    exact z.elim) h
theorem ok_tuples_of (M : Mo K mg cl pe) {j : Nat} {F0 F1 : List D → Out} (h0 : Kept P w K mg base j "_law_tuples" (spF K cl F0) []) (n1 : ∀ ds, F1 ds ≠ .no → ds.length = 1)
    (law : ∀ d, F1 [d] = .no ∨ (∃ i, d = .int i ∧ F1 [d] = .ok (.bool true)) ∨ ∃ xs, d = .tuple xs ∧ xs.length ≤ 12 ∧ (∀ x ∈ xs, F0 [x] = .ok (.bool true)) ∧ F1 [d] = .ok (.bool true)) :
    Kept P w K mg base (j + 1) "_law_tuples" (spF K cl F1) [] := by
  refine kept_all (ps := pTuples) M.aTuples (fun f fd F => F.ok scTuples (spF_len n1) fun cdv A outer s H vs Q E hr h => ?_) fun _ _ _ _ _ _ us hl => match us, hl with | [_], _ => rfl
  obtain ⟨d, v, rfl, hv, q⟩ := in1 n1 h
  refine ⟨_, pss_cons (ps_if (pt_val (e_isi M "tuple" (pv 0))) (pss_one (ps_ret (pe_notL (pe_lc (own := [("_law_item", 1)]) (g := gName 1) (tt := tNot (tB (tCallSD (spF K cl F0) [] (fun _ => E0) (tCons (tVar 1) tNil)))) (te := tC (.int 1)) rfl scTuples.nd (pi_seq (pv 0))
      (blkOk_by (N := nTuples) (sc := defScope sTuples) (by decide +kernel)) (fun _ _ _ _ _ => pg_name (i := 1) scTuples.nd rfl (.inl rfl)) (fun _ _ _ _ _ => pts_one (pt_not (pt_val (pe_k (E := fun _ => E0) h0 hr (Nat.le_refl _) pass0N (pa_cons (pv 1) pa_nil)))))
      (fun _ _ _ _ _ => pe_int))))) pss_nil)
    (pss_one (ps_ret (pe_or (pe_cmpR op_isN (pv 0) pe_non (nomark _)) (pe_one (pe_and (e_isi M "int" (pv 0)) (pe_one (pe_not (e_isi M "bool" (pv 0))))))))), ?_⟩
  rcases law d with z | ⟨i, rfl, z⟩ | ⟨xs, rfl, l12, all, z⟩
  · rw [z] at q
    exact q.elim
  · rw [z] at q
    have := hv.scalI
    subst this
    refine q_when (et_B (ev_isi (ed_var hv) (kitB_tuple (.int i)))) (fun hb H1 s1 => by cases hb) (fun hb H1 s1 => ?_)
    exact s_ret (ed_B (ev_is (ev_orV (ev_isN (x := .int i) ev_var) fun _ => ev_andV (ev_isi (ed_var (.int i)) (kitB_int (.int i))) fun _ => ev_notV (ev_isi (ed_var (.int i)) (kitB_bool (.int i)))) rfl)) (Ret.mono s1 q)
  · rw [z] at q
    refine q_when (et_B (ev_isi (ed_var hv) (kitB_tuple (.tuple xs)))) (fun hb H1 s1 => ?_) (fun hb H1 s1 => by cases hb)
    have lc : EvD K (tLc (iSeq K (tVar 0)) (gName 1) (tNot (tB (tCallSD (spF K cl F0) [] (fun _ => E0) (tCons (tVar 1) tNil)))) (tC (.int 1)) [1]) [some v, none] H1 (.list ((xs.filter fun _ => false).map fun _ => .int 1)) :=
      ed_lc (xs := xs) (fun _ => false) (fun _ => .int 1) (ed_var (Dp.same s1 hv)) rfl (by omega) (fun c hc e => by cases e) (fun i x c H2 s2 hc hx => turns_name rfl (et_not (b := true) (et_B (ev_B (ed_k0 (F := F0) (ea_cons (ed_var hx) ea_nil) (all c (List.mem_of_getElem? hc)))))) fun e => by cases e)
    rw [filter_none fun _ _ => rfl] at lc
    have et := et_tru lc rfl
    refine et H1 (Same.refl H1) _ fun H2 s2 => ?_
    exact (Ret.mono (s1.trans s2) q) _ H2 (Same.refl H2) (.bl true)
theorem ok_tuples (M : Mo K mg cl pe) : Kept P w K mg base 3 "_law_tuples" (spF K cl fT1) [] := by
  have k1 : Kept P w K mg base 1 "_law_tuples" (spF K cl fNone) [] := ok_none M.aTuples scTuples fun _ _ _ _ _ _ us hl => match us, hl with | [_], _ => rfl
  have k2 : Kept P w K mg base 2 "_law_tuples" (spF K cl fT0) [] := ok_tuples_of M k1 (fun ds h => match ds, h with | [.int _], _ => rfl) fun d => by
    cases d with
    | int i => exact Or.inr (Or.inl ⟨i, rfl, rfl⟩)
    | _ => exact Or.inl rfl
  refine ok_tuples_of M k2 (fun ds h => match ds, h with | [.tuple _], _ => rfl) fun d => ?_
  cases d with
  | tuple xs =>
    by_cases c : xs.length ≤ 12 ∧ xs.all isInt = true
    · refine Or.inr (Or.inr ⟨xs, rfl, c.1, fun x hx => ?_, if_pos c⟩)
      have := List.all_eq_true.mp c.2 x hx
      cases x with
      | int i => rfl
      | _ => cases this
    · exact Or.inl (if_neg c)
  | _ => exact Or.inl rfl
theorem ok_lwhole (M : Mo K mg cl pe) : Kept P w K mg base 1 "_law_whole" (spF K cl fWhole) [] := by
  refine kept_all (ps := pLWhole) M.aLWhole (fun f fd F => F.ok scLWhole (spF_len fun ds h => ?_) fun cdv A outer s H vs Q E hr h => ?_) fun _ _ _ _ _ _ us hl => match us, hl with | [_, _, _], _ => rfl
  · match ds, h with
    | [d, .int lo, .int hi], _ => rfl
  · obtain ⟨ds, hd, q⟩ := h
    match ds, hd, q with
    | [d, .int lo, .int hi], .cons (v := v) hv (.cons h1 (.cons h2 .nil)), q =>
      cases h1
      cases h2
      refine ⟨_, pss_one (ps_ret (pe_and (e_isi M "int" (pv 0)) (pe_and (pe_not (e_isi M "bool" (pv 0))) (pe_one (pe_chain op_le op_le (pv 1) (pv 0) (pv 2)))))), ?_⟩
      have q' : Ret K (.bool (wholeB d lo hi)) H Q := q
      refine s_ret (d := .bool (wholeB d lo hi)) ?_ q'
      cases d with
      | int i =>
        have := hv.scalI
        subst this
        refine ed_B (ev_is (ev_andV (ev_isi (ed_var (.int i)) (kitB_int (.int i))) fun _ => ev_andV (ev_notV (ev_isi (ed_var (.int i)) (kitB_bool (.int i)))) fun _ => ev_chain ev_var ev_var ev_var) ?_)
        simp [wholeB]
      | bool b => exact ed_B (ev_is (ev_andV (b := false) (ev_isi (ed_var hv) (kitB_int (.bool b))) fun _ => ev_is (ev_andV (b := false) (ev_notV (ev_isi (ed_var hv) (kitB_bool (.bool b)))) fun e => by cases e) rfl) rfl)
      | none => exact ed_B (ev_is (ev_andV (b := false) (ev_isi (ed_var hv) (kitB_int .none)) fun e => by cases e) rfl)
      | str x => exact ed_B (ev_is (ev_andV (b := false) (ev_isi (ed_var hv) (kitB_int (.str x))) fun e => by cases e) rfl)
      | list xs => exact ed_B (ev_is (ev_andV (b := false) (ev_isi (ed_var hv) (kitB_int (.list xs))) fun e => by cases e) rfl)
      | tuple xs => exact ed_B (ev_is (ev_andV (b := false) (ev_isi (ed_var hv) (kitB_int (.tuple xs))) fun e => by cases e) rfl)
      | dict kv => exact ed_B (ev_is (ev_andV (b := false) (ev_isi (ed_var hv) (kitB_int (.dict kv))) fun e => by cases e) rfl)
/-! ### _law_is_slope -/
def fIsSlope : List D → Out
  | [d, .bool b] => .ok (.bool (slopeO d b).isSome)
  | _ => .no
theorem n2IsSlope : ∀ ds, fIsSlope ds ≠ .no → ds.length = 2
  | [d, .bool b], _ => rfl
theorem ok_isslope (M : Mo K mg cl pe) : Kept P w K mg base 2 "_law_is_slope" (spF K cl fIsSlope) [] := by
  refine kept_all (ps := pIsSlope) M.aIsSlope (fun f fd F => F.ok scIsSlope (spF_len n2IsSlope) fun cdv A outer s H vs Q E hr h => ?_) fun _ _ _ _ _ _ us hl => match us, hl with | [_, _], _ => rfl
  obtain ⟨d, db, v, vb, rfl, hv, hvb, q⟩ := in2 n2IsSlope h
  have ⟨b, eb⟩ : ∃ b, db = .bool b := by
    cases db with
    | bool b => exact ⟨b, rfl⟩
    | _ => exact q.elim
  subst eb
  have := hvb.scalB
  subst this
  have q : Ret K (.bool (slopeO d b).isSome) H Q := q
  refine ⟨_, pss_cons (ps_if (PW.pt (pw_or (pt_not (pt_val (e_isiS M (pv 0)))) (pw_or1 (pt_cmpR op_ne (e_len (M := M) (ha := pv 0)) pe_int (nomark _))))) (pss_one (ps_ret pe_bl)) pss_nil)
    (pss_cons (ps_if (PW.pt (pw_or (pt_not (pt_val (pe_k (E := fun _ => E0) (ok_lwhole M) hr (by decide) pass0N (pa_cons (pe_ix ix_seq (pv 0) pe_int (fun _ _ => rfl)) (pa_cons pe_int (pa_cons pe_int pa_nil))))))
        (pw_or1 (pt_not (pt_val (pe_k (E := fun _ => E0) (ok_lwhole M) hr (by decide) pass0N (pa_cons (pe_ix ix_seq (pv 0) pe_int (fun _ _ => rfl)) (pa_cons pe_int (pa_cons pe_int pa_nil)))))))))
        (pss_one (ps_ret pe_bl)) pss_nil)
    (pss_one (ps_ret (pe_and (pe_cmpR op_eq (pe_k (E := fun _ => E0) (ok_common M) hr (by decide) pass0N (pa_cons (pe_ix ix_seq (pv 0) pe_int (fun _ _ => rfl)) (pa_cons (pe_ix ix_seq (pv 0) pe_int (fun _ _ => rfl)) pa_nil))) pe_int (nomark _))
      (pe_one (pe_or (pv 1) (pe_one (pe_cmpR op_gt (pe_ix ix_seq (pv 0) pe_int (fun _ _ => rfl)) pe_int (nomark _))))))))), ?_⟩
  have out : ∀ {H1 : Hp} {D1 : Ends}, D1.rt = Q → Same H H1 → slopeO d b = none → tRet (tC (.bl false)) D1 (start nIsSlope [v, .bl b]) H1 := fun e s1 z => by
    rw [z] at q
    subst e
    exact s_ret (K := K) (d := .bool false) ed_bl (Ret.mono s1 q)
  refine q_when (et_len (n := 2) (ed_var hv) (ed_var hv)) (fun hb H1 s1 => ?_) (fun hb H1 s1 => ?_)
  · refine out rfl s1 (slopeO_no ?_)
    rcases isLen_no (n := 2) (by simpa using hb) with z | ⟨xs, z, l⟩
    · exact slopePQ_seq z
    · exact slopePQ_len z l
  obtain ⟨xs, ex, l2⟩ := isLen_yes (n := 2) (d := d) (by simpa using hb)
  obtain ⟨x, y, rfl⟩ := two_of l2
  have hv1 := Dp.same s1 hv
  refine q_when (b := !wholeB x 1 9 || !wholeB y 0 9) (et_or (et_not (et_B (ev_B (ed_k0 (F := fWhole) (ea_cons (ed_ix (j := 0) (ed_var hv1) ex ev_c rfl) (ea_cons ed_int (ea_cons ed_int ea_nil))) rfl))))
    fun _ => et_not (et_B (ev_B (ed_k0 (F := fWhole) (ea_cons (ed_ix (j := 1) (ed_var hv1) ex ev_c rfl) (ea_cons ed_int (ea_cons ed_int ea_nil))) rfl)))) (fun hb H2 s2 => ?_) (fun hb H2 s2 => ?_)
  · refine out rfl (s1.trans s2) (slopeO_no (slopePQ_whole ex ?_))
    simpa using hb
  have hx : wholeB x 1 9 = true ∧ wholeB y 0 9 = true := by simpa using hb
  obtain ⟨p, rfl, p1, p2⟩ := whole_int hx.1
  obtain ⟨r, rfl, r1, r2⟩ := whole_int hx.2
  have hv2 := Dp.same s2 hv1
  have i0 : EvD K (tOp (rIx K) (tVar 0) (tC (.int 0))) (start nIsSlope [v, .bl b]) H2 (.int p) := ed_ix (j := 0) (ed_var hv2) ex ev_c rfl
  have i1 : EvD K (tOp (rIx K) (tVar 0) (tC (.int 1))) (start nIsSlope [v, .bl b]) H2 (.int r) := ed_ix (j := 1) (ed_var hv2) ex ev_c rfl
  have pq : slopePQ d = if Nat.gcd p.natAbs r.natAbs = 1 then some (p, r) else none := by
    unfold slopePQ
    rw [ex]
    show (if _ then some (p, r) else none) = _
    by_cases g : Nat.gcd p.natAbs r.natAbs = 1
    · rw [if_pos ⟨⟨p1, p2⟩, ⟨r1, r2⟩, g⟩, if_pos g]
    · rw [if_neg fun z => g z.2.2, if_neg g]
  refine s_ret (d := .bool (slopeO d b).isSome) (ed_B (ev_is (ev_andV (ev_eqI (ev_I (ed_k0 (F := fCommon) (ea_cons i0 (ea_cons i1 ea_nil)) rfl)) ev_c) fun _ => ev_orV (ev_var (v := .bl b)) fun _ => ev_opI0 (ev_I i1) ev_c) ?_)) (Ret.mono (s1.trans s2) q)
  congr 1
  unfold slopeO
  rw [pq]
  by_cases g : Nat.gcd p.natAbs r.natAbs = 1
  · have gi : ((Nat.gcd p.natAbs r.natAbs : Nat) : Int) = 1 := by rw [g]; rfl
    rw [if_pos g, decide_eq_true gi, Bool.true_and]
    show _ = (if b = true ∨ r ≠ 0 then some (p, r) else none).isSome
    by_cases r0 : r = 0
    · subst r0
      cases b <;> simp
    · have : (0 : Int) < r := by omega
      cases b <;> simp [r0, this]
  · rw [if_neg g]
    have g' : ¬ ((Nat.gcd p.natAbs r.natAbs : Nat) : Int) = 1 := by omega
    rw [decide_eq_false g', Bool.false_and]
    rfl
/-! ### _law_word -/
def fWord : List D → Out
  | [f, d] => if faceB f then .ok (match dirO (faceN f) d with
    | .inl w => .str w
    | .inr _ => .none) else .no
  | _ => .no
theorem n2Word : ∀ ds, fWord ds ≠ .no → ds.length = 2 := len2 rfl (fun _ => rfl) fun _ _ _ _ => rfl
theorem word_ok {n : Nat} {d : D} (hn : n ≤ 5) : fWord [.int (n : Int), d] = .ok (match dirO n d with
    | .inl w => .str w
    | .inr _ => .none) := by
  show (if faceB (.int (n : Int)) then Out.ok _ else .no) = _
  rw [if_pos (face_nat hn)]
  rfl
theorem ok_word (M : Mo K mg cl pe) : Kept P w K mg base 2 "_law_word" (spF K cl fWord) [] := by
  refine kept_all (ps := pWord) M.aWord (fun f fd F => F.ok scWord (spF_len n2Word) fun cdv A outer s H vs Q E hr h => ?_) fun _ _ _ _ _ _ us hl => match us, hl with | [_, _], _ => rfl
  obtain ⟨d, t, v, u, rfl, hv, hu, q⟩ := in2 n2Word h
  refine ⟨_, pss_cons (ps_if (PW.pt (pw_or (pt_not (pt_val (e_isiS M (pv 1)))) (pw_or1 (pt_cmpR op_ne (e_len (M := M) (ha := pv 1)) pe_int (nomark _))))) (pss_one (ps_ret pe_str)) pss_nil)
    (pss_cons (ps_if (pt_truth (pe_lc (own := [("_law_step", 3)]) (g := gName 3) (tt := tNot (tB (tCallSD (spF K cl fWhole) [] (fun _ => E0) (tCons (tVar 3) (tCons (tUn (rU fun i => .int (-i)) (tC (.int 10000))) (tCons (tC (.int 10000)) tNil)))))) (te := tC (.int 1)) rfl scWord.nd (pi_seq (pv 1))
        (blkOk_by (N := nWord) (sc := defScope sWord) (by decide +kernel)) (fun _ _ _ _ _ => pg_name (i := 3) scWord.nd rfl (.inl rfl)) (fun _ _ _ _ _ => pts_one (pt_not (pt_val (pe_k (E := fun _ => E0) (ok_lwhole M) hr (by decide) pass0N (pa_cons (pv 3) (pa_cons (pe_un un_neg pe_int) (pa_cons pe_int pa_nil)))))))
        (fun _ _ _ _ _ => pe_int)) (fun _ => rfl)) (pss_one (ps_ret pe_str)) pss_nil)
    (pss_cons (ps_if (pt_cmpR op_ne (pe_ix ix_seq (pv 1) (pe_op op_fdiv (pv 0) pe_int) (fun _ _ => rfl)) pe_int (nomark _)) (pss_one (ps_ret pe_str)) pss_nil)
    (pss_cons (ps_set (i := 2) scWord.nd rfl (Or.inl rfl) (pe_k (E := fun _ => E0) (ok_laxes M) hr (by decide) pass0N (pa_cons (pv 0) pa_nil)))
    (pss_cons (ps_if (PW.pt (pw_and (pt_cmpR op_eq (pe_ix ix_seq (pv 1) (pe_ix ix_seq (pv 2) pe_int (fun _ _ => rfl)) (fun _ _ => rfl)) pe_int (nomark _)) (pw_and1 (pt_cmpR op_eq (pe_ix ix_seq (pv 1) (pe_ix ix_seq (pv 2) pe_int (fun _ _ => rfl)) (fun _ _ => rfl)) pe_int (nomark _))))) (pss_one (ps_ret pe_str)) pss_nil)
    (pss_one (ps_ret (pe_ifExp (pt_cmpR op_eq (pe_k (E := fun _ => E0) (ok_common M) hr (by decide) pass0N (pa_cons (pe_ix ix_seq (pv 1) (pe_ix ix_seq (pv 2) pe_int (fun _ _ => rfl)) (fun _ _ => rfl)) (pa_cons (pe_ix ix_seq (pv 1) (pe_ix ix_seq (pv 2) pe_int (fun _ _ => rfl)) (fun _ _ => rfl)) pa_nil))) pe_int (nomark _)) pe_non pe_str))))))), ?_⟩
  cases e : faceB d with
  | false =>
    simp only [fWord, e] at q
    exact q.elim
  | true =>
  obtain ⟨n, rfl, hn, en⟩ := face_int e
  rw [word_ok hn] at q
  obtain ⟨a1, a2, _⟩ := axN_lt hn
  have out : ∀ {wd : Str} {H1 : Hp} {σ : L2.St} {D1 : Ends}, D1.rt = Q → Same H H1 → dirO n t = .inl wd → tRet (tC (.str wd)) D1 σ H1 := fun e1 s1 z => by
    rw [z] at q
    subst e1
    exact s_ret (K := K) (ed_str) (Ret.mono s1 q)
  refine q_when (et_len (n := 3) (ed_var hu) (ed_var hu)) (fun hb H1 s1 => ?_) (fun hb H1 s1 => ?_)
  · refine out rfl s1 (dirO_kind ?_)
    rcases isLen_no (n := 3) (by simpa using hb) with z | ⟨xs, z, l⟩
    · exact ints3_none z
    · exact ints3_len z l
  obtain ⟨xs, ex, l3⟩ := isLen_yes (n := 3) (d := t) (by simpa using hb)
  have lc : EvD K (tLc (iSeq K (tVar 1)) (gName 3) (tNot (tB (tCallSD (spF K cl fWhole) [] (fun _ => E0) (tCons (tVar 3) (tCons (tUn (rU fun i => .int (-i)) (tC (.int 10000))) (tCons (tC (.int 10000)) tNil)))))) (tC (.int 1)) [3]) [some v, some u, none, none] H1 (.list ((xs.filter fun c => !wholeB c (-10000) 10000).map fun _ => .int 1)) :=
    ed_lc (xs := xs) (fun c => !wholeB c (-10000) 10000) (fun _ => .int 1) (ed_var (Dp.same s1 hu)) ex (by omega) (fun c hc e => rfl) (fun i x c H2 s2 hc hx => turns_name rfl (et_not (et_B (ev_B (ed_k0 (F := fWhole) (ea_cons (ed_var hx) (ea_cons (ed_I (ev_neg ev_c)) (ea_cons ed_int ea_nil))) rfl)))) fun e => ed_int)
  refine q_when (et_tru lc rfl) (fun hb H2 s2 => ?_) (fun hb H2 s2 => ?_)
  · refine out rfl (s1.trans s2) (dirO_kind ?_)
    obtain ⟨x1, x2, x3, rfl⟩ := three_of l3
    refine ints3_bad ex ?_
    cases h1 : wholeB x1 (-10000) 10000 with
    | false => exact Or.inl rfl
    | true => cases h2 : wholeB x2 (-10000) 10000 with
      | false => exact Or.inr (Or.inl rfl)
      | true => cases h3 : wholeB x3 (-10000) 10000 with
        | false => exact Or.inr (Or.inr rfl)
        | true => simp [h1, h2, h3] at hb
  obtain ⟨x1, x2, x3, rfl⟩ := three_of l3
  have good : wholeB x1 (-10000) 10000 = true ∧ wholeB x2 (-10000) 10000 = true ∧ wholeB x3 (-10000) 10000 = true := by
    cases h1 : wholeB x1 (-10000) 10000 with
    | false => simp [h1] at hb
    | true => cases h2 : wholeB x2 (-10000) 10000 with
      | false => simp [h1, h2] at hb
      | true => cases h3 : wholeB x3 (-10000) 10000 with
        | false => simp [h1, h2, h3] at hb
        | true => exact ⟨rfl, rfl, rfl⟩
  obtain ⟨i1, i2, i3, rfl, rfl, rfl, e3⟩ := ints3_good ex good
  have s02 := s1.trans s2
  have n2 : n / 2 < 3 := by omega
  have ex' : its? t = some (([i1, i2, i3] : List Int).map PyData.int) := ex
  have dr : dirO n t = match wordV n [i1, i2, i3] with | some w => Sum.inl w | none => Sum.inr [i1, i2, i3] := by
    unfold dirO
    first
      | (rw [e3]; done)
      | (rw [e3]; rfl)
  refine q_when (et_test (ev_neI (ev_I (ed_ix (j := n / 2) (c := .int (([i1, i2, i3] : List Int).getD (n / 2) 0)) (ed_var (Dp.same s02 hu)) ex' (ev_is (ev_opI (ev_I (ed_var (Dp.same s02 hv))) ev_c ⟨by decide, by decide⟩) (by rfl)) (map_getD n2))) ev_c)) (fun hb H4 s4 => ?_) (fun hb H4 s4 => ?_)
  · refine out rfl (s02.trans s4) ?_
    rw [dr]
    unfold wordV
    rw [if_pos (by simpa using hb)]
  have hb1 : ([i1, i2, i3] : List Int).getD (n / 2) 0 = 0 := by simpa using hb
  obtain ⟨p1, hp1⟩ : ∃ p1, p1 = ([i1, i2, i3] : List Int).getD (axN n).1 0 := ⟨_, rfl⟩
  obtain ⟨p2, hp2⟩ : ∃ p2, p2 = ([i1, i2, i3] : List Int).getD (axN n).2 0 := ⟨_, rfl⟩
  have wd : wordV n [i1, i2, i3] = (if p1 = 0 ∧ p2 = 0 then some ("both" : Str) else if Nat.gcd p1.natAbs p2.natAbs ≠ 1 then some ("common" : Str) else none : Option Str) := by
    unfold wordV
    rw [if_neg (by simpa using hb1), ← hp1, ← hp2]
  rw [wd] at dr
  refine q_asg (d := pairN (axN n)) (ed_k0 (F := fLAxes) (ea_cons (ed_var (Dp.same (s02.trans s4) hv)) ea_nil) (laxes_ok hn)) fun ax H5 s5 hax => ?_
  have s05 := (s02.trans s4).trans s5
  have g1 : ∀ {H6 : Hp}, Same H5 H6 → EvD K (tOp (rIx K) (tVar 1) (tOp (rIx K) (tVar 2) (tC (.int 0)))) [some v, some u, some ax, none] H6 (.int p1) := fun s6 => by
    rw [hp1]
    exact ed_ix (j := (axN n).1) (ed_var (Dp.same (s05.trans s6) hu)) ex' (ev_I (ed_ix (j := 0) (ed_var (Dp.same s6 hax)) rfl ev_c rfl)) (map_getD a1)
  have g2 : ∀ {H6 : Hp}, Same H5 H6 → EvD K (tOp (rIx K) (tVar 1) (tOp (rIx K) (tVar 2) (tC (.int 1)))) [some v, some u, some ax, none] H6 (.int p2) := fun s6 => by
    rw [hp2]
    exact ed_ix (j := (axN n).2) (ed_var (Dp.same (s05.trans s6) hu)) ex' (ev_I (ed_ix (j := 1) (ed_var (Dp.same s6 hax)) rfl ev_c rfl)) (map_getD a2)
  refine q_when (et_and (et_test (ev_eqI (ev_I (g1 (Same.refl H5))) ev_c)) fun _ => et_test (ev_eqI (ev_I (g2 (Same.refl H5))) ev_c)) (fun hb H6 s6 => ?_) (fun hb H6 s6 => ?_)
  · refine out rfl (s05.trans s6) ?_
    rw [dr, if_pos (by simpa using hb)]
  have hb2 : ¬ (p1 = 0 ∧ p2 = 0) := by simpa using hb
  rw [dr, if_neg hb2] at q
  refine s_ret (ed_if (et_test (ev_eqI (ev_I (ed_k0 (F := fCommon) (ea_cons (g1 s6) (ea_cons (g2 s6) ea_nil)) rfl)) ev_c)) (fun hb => ?_) fun hb => ?_) (Ret.mono (s05.trans s6) q)
  · have g : ¬ (Nat.gcd p1.natAbs p2.natAbs ≠ 1) := fun z => z (by
      have : ((Nat.gcd p1.natAbs p2.natAbs : Nat) : Int) = 1 := of_decide_eq_true hb
      omega)
    rw [if_neg g]
    exact ed_non
  · have g : Nat.gcd p1.natAbs p2.natAbs ≠ 1 := fun z => by
      have : ¬ ((Nat.gcd p1.natAbs p2.natAbs : Nat) : Int) = 1 := of_decide_eq_false hb
      omega
    rw [if_pos g]
    exact ed_str
end
end G4
/-! L4: _law_plain (also while an exception is handled), _law_like. -/
namespace G4
open PySem PySem.Spec PyProof.Rows L2 L2H
/-! ### kept while an exception is handled; kept where none is being shown -/
def KeptH (P : Program) (w : World) (K : PySem.W.Frag) (mg : Str → Option Value) (base : Heap) (k : Nat) (x : Str) (sp : Sp) : Prop :=
  ∃ f fd ps, FnH P w K mg base (L2N.CX P w) k f fd ps sp ∧ mg x = some (.ref f) ∧ PySem.W.keepIn K (.ref f) = true ∧ Binds K fd ps []
def KeptG (P : Program) (w : World) (K : PySem.W.Frag) (mg : Str → Option Value) (base : Heap) (k : Nat) (x : Str) (sp : Sp) : Prop :=
  ∃ f fd ps, FnG P w K mg base (L2N.CX P w) k f fd ps sp ∧ mg x = some (.ref f) ∧ PySem.W.keepIn K (.ref f) = true ∧ Binds K fd ps []
section
variable {P : Program} {w : World} {K : PySem.W.Frag} {mg : Str → Option Value} {base : Heap} {cl : Kd → Addr} {pe : Addr}
theorem keptH_all {k : Nat} {x : Str} {sp : Sp} {st : Stmt} {N ps : List Str} (a : At K mg x st []) (S : FnScope N ps (defScope st)) (len : ∀ vs H Q E, sp vs H Q E → vs.length = ps.length)
    (hbody : ∀ (f : Addr) (cdv : Value) (A : Around) (outer : List Env) (s : Shared) (H : Hp) (vs : List V) (Q : VK) (E : XK) (p : Addr × Obj), Hot1 A p → RoomH k (A.deeper (envOfC x (defScope st) s.heap.objs.size f cdv)) → sp vs H Q E →
      ∃ t, PSs (cxH (L2N.CX P w) P w K mg base N x (defScope st) f cdv A outer s H E p) (defBody st) t ∧ t { nx := fun _ H' => Q .non H', rt := Q } (start N vs) H)
    (h : ∀ (kV doc pm : Value) (an : Option Addr) (cdv ct : Value) (us : List Value), us.length = ps.length → bindArgs (PySem.W.fnOf x x (defArgs st) (defBody st) (defScope st) .none kV doc pm an cdv ct) ⟨us, []⟩ = pure (ps.zip us)) :
    KeptH P w K mg base (k + 1) x sp := by
  obtain ⟨f, fd, F, g⟩ := a
  refine ⟨f, fd, ps, ?_, g, F.kp, F.bindsN h⟩
  obtain ⟨oc, od, dV, kV, doc, pm, an, cdv, ct, osl, rfl, lk, hcd, _, _⟩ := F.ex
  exact fn_ofH lk hcd S len fun A outer s H vs Q E p hot hr hsp => hbody f cdv A outer s H vs Q E p hot hr hsp
theorem keptG_all {k : Nat} {x : Str} {sp : Sp} {st : Stmt} {N ps : List Str} (a : At K mg x st []) (S : FnScope N ps (defScope st)) (len : ∀ vs H Q E, sp vs H Q E → vs.length = ps.length)
    (hbody : ∀ (f : Addr) (cdv : Value) (A : Around) (outer : List Env) (s : Shared) (H : Hp) (vs : List V) (Q : VK) (E : XK), Quiet (A.deeper (envOfC x (defScope st) s.heap.objs.size f cdv)) → Room k (A.deeper (envOfC x (defScope st) s.heap.objs.size f cdv)) → sp vs H Q E →
      ∃ t, PSs (cxOf (L2N.CX P w) P w K mg base N x (defScope st) f cdv A outer s H E) (defBody st) t ∧ t { nx := fun _ H' => Q .non H', rt := Q } (start N vs) H)
    (h : ∀ (kV doc pm : Value) (an : Option Addr) (cdv ct : Value) (us : List Value), us.length = ps.length → bindArgs (PySem.W.fnOf x x (defArgs st) (defBody st) (defScope st) .none kV doc pm an cdv ct) ⟨us, []⟩ = pure (ps.zip us)) :
    KeptG P w K mg base (k + 1) x sp := by
  obtain ⟨f, fd, F, g⟩ := a
  refine ⟨f, fd, ps, ?_, g, F.kp, F.bindsN h⟩
  obtain ⟨oc, od, dV, kV, doc, pm, an, cdv, ct, osl, rfl, lk, hcd, _, _⟩ := F.ex
  exact fnG_of lk hcd S len fun A outer s H vs Q E hq hr hsp => hbody f cdv A outer s H vs Q E hq hr hsp
end
section
variable {X : Cx} {k j : Nat} {x : Str} {sp : Sp} {E : L2.St → XK} {E1 : XK} {p pos : Pos} {e : Expr} {es : List Expr} {t : TA}
theorem pe_kH (F : KeptH X.prog X.w X.K X.mg X.base j x sp) (hr : RoomH k X.A) (hj : j ≤ k) (hc : HotC X) (hx : ∀ σ, PassesAt (L2N.CX X.prog X.w) X σ (E σ)) (ha : PA X (e :: es) t) (hg : Gl X x := by rfl)
    (hdb : (x == ("__debug__" : Str)) = false := by decide) (he : starEach (e :: es) X.env = (false, eval e X.env) :: starEach es X.env := by rfl) (hpl : (backTo pos (starEach es X.env)).any (·.1) = false := by rfl) :
    PE X (.Call (.Name x p) (e :: es) [] pos) (tCallS sp E t) := by
  obtain ⟨f, fd, ps, fn, at_x, keeps, binds⟩ := F
  exact pe_callH fn (hr.mono hj) hc hg at_x keeps binds hx ha hdb he hpl
theorem pe_kG (F : KeptG X.prog X.w X.K X.mg X.base j x sp) (hq : Quiet X.A) (hr : Room k X.A) (hj : j ≤ k) (hx : Passes (L2N.CX X.prog X.w) X E1) (ha : PA X (e :: es) t) (hg : Gl X x := by rfl)
    (hdb : (x == ("__debug__" : Str)) = false := by decide) (he : starEach (e :: es) X.env = (false, eval e X.env) :: starEach es X.env := by rfl) (hpl : (backTo pos (starEach es X.env)).any (·.1) = false := by rfl) :
    PE X (.Call (.Name x p) (e :: es) [] pos) (tCall sp [] E1 t) := by
  obtain ⟨f, fd, ps, fn, at_x, keeps, binds⟩ := F
  exact pe_callG fn hq (hr.mono hj) hg at_x keeps binds hx ha hdb he hpl
/-- nothing gets out -/
theorem passG : Passes (L2N.CX X.prog X.w) X E0 := fun _ _ _ _ _ _ _ c => by
  obtain ⟨_, _, _, _, _, _, _, _, _, _, _, _, z⟩ := c
  exact z.elim
end
/-! ### _law_plain -/
mutual
def plainD : D → D
  | .list xs => .tuple (plains xs)
  | .tuple xs => .tuple (plains xs)
  | d => d
def plains : List D → List D
  | [] => []
  | x :: xs => plainD x :: plains xs
end
theorem plains_map : ∀ xs : List D, plains xs = xs.map plainD
  | [] => by unfold plains; rfl
  | x :: xs => by unfold plains; rw [plains_map xs]; rfl
theorem plain_seq {d : D} {xs : List D} (h : its? d = some xs) : plainD d = .tuple (xs.map plainD) := by
  cases d <;> first | (cases h; done) | skip
  · cases h
    unfold plainD
    rw [plains_map]
  · cases h
    unfold plainD
    rw [plains_map]
theorem plain_leaf {d : D} (h : its? d = none) : plainD d = d := by
  cases d <;> first | (cases h; done) | (unfold plainD; rfl)
theorem noL_plain : ∀ {k : Nat} {d : D}, tiny k d = true → noL (plainD d) = true
  | k, d, h => by
    cases e : its? d with
    | none =>
      rw [plain_leaf e]
      cases d <;> first | rfl | (cases e; done)
    | some xs =>
      rw [plain_seq e]
      obtain ⟨j, rfl, _, h2⟩ := tiny_its h e
      unfold noL
      refine noLs_mem fun c hc => ?_
      obtain ⟨x, hx, rfl⟩ := List.mem_map.mp hc
      exact noL_plain (h2 x hx)
theorem tiny_plain : ∀ {k : Nat} {d : D}, tiny k d = true → tiny k (plainD d) = true
  | k, d, h => by
    cases e : its? d with
    | none =>
      rw [plain_leaf e]
      exact h
    | some xs =>
      rw [plain_seq e]
      obtain ⟨j, rfl, h1, h2⟩ := tiny_its h e
      refine tiny_tup (by rw [List.length_map]; exact h1) fun c hc => ?_
      obtain ⟨x, hx, rfl⟩ := List.mem_map.mp hc
      exact tiny_plain (h2 x hx)
def fPlain (k : Nat) : List D → Out
  | [d] => if tiny k d = true then .ok (plainD d) else .no
  | _ => .no
theorem n1Plain {k : Nat} : ∀ ds, fPlain k ds ≠ .no → ds.length = 1 := len1 rfl fun _ _ _ => rfl
theorem plain_ok {k : Nat} {d : D} (h : tiny k d = true) : fPlain k [d] = .ok (plainD d) := if_pos h
section
variable {K : PySem.W.Frag} {cl : Kd → Addr} {H : Hp} {d : D} {v : V} {Q : VK} {D' : Ends} {te : TE}
/-- one round; F: what is known of the items' rounds -/
theorem plain_round {k : Nat} (hv : Dp K H v d) (ht : tiny k d = true) (hte : ∀ (x : V) (c : D) (H1 : Hp) (j : Nat), k = j + 1 → Dp K H1 x c → tiny j c = true → EvD K te [some v, some x] H1 (plainD c)) (q : Ret K (plainD d) H D'.rt) :
    tRet (tIf (tB (tCB (rIsiT K) (tCons (tVar 0) (tCons (tTup (tCons (tC (.ty "list")) (tCons (tC (.ty "tuple")) tNil))) tNil)))) (tCB (rTupS K) (tCons (tLc (iSeq K (tVar 0)) (gName 1) tYes te [1]) tNil)) (tVar 0)) D' [some v, none] H := by
  refine s_ret (d := plainD d) (ed_if (et_B (ev_isiS (ed_var hv))) (fun hb => ?_) fun hb => ?_) q
  · obtain ⟨xs, e⟩ := Option.isSome_iff_exists.mp hb
    rw [plain_seq e]
    obtain ⟨j, ej, h1, h2⟩ := tiny_its ht e
    refine ed_tuple (d := .list (xs.map plainD)) ?_ rfl
    refine ed_is (ed_lc (xs := xs) (fun _ => true) plainD (ed_var hv) e (by omega) (fun c hc _ => noL_plain (h2 c hc)) fun i x c H1 s1 hc hx => turns_name rfl et_yes fun _ => hte x c H1 j ej hx (h2 c (List.mem_of_getElem? hc))) ?_
    rw [filter_yes]
  · have e : its? d = none := by
      cases z : its? d with
      | none => rfl
      | some xs =>
        unfold isSeq at hb
        rw [z] at hb
        cases hb
    rw [plain_leaf e]
    exact ed_var hv
end
section
variable {P : Program} {w : World} {K : PySem.W.Frag} {mg : Str → Option Value} {base : Heap} {cl : Kd → Addr} {pe : Addr}
theorem plain_step (M : Mo K mg cl pe) {k j : Nat} {F0 : List D → Out} (h0 : Kept P w K mg base j "_law_plain" (spF K cl F0) []) (hF : ∀ i c, k = i + 1 → tiny i c = true → F0 [c] = .ok (plainD c)) : Kept P w K mg base (j + 1) "_law_plain" (spF K cl (fPlain k)) [] := by
  refine kept_all (ps := pPlain) M.aPlain (fun f fd F => F.ok scPlain (spF_len n1Plain) fun cdv A outer s H vs Q E hr h => ?_) fun _ _ _ _ _ _ us hl => match us, hl with | [_], _ => rfl
  obtain ⟨d, v, rfl, hv, q⟩ := in1 n1Plain h
  refine ⟨_, pss_one (ps_ret (pe_ifExp (pt_val (e_isiS M (pv 0))) (e_tuple (M := M) (ha := pe_lc (own := [("_law_item", 1)]) (g := gName 1) (tt := tYes) (te := tCallSD (spF K cl F0) [] (fun _ => E0) (tCons (tVar 1) tNil)) rfl scPlain.nd (pi_seq (pv 0))
      (blkOk_by (N := nPlain) (sc := defScope sPlain) (by decide +kernel)) (fun _ _ _ _ _ => pg_name (i := 1) scPlain.nd rfl (.inl rfl)) (fun _ _ _ _ _ => pts_nil)
      (fun _ _ _ _ _ => pe_k (E := fun _ => E0) h0 hr (Nat.le_refl _) pass0N (pa_cons (pv 1) pa_nil)))) (pv 0))), ?_⟩
  have ht : tiny k d = true := by
    cases e : tiny k d with
    | true => rfl
    | false =>
      have : Gets K cl (if tiny k d = true then .ok (plainD d) else .no) H Q E := q
      rw [e] at this
      exact this.elim
  rw [plain_ok ht] at q
  exact plain_round hv ht (fun x c H1 i ei hx hc => ed_k0 (F := F0) (ea_cons (ed_var hx) ea_nil) (hF i c ei hc)) q
theorem plain_stepH (M : Mo K mg cl pe) {k j : Nat} {F0 : List D → Out} (h0 : KeptH P w K mg base j "_law_plain" (spF K cl F0)) (hF : ∀ i c, k = i + 1 → tiny i c = true → F0 [c] = .ok (plainD c)) : KeptH P w K mg base (j + 1) "_law_plain" (spF K cl (fPlain k)) := by
  refine keptH_all M.aPlain scPlain (spF_len n1Plain) (fun f cdv A outer s H vs Q E p hot hr h => ?_) fun _ _ _ _ _ _ us hl => match us, hl with | [_], _ => rfl
  obtain ⟨d, v, rfl, hv, q⟩ := in1 n1Plain h
  refine ⟨_, pss_one (ps_ret (pe_ifExp (pt_val (e_isiS M (pv 0))) (e_tuple (M := M) (ha := pe_lcH (own := [("_law_item", 1)]) (g := gName 1) (te := tCallS (spF K cl F0) (fun _ => E0) (tCons (tVar 1) tNil)) (p := p) hot List.mem_cons_self scPlain.nd (pi_seqH (pv 0))
      (blkOk_by (N := nPlain) (sc := defScope sPlain) (by decide +kernel)) (fun _ _ _ _ _ => pg_name (i := 1) scPlain.nd rfl (.inl rfl))
      (fun _ _ _ _ _ => pe_kH (E := fun _ => E0) h0 hr (Nat.le_refl _) ⟨p, hot, List.mem_cons_self⟩ pass0N (pa_cons (pv 1) pa_nil)))) (pv 0))), ?_⟩
  have ht : tiny k d = true := by
    cases e : tiny k d with
    | true => rfl
    | false =>
      have : Gets K cl (if tiny k d = true then .ok (plainD d) else .no) H Q E := q
      rw [e] at this
      exact this.elim
  rw [plain_ok ht] at q
  exact plain_round hv ht (fun x c H1 i ei hx hc => ed_callS (F := F0) (ea_cons (ed_var hx) ea_nil) (hF i c ei hc)) q
theorem ok_plain (M : Mo K mg cl pe) : ∀ k, Kept P w K mg base (k + 2) "_law_plain" (spF K cl (fPlain k)) []
  | 0 => plain_step M (F0 := fNone) (ok_none M.aPlain scPlain fun _ _ _ _ _ _ us hl => match us, hl with | [_], _ => rfl) fun i c e => by cases e
  | k + 1 => plain_step M (ok_plain M k) fun i c e hc => by
    cases e
    exact plain_ok hc
theorem ok_noneH {x : Str} {st : Stmt} {N ps : List Str} (a : At K mg x st []) (sc : FnScope N ps (defScope st)) 
    (h : ∀ (kV doc pm : Value) (an : Option Addr) (cdv ct : Value) (us : List Value), us.length = ps.length → bindArgs (PySem.W.fnOf x x (defArgs st) (defBody st) (defScope st) .none kV doc pm an cdv ct) ⟨us, []⟩ = pure (ps.zip us)) :
    KeptH P w K mg base 1 x (spF K cl fNone) :=
  keptH_all a sc (spF_len fun ds h => (h rfl).elim) (fun f cdv A outer s H vs Q E p hot hr h => by
    obtain ⟨_, _, z⟩ := h
    exact z.elim) h
theorem ok_plainH (M : Mo K mg cl pe) : ∀ k, KeptH P w K mg base (k + 2) "_law_plain" (spF K cl (fPlain k))
  | 0 => plain_stepH M (F0 := fNone) (ok_noneH M.aPlain scPlain fun _ _ _ _ _ _ us hl => match us, hl with | [_], _ => rfl) fun i c e => by cases e
  | k + 1 => plain_stepH M (ok_plainH M k) fun i c e hc => by
    cases e
    exact plain_ok hc
/-! ### _law_like -/
open Classical in
noncomputable def fLike : List D → Out
  | [d, e] => if d = e ∧ Fine d then .ok (.bool true) else .no
  | _ => .no
theorem n2Like : ∀ ds, fLike ds ≠ .no → ds.length = 2 := len2 rfl (fun _ => rfl) fun _ _ _ _ => rfl
theorem like_ok {d : D} (h : Fine d) : fLike [d, d] = .ok (.bool true) := by
  unfold fLike
  exact if_pos ⟨rfl, h⟩
theorem like_no {d e : D} (h : ¬ (d = e ∧ Fine d)) : fLike [d, e] = .no := by
  unfold fLike
  exact if_neg h
theorem ok_like (M : Mo K mg cl pe) : KeptG P w K mg base 1 "_law_like" (spF K cl fLike) := by
  refine keptG_all M.aLike scLike (spF_len n2Like) (fun f cdv A outer s H vs Q E hq hr h => ?_) fun _ _ _ _ _ _ us hl => match us, hl with | [_, _], _ => rfl
  obtain ⟨d, e, v, u, rfl, hv, hu, q⟩ := in2 n2Like h
  have hn := hr.un
  refine ⟨_, pss_one (ps_ret (pe_and (pe_cmpR (op_eqD (by show A.units + 3 + 64 < _; have : A.units + 3 + 16 * 0 + 200 < cLine := hn; omega)) (pv 0) (pv 1) (nomark _)) (pe_one (pe_cmpR op_eq (pe_callB (cr_repr hq (by show A.units + 3 + 64 < _; have : A.units + 3 + 16 * 0 + 200 < cLine := hn; omega)) rfl (M.nob "repr") (by decide +kernel) (pa_cons (pv 0) pa_nil))
    (pe_callB (cr_repr hq (by show A.units + 3 + 64 < _; have : A.units + 3 + 16 * 0 + 200 < cLine := hn; omega)) rfl (M.nob "repr") (by decide +kernel) (pa_cons (pv 1) pa_nil)) (nomark _))))), ?_⟩
  by_cases c : d = e ∧ Fine d
  · obtain ⟨rfl, fine⟩ := c
    rw [like_ok fine] at q
    refine s_ret (d := .bool true) (ed_B (ev_is (ev_andV (ev_is (ev_eqD (ed_var hv) (ed_var hu) fine.shaped fine.shaped) (by rw [fine.self])) fun _ => ev_is (ev_eqS (ev_repr (ed_var hv) fine.shows) (ev_repr (ed_var hu) fine.shows) rfl) (by rw [decide_eq_true rfl])) rfl)) q
  · rw [like_no c] at q
    exact q.elim
end
end G4
/-! L5: _law_slope_of, _law_mirror, _law_deed. -/
namespace G4
open PySem PySem.Spec PyProof.Rows L2 L2H
/-! ### suites -/
section
variable {X : Cx} {a : Addr} {oe : Obj} {cls : Value} {d : Option Addr} {pn : List (Addr × Obj)}
theorem suite_hot (z : L2N.Zn cls d oe) (h : ∃ vs, oe.data = .fields vs) : HotC (X.suite a ((a, oe) :: pn)) := by
  obtain ⟨vs, hv⟩ := h
  exact ⟨(a, oe), ⟨rfl, vs, hv, z.2.2 vs hv⟩, List.mem_cons_self⟩
end
section
variable {K : PySem.W.Frag} {σ : L2.St} {H : Hp} {u : V} {e : D} {a dd C : Addr} {f : Str} {i : Nat}
theorem ed_xf (hd : H dd = some (.xd [(f, u)])) (hu : Dp K H u e) (hσ : σ[i]? = some (some (.ref a)) := by rfl) : EvD K (tXf a (.ref C) (some dd) C f (tVar i)) σ H e := fun H1 s Q q =>
  ⟨.ref a, hσ, rfl, rfl, dd, [(f, u)], u, rfl, s _ _ hd, by simp [List.lookup], q u H1 (Same.refl H1) (Dp.same s hu)⟩
end
/-- ['BadSlope', _law_plain(raised.slope)] -/
def tsPlain (K : PySem.W.Frag) (cl : Kd → Addr) (i : Nat) : Addr → Value → Option Addr → TS := fun a cls d =>
  tRet (tLst (tCons (tC (.str "BadSlope")) (tCons (tCallS (spF K cl (fPlain 2)) (fun _ => E0) (tCons (tXf a cls d (cl .slope) "slope" (tVar i)) tNil)) tNil)))
/-- [word, raised.f] -/
def tsField (wd : Str) (C : Addr) (f : Str) (i : Nat) : Addr → Value → Option Addr → TS := fun a cls d => tRet (tLst (tCons (tC (.str wd)) (tCons (tXf a cls d C f (tVar i)) tNil)))
def tsOther : Addr → Value → Option Addr → TS := fun _ _ _ => tRet (tLst (tCons (tC (.str "other")) tNil))
/-- how an error is told -/
def errD : Kd → D → D
  | .face, e => .list [.str "BadFace", e]
  | .slope, e => .list [.str "BadSlope", plainD e]
  | .dirn, e => .list [.str "BadDirection", e]
section
variable {K : PySem.W.Frag} {mg : Str → Option Value} {cl : Kd → Addr} {pe : Addr} {σ : L2.St} {H : Hp} {D' : Ends} {e : D} {i : Nat} {l : List Cl} {Wout : WX}
/-- the slope clause takes it -/
theorem take_slope (M : Mo K mg cl pe) (hi : i < σ.length) (ht : tiny 2 e = true) (q : Ret K (errD .slope e) H D'.rt) :
    Bad K cl .slope e H fun c d H' => wCl K Wout D' (⟨.ref (cl .slope), some i, tsPlain K cl i⟩ :: l) c d σ H' := fun u dd H1 s1 n hu hdd => by
  refine ⟨true, M.exm .slope .slope, fun _ a ha => ?_, fun z => by cases z⟩
  show tsPlain K cl i a (.ref (cl .slope)) (some dd) (clear i D') (σ.set i (some (.ref a))) H1
  have hσ : (σ.set i (some (V.ref a)))[i]? = some (some (.ref a)) := List.getElem?_set_self hi
  exact s_ret (D' := clear i D') (ed_lst (ea_cons ed_str (ea_cons (ed_callS (F := fPlain 2) (ea_cons (ed_xf hdd hu hσ) ea_nil) (plain_ok ht)) ea_nil)) (by simp)) (Ret.mono s1 q)
/-- a clause takes it whose suite hands the field on -/
theorem take_field (M : Mo K mg cl pe) {k : Kd} {wd : Str} (hi : i < σ.length) (q : Ret K (.list [.str wd, e]) H D'.rt) :
    Bad K cl k e H fun c d H' => wCl K Wout D' (⟨.ref (cl k), some i, tsField wd (cl k) k.fld i⟩ :: l) c d σ H' := fun u dd H1 s1 n hu hdd => by
  refine ⟨true, ?_, fun _ a ha => ?_, fun z => by cases z⟩
  · have := M.exm k k
    rw [decide_eq_true rfl] at this
    exact this
  · show tsField wd (cl k) k.fld i a (.ref (cl k)) (some dd) (clear i D') (σ.set i (some (.ref a))) H1
    have hσ : (σ.set i (some (V.ref a)))[i]? = some (some (.ref a)) := List.getElem?_set_self hi
    exact s_ret (D' := clear i D') (ed_lst (ea_cons ed_str (ea_cons (ed_xf hdd hu hσ) ea_nil)) (by simp)) (Ret.mono s1 q)
/-- a clause of another class lets it by -/
theorem pass_by (M : Mo K mg cl pe) {k k' : Kd} (ne : k ≠ k') {s : Option Nat} {ts : Addr → Value → Option Addr → TS} (h : Bad K cl k e H fun c d H' => wCl K Wout D' l c d σ H') :
    Bad K cl k e H fun c d H' => wCl K Wout D' (⟨.ref (cl k'), s, ts⟩ :: l) c d σ H' := fun u dd H1 s1 n hu hdd => by
  refine ⟨false, ?_, (fun z => by cases z), fun _ => h u dd H1 s1 n hu hdd⟩
  have := M.exm k k'
  rw [decide_eq_false ne] at this
  exact this
end
section
variable {P : Program} {w : World} {K : PySem.W.Frag} {mg : Str → Option Value} {base : Heap} {cl : Kd → Addr} {pe : Addr}
def fSlopeL : List D → Out
  | [d, .bool b] => if tiny 2 d = true then .ok (match slopeO d b with
    | some (p, q) => pairI p q
    | none => errD .slope d) else .no
  | _ => .no
theorem n2SlopeL : ∀ ds, fSlopeL ds ≠ .no → ds.length = 2
  | [d, .bool b], _ => rfl
def fMirrorL : List D → Out
  | [d] => if tiny 2 d = true then .ok (match slopeO d true with
    | some (p, q) => if q = 0 then pairI p q else pairI q p
    | none => errD .slope d) else .no
  | _ => .no
theorem n1MirrorL : ∀ ds, fMirrorL ds ≠ .no → ds.length = 1 := len1 rfl fun _ _ _ => rfl
theorem roomH_mark {k : Nat} {A : Around} {a : Option Value} (h : Room k A) : RoomH k (A.mark a) := ⟨h.dp, h.un⟩
theorem ok_slopel (M : Mo K mg cl pe) : Kept P w K mg base 5 "_law_slope_of" (spF K cl fSlopeL) [] := by
  refine kept_all (ps := pSlopeL) M.aSlopeL (fun f fd F => F.ok scSlopeL (spF_len n2SlopeL) fun cdv A outer s H vs Q E hr h => ?_) fun _ _ _ _ _ _ us hl => match us, hl with | [_, _], _ => rfl
  obtain ⟨d, db, v, vb, rfl, hv, hvb, q⟩ := in2 n2SlopeL h
  have ⟨b, eb⟩ : ∃ b, db = .bool b := by
    cases db with
    | bool b => exact ⟨b, rfl⟩
    | _ => exact q.elim
  subst eb
  refine ⟨_, pss_cons (ps_tryC (l := [⟨.ref (cl .slope), some 3, tsPlain K cl 3⟩, ⟨.ref pe, none, tsOther⟩]) (tb := fun W => tAsg (tCallSD (spF K cl fCSlope) [] (WE W) (tCons (tVar 0) (tCons (tVar 1) tNil))) (gName 2)) rfl rfl takes0N (ClsOk.named ⟨rfl, by decide, Or.inl M.eS.gC⟩ scSlopeL.nd rfl rfl (fun a oe cls d pn z hf => pss_one (ps_ret (pe_lst (pa_cons pe_str (pa_cons (pe_kH (k := 4) (E := fun _ => E0) (ok_plainH M 2) (roomH_mark hr) (Nat.le_refl _) (suite_hot z hf) pass0N (pa_cons (pe_xf M.eS.xf M.eS.no z.zc hf (pv 3)) pa_nil)) pa_nil)))))
      (ClsOk.bare ⟨rfl, by decide, Or.inl M.gP⟩ (fun a oe cls d pn z hf => pss_one (ps_ret (pe_lst (pa_cons pe_str pa_nil)))) ClsOk.nil))
      (fun W pn xe tk _ => pss_one (ps_set (i := 2) scSlopeL.nd rfl (Or.inl rfl) (pe_k (E := WE W) (ok_cslope M) hr (by decide) (fun σ => L2N.passAt tk σ) (pa_cons (pv 0) (pa_cons (pv 1) pa_nil))))))
    (pss_one (ps_ret (pv 2))), ?_⟩
  cases ht : tiny 2 d with
  | false =>
    have : Gets K cl (if tiny 2 d = true then _ else .no) H Q E := q
    rw [ht] at this
    exact this.elim
  | true =>
    have q1 : Ret K (match slopeO d b with
      | some (p, q) => pairI p q
      | none => errD .slope d) H Q := by
      have : Gets K cl (if tiny 2 d = true then .ok (match slopeO d b with
        | some (p, q) => pairI p q
        | none => errD .slope d) else .no) H Q E := q
      rw [if_pos ht] at this
      exact this
    cases es : slopeO d b with
    | none =>
      rw [es] at q1
      exact er_k0 (F := fCSlope) (ea_cons (ed_var hv) (ea_cons (ed_var hvb) ea_nil)) (by simp [fCSlope, es]) H (Same.refl H) (take_slope M (show 3 < 4 by decide) ht q1) _
    | some pr =>
      obtain ⟨p, r⟩ := pr
      rw [es] at q1
      refine ed_k0 (F := fCSlope) (r := pairI p r) (ea_cons (ed_var hv) (ea_cons (ed_var hvb) ea_nil)) (by simp [fCSlope, es]) H (Same.refl H) _ fun u H1 s1 hu => ?_
      exact s_ret (ed_var hu) (Ret.mono s1 q1)
theorem ok_mirrorl (M : Mo K mg cl pe) : Kept P w K mg base 5 "_law_mirror" (spF K cl fMirrorL) [] := by
  refine kept_all (ps := pMirrorL) M.aMirrorL (fun f fd F => F.ok scMirrorL (spF_len n1MirrorL) fun cdv A outer s H vs Q E hr h => ?_) fun _ _ _ _ _ _ us hl => match us, hl with | [_], _ => rfl
  obtain ⟨d, v, rfl, hv, q⟩ := in1 n1MirrorL h
  refine ⟨_, pss_cons (ps_tryC (l := [⟨.ref (cl .slope), some 2, tsPlain K cl 2⟩, ⟨.ref pe, none, tsOther⟩]) (tb := fun W => tAsg (tCallSD (spF K cl fMirror) [] (WE W) (tCons (tVar 0) tNil)) (gName 1)) rfl rfl takes0N (ClsOk.named ⟨rfl, by decide, Or.inl M.eS.gC⟩ scMirrorL.nd rfl rfl (fun a oe cls d pn z hf => pss_one (ps_ret (pe_lst (pa_cons pe_str (pa_cons (pe_kH (k := 4) (E := fun _ => E0) (ok_plainH M 2) (roomH_mark hr) (Nat.le_refl _) (suite_hot z hf) pass0N (pa_cons (pe_xf M.eS.xf M.eS.no z.zc hf (pv 2)) pa_nil)) pa_nil)))))
      (ClsOk.bare ⟨rfl, by decide, Or.inl M.gP⟩ (fun a oe cls d pn z hf => pss_one (ps_ret (pe_lst (pa_cons pe_str pa_nil)))) ClsOk.nil))
      (fun W pn xe tk _ => pss_one (ps_set (i := 1) scMirrorL.nd rfl (Or.inl rfl) (pe_k (E := WE W) (ok_mirror M) hr (by decide) (fun σ => L2N.passAt tk σ) (pa_cons (pv 0) pa_nil)))))
    (pss_one (ps_ret (pv 1))), ?_⟩
  cases ht : tiny 2 d with
  | false =>
    have : Gets K cl (if tiny 2 d = true then _ else .no) H Q E := q
    rw [ht] at this
    exact this.elim
  | true =>
    have q1 : Ret K (match slopeO d true with
      | some (p, q) => if q = 0 then pairI p q else pairI q p
      | none => errD .slope d) H Q := by
      have : Gets K cl (if tiny 2 d = true then .ok (match slopeO d true with
        | some (p, q) => if q = 0 then pairI p q else pairI q p
        | none => errD .slope d) else .no) H Q E := q
      rw [if_pos ht] at this
      exact this
    cases es : slopeO d true with
    | none =>
      rw [es] at q1
      exact er_k0 (F := fMirror) (ea_cons (ed_var hv) ea_nil) (by simp [fMirror, es]) H (Same.refl H) (take_slope M (show 2 < 3 by decide) ht q1) _
    | some pr =>
      obtain ⟨p, r⟩ := pr
      rw [es] at q1
      have fm : fMirror [d] = .ok (if r = 0 then pairI p r else pairI r p) := by
        simp only [fMirror, es]
        split <;> rfl
      refine ed_k0 (F := fMirror) (ea_cons (ed_var hv) ea_nil) fm H (Same.refl H) _ fun u H1 s1 hu => ?_
      exact s_ret (ed_var hu) (Ret.mono s1 q1)
/-! ### _law_deed -/
/-- the def at f answers two arguments by F -/
def Deedy (P : Program) (w : World) (K : PySem.W.Frag) (mg : Str → Option Value) (base : Heap) (cl : Kd → Addr) (f : Addr) (F : List D → Out) : Prop :=
  ∃ k fd ps, k ≤ 7 ∧ FnOk P w K mg base (L2N.CX P w) k f fd ps (spF K cl F) ∧ PySem.W.keepIn K (.ref f) = true ∧ Binds K fd ps []
theorem deedy_of {k : Nat} {x : Str} {F : List D → Out} (h : Kept P w K mg base k x (spF K cl F) []) (hk : k ≤ 7) : ∃ f, mg x = some (.ref f) ∧ Deedy P w K mg base cl f F := by
  obtain ⟨f, fd, ps, ds, fn, at_x, keeps, binds, vals⟩ := h
  cases vals
  exact ⟨f, at_x, k, fd, ps, hk, fn, keeps, binds⟩
def deedO : Out → Option D
  | .ok r => some r
  | .bad .slope e => if tiny 2 e = true then some (errD .slope e) else none
  | .bad k e => some (errD k e)
  | .no => none
def spDeed (P : Program) (w : World) (K : PySem.W.Frag) (mg : Str → Option Value) (base : Heap) (cl : Kd → Addr) : Sp := fun vs H Q _ =>
  ∃ f F x y d e r, vs = [.ref f, x, y] ∧ Deedy P w K mg base cl f F ∧ Dp K H x d ∧ Dp K H y e ∧ deedO (F [d, e]) = some r ∧ Ret K r H Q
/-- the reading of a call of what the i-th slot holds -/
def tCallF (P : Program) (w : World) (K : PySem.W.Frag) (mg : Str → Option Value) (base : Heap) (cl : Kd → Addr) (i : Nat) (E : L2.St → XK) (t : TA) : TE := fun σ H Q =>
  ∃ f F, σ[i]? = some (some (.ref f)) ∧ Deedy P w K mg base cl f F ∧ t σ H fun vs H1 => spF K cl F vs H1 Q (E σ)
end
section
variable {X : Cx} {cl : Kd → Addr} {k i : Nat} {E : L2.St → XK} {x : Str} {p pos : Pos} {e : Expr} {es : List Expr} {t : TA}
theorem pe_callF (hr : Room k X.A) (hk : 7 ≤ k) (hN : X.N[i]? = some x) (hv : Vis X.env.scope x) (hx : ∀ σ, PassesAt (L2N.CX X.prog X.w) X σ (E σ)) (ha : PA X (e :: es) t)
    (hdb : (x == ("__debug__" : Str)) = false := by decide) (hcd : (x == ("__classdict__" : Str)) = false := by decide)
    (he : starEach (e :: es) X.env = (false, eval e X.env) :: starEach es X.env := by rfl) (hpl : (backTo pos (starEach es X.env)).any (·.1) = false := by rfl) :
    PE X (.Call (.Name x p) (e :: es) [] pos) (tCallF X.prog X.w X.K X.mg X.base cl i E t) where
  run := by
    intro pins s σ H Q I want
    obtain ⟨f, F, hσ, ⟨j, fd, ps, hj, fn, keeps, binds⟩, ht⟩ := want
    refine wpAny_Call_Name_kw (thn ((pe_var (pos := p) hN hv hdb hcd).run pins s σ H (fun v H1 => v = .ref f ∧ H1 = H) I ⟨.ref f, hσ, rfl, rfl⟩) fun u s1 got => ?_)
    obtain ⟨v, H1, I1, r1, rfl, rfl⟩ := got
    cases r1
    refine PySem.W.callWith_K (h₀ := X.base) I.ok.mod.kin keeps (thn (ha.run pos pins s1 σ _ _ I1 ht) fun us s2 ⟨vs, H2, I2, r, q⟩ => ⟨I2.kIn, ?_⟩) he hpl
    have q' : spF X.K cl F (vs ++ []) H2 Q (E σ) := by rw [List.append_nil]; exact q
    exact run_fnSD fn (hr.mono (Nat.le_trans hj hk)) binds .nil (hx σ) I2 r q'
end
section
variable {P : Program} {w : World} {K : PySem.W.Frag} {mg : Str → Option Value} {base : Heap} {cl : Kd → Addr} {pe : Addr}
theorem spDeed_len : ∀ vs H Q E, spDeed P w K mg base cl vs H Q E → vs.length = pDeed.length := by
  rintro vs H Q E ⟨f, F, x, y, d, e, r, rfl, _⟩
  rfl
theorem ok_deed (M : Mo K mg cl pe) : Kept P w K mg base 8 "_law_deed" (spDeed P w K mg base cl) [] := by
  refine kept_all (ps := pDeed) M.aDeed (fun f fd F => F.ok scDeed spDeed_len fun cdv A outer s H vs Q E hr h => ?_) fun _ _ _ _ _ _ us hl => match us, hl with | [_, _, _], _ => rfl
  obtain ⟨g, Fn, x, y, d, e, r, rfl, deed, hx, hy, out, q⟩ := h
  refine ⟨_, pss_cons (ps_tryC (l := [⟨.ref (cl .face), some 4, tsField "BadFace" (cl .face) (Kd.fld .face) 4⟩, ⟨.ref (cl .dirn), some 4, tsField "BadDirection" (cl .dirn) (Kd.fld .dirn) 4⟩, ⟨.ref (cl .slope), some 4, tsPlain K cl 4⟩, ⟨.ref pe, none, tsOther⟩]) (tb := fun W => tAsg (tCallF P w K mg base cl 0 (WE W) (tCons (tVar 1) (tCons (tVar 2) tNil))) (gName 3)) rfl rfl takes0N (ClsOk.named ⟨rfl, by decide, Or.inl M.eF.gC⟩ scDeed.nd rfl rfl (fun a oe cls d pn z hf => pss_one (ps_ret (pe_lst (pa_cons pe_str (pa_cons (pe_xf M.eF.xf M.eF.no z.zc hf (pv 4)) pa_nil)))))
      (ClsOk.named ⟨rfl, by decide, Or.inl M.eD.gC⟩ scDeed.nd rfl rfl (fun a oe cls d pn z hf => pss_one (ps_ret (pe_lst (pa_cons pe_str (pa_cons (pe_xf M.eD.xf M.eD.no z.zc hf (pv 4)) pa_nil)))))
      (ClsOk.named ⟨rfl, by decide, Or.inl M.eS.gC⟩ scDeed.nd rfl rfl (fun a oe cls d pn z hf => pss_one (ps_ret (pe_lst (pa_cons pe_str (pa_cons (pe_kH (k := 7) (E := fun _ => E0) (ok_plainH M 2) (roomH_mark hr) (by decide) (suite_hot z hf) pass0N (pa_cons (pe_xf M.eS.xf M.eS.no z.zc hf (pv 4)) pa_nil)) pa_nil)))))
      (ClsOk.bare ⟨rfl, by decide, Or.inl M.gP⟩ (fun a oe cls d pn z hf => pss_one (ps_ret (pe_lst (pa_cons pe_str pa_nil)))) ClsOk.nil))))
      (fun W pn xe tk _ => pss_one (ps_set (i := 3) scDeed.nd rfl (Or.inl rfl) (pe_callF (cl := cl) (E := WE W) hr (by decide) rfl (Or.inl rfl) (fun σ => L2N.passAt tk σ) (pa_cons (pv 1) (pa_cons (pv 2) pa_nil))))))
    (pss_one (ps_ret (pv 3))), ?_⟩
  refine ⟨g, Fn, rfl, deed, ?_⟩
  refine ea_cons (K := K) (ed_var hx) (ea_cons (ed_var hy) ea_nil) H (Same.refl H) _ fun us H1 s1 hus => ?_
  refine ⟨[d, e], hus, ?_⟩
  cases ho : Fn [d, e] with
  | ok z =>
    rw [ho] at out
    cases out
    intro u H2 s2 hu
    exact s_ret (ed_var hu) (Ret.mono (s1.trans s2) q)
  | no =>
    rw [ho] at out
    cases out
  | bad k z =>
    rw [ho] at out
    cases k with
    | face =>
      cases out
      exact take_field M (show 4 < 5 by decide) (Ret.mono s1 q)
    | dirn =>
      cases out
      exact pass_by M (by decide) (take_field M (show 4 < 5 by decide) (Ret.mono s1 q))
    | slope =>
      have out' : (if tiny 2 z = true then some (errD .slope z) else none) = some r := out
      by_cases ht : tiny 2 z = true
      · rw [if_pos ht] at out'
        cases out'
        exact pass_by M (by decide) (pass_by M (by decide) (take_slope M (show 4 < 5 by decide) ht (Ret.mono s1 q)))
      · rw [if_neg ht] at out'
        cases out'
/-- a call of it -/
theorem ed_deed {σ : L2.St} {H : Hp} {tf ta tb : TE} {E : L2.St → XK} {f : Addr} {F : List D → Out} {d e r : D} (hf : EvV tf σ H (.ref f)) (deed : Deedy P w K mg base cl f F) (ha : EvD K ta σ H d) (hb : EvD K tb σ H e) (ho : deedO (F [d, e]) = some r) :
    EvD K (tCallSD (spDeed P w K mg base cl) [] E (tCons tf (tCons ta (tCons tb tNil)))) σ H r := fun H1 s Q q =>
  hf H1 s _ fun H2 s2 => ha H2 (s.trans s2) _ fun x H3 s3 hx => hb H3 ((s.trans s2).trans s3) _ fun y H4 s4 hy =>
    ⟨f, F, x, y, d, e, r, rfl, deed, Dp.same s4 hx, hy, ho, fun u H5 s5 hu => q u H5 (((s2.trans s3).trans s4).trans s5) hu⟩
end
end G4
/-! L6: the hand; what outlasts a draw; _law_hand, _law_mixed, _law_take. -/
namespace G4
open PySem PySem.Spec PyProof.Rows L2
/-! ### a place hidden -/
def Hm (a : Addr) (H : Hp) : Hp := fun b => if b = a then none else H b
section
variable {a b c : Addr} {H H' H1 : Hp} {K : PySem.W.Frag} {i : Nat} {r t : Int} {cs : List Int}
theorem hm_at : Hm a H a = none := if_pos rfl
theorem hm_ne (h : b ≠ a) : Hm a H b = H b := if_neg h
theorem hm_some {u : HO} (h : Hm a H b = some u) : b ≠ a ∧ H b = some u := by
  by_cases e : b = a
  · rw [e, hm_at] at h
    cases h
  · rw [hm_ne e] at h
    exact ⟨e, h⟩
theorem hm_same : Same (Hm a H) H := fun b u h => (hm_some h).2
theorem hm_mono (s : Same H H') : Same (Hm a H) (Hm a H') := fun b u h => by
  obtain ⟨ne, e⟩ := hm_some h
  rw [hm_ne ne]
  exact s b u e
/-- a change at the hidden place -/
theorem hm_upd {o : HO} (s : Same (Hm a H) (Hm a H')) : Same (Hm a H) (Hm a (upd H' a o)) := fun b u h => by
  have z := s b u h
  obtain ⟨ne, e⟩ := hm_some z
  rw [hm_ne ne, upd_ne ne]
  exact e
/-- the hand: its cells at c, the next cell, the rest, the total -/
structure Hand (K : PySem.W.Frag) (H : Hp) (a c : Addr) (cs : List Int) (i : Nat) (r t : Int) : Prop where
  at_a : H a = some (.lst [.ref c, .int (i : Int), .int r, .int t])
  at_c : H c = some (.lst (cs.map V.int))
  out : K.lookup c = none
def HandAt (K : PySem.W.Frag) (H : Hp) (a : Addr) : Prop := ∃ c cs i r t, Hand K H a c cs i r t
theorem Hand.ne (h : Hand K H a c cs i r t) : c ≠ a := fun e => by
  have z := h.at_c
  rw [e, h.at_a] at z
  cases cs with
  | nil => cases z
  | cons x cs => cases z
theorem Hand.same (h : Hand K H a c cs i r t) (s : Same H H') : Hand K H' a c cs i r t := ⟨s _ _ h.at_a, s _ _ h.at_c, h.out⟩
theorem HandAt.same (h : HandAt K H a) (s : Same H H') : HandAt K H' a := by
  obtain ⟨c, cs, i, r, t, x⟩ := h
  exact ⟨c, cs, i, r, t, x.same s⟩
theorem Hand.set (h : Hand K H a c cs i r t) {i' : Nat} {r' t' : Int} : Hand K (upd H a (.lst [.ref c, .int (i' : Int), .int r', .int t'])) a c cs i' r' t' := ⟨upd_same, by rw [upd_ne h.ne]; exact h.at_c, h.out⟩
theorem ints_inj {xs ys : List Int} (h : xs.map V.int = ys.map V.int) : xs = ys := map_int_inj h
/-- what a draw leaves -/
structure Nx (K : PySem.W.Frag) (a : Addr) (H H' : Hp) : Prop where
  same : Same (Hm a H) (Hm a H')
  hand : HandAt K H' a
  cell : ∀ c cs i r t, Hand K H a c cs i r t → ∃ i' r' t', Hand K H' a c cs i' r' t'
theorem Nx.trans {H2 : Hp} (x : Nx K a H H') (y : Nx K a H' H2) : Nx K a H H2 := ⟨x.same.trans y.same, y.hand, fun c cs i r t h => by
  obtain ⟨i', r', t', h'⟩ := x.cell c cs i r t h
  exact y.cell c cs i' r' t' h'⟩
theorem Nx.of (h : HandAt K H a) (s : Same H H') : Nx K a H H' := ⟨hm_mono s, h.same s, fun c cs i r t h => ⟨i, r, t, h.same s⟩⟩
theorem Nx.mk1 {i' : Nat} {r' t' : Int} (h : Hand K H a c cs i r t) (s : Same (Hm a H) (Hm a H')) (h' : Hand K H' a c cs i' r' t') : Nx K a H H' := ⟨s, ⟨c, cs, i', r', t', h'⟩, fun c2 cs2 i2 r2 t2 h2 => by
  have e := h2.at_a
  rw [h.at_a] at e
  have ec : c = c2 := by
    injection e with e
    injection e with e
    injection e with e1 e2
    injection e1
  subst ec
  have e2 := h2.at_c
  rw [h.at_c] at e2
  have e3 : cs = cs2 := by
    injection e2 with e2
    injection e2 with e2
    exact map_int_inj e2
  subst e3
  exact ⟨i', r', t', h'⟩⟩
/-- something else, not known at the start, changes -/
theorem Nx.mut {l : Addr} {o : HO} (hA : HandAt K H a) (x : Nx K a H H') (hl : H l = none) : Nx K a H (upd H' l o) := by
  obtain ⟨c, cs, i, r, t, h⟩ := hA
  obtain ⟨i', r', t', h'⟩ := x.cell c cs i r t h
  have na : a ≠ l := ne_of_none h.at_a hl
  have nc : c ≠ l := ne_of_none h.at_c hl
  refine .mk1 h (fun b u e => ?_) ⟨by rw [upd_ne na]; exact h'.at_a, by rw [upd_ne nc]; exact h'.at_c, h'.out⟩
  obtain ⟨ne, e1⟩ := hm_some e
  rw [hm_ne ne, upd_ne (ne_of_none e1 hl)]
  have z := x.same b u e
  exact (hm_some z).2
theorem Nx.free {p : Addr} (x : Nx K a H H') (h : H' p = none) : H p = none := by
  cases e : H p with
  | none => rfl
  | some u =>
    by_cases pa : p = a
    · obtain ⟨c, cs, i, r, t, y⟩ := x.hand
      rw [pa, y.at_a] at h
      cases h
    · have z := x.same p u (by rw [hm_ne pa]; exact e)
      rw [(hm_some z).2] at h
      cases h
theorem Nx.at {l : Addr} {o : HO} (x : Nx K a H H') (ne : l ≠ a) (h : H l = some o) : H' l = some o := (hm_some (x.same l o (by rw [hm_ne ne]; exact h))).2
theorem HandAt.at (h : HandAt K H a) : ∃ o, H a = some o := by
  obtain ⟨c, cs, i, r, t, y⟩ := h
  exact ⟨_, y.at_a⟩
theorem Nx.dp {v : V} {d : D} (x : Nx K a H H') (h : Dp K (Hm a H) v d) : Dp K (Hm a H') v d := Dp.same x.same h
/-! ### data that are not the hand -/
def handish : List D → Bool
  | [.list _, .int _, .int _, .int _] => true
  | _ => false
mutual
def noH : D → Bool
  | .list xs => !handish xs && noHs xs
  | .tuple xs => noHs xs
  | _ => true
def noHs : List D → Bool
  | [] => true
  | d :: ds => noH d && noHs ds
end
theorem handish_of {K : PySem.W.Frag} {H : Hp} {a c : Addr} {cs : List Int} {i : Nat} {r t : Int} (h : Hand K H a c cs i r t) {ds : List D} (hd : DpAll K H [.ref c, .int (i : Int), .int r, .int t] ds) : handish ds = true := by
  cases hd with
  | cons h1 hd =>
    cases hd with
    | cons h2 hd =>
      cases hd with
      | cons h3 hd =>
        cases hd with
        | cons h4 hd =>
          cases hd
          cases h2
          cases h3
          cases h4
          cases h1 with
          | lst _ _ => rfl
          | tup hs _ =>
            rcases hs with (z | ⟨o, z⟩) | ⟨o, its, n, z, _⟩
            · rw [h.at_c] at z
              cases z
            · rw [h.at_c] at z
              cases z
            · rw [h.out] at z
              cases z
mutual
theorem dp_hide (h : Hand K H a c cs i r t) : ∀ {d : D} {v : V}, noH d = true → Dp K H v d → Dp K (Hm a H) v d
  | .none, _, _, .non => .non
  | .bool _, _, _, .bl b => .bl b
  | .int _, _, _, .int i => .int i
  | .str _, _, _, .str x => .str x
  | .list ds, _, n, .lst (a := b) (xs := xs) hs al => by
    have n' : (!handish ds && noHs ds) = true := by unfold noH at n; exact n
    rw [Bool.and_eq_true] at n'
    have al' := dps_hide h n'.2 al
    rcases hs with (z | ⟨o, z⟩) | z
    · by_cases e : b = a
      · rw [e, h.at_a] at z
        cases z
        have hh := handish_of h al
        rw [hh] at n'
        cases n'.1
      · exact .lst (Or.inl (Or.inl (by rw [hm_ne e]; exact z))) al'
    · by_cases e : b = a
      · rw [e, h.at_a] at z
        cases z
      · exact .lst (Or.inl (Or.inr ⟨o, by rw [hm_ne e]; exact z⟩)) al'
    · exact .lst (Or.inr z) al'
  | .tuple ds, _, n, .tup (a := b) (xs := xs) hs al => by
    have n' : noHs ds = true := by unfold noH at n; exact n
    have al' := dps_hide h n' al
    rcases hs with (z | ⟨o, z⟩) | z
    · by_cases e : b = a
      · rw [e, h.at_a] at z
        cases z
      · exact .tup (Or.inl (Or.inl (by rw [hm_ne e]; exact z))) al'
    · by_cases e : b = a
      · rw [e, h.at_a] at z
        cases z
      · exact .tup (Or.inl (Or.inr ⟨o, by rw [hm_ne e]; exact z⟩)) al'
    · exact .tup (Or.inr z) al'
  | .dict _, _, _, h' => by cases h'
theorem dps_hide (h : Hand K H a c cs i r t) : ∀ {ds : List D} {vs : List V}, noHs ds = true → DpAll K H vs ds → DpAll K (Hm a H) vs ds
  | [], _, _, .nil => .nil
  | d :: ds, _, n, .cons h1 h2 => by
    have n' : (noH d && noHs ds) = true := by unfold noHs at n; exact n
    rw [Bool.and_eq_true] at n'
    exact .cons (dp_hide h n'.1 h1) (dps_hide h n'.2 h2)
end
theorem HandAt.hide (h : HandAt K H a) {d : D} {v : V} (n : noH d = true) (hd : Dp K H v d) : Dp K (Hm a H) v d := by
  obtain ⟨c, cs, i, r, t, x⟩ := h
  exact dp_hide x n hd
end
/-! ### steps with a hand about -/
section
variable {K : PySem.W.Frag} {a : Addr} {H : Hp} {σ : L2.St} {te ta tb : TE} {t : TT} {d : D} {v : V} {Q : VK}
theorem kn (hA : HandAt K H a) (h : EvD K te σ (Hm a H) d) (n : noH d = true) (q : ∀ u H', Nx K a H H' → Dp K (Hm a H') u d → Q u H') : te σ H Q :=
  h H hm_same _ fun u H' s hu => q u H' (.of hA s) ((hA.same s).hide n hu)
/-- the end: what is told of it need not outlast a draw -/
theorem ke (hA : HandAt K H a) (h : EvD K te σ (Hm a H) d) (q : ∀ u H', Nx K a H H' → Dp K H' u d → Q u H') : te σ H Q :=
  h H hm_same _ fun u H' s hu => q u H' (.of hA s) hu
theorem kv (hA : HandAt K H a) (h : EvV te σ (Hm a H) v) (q : ∀ H', Nx K a H H' → Q v H') : te σ H Q := h H hm_same _ fun H' s => q H' (.of hA s)
theorem kt {b : Bool} {Qt : Bool → Hp → Prop} (hA : HandAt K H a) (h : EvT t σ (Hm a H) b) (q : ∀ H', Nx K a H H' → Qt b H') : t σ H Qt := h H hm_same _ fun H' s => q H' (.of hA s)
end
/-! ### items, lengths by value -/
section
variable {K : PySem.W.Frag} {a : Addr} {H : Hp} {σ : L2.St} {ta tb : TE} {v : V}
theorem ev_ixV {xs : List V} {j : Nat} (hl : H a = some (.lst xs)) (ha : EvV ta σ H (.ref a)) (hb : EvV tb σ H (.int (j : Int))) (hx : xs[j]? = some v) : EvV (tOp (rIx K) ta tb) σ H v := fun H1 s Q q =>
  ha H1 s _ fun H2 s2 => hb H2 (s.trans s2) _ fun H3 s3 => Or.inl ⟨a, xs, _, v, rfl, rfl, SqL.of (((s.trans s2).trans s3) _ _ hl), atI_nat hx, q H3 (s2.trans s3)⟩
theorem ev_lenV {xs : List V} (hl : SqL K H a xs) (ha : EvV ta σ H (.ref a)) : EvV (tCB (rLenS K) (tCons ta tNil)) σ H (.int (xs.length : Int)) := fun H1 s Q q =>
  ha H1 s _ fun H2 s2 => ⟨a, xs, rfl, Or.inl (Same.sql (s.trans s2) hl), q H2 s2⟩
end
/-! ### _law_mixed -/
def mixOnce (a b : Int) : Int := (a * 48271 + b * 10007 + 30011) % 2147483647
def mixTwice (a b : Int) : Int := (mixOnce a b * mixOnce a b + b * 92821 + mixOnce a b / 257) % 2147483629
def mixI (a b : Int) : Int := ((mixTwice a b * 69621 + mixOnce a b / 11) % 2147483587) / 64
def fMixed : List D → Out
  | [.int a, .int b] => .ok (.int (mixI a b))
  | _ => .no
theorem n2Mixed : ∀ ds, fMixed ds ≠ .no → ds.length = 2
  | [.int a, .int b], _ => rfl
theorem mul_small {i j : Int} (h1 : 0 ≤ j) (h2 : j < 2 ^ 64) : CMul i j := Or.inr ⟨by omega, h2⟩
section
variable {P : Program} {w : World} {K : PySem.W.Frag} {mg : Str → Option Value} {base : Heap} {cl : Kd → Addr} {pe : Addr}
theorem ok_mixed (M : Mo K mg cl pe) : Kept P w K mg base 1 "_law_mixed" (spF K cl fMixed) [] := by
  refine kept_all (ps := pMixed) M.aMixed (fun f fd F => F.ok scMixed (spF_len n2Mixed) fun cdv A outer s H vs Q E hr h => ?_) fun _ _ _ _ _ _ us hl => match us, hl with | [_, _], _ => rfl
  obtain ⟨d, t, v, u, rfl, hv, hu, q⟩ := in2 n2Mixed h
  obtain ⟨a, b, rfl, rfl⟩ : ∃ a b, d = .int a ∧ t = .int b := by
    cases d with
    | int a => cases t with
      | int b => exact ⟨a, b, rfl, rfl⟩
      | _ => exact q.elim
    | _ => exact q.elim
  have := hv.scalI
  subst this
  have := hu.scalI
  subst this
  have q : Ret K (.int (mixI a b)) H Q := q
  refine ⟨_, pss_cons (ps_set (i := 2) scMixed.nd rfl (Or.inl rfl) (pe_op op_mod (e_int1 (M := M) (ha := pe_op op_add (pe_op op_add (pe_op op_mul (pv 0) pe_int) (pe_op op_mul (pv 1) pe_int)) pe_int)) pe_int))
    (pss_cons (ps_set (i := 3) scMixed.nd rfl (Or.inl rfl) (pe_op op_mod (e_int1 (M := M) (ha := pe_op op_add (pe_op op_add (pe_op op_mul (pv 2) (pv 2)) (pe_op op_mul (pv 1) pe_int)) (pe_op op_fdiv (pv 2) pe_int))) pe_int))
    (pss_one (ps_ret (pe_op op_fdiv (e_int1 (M := M) (ha := pe_op op_mod (e_int1 (M := M) (ha := pe_op op_add (pe_op op_mul (pv 3) pe_int) (pe_op op_fdiv (pv 2) pe_int))) pe_int)) pe_int)))), ?_⟩
  refine q_asgV (v := .int (mixOnce a b)) (ev_opI (C := fun _ j => 0 < j) (g := fun i j => .int (i % j)) (ev_int1 (ev_opI0 (g := fun i j => .int (i + j)) (ev_opI0 (g := fun i j => .int (i + j)) (ev_opI (C := CMul) (g := fun i j => .int (i * j)) (ev_var (v := .int a)) ev_c (mul_small (by decide) (by decide))) (ev_opI (C := CMul) (g := fun i j => .int (i * j)) (ev_var (v := .int b)) ev_c (mul_small (by decide) (by decide)))) ev_c)) ev_c (by decide)) fun H1 s1 => ?_
  have o1 : 0 ≤ mixOnce a b := Int.emod_nonneg _ (by decide)
  have o2 : mixOnce a b < 2147483647 := Int.emod_lt_of_pos _ (by decide)
  refine q_asgV (v := .int (mixTwice a b)) (ev_opI (C := fun _ j => 0 < j) (g := fun i j => .int (i % j)) (ev_int1 (ev_opI0 (g := fun i j => .int (i + j)) (ev_opI0 (g := fun i j => .int (i + j)) (ev_opI (C := CMul) (g := fun i j => .int (i * j)) (ev_var (v := .int (mixOnce a b))) (ev_var (v := .int (mixOnce a b))) (mul_small o1 (Int.lt_trans o2 (by decide)))) (ev_opI (C := CMul) (g := fun i j => .int (i * j)) (ev_var (v := .int b)) ev_c (mul_small (by decide) (by decide)))) (ev_opI (C := CDiv) (g := fun i j => .int (i / j)) (ev_var (v := .int (mixOnce a b))) ev_c ⟨by decide, by decide⟩))) ev_c (by decide)) fun H2 s2 => ?_
  exact s_retV (v := .int (mixI a b)) (ev_opI (C := CDiv) (g := fun i j => .int (i / j)) (ev_int1 (ev_opI (C := fun _ j => 0 < j) (g := fun i j => .int (i % j)) (ev_int1 (ev_opI0 (g := fun i j => .int (i + j)) (ev_opI (C := CMul) (g := fun i j => .int (i * j)) (ev_var (v := .int (mixTwice a b))) ev_c (mul_small (by decide) (by decide))) (ev_opI (C := CDiv) (g := fun i j => .int (i / j)) (ev_var (v := .int (mixOnce a b))) ev_c ⟨by decide, by decide⟩))) ev_c (by decide))) ev_c ⟨by decide, by decide⟩) fun H3 s3 => q _ H3 ((s1.trans s2).trans s3) (.int _)
end
end G4
/-! L7: _law_hand, _law_take. -/
namespace G4
open PySem PySem.Spec PyProof.Rows L2
/-! ### an empty list that is no constant -/
def tNew (K : PySem.W.Frag) : TE := fun _ H Q => ∀ p, H p = none → K.lookup p = none → Q (.ref p) (upd H p (.lst []))
section
variable {X : Cx} {pos : Pos}
theorem pe_new : PE X (.List [] pos) (tNew X.K) where
  run := by
    intro pins s σ H Q I want
    refine wpAny_List_spliced (thn ((pa_nil (X := X)).run pos pins s σ H (fun xs H1 => xs = [] ∧ H1 = H) I ⟨rfl, rfl⟩) fun us s1 ⟨xs, H1, I1, r, e1, e2⟩ => ?_)
    subst e1
    subst e2
    cases r
    refine ⟨Nat.zero_le _, ?_⟩
    have free := I1.hok.fresh (Nat.le_refl s1.heap.objs.size)
    have out : X.K.lookup s1.heap.objs.size = none := by
      cases e : X.K.lookup s1.heap.objs.size with
      | none => rfl
      | some o => exact absurd (Heap.lt_size (I1.kIn _ _ e)) (Nat.lt_irrefl _)
    exact ⟨.ref s1.heap.objs.size, upd H1 s1.heap.objs.size (.lst []), I1.laid (t' := s1.toks) (fun b u e => Heap.get?_push_of_some _ e) (Nat.le_refl _) ⟨Nat.zero_le _, [], 0, .nil, Heap.get?_push_size _ rfl⟩, rfl, want _ free out⟩
end
section
variable {K : PySem.W.Frag} {σ : L2.St} {H : Hp} {ta te : TE} {v : V} {D' : Ends} {tz : TS}
/-- xs.append(e) -/
theorem q_app {l : Addr} {xs : List V} (hl : H l = some (.lst xs)) (ha : EvV ta σ H (.ref l)) (h : EvV te σ H v) (hz : xs.length < 1000) (q : ∀ H1, Same H H1 → D'.nx σ (upd H1 l (.lst (xs ++ [v])))) :
    tDrop (tBM K "list" rAppend ta (tCons te tNil)) D' σ H := ha H (Same.refl H) _ fun H1 s1 =>
  ⟨Or.inl ⟨rfl, xs, SqL.of (s1 _ _ hl)⟩, h H1 s1 _ fun H2 s2 => ⟨l, xs, v, rfl, rfl, s2 _ _ (s1 _ _ hl), Nat.lt_of_lt_of_le hz (by decide), q H2 (s1.trans s2)⟩⟩
end
/-! ### _law_hand -/
def spHand (K : PySem.W.Frag) : Sp := fun vs H Q _ => ∃ (a : Addr) (ns : List Int), vs = [.ref a] ∧ SqL K H a (ns.map V.int) ∧ ns.length ≤ 63 ∧ ∀ h H', H h = none → HandAt K H' h → Same H H' → Q (.ref h) H'
theorem spHand_len {K : PySem.W.Frag} : ∀ vs H Q E, spHand K vs H Q E → vs.length = pHand.length := by
  rintro vs H Q E ⟨a, ns, rfl, _⟩
  rfl
section
variable {P : Program} {w : World} {K : PySem.W.Frag} {mg : Str → Option Value} {base : Heap} {cl : Kd → Addr} {pe : Addr}
theorem ok_hand (M : Mo K mg cl pe) : Kept P w K mg base 1 "_law_hand" (spHand K) [] := by
  refine kept_all (ps := pHand) M.aHand (fun f fd F => F.ok scHand spHand_len fun cdv A outer s H vs Q E hr h => ?_) fun _ _ _ _ _ _ us hl => match us, hl with | [_], _ => rfl
  obtain ⟨a, ns, rfl, hs, hl, q⟩ := h
  refine ⟨_, pss_cons (ps_set (i := 1) scHand.nd rfl (Or.inl rfl) (pe_op op_add (pe_op op_mul pe_int (e_len (M := M) (ha := pv 0))) pe_int))
    (pss_cons (ps_set (i := 2) scHand.nd rfl (Or.inl rfl) pe_new)
    (pss_cons (ps_for (L2.passes_of rfl) rfl (pi_list (pv 0)) (pg_name (i := 3) scHand.nd rfl (.inl rfl))
      (pss_cons (ps_set (i := 1) scHand.nd rfl (Or.inl rfl) (pe_op op_mod (e_int1 (M := M) (ha := pe_op op_add (pe_op op_mul (pv 1) pe_int) (e_int1 (M := M) (ha := pv 3)))) pe_int))
      (pss_one (ps_expr (pe_bm PySem.F.plainAttrs_list PySem.F.slot_list_append PySem.F.type_list_append mt_append (pv 2) (pa_cons (e_abs (M := M) (ha := e_int1 (M := M) (ha := pv 3))) pa_nil))))))
    (pss_one (ps_ret (pe_lst (pa_cons (pv 2) (pa_cons pe_int (pa_cons pe_int (pa_cons (pv 1) pa_nil))))))))), ?_⟩
  have hlen : (ns.map V.int).length = ns.length := List.length_map ..
  refine q_asgV (v := .int (3 * (ns.map V.int).length + 71)) (ev_opI0 (g := fun i j => .int (i + j)) (ev_opI (C := CMul) (g := fun i j => .int (i * j)) (i := 3) ev_c (ev_lenV hs ev_var) (Or.inl ⟨by decide, by decide⟩)) ev_c) fun H1 s1 => ?_
  refine fun c hc out => ?_
  have s2 : Same H (upd H1 c (.lst [])) := s1.newR hc
  have fc : H c = none := s1.free hc
  refine ⟨.ref a, rfl, a, rfl, ⟨ns.map V.int, Same.sql s2 hs⟩, for_list (K := K) (xs := ns.map V.int) (fun i σ' H' => Same H H' ∧ ∃ t cs o, σ' = [some (.ref a), some (.int t), some (.ref c), o] ∧ cs.length = i ∧ H' c = some (.lst (cs.map V.int)))
    ⟨s2, _, [], none, rfl, rfl, upd_same⟩ (fun i σ' H' _ p => Same.sql p.1 hs) ?_ ?_⟩
  · rintro i x σ' H' hx ⟨s3, t, cs, o, rfl, rfl, hcs⟩
    obtain ⟨n, _, rfl⟩ : ∃ n, n ∈ ns ∧ V.int n = x := List.mem_map.mp (List.mem_of_getElem? hx)
    have hi : cs.length < ns.length := by
      have := (List.getElem?_eq_some_iff.mp hx).1
      rw [hlen] at this
      exact this
    refine q_asgV (v := .int ((t * 1103 + n) % 2147483549)) (ev_opI (C := fun _ j => 0 < j) (g := fun i j => .int (i % j)) (ev_int1 (ev_opI0 (g := fun i j => .int (i + j)) (ev_opI (C := CMul) (g := fun i j => .int (i * j)) (ev_var (v := .int t)) ev_c (mul_small (by decide) (by decide))) (ev_int1 (ev_var (v := .int n))))) ev_c (by decide)) fun H4 s4 => ?_
    refine q_app (s4 _ _ hcs) ev_var (ev_abs (ev_int1 (ev_var (v := .int n)))) (by rw [List.length_map]; omega) fun H5 s5 => ?_
    refine ⟨Same.mut ((s3.trans s4).trans s5) fc, _, cs ++ [(n.natAbs : Int)], _, rfl, by rw [List.length_append]; rfl, ?_⟩
    rw [List.map_append]
    exact upd_same
  · rintro σ' H' ⟨s3, t, cs, o, rfl, _, hcs⟩
    refine ⟨.ref c, rfl, .int t, rfl, (show 4 ≤ sizeLine by decide), fun p hp => ?_⟩
    have np : c ≠ p := ne_of_none hcs hp
    exact q p _ (s3.free hp) ⟨c, cs, 0, 0, t, upd_same, by rw [upd_ne np]; exact hcs, out⟩ (s3.newR hp)
/-! ### _law_take -/
def spTake (K : PySem.W.Frag) : Sp := fun vs H Q _ => ∃ (a : Addr) (n : Int), vs = [.ref a, .int n] ∧ 1 ≤ n ∧ n < 1000000 ∧ HandAt K H a ∧ ∀ r H', 0 ≤ r → r < n → Nx K a H H' → Q (.int r) H'
theorem spTake_len {K : PySem.W.Frag} : ∀ vs H Q E, spTake K vs H Q E → vs.length = pTake.length := by
  rintro vs H Q E ⟨a, n, rfl, _⟩
  rfl
theorem ok_take (M : Mo K mg cl pe) : Kept P w K mg base 2 "_law_take" (spTake K) [] := by
  refine kept_all (ps := pTake) M.aTake (fun f fd F => F.ok scTake spTake_len fun cdv A outer s H vs Q E hr h => ?_) fun _ _ _ _ _ _ us hl => match us, hl with | [_, _], _ => rfl
  obtain ⟨a, n, rfl, n1, n2, ⟨c, cs, i, r, t, hd⟩, q⟩ := h
  refine ⟨_, Evl.pss_cut (ps_if (PW.pt (pw_and (pt_cmpR op_eq (pe_ix ix_seq (pv 0) pe_int (fun _ _ => rfl)) pe_int (nomark _)) (pw_and1 (pt_cmpR op_lt (pe_ix ix_seq (pv 0) pe_int (fun _ _ => rfl)) (e_len (M := M) (ha := pe_ix ix_seq (pv 0) pe_int (fun _ _ => rfl))) (nomark _)))))
      (pss_cons (ps_set (i := 2) scTake.nd rfl (Or.inl rfl) (pe_ix ix_seq (pe_ix ix_seq (pv 0) pe_int (fun _ _ => rfl)) (pe_ix ix_seq (pv 0) pe_int (fun _ _ => rfl)) (fun _ _ => rfl)))
      (pss_cons (ps_asg (pe_op op_add (pe_ix ix_seq (pv 0) pe_int (fun _ _ => rfl)) pe_int) (pg_sub (pv 0) pe_int set_list))
      (pss_cons (ps_if (pt_cmpR op_lt (pv 2) (pe_op op_pow pe_int pe_int) (nomark _)) (pss_one (ps_ret (pe_op op_mod (e_int1 (M := M) (ha := pe_k (E := fun _ => E0) (ok_mixed M) hr (by decide) pass0N (pa_cons (pe_op op_mod (e_int1 (M := M) (ha := pv 2)) pe_int) (pa_cons (pe_ix ix_seq (pv 0) pe_int (fun _ _ => rfl)) pa_nil)))) (pv 1)))) pss_nil)
      (pss_one (ps_asg (pv 2) (pg_sub (pv 0) pe_int set_list)))))) pss_nil)
    (pss_cons (ps_if (pt_cmpR op_gt (pe_ix ix_seq (pv 0) pe_int (fun _ _ => rfl)) pe_int (nomark _))
      (pss_cons (ps_set (i := 3) scTake.nd rfl (Or.inl rfl) (pe_ix ix_seq (pv 0) pe_int (fun _ _ => rfl)))
      (pss_cons (ps_asg (pe_op op_fdiv (e_int1 (M := M) (ha := pv 3)) (pv 1)) (pg_sub (pv 0) pe_int set_list))
      (pss_one (ps_ret (pe_op op_mod (e_int1 (M := M) (ha := pv 3)) (pv 1)))))) pss_nil)
    (pss_cons (ps_asg (pe_op op_mod (e_int1 (M := M) (ha := pe_op op_add (pe_ix ix_seq (pv 0) pe_int (fun _ _ => rfl)) pe_int)) pe_int) (pg_sub (pv 0) pe_int set_list))
    (pss_one (ps_ret (pe_op op_mod (e_int1 (M := M) (ha := pe_k (E := fun _ => E0) (ok_mixed M) hr (by decide) pass0N (pa_cons (pe_ix ix_seq (pv 0) pe_int (fun _ _ => rfl)) (pa_cons (pe_ix ix_seq (pv 0) pe_int (fun _ _ => rfl)) pa_nil)))) (pv 1)))))), ?_⟩
  -- the answer
  have hd0 := hd
  have fin : ∀ (x : Int) (H' : Hp), Same (Hm a H) (Hm a H') → (∃ i' r' t', Hand K H' a c cs i' r' t') → Q (.int (x % n)) H' := fun x H' s ⟨i', r', t', hh⟩ => q _ H' (Int.emod_nonneg _ (by omega)) (Int.emod_lt_of_pos _ (by omega)) (.mk1 hd0 s hh)
  have up : ∀ {H0 H1 : Hp}, Same (Hm a H) (Hm a H0) → Same H0 H1 → Same (Hm a H) (Hm a H1) := fun s0 s1 => s0.trans (hm_mono s1)
  have at2 : ∀ {H' : Hp} {i : Nat} {r t : Int} {σ : L2.St}, Hand K H' a c cs i r t → σ[0]? = some (some (.ref a)) → EvV (tOp (rIx K) (tVar 0) (tC (.int 2))) σ H' (.int r) := fun hd hσ => ev_ixV (j := 2) hd.at_a (ev_var hσ) ev_c rfl
  have at1 : ∀ {H' : Hp} {i : Nat} {r t : Int} {σ : L2.St}, Hand K H' a c cs i r t → σ[0]? = some (some (.ref a)) → EvV (tOp (rIx K) (tVar 0) (tC (.int 1))) σ H' (.int (i : Int)) := fun hd hσ => ev_ixV (j := 1) hd.at_a (ev_var hσ) ev_c rfl
  have at0 : ∀ {H' : Hp} {i : Nat} {r t : Int} {σ : L2.St}, Hand K H' a c cs i r t → σ[0]? = some (some (.ref a)) → EvV (tOp (rIx K) (tVar 0) (tC (.int 0))) σ H' (.ref c) := fun hd hσ => ev_ixV (j := 0) hd.at_a (ev_var hσ) ev_c rfl
  have at3 : ∀ {H' : Hp} {i : Nat} {r t : Int} {σ : L2.St}, Hand K H' a c cs i r t → σ[0]? = some (some (.ref a)) → EvV (tOp (rIx K) (tVar 0) (tC (.int 3))) σ H' (.int t) := fun hd hσ => ev_ixV (j := 3) hd.at_a (ev_var hσ) ev_c rfl
  refine ⟨fun σ' H' => (∃ o, σ' = [some (.ref a), some (.int n), o, none]) ∧ (∃ i r t, Hand K H' a c cs i r t) ∧ Same (Hm a H) (Hm a H'), ?_, ?_⟩
  · refine s_if (et_and (et_test (ev_eqI (at2 hd rfl) ev_c)) fun _ => et_test (ev_opI0 (g := fun i j => .bl (decide (i < j))) (at1 hd rfl) (ev_lenV (SqL.of hd.at_c) (at0 hd rfl)))) (fun hb H1 s1 => ?_) (fun hb H1 s1 => ?_)
    · have hi : i < (cs.map V.int).length := by
        rw [Bool.and_eq_true] at hb
        have := of_decide_eq_true hb.2
        omega
      rw [List.length_map] at hi
      have hd1 := hd.same s1
      refine q_asgV (v := .int (cs[i])) (ev_ixV (j := i) hd1.at_c (at0 hd1 rfl) (at1 hd1 rfl) (by rw [List.getElem?_map, List.getElem?_eq_getElem hi]; rfl)) fun H2 s2 => ?_
      have hd2 := hd1.same s2
      refine q_setV (j := 1) hd2.at_a (ev_opI0 (g := fun i j => .int (i + j)) (at1 hd2 rfl) ev_c) ev_var ev_c (by show 1 < 4; decide) fun H3 s3 => ?_
      have hd3 : Hand K (upd H3 a (.lst [.ref c, .int ((i + 1 : Nat) : Int), .int r, .int t])) a c cs (i + 1) r t := (hd2.same s3).set
      have sm3 : Same (Hm a H) (Hm a (upd H3 a (.lst [.ref c, .int ((i + 1 : Nat) : Int), .int r, .int t]))) := hm_upd (hm_mono ((s1.trans s2).trans s3))
      show tSeq _ _ _ _ (upd H3 a (.lst [.ref c, .int ((i : Int) + 1), .int r, .int t]))
      rw [show ((i : Int) + 1) = ((i + 1 : Nat) : Int) from rfl]
      refine q_when (b := decide (cs[i] < 10 ^ 18)) (et_test (ev_opI0 (g := fun i j => .bl (decide (i < j))) (ev_var (v := .int (cs[i]))) (ev_opI (C := CPow) (g := fun i j => .int (i ^ j.toNat)) (i := 10) (j := 18) ev_c ev_c ⟨by decide, by decide, by decide⟩))) (fun hb H4 s4 => ?_) (fun hb H4 s4 => ?_)
      · have hd4 := hd3.same s4
        exact s_retV (v := .int (mixI (cs[i] % 2147483647) ((i + 1 : Nat) : Int) % n)) (ev_opI (C := fun _ j => 0 < j) (g := fun i j => .int (i % j)) (ev_int1 (ev_I (ed_k0 (F := fMixed) (ea_cons (ed_I (ev_opI (C := fun _ j => 0 < j) (g := fun i j => .int (i % j)) (ev_int1 (ev_var (v := .int (cs[i])))) ev_c (by decide))) (ea_cons (ed_I (at1 hd4 rfl)) ea_nil)) rfl))) (ev_var (v := .int n)) (show (0 : Int) < n by omega))
          fun H5 s5 => fin _ H5 (up (up sm3 s4) s5) ⟨_, _, _, hd4.same s5⟩
      · have hd4 := hd3.same s4
        refine s_setV (j := 2) hd4.at_a (ev_var (v := .int (cs[i]))) ev_var ev_c (by show 2 < 4; decide) fun H5 s5 => ?_
        exact ⟨⟨_, rfl⟩, ⟨i + 1, cs[i], t, (hd4.same s5).set⟩, hm_upd (up (up sm3 s4) s5)⟩
    · exact ⟨⟨none, rfl⟩, ⟨i, r, t, hd.same s1⟩, hm_mono s1⟩
  · rintro σ' H' ⟨⟨o, rfl⟩, ⟨i, r, t, hd⟩, sm⟩
    refine q_when (et_test (ev_opI0 (g := fun i j => .bl (decide (j < i))) (at2 hd rfl) ev_c)) (fun hb H1 s1 => ?_) (fun hb H1 s1 => ?_)
    · have hd1 := hd.same s1
      refine q_asgV (at2 hd1 rfl) fun H2 s2 => ?_
      have hd2 := hd1.same s2
      refine q_setV (j := 2) (u := .int (r / n)) hd2.at_a (ev_opI (C := CDiv) (g := fun i j => .int (i / j)) (ev_int1 (ev_var (v := .int r))) (ev_var (v := .int n)) ⟨by omega, by omega⟩) ev_var ev_c (by show 2 < 4; decide) fun H3 s3 => ?_
      have hd3 : Hand K (upd H3 a (.lst [.ref c, .int (i : Int), .int (r / n), .int t])) a c cs i (r / n) t := (hd2.same s3).set
      have sm3 : Same (Hm a H) (Hm a (upd H3 a (.lst [.ref c, .int (i : Int), .int (r / n), .int t]))) := hm_upd (up (up (up sm s1) s2) s3)
      show tRet _ _ _ (upd H3 a (.lst [.ref c, .int (i : Int), .int (r / n), .int t]))
      exact s_retV (v := .int (r % n)) (ev_opI (C := fun _ j => 0 < j) (g := fun i j => .int (i % j)) (ev_int1 (ev_var (v := .int r))) (ev_var (v := .int n)) (show (0 : Int) < n by omega)) fun H4 s4 => fin _ H4 (up sm3 s4) ⟨_, _, _, hd3.same s4⟩
    · have hd1 := hd.same s1
      refine q_setV (j := 3) (u := .int ((t + 1) % 2147483549)) hd1.at_a (ev_opI (C := fun _ j => 0 < j) (g := fun i j => .int (i % j)) (ev_int1 (ev_opI0 (g := fun i j => .int (i + j)) (at3 hd1 rfl) ev_c)) ev_c (by decide)) ev_var ev_c (by show 3 < 4; decide) fun H2 s2 => ?_
      have hd2 : Hand K (upd H2 a (.lst [.ref c, .int (i : Int), .int r, .int ((t + 1) % 2147483549)])) a c cs i r ((t + 1) % 2147483549) := (hd1.same s2).set
      have sm2 : Same (Hm a H) (Hm a (upd H2 a (.lst [.ref c, .int (i : Int), .int r, .int ((t + 1) % 2147483549)]))) := hm_upd (up (up sm s1) s2)
      show tRet _ _ _ (upd H2 a (.lst [.ref c, .int (i : Int), .int r, .int ((t + 1) % 2147483549)]))
      exact s_retV (v := .int (mixI ((t + 1) % 2147483549) (i : Int) % n)) (ev_opI (C := fun _ j => 0 < j) (g := fun i j => .int (i % j)) (ev_int1 (ev_I (ed_k0 (F := fMixed) (ea_cons (ed_I (at3 hd2 rfl)) (ea_cons (ed_I (at1 hd2 rfl)) ea_nil)) rfl))) (ev_var (v := .int n)) (show (0 : Int) < n by omega))
        fun H3 s3 => fin _ H3 (up sm2 s3) ⟨_, _, _, hd2.same s3⟩
end
end G4
/-! L8: draws; _law_odd, _law_rid, _law_shaped, _law_drawn. -/
namespace G4
open PySem PySem.Spec PyProof.Rows L2
theorem noHs_mem : ∀ {ds : List D}, noHs ds = true → ∀ d ∈ ds, noH d = true
  | [], _, d, h => by cases h
  | e :: ds, h, d, hd => by
    unfold noHs at h
    rw [Bool.and_eq_true] at h
    rcases List.mem_cons.mp hd with z | z
    · rw [z]
      exact h.1
    · exact noHs_mem h.2 d z
theorem mem_noHs : ∀ {ds : List D}, (∀ d ∈ ds, noH d = true) → noHs ds = true
  | [], _ => by simp [noHs]
  | d :: ds, h => by
    unfold noHs
    rw [h d List.mem_cons_self, mem_noHs fun e he => h e (List.mem_cons_of_mem _ he)]
    rfl
theorem noH_of_noL : ∀ {d : D}, noL d = true → noH d = true
  | .none, _ => by simp [noH]
  | .bool _, _ => by simp [noH]
  | .int _, _ => by simp [noH]
  | .str _, _ => by simp [noH]
  | .list _, h => by simp [noL] at h
  | .tuple xs, h => by
    unfold noH
    unfold noL at h
    exact mem_noHs fun d hd => noH_of_noL (mem_noLs h d hd)
  | .dict _, _ => by simp [noH]
theorem noHs_of_noLs {ds : List D} (h : noLs ds = true) : noHs ds = true := mem_noHs fun d hd => noH_of_noL (mem_noLs h d hd)
theorem noH_list {ds : List D} (h : handish ds = false) (n : noHs ds = true) : noH (.list ds) = true := by
  unfold noH
  rw [h, n]
  rfl
theorem noH_tup {ds : List D} (n : noHs ds = true) : noH (.tuple ds) = true := by
  unfold noH
  exact n
theorem noHs_list {ds : List D} (h : noH (.list ds) = true) : noHs ds = true := by
  unfold noH at h
  rw [Bool.and_eq_true] at h
  exact h.2
section
variable {K : PySem.W.Frag} {a : Addr} {H : Hp} {σ : L2.St} {tl th tn : TE} {E : L2.St → XK} {n : Int} {Q : VK}
/-- _law_take(hand, n) -/
theorem dr_take (hA : HandAt K H a) (hh : EvV th σ (Hm a H) (.ref a)) (hn : EvV tn σ (Hm a H) (.int n)) (b : 1 ≤ n ∧ n < 1000000) (q : ∀ r H', 0 ≤ r → r < n → Nx K a H H' → Q (.int r) H') :
    tCallSD (spTake K) [] E (tCons th (tCons tn tNil)) σ H Q := by
  refine kv (te := th) (Q := fun x H1 => tn σ H1 fun y H2 => spTake K [x, y] H2 Q (E σ)) hA hh fun H1 x1 => ?_
  refine kv (te := tn) (Q := fun y H2 => spTake K [.ref a, y] H2 Q (E σ)) x1.hand (hn.mono x1.same) fun H2 x2 => ?_
  exact ⟨a, n, rfl, b.1, b.2, x2.hand, fun r H' h0 h1 x => q r H' h0 h1 ((x1.trans x2).trans x)⟩
/-- [..][_law_take(hand, n)] -/
theorem dr_ix {ds : List D} (hA : HandAt K H a) (hl : EvD K tl σ (Hm a H) (.list ds)) (nh : noH (.list ds) = true) (hh : EvV th σ (Hm a H) (.ref a)) (hn : EvV tn σ (Hm a H) (.int n)) (len : n = (ds.length : Int)) (b : 1 ≤ n ∧ n < 1000000)
    (q : ∀ c u H', c ∈ ds → Nx K a H H' → Dp K (Hm a H') u c → Q u H') : tOp (rIx K) tl (tCallSD (spTake K) [] E (tCons th (tCons tn tNil))) σ H Q := by
  refine kn (te := tl) (Q := fun x H1 => tCallSD (spTake K) [] E (tCons th (tCons tn tNil)) σ H1 fun y H2 => rIx K x y H2 Q) hA hl nh fun u H1 x1 hu => ?_
  refine dr_take x1.hand (hh.mono x1.same) (hn.mono x1.same) b fun r H2 h0 h1 x2 => ?_
  have hu2 : Dp K (Hm a H2) u (.list ds) := x2.dp hu
  have lt : r.toNat < ds.length := by omega
  have er : r = ((r.toNat : Nat) : Int) := by omega
  have at_r : ds[r.toNat]? = some ds[r.toNat] := List.getElem?_eq_getElem lt
  have ev : EvD K (tOp (rIx K) (tC u) (tC (.int ((r.toNat : Nat) : Int)))) σ (Hm a H2) ds[r.toNat] := ed_ix (ed_of ev_c hu2) rfl ev_c at_r
  have z : tOp (rIx K) (tC u) (tC (.int ((r.toNat : Nat) : Int))) σ H2 Q := kn x2.hand ev (noHs_mem (noHs_list nh) _ (List.getElem_mem lt)) fun u2 H3 x3 h3 => q _ u2 H3 (List.getElem_mem lt) ((x1.trans x2).trans x3) h3
  rw [er]
  exact z
end
/-! what is under way, laid open -/
section
variable {K : PySem.W.Frag} {a : Addr} {H : Hp} {σ : L2.St} {te ta tb : TE} {tr : TA} {t : TT} {tz : TS} {D' : Ends} {Q : VK} {Qa : List V → Hp → Prop} {Qt : Bool → Hp → Prop} {i : Nat} {r : R2} {sp : Sp} {dvs : List V} {E : L2.St → XK} {d : D} {v : V}
theorem d_asg (h : te σ H fun u H1 => tz D' (σ.set i (some u)) H1) : tSeq (tAsg te (gName i)) tz D' σ H := h
theorem d_asg1 (h : te σ H fun u H1 => D'.nx (σ.set i (some u)) H1) : tAsg te (gName i) D' σ H := h
theorem d_ret (h : te σ H D'.rt) : tRet te D' σ H := h
theorem d_op (h : ta σ H fun x H1 => tb σ H1 fun y H2 => r x y H2 Q) : tOp r ta tb σ H Q := h
theorem d_call (h : tr σ H fun vs H1 => sp (vs ++ dvs) H1 Q (E σ)) : tCallSD sp dvs E tr σ H Q := h
theorem d_cons (h : te σ H fun x H1 => tr σ H1 fun xs H2 => Qa (x :: xs) H2) : tCons te tr σ H Qa := h
theorem d_var (h : σ[i]? = some (some v)) (q : Q v H) : tVar i σ H Q := ⟨v, h, q⟩
theorem d_c (q : Q v H) : tC v σ H Q := q
theorem d_if (h : t σ H fun b H1 => if b = true then ta σ H1 Q else tb σ H1 Q) : tIf t ta tb σ H Q := h
theorem d_test (h : te σ H fun x H1 => ∃ k, x = .bl k ∧ Qt k H1) : tTest te σ H Qt := h
/-- with the hand about -/
theorem hq_asg (hA : HandAt K H a) (h : EvD K te σ (Hm a H) d) (n : noH d = true) (q : ∀ u H', Nx K a H H' → Dp K (Hm a H') u d → tz D' (σ.set i (some u)) H') : tSeq (tAsg te (gName i)) tz D' σ H := d_asg (kn hA h n q)
theorem hq_asgV (hA : HandAt K H a) (h : EvV te σ (Hm a H) v) (q : ∀ H', Nx K a H H' → tz D' (σ.set i (some v)) H') : tSeq (tAsg te (gName i)) tz D' σ H := d_asg (kv hA h q)
theorem hs_ret (hA : HandAt K H a) (h : EvD K te σ (Hm a H) d) (n : noH d = true) (q : ∀ u H', Nx K a H H' → Dp K (Hm a H') u d → D'.rt u H') : tRet te D' σ H := d_ret (kn hA h n q)
theorem hs_retV (hA : HandAt K H a) (h : EvV te σ (Hm a H) v) (q : ∀ H', Nx K a H H' → D'.rt v H') : tRet te D' σ H := d_ret (kv hA h q)
theorem hs_if {b : Bool} {tu tw : TS} (hA : HandAt K H a) (h : EvT t σ (Hm a H) b) (h1 : b = true → ∀ H1, Nx K a H H1 → tu D' σ H1) (h2 : b = false → ∀ H1, Nx K a H H1 → tw D' σ H1) : tIfS t tu tw D' σ H := by
  refine kt (t := t) (Qt := fun b H1 => if b = true then tu D' σ H1 else tw D' σ H1) hA h fun H1 x => ?_
  cases b with
  | true => exact h1 rfl H1 x
  | false => exact h2 rfl H1 x
theorem hq_when {b : Bool} {tu : TS} (hA : HandAt K H a) (h : EvT t σ (Hm a H) b) (h1 : b = true → ∀ H1, Nx K a H H1 → tu { D' with nx := tz D' } σ H1) (h2 : b = false → ∀ H1, Nx K a H H1 → tz D' σ H1) : tSeq (tIfS t tu tNext) tz D' σ H :=
  hs_if (D' := { D' with nx := tz D' }) (tw := tNext) hA h h1 h2
end
/-! ### _law_odd, _law_rid -/
def oddL (h : Int) : List D := [.bool true, .none, .str "1", .int (-1), .int (h + 1), .tuple [.int 0], .bool false, .int (h + 10 ^ 20)]
def ridL : List D := [.none, .int 7, .str "012", .bool true]
def spOdd (K : PySem.W.Frag) : Sp := fun vs H Q _ => ∃ (a : Addr) (h : Int), vs = [.ref a, .int h] ∧ HandAt K H a ∧ ∀ c u H', c ∈ oddL h → Nx K a H H' → Dp K (Hm a H') u c → Q u H'
def spRid (K : PySem.W.Frag) : Sp := fun vs H Q _ => ∃ (a : Addr), vs = [.ref a] ∧ HandAt K H a ∧ ∀ c u H', c ∈ ridL → Nx K a H H' → Dp K (Hm a H') u c → Q u H'
theorem oddL_noL {h : Int} : ∀ c ∈ oddL h, noL c = true := mem_noLs (by simp [oddL, noLs, noL])
theorem ridL_noL : ∀ c ∈ ridL, noL c = true := mem_noLs (by simp [ridL, noLs, noL])
theorem noH_odd {h : Int} : noH (.list (oddL h)) = true := noH_list rfl (mem_noHs fun c hc => noH_of_noL (oddL_noL c hc))
theorem noH_rid : noH (.list ridL) = true := noH_list rfl (mem_noHs fun c hc => noH_of_noL (ridL_noL c hc))
/-! ### _law_shaped -/
def spShaped (K : PySem.W.Frag) : Sp := fun vs H Q _ => ∃ (a : Addr) (x : V) (t : D) (xs : List D), vs = [.ref a, x] ∧ HandAt K H a ∧ Dp K (Hm a H) x t ∧ its? t = some xs ∧ noH (.list xs) = true ∧
  ∀ d u H', (d = .list xs ∨ d = .tuple xs) → Nx K a H H' → Dp K (Hm a H') u d → Q u H'
/-! ### _law_drawn -/
def spDrawn (K : PySem.W.Frag) : Sp := fun vs H Q _ => ∃ (a : Addr) (n : Nat), vs = [.ref a, .int (n : Int)] ∧ n ≤ 5 ∧ HandAt K H a ∧
  ∀ (p q : Int) (u : V) (H' : Hp), Nat.gcd p.natAbs q.natAbs = 1 → p.natAbs ≤ 10000 → q.natAbs ≤ 10000 → Nx K a H H' → Dp K (Hm a H') u (tupI (unI n p q)) → Q u H'
theorem gcd_parts {x y : Int} {g : Nat} (hg : g = Nat.gcd x.natAbs y.natAbs) (g0 : 0 < g) : Nat.gcd (x / (g : Int)).natAbs (y / (g : Int)).natAbs = 1 ∧ (x / (g : Int)).natAbs ≤ x.natAbs ∧ (y / (g : Int)).natAbs ≤ y.natAbs := by
  have d1 : (g : Int) ∣ x := Int.ofNat_dvd_left.mpr (by rw [hg]; exact Nat.gcd_dvd_left _ _)
  have d2 : (g : Int) ∣ y := Int.ofNat_dvd_left.mpr (by rw [hg]; exact Nat.gcd_dvd_right _ _)
  obtain ⟨k, rfl⟩ := d1
  obtain ⟨m, rfl⟩ := d2
  have gi : (g : Int) ≠ 0 := by omega
  rw [Int.mul_ediv_cancel_left _ gi, Int.mul_ediv_cancel_left _ gi]
  rw [Int.natAbs_mul, Int.natAbs_mul, Int.natAbs_natCast, Nat.gcd_mul_left] at hg
  refine ⟨?_, ?_, ?_⟩
  · exact Nat.eq_of_mul_eq_mul_left g0 (by rw [Nat.mul_one]; exact hg.symm)
  · rw [Int.natAbs_mul, Int.natAbs_natCast]
    exact Nat.le_mul_of_pos_left _ g0
  · rw [Int.natAbs_mul, Int.natAbs_natCast]
    exact Nat.le_mul_of_pos_left _ g0
section
variable {P : Program} {w : World} {K : PySem.W.Frag} {mg : Str → Option Value} {base : Heap} {cl : Kd → Addr} {pe : Addr}
theorem ok_odd (M : Mo K mg cl pe) : Kept P w K mg base 3 "_law_odd" (spOdd K) [] := by
  refine kept_all (ps := pOdd) M.aOdd (fun f fd F => F.ok scOdd (by rintro vs H Q E ⟨a, n, rfl, _⟩; rfl) fun cdv A outer s H vs Q E hr h => ?_) fun _ _ _ _ _ _ us hl => match us, hl with | [_, _], _ => rfl
  obtain ⟨a, h, rfl, hA, q⟩ := h
  refine ⟨_, pss_one (ps_ret (pe_ix ix_seq (pe_lst (pa_cons pe_bl (pa_cons pe_non (pa_cons pe_str (pa_cons (pe_un un_neg pe_int) (pa_cons (pe_op op_add (pv 1) pe_int) (pa_cons (pe_tup (pa_cons pe_int pa_nil)) (pa_cons pe_bl (pa_cons (pe_op op_add (pv 1) (pe_op op_pow pe_int pe_int)) pa_nil)))))))))
    (pe_k (E := fun _ => E0) (ok_take M) hr (by decide) pass0N (pa_cons (pv 0) (pa_cons pe_int pa_nil))) (fun _ _ => rfl))), ?_⟩
  refine dr_ix (ds := oddL h) hA (ed_lst (ea_cons ed_bl (ea_cons ed_non (ea_cons ed_str (ea_cons (ed_I (ev_neg ev_c)) (ea_cons (ed_I (ev_opI0 (g := fun i j => .int (i + j)) ev_var ev_c)) (ea_cons (ed_tup (ea_cons ed_int ea_nil) (by simp)) (ea_cons ed_bl (ea_cons (ed_I (ev_opI0 (g := fun i j => .int (i + j)) (ev_var (v := .int h)) (ev_opI (C := CPow) (g := fun i j => .int (i ^ j.toNat)) (i := 10) (j := 20) ev_c ev_c ⟨by decide, by decide, by decide⟩))) ea_nil)))))))) (by show 8 ≤ 1000; decide)) noH_odd ev_var ev_c rfl ⟨by decide, by decide⟩ q
theorem ok_rid (M : Mo K mg cl pe) : Kept P w K mg base 3 "_law_rid" (spRid K) [] := by
  refine kept_all (ps := pRid) M.aRid (fun f fd F => F.ok scRid (by rintro vs H Q E ⟨a, rfl, _⟩; rfl) fun cdv A outer s H vs Q E hr h => ?_) fun _ _ _ _ _ _ us hl => match us, hl with | [_], _ => rfl
  obtain ⟨a, rfl, hA, q⟩ := h
  refine ⟨_, pss_one (ps_ret (pe_ix ix_seq (pe_lst (pa_cons pe_non (pa_cons pe_int (pa_cons pe_str (pa_cons pe_bl pa_nil)))))
    (pe_k (E := fun _ => E0) (ok_take M) hr (by decide) pass0N (pa_cons (pv 0) (pa_cons pe_int pa_nil))) (fun _ _ => rfl))), ?_⟩
  exact dr_ix (ds := ridL) hA (ed_lst (ea_cons ed_non (ea_cons ed_int (ea_cons ed_str (ea_cons ed_bl ea_nil)))) (by show 4 ≤ 1000; decide)) noH_rid ev_var ev_c rfl ⟨by decide, by decide⟩ q
theorem ok_shaped (M : Mo K mg cl pe) : Kept P w K mg base 3 "_law_shaped" (spShaped K) [] := by
  refine kept_all (ps := pShaped) M.aShaped (fun f fd F => F.ok scShaped (by rintro vs H Q E ⟨a, x, t, xs, rfl, _⟩; rfl) fun cdv A outer s H vs Q E hr h => ?_) fun _ _ _ _ _ _ us hl => match us, hl with | [_, _], _ => rfl
  obtain ⟨a, x, t, xs, rfl, hA, hx, ex, nh, q⟩ := h
  refine ⟨_, pss_one (ps_ret (pe_ifExp (pt_cmpR op_eq (pe_k (E := fun _ => E0) (ok_take M) hr (by decide) pass0N (pa_cons (pv 0) (pa_cons pe_int pa_nil))) pe_int (nomark _)) (e_list (M := M) (ha := pv 1)) (e_tuple (M := M) (ha := pv 1)))), ?_⟩
  refine d_ret (d_if (d_test (d_op (dr_take (n := 2) hA ev_var ev_c ⟨by decide, by decide⟩ fun r H1 h0 h1 x1 => ?_))))
  show tIf (tTest (tOp rEq (tC (.int r)) (tC (.int 0)))) (tCB (rLstS K) (tCons (tVar 1) tNil)) (tCB (rTupS K) (tCons (tVar 1) tNil)) [some (V.ref a), some x] H1 Q
  have hx1 := x1.dp hx
  by_cases r0 : r = 0
  · refine kn x1.hand (ed_if (d := .list xs) (et_test (ev_eqI ev_c ev_c)) (fun _ => ed_list (ed_var hx1) ex) fun hb => ?_) nh fun u H2 x2 h2 => q _ u H2 (Or.inl rfl) (x1.trans x2) h2
    rw [decide_eq_true r0] at hb
    cases hb
  · refine kn x1.hand (ed_if (d := .tuple xs) (et_test (ev_eqI ev_c ev_c)) (fun hb => ?_) fun _ => ed_tuple (ed_var hx1) ex) (noH_tup (noHs_list nh)) fun u H2 x2 h2 => q _ u H2 (Or.inr rfl) (x1.trans x2) h2
    rw [decide_eq_false r0] at hb
    cases hb
theorem noH_tupI (v : List Int) : noH (tupI v) = true := noH_of_noL (noL_tupI v)
theorem ok_drawn (M : Mo K mg cl pe) : Kept P w K mg base 3 "_law_drawn" (spDrawn K) [] := by
  refine kept_all (ps := pDrawn) M.aDrawn (fun f fd F => F.ok scDrawn (by rintro vs H Q E ⟨a, n, rfl, _⟩; rfl) fun cdv A outer s H vs Q E hr h => ?_) fun _ _ _ _ _ _ us hl => match us, hl with | [_, _], _ => rfl
  obtain ⟨a, n, rfl, hn, hA, q⟩ := h
  refine ⟨_, pss_cons (ps_set (i := 2) scDrawn.nd rfl (Or.inl rfl) (pe_ifExp (pt_cmpR op_eq (pe_k (E := fun _ => E0) (ok_take M) hr (by decide) pass0N (pa_cons (pv 0) (pa_cons pe_int pa_nil))) pe_int (nomark _)) pe_int pe_int))
    (pss_cons (ps_set (i := 3) scDrawn.nd rfl (Or.inl rfl) (pe_op op_sub (pe_k (E := fun _ => E0) (ok_take M) hr (by decide) pass0N (pa_cons (pv 0) (pa_cons (pe_op op_add (pe_op op_mul pe_int (pv 2)) pe_int) pa_nil))) (pv 2)))
    (pss_cons (ps_set (i := 4) scDrawn.nd rfl (Or.inl rfl) (pe_op op_sub (pe_k (E := fun _ => E0) (ok_take M) hr (by decide) pass0N (pa_cons (pv 0) (pa_cons (pe_op op_add (pe_op op_mul pe_int (pv 2)) pe_int) pa_nil))) (pv 2)))
    (pss_cons (ps_set (i := 5) scDrawn.nd rfl (Or.inl rfl) (pe_k (E := fun _ => E0) (ok_common M) hr (by decide) pass0N (pa_cons (pv 3) (pa_cons (pv 4) pa_nil))))
    (pss_cons (ps_if (pt_cmpR op_eq (pv 5) pe_int (nomark _)) (pss_one (ps_ret (pe_k (E := fun _ => E0) (ok_steps M) hr (by decide) pass0N (pa_cons (pv 1) (pa_cons pe_int (pa_cons (pe_op op_sub pe_int (pe_op op_mul pe_int (pe_k (E := fun _ => E0) (ok_take M) hr (by decide) pass0N (pa_cons (pv 0) (pa_cons pe_int pa_nil))))) pa_nil)))))) pss_nil)
    (pss_cons (ps_set (i := 6) scDrawn.nd rfl (Or.inl rfl) (e_max (M := M) (hc := rfl) (ha := pv 5) (hb := pe_int)))
    (pss_one (ps_ret (pe_k (E := fun _ => E0) (ok_steps M) hr (by decide) pass0N (pa_cons (pv 1) (pa_cons (pe_op op_fdiv (pv 3) (pv 6)) (pa_cons (pe_op op_fdiv (pv 4) (pv 6)) pa_nil))))))))))), ?_⟩
  refine d_asg (d_if (d_test (d_op (dr_take (n := 4) hA ev_var ev_c ⟨by decide, by decide⟩ fun r H1 _ _ x1 => ?_))))
  obtain ⟨m, m6, m4, most⟩ : ∃ m : Int, 6 ≤ m ∧ m ≤ 10000 ∧ EvD K (tIf (tTest (tOp rEq (tC (.int r)) (tC (.int 0)))) (tC (.int 10000)) (tC (.int 6))) [some (V.ref a), some (.int (n : Int)), none, none, none, none, none] (Hm a H1) (.int m) := by
    by_cases r0 : r = 0
    · refine ⟨10000, by decide, by decide, ed_if (et_test (ev_eqI ev_c ev_c)) (fun _ => ed_int) fun hb => ?_⟩
      rw [decide_eq_true r0] at hb
      cases hb
    · refine ⟨6, by decide, by decide, ed_if (et_test (ev_eqI ev_c ev_c)) (fun hb => ?_) fun _ => ed_int⟩
      rw [decide_eq_false r0] at hb
      cases hb
  have step := fun (Q : VK) (q : ∀ H', Nx K a H1 H' → Q (.int m) H') => kv (Q := Q) x1.hand (ev_I most) q
  refine step _ fun H2 x2 => ?_
  have bnd : EvV (tOp (rI0 fun i j => .int (i + j)) (tOp (rI CMul fun i j => .int (i * j)) (tC (.int 2)) (tVar 2)) (tC (.int 1))) [some (V.ref a), some (.int (n : Int)), some (.int m), none, none, none, none] (Hm a H2) (.int (2 * m + 1)) :=
    ev_opI0 (g := fun i j => .int (i + j)) (ev_opI (C := CMul) (g := fun i j => .int (i * j)) ev_c ev_var (Or.inl ⟨by decide, by decide⟩)) ev_c
  refine d_asg (d_op (dr_take x2.hand ev_var bnd ⟨by omega, by omega⟩ fun r1 H3 r10 r11 x3 => ?_))
  refine ⟨.int m, rfl, r1, m, rfl, rfl, ?_⟩
  obtain ⟨f, hf⟩ : ∃ f, f = r1 - m := ⟨_, rfl⟩
  have fb : f.natAbs ≤ 10000 := by omega
  show tSeq (tAsg (tOp (rI0 fun i j => .int (i - j)) (tCallSD (spTake K) [] (fun _ => E0) (tCons (tVar 0) (tCons (tOp (rI0 fun i j => .int (i + j)) (tOp (rI CMul fun i j => .int (i * j)) (tC (.int 2)) (tVar 2)) (tC (.int 1))) tNil))) (tVar 2)) (gName 4)) _ _ [some (V.ref a), some (.int (n : Int)), some (.int m), some (.int (r1 - m)), none, none, none] H3
  rw [← hf]
  have bnd2 : EvV (tOp (rI0 fun i j => .int (i + j)) (tOp (rI CMul fun i j => .int (i * j)) (tC (.int 2)) (tVar 2)) (tC (.int 1))) [some (V.ref a), some (.int (n : Int)), some (.int m), some (.int f), none, none, none] (Hm a H3) (.int (2 * m + 1)) :=
    ev_opI0 (g := fun i j => .int (i + j)) (ev_opI (C := CMul) (g := fun i j => .int (i * j)) ev_c ev_var (Or.inl ⟨by decide, by decide⟩)) ev_c
  refine d_asg (d_op (dr_take x3.hand ev_var bnd2 ⟨by omega, by omega⟩ fun r2 H4 r20 r21 x4 => ?_))
  refine ⟨.int m, rfl, r2, m, rfl, rfl, ?_⟩
  obtain ⟨g, hg⟩ : ∃ g, g = r2 - m := ⟨_, rfl⟩
  have gb : g.natAbs ≤ 10000 := by omega
  show tSeq (tAsg (tCallSD (spF K cl fCommon) [] (fun _ => E0) (tCons (tVar 3) (tCons (tVar 4) tNil))) (gName 5)) _ _ [some (V.ref a), some (.int (n : Int)), some (.int m), some (.int f), some (.int (r2 - m)), none, none] H4
  rw [← hg]
  obtain ⟨c, hc⟩ : ∃ c, c = Nat.gcd f.natAbs g.natAbs := ⟨_, rfl⟩
  refine hq_asgV (v := .int (c : Int)) x4.hand (ev_I (by rw [hc]; exact ed_k0 (F := fCommon) (ea_cons (ed_var (.int f)) (ea_cons (ed_var (.int g)) ea_nil)) rfl)) fun H5 x5 => ?_
  have x05 := (((x1.trans x2).trans x3).trans x4).trans x5
  refine hq_when (b := decide ((c : Int) = 0)) x5.hand (et_test (ev_eqI (ev_var (v := .int (c : Int))) ev_c)) (fun hb H6 x6 => ?_) (fun hb H6 x6 => ?_)
  · have x06 := x05.trans x6
    refine d_ret (d_call (d_cons (d_var (v := .int (n : Int)) rfl (d_cons (d_c (d_cons (d_op (d_c (d_op (d_c (dr_take (n := 2) x6.hand ev_var ev_c ⟨by decide, by decide⟩ fun r3 H7 r30 r31 x7 => ?_)))))))))))
    show tCallSD (spF K cl fSteps) [] (fun _ => E0) (tCons (tC (.int (n : Int))) (tCons (tC (.int 0)) (tCons (tOp (rI0 fun i j => .int (i - j)) (tC (.int 1)) (tOp (rI CMul fun i j => .int (i * j)) (tC (.int 2)) (tC (.int r3)))) tNil))) [] H7 Q
    refine kn x7.hand (ed_k0 (F := fSteps) (ea_cons ed_int (ea_cons ed_int (ea_cons (ed_I (ev_opI0 (g := fun i j => .int (i - j)) ev_c (ev_opI (C := CMul) (g := fun i j => .int (i * j)) ev_c ev_c (Or.inl ⟨by decide, by decide⟩)))) ea_nil))) (steps_ok hn)) (noH_tupI _) fun u H8 x8 hu => ?_
    have r3' : r3 = 0 ∨ r3 = 1 := by omega
    exact q 0 (1 - 2 * r3) u H8 (by rcases r3' with rfl | rfl <;> decide) (by decide) (by rcases r3' with rfl | rfl <;> decide) ((x06.trans x7).trans x8) hu
  · have x06 := x05.trans x6
    have cpos : 0 < c := by
      have : ¬ (c : Int) = 0 := of_decide_eq_false hb
      omega
    have cle : c ≤ 10000 := by
      by_cases f0 : f.natAbs = 0
      · rw [hc, f0, Nat.gcd_zero_left]
        exact gb
      · exact Nat.le_trans (by rw [hc]; exact Nat.gcd_le_left _ (Nat.pos_of_ne_zero f0)) fb
    refine hq_asgV (v := .int (c : Int)) x6.hand (ev_is (ev_max (ev_var (v := .int (c : Int))) ev_c) ?_) fun H7 x7 => ?_
    · congr 1
      split <;> omega
    obtain ⟨k1, k2, k3⟩ := gcd_parts hc cpos
    refine hs_ret x7.hand (ed_k0 (F := fSteps) (ea_cons (ed_var (.int (n : Int))) (ea_cons (ed_I (ev_opI (C := CDiv) (g := fun i j => .int (i / j)) (ev_var (v := .int f)) (ev_var (v := .int (c : Int))) ⟨by omega, by omega⟩)) (ea_cons (ed_I (ev_opI (C := CDiv) (g := fun i j => .int (i / j)) (ev_var (v := .int g)) (ev_var (v := .int (c : Int))) ⟨by omega, by omega⟩)) ea_nil))) (steps_ok hn)) (noH_tupI _) fun u H8 x8 hu => ?_
    exact q _ _ u H8 k1 (Nat.le_trans k2 fb) (Nat.le_trans k3 gb) ((x06.trans x7).trans x8) hu
end
end G4
/-! L9: _law_spoilt. -/
namespace G4
open PySem PySem.Spec PyProof.Rows L2
def spSpoilt (K : PySem.W.Frag) : Sp := fun vs H Q _ => ∃ (a : Addr) (n : Nat) (x : V) (v : List Int), vs = [.ref a, .int (n : Int), x] ∧ n ≤ 5 ∧ HandAt K H a ∧ Dp K (Hm a H) x (tupI v) ∧ v.length = 3 ∧ ∀ d u H', Nx K a H H' → Dp K H' u d → Q u H'
section
variable {K : PySem.W.Frag} {a : Addr} {H : Hp} {σ : L2.St} {te ta tb : TE} {tr : TA} {d : D} {Q : VK} {us : List V} {ds xs : List D}
/-- list(e), the new list told -/
theorem d_list (h : EvD K ta σ H d) (hx : its? d = some xs) (q : ∀ l us H1, Same H H1 → H1 l = none → DpAll K H1 us xs → Q (.ref l) (upd H1 l (.lst us))) : tCB (rLstS K) (tCons ta tNil) σ H Q := h H (Same.refl H) _ fun x H2 s2 dx => by
  obtain ⟨b, p, vs, rfl, hs, hall⟩ := dx.seq hx
  refine ⟨p, vs, rfl, ?_, fun l hl => q l vs H2 s2 hl hall⟩
  cases b with
  | true => exact Or.inl hs
  | false => exact Or.inr hs
/-- [..], the new list told -/
theorem d_lst (h : EvA K tr σ H ds) (hl : ds.length ≤ 1000) (q : ∀ l us H1, Same H H1 → H1 l = none → DpAll K H1 us ds → Q (.ref l) (upd H1 l (.lst us))) : tLst tr σ H Q := h H (Same.refl H) _ fun us H2 s2 hus =>
  ⟨by rw [hus.len]; exact small_line hl, fun l hl => q l us H2 s2 hl hus⟩
/-- xs[:2] of three -/
theorem ed_cut2 {x y z : D} (h : EvD K te σ H (.list [x, y, z])) : EvD K (tSl (rSlL K) te tNoPart (tPart (tC (.int 2)))) σ H (.list [x, y]) := fun H1 s Q q => h H1 s _ fun u H2 s2 hu => by
  cases hu with
  | @lst p vs _ hs hall =>
    obtain ⟨v1, v2, v3, rfl, h1, h2, h3⟩ := dp3 hall
    exact ⟨2, rfl, p, _, rfl, hs, fun l hl => q (.ref l) _ (s2.newR hl) (.lst (SqL.of upd_same) (DpAll.same (Same.new hl) (.cons h1 (.cons h2 .nil))))⟩
/-- xs + [0] -/
theorem ed_cat0 {l : Addr} (hl : H l = some (.lst us)) (hu : DpAll K H us ds) (hz : ds.length ≤ 100) (ha : EvV ta σ H (.ref l)) : EvD K (tOp rCat ta (tLst (tCons (tC (.int 0)) tNil))) σ H (.list (ds ++ [.int 0])) := fun H1 s Q q =>
  ha H1 s _ fun H2 s2 => ⟨show 1 ≤ sizeLine by decide, fun b hb => ⟨l, b, us, [.int 0], rfl, rfl, by rw [upd_ne (ne_of_none ((s.trans s2) _ _ hl) hb)]; exact (s.trans s2) _ _ hl, upd_same, by rw [hu.len]; exact Nat.le_trans (Nat.add_le_add_right hz 1) (by decide),
    fun p hp => q (.ref p) _ ((s2.newR hb).newR hp) (.lst (SqL.of upd_same) ((DpAll.same (((s.trans s2).newR hb).newR hp) hu).app (.cons (.int 0) .nil)))⟩⟩
theorem dps_noLs_set {j : Nat} {e : D} : ∀ {ds : List D} (j : Nat), noLs ds = true → noL e = true → noLs (ds.set j e) = true
  | [], _, _, _ => by simp [noLs]
  | d :: ds, 0, h, n => by
    unfold noLs at h
    rw [Bool.and_eq_true] at h
    show noLs (e :: ds) = true
    unfold noLs
    rw [n, h.2]
    rfl
  | d :: ds, j + 1, h, n => by
    unfold noLs at h
    rw [Bool.and_eq_true] at h
    show noLs (d :: ds.set j e) = true
    unfold noLs
    rw [h.1, dps_noLs_set (j := j) j h.2 n]
    rfl
end
/-- the list that is being spoilt, as it stands behind the first j ways -/
structure Sp3 (K : PySem.W.Frag) (a : Addr) (n : Nat) (x : V) (v : List Int) (k : Int) (H : Hp) (j : Nat) (σ' : L2.St) (H' : Hp) : Prop where
  ex : ∃ u ds, σ' = [some (.ref a), some (.int (n : Int)), some x, some u, some (.int k), none] ∧ Dp K (Hm a H') u (.list ds) ∧ noLs ds = true ∧ ds.length = 3 ∧ Nx K a H H' ∧
    ((j : Int) ≤ k → ds = v.map .int ∧ ∃ l us, u = .ref l ∧ H l = none ∧ H' l = some (.lst us) ∧ DpAll K (Hm a H') us ds)
theorem noH_three {ds : List D} (n : noLs ds = true) (l : ds.length = 3) : noH (.list ds) = true := noH_list (by
  obtain ⟨x, y, z, rfl⟩ := three_of l
  unfold handish
  split
  · rename_i e
    cases e
  · rfl) (noHs_of_noLs n)
section
variable {P : Program} {w : World} {K : PySem.W.Frag} {mg : Str → Option Value} {base : Heap} {cl : Kd → Addr} {pe : Addr} {a : Addr} {n : Nat} {x : V} {v : List Int} {k : Int} {H : Hp} {j : Nat} {σ' : L2.St} {H' : Hp}
theorem Sp3.go (h : Sp3 K a n x v k H j σ' H') {H2 : Hp} (y : Nx K a H' H2) : Sp3 K a n x v k H j σ' H2 := by
  obtain ⟨u, ds, e, dp, nl, l3, x1, more⟩ := h.ex
  refine ⟨u, ds, e, y.dp dp, nl, l3, x1.trans y, fun hj => ?_⟩
  obtain ⟨e1, l, us, e2, fr, at_l, al⟩ := more hj
  have ne : l ≠ a := fun z => by
    obtain ⟨c, cs, i, r, t, hd⟩ := x1.hand
    rw [z, hd.at_a] at at_l
    cases at_l
    have := al.len
    rw [l3] at this
    cases this
  exact ⟨e1, l, us, e2, fr, y.at ne at_l, DpAll.same y.same al⟩
theorem Sp3.skip (h : Sp3 K a n x v k H j σ' H') {H2 : Hp} (y : Nx K a H' H2) : Sp3 K a n x v k H (j + 1) σ' H2 := by
  obtain ⟨u, ds, e, dp, nl, l3, x1, more⟩ := (h.go y).ex
  exact ⟨u, ds, e, dp, nl, l3, x1, fun hj => more (by omega)⟩
theorem Sp3.hand (h : Sp3 K a n x v k H j σ' H') : HandAt K H' a := by
  obtain ⟨u, ds, e, dp, nl, l3, x1, more⟩ := h.ex
  exact x1.hand
/-- as it was at the start -/
structure Ex3 (K : PySem.W.Frag) (a : Addr) (v : List Int) (H : Hp) (l : Addr) (us : List V) (H' : Hp) : Prop where
  fr : H l = none
  at_l : H' l = some (.lst us)
  al : DpAll K (Hm a H') us (v.map .int)
  nx : Nx K a H H'
  ne : l ≠ a
theorem Ex3.go {l : Addr} {us : List V} (h : Ex3 K a v H l us H') {H2 : Hp} (y : Nx K a H' H2) : Ex3 K a v H l us H2 := ⟨h.fr, y.at h.ne h.at_l, DpAll.same y.same h.al, h.nx.trans y, h.ne⟩
theorem Sp3.open (hA : HandAt K H a) (h : Sp3 K a n x v k H j σ' H') (hj : (j : Int) ≤ k) : ∃ l us, σ' = [some (.ref a), some (.int (n : Int)), some x, some (.ref l), some (.int k), none] ∧ Ex3 K a v H l us H' := by
  obtain ⟨u, ds, e, dp, nl, l3, x1, more⟩ := h.ex
  obtain ⟨e1, l, us, rfl, fr, at_l, al⟩ := more hj
  subst e1
  refine ⟨l, us, e, fr, at_l, al, x1, fun z => ?_⟩
  obtain ⟨o, ho⟩ := hA.at
  rw [z, ho] at fr
  cases fr
/-- the list changed at one place -/
theorem Sp3.change {l : Addr} {us : List V} {ds : List D} {u : V} {e : D} {i : Nat} (hA : HandAt K H a) (x1 : Nx K a H H') (hj : k < (j : Int)) (fr : H l = none) (at_l : H' l = some (.lst us)) (al : DpAll K (Hm a H') us ds) (nl : noLs ds = true) (l3 : ds.length = 3) (hu : Dp K (Hm a H') u e) (ne : noL e = true) :
    Sp3 K a n x v k H j [some (.ref a), some (.int (n : Int)), some x, some (.ref l), some (.int k), none] (upd H' l (.lst (us.set i u))) := by
  have y := Nx.mut hA x1 fr (o := .lst (us.set i u))
  have al2 : DpAll K (upd H' l (.lst (us.set i u))) (us.set i u) (ds.set i e) := DpAll.set (dp_off at_l ne (Dp.same hm_same hu)) i (dps_off at_l nl (DpAll.same hm_same al))
  have nl2 := dps_noLs_set (j := i) i nl ne
  have l32 : (ds.set i e).length = 3 := by rw [List.length_set]; exact l3
  exact ⟨.ref l, ds.set i e, rfl, y.hand.hide (noH_three nl2 l32) (.lst (SqL.of upd_same) al2), nl2, l32, y, fun z => by omega⟩
theorem d_set {te to ti : TE} {σ : L2.St} {H1 : Hp} {D' : Ends} (h : te σ H1 fun u H1 => to σ H1 fun o H2 => ti σ H2 fun i H3 => rSetL o i u H3 fun H4 => D'.nx σ H4) : tAsg te (gSub to ti rSetL) D' σ H1 := h
theorem d_lst4 {ta tb tc td : TE} {σ : L2.St} {H1 : Hp} {Q : VK} (h : ta σ H1 fun x1 H2 => tb σ H2 fun x2 H3 => tc σ H3 fun x3 H4 => td σ H4 fun x4 H5 => [x1, x2, x3, x4].length ≤ sizeLine ∧ ∀ p, H5 p = none → Q (.ref p) (upd H5 p (.lst [x1, x2, x3, x4]))) : tLst (tCons ta (tCons tb (tCons tc (tCons td tNil)))) σ H1 Q := h
theorem d_setQ {te to ti : TE} {σ : L2.St} {H1 : Hp} {D' : Ends} {tz : TS} (h : te σ H1 fun u H1 => to σ H1 fun o H2 => ti σ H2 fun i H3 => rSetL o i u H3 fun H4 => tz D' σ H4) : tSeq (tAsg te (gSub to ti rSetL)) tz D' σ H1 := h
theorem d_put {to ti : TE} {σ : L2.St} {H1 : Hp} {l : Addr} {us : List V} {u : V} {i : Nat} {R : Hp → Prop} (at_l : H1 l = some (.lst us)) (ho : EvV to σ H1 (.ref l)) (hi : EvV ti σ H1 (.int (i : Int))) (hj : i < us.length) (q : ∀ H2, Same H1 H2 → R (upd H2 l (.lst (us.set i u)))) :
    to σ H1 fun o H2 => ti σ H2 fun i H3 => rSetL o i u H3 R := ho H1 (Same.refl H1) _ fun H2 s2 => hi H2 s2 _ fun H3 s3 => ⟨l, us, (i : Int), i, rfl, rfl, (s2.trans s3) _ _ at_l, ixN_of hj, q H3 (s2.trans s3)⟩
def badL : List D := [.bool true, .none, .str "1", .int 10001, .int (-10001), .tuple [.int 1]]
theorem badL_noL : ∀ c ∈ badL, noL c = true := mem_noLs (by simp [badL, noLs, noL])
theorem ok_spoilt (M : Mo K mg cl pe) : Kept P w K mg base 4 "_law_spoilt" (spSpoilt K) [] := by
  refine kept_all (ps := pSpoilt) M.aSpoilt (fun f fd F => F.ok scSpoilt (by rintro vs H Q E ⟨a, n, x, v, rfl, _⟩; rfl) fun cdv A outer s H vs Q E hr h => ?_) fun _ _ _ _ _ _ us hl => match us, hl with | [_, _, _], _ => rfl
  obtain ⟨a, n, x, v, rfl, hn, hA, hx, l3, q⟩ := h
  refine ⟨_, pss_cons (ps_set (i := 3) scSpoilt.nd rfl (Or.inl rfl) (e_list (M := M) (ha := pv 2)))
    (pss_cons (ps_set (i := 4) scSpoilt.nd rfl (Or.inl rfl) (pe_k (E := fun _ => E0) (ok_take M) hr (by decide) pass0N (pa_cons (pv 0) (pa_cons pe_int pa_nil))))
    (Evl.pss_cut (ps_if (pt_cmpR op_eq (pv 4) pe_int (nomark _)) (pss_one (ps_asg (pe_op op_add pe_int (pe_k (E := fun _ => E0) (ok_take M) hr (by decide) pass0N (pa_cons (pv 0) (pa_cons pe_int pa_nil)))) (pg_sub (pv 3) (pe_op op_fdiv (pv 1) pe_int) set_list))) pss_nil)
    (Evl.pss_cut (ps_if (pt_cmpR op_eq (pv 4) pe_int (nomark _)) (pss_one (ps_setLc (i := 3) (own := [("_law_step", 5)]) (g := gName 5) (tt := tYes) (te := tOp (rI CMul fun i j => .int (i * j)) (tC (.int 2)) (tVar 5)) rfl scSpoilt.nd rfl rfl rfl (pi_seq (pv 3))
        (blkOk_by (N := nSpoilt) (sc := defScope sSpoilt) (by decide +kernel)) (fun _ _ _ _ _ => pg_name (i := 5) scSpoilt.nd rfl (.inl rfl)) (fun _ _ _ _ _ => pts_nil) (fun _ _ _ _ _ => pe_op op_mul pe_int (pv 5)))) pss_nil)
    (Evl.pss_cut (ps_if (pt_cmpR op_eq (pv 4) pe_int (nomark _)) (pss_one (ps_set (i := 3) scSpoilt.nd rfl (Or.inl rfl) (pe_lst (pa_cons pe_int (pa_cons pe_int (pa_cons pe_int pa_nil)))))) pss_nil)
    (Evl.pss_cut (ps_if (pt_cmpR op_eq (pv 4) pe_int (nomark _)) (pss_one (ps_asg (pe_ix ix_seq (pe_lst (pa_cons pe_bl (pa_cons pe_non (pa_cons pe_str (pa_cons pe_int (pa_cons (pe_un un_neg pe_int) (pa_cons (pe_tup (pa_cons pe_int pa_nil)) pa_nil))))))) (pe_k (E := fun _ => E0) (ok_take M) hr (by decide) pass0N (pa_cons (pv 0) (pa_cons pe_int pa_nil))) (fun _ _ => rfl))
        (pg_sub (pv 3) (pe_k (E := fun _ => E0) (ok_take M) hr (by decide) pass0N (pa_cons (pv 0) (pa_cons pe_int pa_nil))) set_list))) pss_nil)
    (Evl.pss_cut (ps_if (pt_cmpR op_eq (pv 4) pe_int (nomark _)) (pss_one (ps_ret (pe_ix ix_seq (pe_lst (pa_cons (pe_slice sl_list (pv 3) po_none (po_some pe_int)) (pa_cons (pe_op op_cat (pv 3) (pe_lst (pa_cons pe_int pa_nil))) (pa_cons (pe_k (E := fun _ => E0) (ok_rid M) hr (by decide) pass0N (pa_cons (pv 0) pa_nil)) (pa_cons (pe_tup pa_nil) pa_nil)))))
        (pe_k (E := fun _ => E0) (ok_take M) hr (by decide) pass0N (pa_cons (pv 0) (pa_cons pe_int pa_nil))) (fun _ _ => rfl)))) pss_nil)
    (Evl.pss_cut (ps_if (pt_cmpR op_eq (pv 4) pe_int (nomark _)) (pss_cons (ps_asg pe_int (pg_sub (pv 3) (pe_op op_fdiv (pv 1) pe_int) set_list))
        (pss_one (ps_asg (pe_ix ix_seq (pe_lst (pa_cons pe_int (pa_cons pe_int (pa_cons pe_bl pa_nil)))) (pe_k (E := fun _ => E0) (ok_take M) hr (by decide) pass0N (pa_cons (pv 0) (pa_cons pe_int pa_nil))) (fun _ _ => rfl))
          (pg_sub (pv 3) (pe_ix ix_seq (pe_k (E := fun _ => E0) (ok_laxes M) hr (by decide) pass0N (pa_cons (pv 1) pa_nil)) pe_int (fun _ _ => rfl)) set_list)))) pss_nil)
    (Evl.pss_cut (ps_if (pt_cmpR op_eq (pv 4) pe_int (nomark _)) (pss_cons (ps_set (i := 3) scSpoilt.nd rfl (Or.inl rfl) (pe_lst (pa_cons pe_int (pa_cons pe_int (pa_cons pe_int pa_nil)))))
        (pss_one (ps_asg pe_int (pg_sub (pv 3) (pe_op op_fdiv (pv 1) pe_int) set_list)))) pss_nil)
    (pss_one (ps_ret (pe_k (E := fun _ => E0) (ok_shaped M) hr (by decide) pass0N (pa_cons (pv 0) (pa_cons (pv 3) pa_nil))))))))))))), ?_⟩
  refine d_asg (d_list (d := tupI v) (ed_var (Dp.same hm_same hx)) rfl fun l us H1 s1 hl hus => ?_)
  have fl : H l = none := s1.free hl
  have x1 : Nx K a H (upd H1 l (.lst us)) := .of hA (s1.newR hl)
  have nlv : noLs (v.map PyData.int) = true := noL_ints v
  have l3v : (v.map PyData.int).length = 3 := by rw [List.length_map]; exact l3
  have al : DpAll K (Hm a (upd H1 l (.lst us))) us (v.map .int) := by
    obtain ⟨c, cs, i, r, t, hd⟩ := x1.hand
    exact dps_hide hd (noHs_of_noLs nlv) (DpAll.same (Same.new hl) hus)
  refine d_asg (dr_take (n := 9) x1.hand ev_var ev_c ⟨by decide, by decide⟩ fun k H2 k0 k9 x2 => ?_)
  have nla : l ≠ a := fun z => by
    obtain ⟨o, ho⟩ := hA.at
    rw [z, ho] at fl
    cases fl
  have S0 : Sp3 K a n x v k H 0 [some (.ref a), some (.int (n : Int)), some x, some (.ref l), some (.int k), none] H2 := by
    have at2 := x2.at nla (show (upd H1 l (.lst us)) l = _ from upd_same)
    have al2 := DpAll.same x2.same al
    refine ⟨.ref l, v.map .int, rfl, x2.hand.hide (noH_three nlv l3v) (.lst (SqL.of at2) (DpAll.same hm_same al2)), nlv, l3v, x1.trans x2, fun _ => ⟨rfl, l, us, rfl, fl, at2, al2⟩⟩
  have n2 : n / 2 < 3 := by omega
  have half : ∀ {σ : L2.St} {H0 : Hp}, σ[1]? = some (some (.int (n : Int))) → EvV (tOp (rI CDiv fun i j => .int (i / j)) (tVar 1) (tC (.int 2))) σ H0 (.int ((n / 2 : Nat) : Int)) := fun hσ => ev_is (ev_opI (C := CDiv) (g := fun i j => .int (i / j)) (ev_var hσ) ev_c ⟨by decide, by decide⟩) rfl
  have test : ∀ {j : Int} {σ : L2.St} {H0 : Hp}, σ[4]? = some (some (.int k)) → EvT (tTest (tOp rEq (tVar 4) (tC (.int j)))) σ H0 (decide (k = j)) := fun hσ => et_test (ev_eqI (ev_var hσ) ev_c)
  have l3u : ∀ {us : List V} {H0 : Hp}, DpAll K H0 us (v.map .int) → us.length = 3 := fun h => by rw [h.len]; exact l3v
  have change : ∀ {l : Addr} {us : List V} {H' : Hp} {j : Nat} {u : V} {e : D} {i : Nat}, Ex3 K a v H l us H' → k < (j : Int) → Dp K (Hm a H') u e → noL e = true → Sp3 K a n x v k H j [some (.ref a), some (.int (n : Int)), some x, some (.ref l), some (.int k), none] (upd H' l (.lst (us.set i u))) :=
    fun E hj hu ne => Sp3.change hA E.nx hj E.fr E.at_l E.al nlv l3v hu ne
  refine ⟨Sp3 K a n x v k H 1, ?_, fun σ1 H1 S1 => ⟨Sp3 K a n x v k H 2, ?_, fun σ2 H2 S2 => ⟨Sp3 K a n x v k H 3, ?_, fun σ3 H3 S3 => ⟨Sp3 K a n x v k H 4, ?_, fun σ4 H4 S4 => ⟨Sp3 K a n x v k H 5, ?_, fun σ5 H5 S5 => ⟨Sp3 K a n x v k H 6, ?_, fun σ6 H6 S6 => ⟨Sp3 K a n x v k H 7, ?_, fun σ7 H7 S7 => ?_⟩⟩⟩⟩⟩⟩⟩
  · refine hs_if S0.hand (test rfl) (fun hb H3 x3 => ?_) fun hb H3 x3 => S0.skip x3
    have ek : k = 0 := of_decide_eq_true hb
    obtain ⟨l, us, e, E⟩ := (S0.go x3).open hA (by omega)
    cases e
    refine d_set (d_op (d_c (dr_take (n := 3) E.nx.hand ev_var ev_c ⟨by decide, by decide⟩ fun r H4 r0 r3 x4 => ⟨1, r, rfl, rfl, ?_⟩)))
    have E4 := E.go x4
    refine d_put (i := n / 2) E4.at_l ev_var (half rfl) (by rw [l3u E4.al]; exact n2) fun H5 s5 => ?_
    exact change (e := .int (1 + r)) (E4.go (.of E4.nx.hand s5)) (by omega) (.int _) rfl
  · obtain ⟨u, ds, rfl, dp, nl, l3', y, more⟩ := S1.ex
    refine hs_if S1.hand (test rfl) (fun hb H3 x3 => ?_) fun hb H3 x3 => S1.skip x3
    have ek : k = 1 := of_decide_eq_true hb
    obtain ⟨l, us, e, E⟩ := (S1.go x3).open hA (by omega)
    cases e
    have dl : Dp K (Hm a H3) (.ref l) (.list (v.map .int)) := E.nx.hand.hide (noH_three nlv l3v) (.lst (SqL.of E.at_l) (DpAll.same hm_same E.al))
    have ed : EvD K (tLc (iSeq K (tVar 3)) (gName 5) tYes (tOp (rI CMul fun i j => .int (i * j)) (tC (.int 2)) (tVar 5)) [5]) [some (.ref a), some (.int (n : Int)), some x, some (.ref l), some (.int k), none] (Hm a H3) (.list (v.map fun i => .int (2 * i))) := by
      refine ed_is (ed_lc (xs := v.map .int) (fun _ => true) (fun c => match c with | .int i => .int (2 * i) | _ => .none) (ed_var dl) rfl (by omega) (fun c hc _ => ?_) (fun i y c H4 s4 hc hy => ?_)) ?_
      · obtain ⟨i, rfl⟩ := mem_ints hc
        rfl
      · obtain ⟨i, rfl⟩ := mem_ints (List.mem_of_getElem? hc)
        have := hy.scalI
        subst this
        exact turns_name rfl et_yes fun _ => ed_I (ev_opI (C := CMul) (g := fun i j => .int (i * j)) ev_c ev_var (Or.inl ⟨by decide, by decide⟩))
      · rw [filter_yes, List.map_map]
        rfl
    have nl2 : noLs (v.map fun i => PyData.int (2 * i)) = true := noLs_mem fun d hd => by
      obtain ⟨i, _, rfl⟩ := List.mem_map.mp hd
      rfl
    have l32 : (v.map fun i => PyData.int (2 * i)).length = 3 := by rw [List.length_map]; exact l3
    refine d_asg1 (kn E.nx.hand ed (noH_three nl2 l32) fun u H4 x4 hu => ?_)
    exact ⟨u, _, rfl, hu, nl2, l32, E.nx.trans x4, fun z => by omega⟩
  · obtain ⟨u, ds, rfl, dp, nl, l3', y, more⟩ := S2.ex
    refine hs_if S2.hand (test rfl) (fun hb H3 x3 => ?_) fun hb H3 x3 => S2.skip x3
    have ek : k = 2 := of_decide_eq_true hb
    refine d_asg1 (kn (d := .list [.int 0, .int 0, .int 0]) x3.hand (ed_lst (ea_cons ed_int (ea_cons ed_int (ea_cons ed_int ea_nil))) (by decide)) (noH_three rfl rfl) fun u H4 x4 hu => ?_)
    exact ⟨u, _, rfl, hu, rfl, rfl, (y.trans x3).trans x4, fun z => by omega⟩
  · obtain ⟨u, ds, rfl, dp, nl, l3', y, more⟩ := S3.ex
    refine hs_if S3.hand (test rfl) (fun hb H3 x3 => ?_) fun hb H3 x3 => S3.skip x3
    have ek : k = 3 := of_decide_eq_true hb
    obtain ⟨l, us, e, E⟩ := (S3.go x3).open hA (by omega)
    cases e
    refine d_set (dr_ix (ds := badL) (n := 6) E.nx.hand (ed_lst (ea_cons ed_bl (ea_cons ed_non (ea_cons ed_str (ea_cons ed_int (ea_cons (ed_I (ev_neg ev_c)) (ea_cons (ed_tup (ea_cons ed_int ea_nil) (by decide)) ea_nil)))))) (by decide)) (noH_list rfl (mem_noHs fun c hc => noH_of_noL (badL_noL c hc))) ev_var ev_c rfl ⟨by decide, by decide⟩ fun c u H4 hc x4 hu => ?_)
    refine d_var (v := .ref l) rfl (dr_take (n := 3) x4.hand ev_var ev_c ⟨by decide, by decide⟩ fun r H5 r0 r3 x5 => ?_)
    have E5 := E.go (x4.trans x5)
    refine ⟨l, us, r, r.toNat, rfl, rfl, E5.at_l, ?_, change (e := c) E5 (by omega) (x5.dp hu) (badL_noL c hc)⟩
    have := l3u E5.al
    have er : r = ((r.toNat : Nat) : Int) := by omega
    rw [er]
    exact ixN_of (by omega)
  · obtain ⟨u, ds, rfl, dp, nl, l3', y, more⟩ := S4.ex
    refine hs_if S4.hand (test rfl) (fun hb H3 x3 => ?_) fun hb H3 x3 => S4.skip x3
    have ek : k = 4 := of_decide_eq_true hb
    obtain ⟨l, us, e, E⟩ := (S4.go x3).open hA (by omega)
    cases e
    obtain ⟨i1, i2, i3, rfl⟩ : ∃ i1 i2 i3, v = [i1, i2, i3] := match v, l3 with
      | [i1, i2, i3], _ => ⟨i1, i2, i3, rfl⟩
    have dl : Dp K (Hm a H3) (.ref l) (.list [.int i1, .int i2, .int i3]) := E.nx.hand.hide (noH_three nlv l3v) (.lst (SqL.of E.at_l) (DpAll.same hm_same E.al))
    refine d_ret (d_op (d_lst4 ?_))
    refine kn (te := tSl (rSlL K) (tVar 3) tNoPart (tPart (tC (.int 2)))) E.nx.hand (ed_cut2 (ed_var dl)) (noH_list rfl (by simp [noHs, noH])) fun uA H4 x4 hA4 => ?_
    have E4 := E.go x4
    have at4 : Hm a H4 l = some (.lst us) := by rw [hm_ne E.ne]; exact E4.at_l
    refine kn (te := tOp rCat (tVar 3) (tLst (tCons (tC (.int 0)) tNil))) x4.hand (ed_cat0 at4 E4.al (show 3 ≤ 100 by decide) ev_var) (noH_list rfl (by simp [noHs, noH])) fun uB H5 x5 hB5 => ?_
    refine d_call (d_cons (d_var (v := .ref a) rfl ⟨a, rfl, x5.hand, fun c uR H6 hc x6 hR => ?_⟩))
    have z : tOp (rIx K) (tLst (tCons (tC uA) (tCons (tC uB) (tCons (tC uR) (tCons (tTup tNil) tNil))))) (tCallSD (spTake K) [] (fun _ => E0) (tCons (tVar 0) (tCons (tC (.int 4)) tNil))) [some (.ref a), some (.int (n : Int)), some x, some (.ref l), some (.int k), none] H6 Q := by
      refine dr_ix (n := 4) x6.hand (ed_lst (ea_cons (ed_of ev_c (x6.dp (x5.dp hA4))) (ea_cons (ed_of ev_c (x6.dp hB5)) (ea_cons (ed_of ev_c hR) (ea_cons (ed_tup ea_nil (by decide)) ea_nil)))) (by simp)) ?_ ev_var ev_c rfl ⟨by decide, by decide⟩ fun c2 u2 H7 _ x7 h7 => q c2 u2 H7 ((((E.nx.trans x4).trans x5).trans x6).trans x7) (Dp.same hm_same h7)
      have := noH_of_noL (ridL_noL c hc)
      refine noH_list rfl ?_
      simp [noHs, noH, this, handish]
    exact z
  · obtain ⟨u, ds, rfl, dp, nl, l3', y, more⟩ := S5.ex
    refine hs_if S5.hand (test rfl) (fun hb H3 x3 => ?_) fun hb H3 x3 => S5.skip x3
    have ek : k = 5 := of_decide_eq_true hb
    obtain ⟨l, us, e, E⟩ := (S5.go x3).open hA (by omega)
    cases e
    obtain ⟨a1, a2, _⟩ := axN_lt hn
    refine d_setQ (d_c (d_put (i := n / 2) (u := .int 2) E.at_l ev_var (half rfl) (by rw [l3u E.al]; exact n2) fun H4 s4 => ?_))
    have E4 := E.go (.of E.nx.hand s4)
    have y4 := Nx.mut hA E4.nx E.fr (o := .lst (us.set (n / 2) (.int 2)))
    have al4 : DpAll K (Hm a (upd H4 l (.lst (us.set (n / 2) (.int 2))))) (us.set (n / 2) (.int 2)) ((v.map .int).set (n / 2) (.int 2)) := by
      obtain ⟨c, cs, i, r, t, hd⟩ := y4.hand
      exact dps_hide hd (noHs_of_noLs (dps_noLs_set (j := 0) _ nlv rfl)) (DpAll.set (.int 2) _ (dps_off E4.at_l nlv (DpAll.same hm_same E4.al)))
    refine d_set (dr_ix (ds := [.int 0, .int 10001, .bool false]) (n := 3) y4.hand (ed_lst (ea_cons ed_int (ea_cons ed_int (ea_cons ed_bl ea_nil))) (by decide)) (noH_three rfl rfl) ev_var ev_c rfl ⟨by decide, by decide⟩ fun c u H5 hc x5 hu => ?_)
    have at5 : H5 l = some (.lst (us.set (n / 2) (.int 2))) := x5.at E.ne upd_same
    have al5 := DpAll.same x5.same al4
    have nc : noL c = true := mem_noLs (show noLs [.int 0, .int 10001, .bool false] = true from rfl) c hc
    refine d_put (i := (axN n).1) at5 ev_var (ev_I (ed_ix (j := 0) (ed_k0 (F := fLAxes) (ea_cons (ed_var (.int (n : Int))) ea_nil) (laxes_ok hn)) rfl ev_c rfl)) (by rw [List.length_set, l3u E.al]; exact a1) fun H6 s6 => ?_
    have x6 := Nx.of x5.hand s6
    exact Sp3.change hA (y4.trans (x5.trans x6)) (by omega) E.fr (x6.at E.ne at5) (DpAll.same x6.same al5) (dps_noLs_set (j := 0) _ nlv rfl) (by rw [List.length_set]; exact l3v) (x6.dp hu) nc
  · obtain ⟨u, ds, rfl, dp, nl, l3', y, more⟩ := S6.ex
    refine hs_if S6.hand (test rfl) (fun hb H3 x3 => ?_) fun hb H3 x3 => S6.skip x3
    have ek : k = 6 := of_decide_eq_true hb
    refine d_asg (d_lst (K := K) (ds := [.int 0, .int 0, .int 0]) (ea_cons ed_int (ea_cons ed_int (ea_cons ed_int ea_nil))) (by decide) fun l us H4 s4 hl hus => ?_)
    have y4 := (y.trans x3).trans (Nx.of x3.hand s4)
    have fr : H l = none := y4.free hl
    have y5 := y4.trans (Nx.of y4.hand (Same.new (o := .lst us) hl))
    have al5 : DpAll K (Hm a (upd H4 l (.lst us))) us [.int 0, .int 0, .int 0] := by
      obtain ⟨c, cs, i, r, t, hd⟩ := y5.hand
      exact dps_hide hd rfl (DpAll.same (Same.new hl) hus)
    have lu : us.length = 3 := hus.len
    refine d_set (d_c (d_put (i := n / 2) (u := .int 1) (show (upd H4 l (.lst us)) l = _ from upd_same) ev_var (half rfl) (by rw [lu]; exact n2) fun H6 s6 => ?_))
    have x6 := Nx.of y5.hand s6
    exact Sp3.change (e := .int 1) hA (y5.trans x6) (by omega) fr (s6 _ _ upd_same) (DpAll.same x6.same al5) rfl rfl (.int 1) rfl
  · obtain ⟨u, ds, rfl, dp, nl, l3', y, more⟩ := S7.ex
    refine d_ret (d_call (d_cons (d_var (v := .ref a) rfl (d_cons (d_var (v := u) rfl ⟨a, u, .list ds, ds, rfl, y.hand, dp, rfl, noH_three nl l3', fun d w H8 _ x8 hw => q d w H8 (y.trans x8) (Dp.same hm_same hw)⟩)))))
end
end G4
/-! L10: _law_slopes. -/
namespace G4
open PySem PySem.Spec PyProof.Rows L2
theorem handish_len {ds : List D} (h : ds.length ≠ 4) : handish ds = false := by
  unfold handish
  split
  · exact absurd rfl h
  · rfl
theorem its_not {d : D} {xs : List D} (h : its? d = some xs) : (∃ ys, d = .list ys ∧ ys = xs) ∨ d = .tuple xs := by
  cases d with
  | list ys => cases h; exact Or.inl ⟨_, rfl, rfl⟩
  | tuple ys => cases h; exact Or.inr rfl
  | _ => cases h
/-! ### for, a hand about -/
section
variable {K : PySem.W.Frag} {a : Addr} {σ : L2.St} {H : Hp} {tl : TE} {g : TG} {d : D}
theorem sq_hm {b : Bool} {l : Addr} {ys : List V} (h : Sq b K (Hm a H) l ys) : Sq b K H l ys := Sq.same hm_same h
theorem h_for {tb : TS} {D' : Ends} {xs : List D} (hA : HandAt K H a) (h : EvD K tl σ (Hm a H) d) (hx : its? d = some xs) (nh : noH d = true) (Pv : Nat → L2.St → Prop) (h0 : Pv 0 σ)
    (hs : ∀ (i : Nat) (x : V) (c : D) (σ' : L2.St) (H' : Hp), Nx K a H H' → xs[i]? = some c → Dp K (Hm a H') x c → Pv i σ' → g x σ' H' fun σ2 H2 => tb { D' with nx := fun s h => Nx K a H' h ∧ Pv (i + 1) s, ct := fun s h => Nx K a H' h ∧ Pv (i + 1) s, bk := D'.nx } σ2 H2)
    (hd : ∀ σ' H', Nx K a H H' → Pv xs.length σ' → D'.nx σ' H') : tFor (iSeq K tl) g tb D' σ H := by
  refine kn (te := tl) (Q := fun x H1 => ∃ b l, x = .ref l ∧ (∃ ys, Sq b K H1 l ys) ∧ ∃ W : Nat → Nat → L2.St → Hp → Prop, (∃ m, W 0 m σ H1) ∧ ∀ i m σ H, W i m σ H →
    ((Itx b K l).stop i H ∧ D'.nx σ H) ∨ ((Itx b K l).go i H ∧ ∃ N : L2.St → Hp → Prop, (∀ σ' H', N σ' H' → ∃ m', m' < m ∧ W (i + 1) m' σ' H') ∧ ∀ x H', (Itx b K l).yld i H x H' → g x σ H' fun σ2 H2 => tb { D' with nx := N, ct := N, bk := D'.nx } σ2 H2)) hA h nh fun u H1 x1 hu => ?_
  obtain ⟨b, l, ys, rfl, hs1, hall⟩ := hu.seq hx
  have len := hall.len
  let W : Nat → Nat → L2.St → Hp → Prop := fun i m s h => m = ys.length - i ∧ i ≤ ys.length ∧ Nx K a H1 h ∧ Pv i s
  refine ⟨b, l, rfl, ⟨ys, sq_hm hs1⟩, W, ⟨ys.length, by simp, Nat.zero_le _, .of x1.hand (Same.refl H1), h0⟩, ?_⟩
  rintro i m s h ⟨rfl, hi, nx, pv⟩
  have hsq : Sq b K h l ys := sq_hm (Sq.same nx.same hs1)
  by_cases lt : i < ys.length
  · refine Or.inr ⟨?_, fun s' h' => Nx K a h h' ∧ Pv (i + 1) s', fun s' h' z => ⟨ys.length - (i + 1), by omega, rfl, lt, nx.trans z.1, z.2⟩, fun x H' y => ?_⟩
    · cases b with
      | true => exact ⟨ys, ys[i], hsq, by simp [lt]⟩
      | false => exact ⟨ys, ys[i], hsq, by simp [lt]⟩
    · have y' : H' = h ∧ ys[i]? = some x := by
        cases b with
        | true => exact ⟨y.1, y.2 _ hsq⟩
        | false => exact ⟨y.1, y.2 _ hsq⟩
      obtain ⟨e, hx'⟩ := y'
      subst e
      obtain ⟨c, hc, dx⟩ := hall.get hx'
      exact hs i x c s _ (x1.trans nx) hc (nx.dp dx) pv
  · have e : i = ys.length := by omega
    subst e
    refine Or.inl ⟨?_, hd s h (x1.trans nx) (by rw [← len]; exact pv)⟩
    cases b with
    | true => exact ⟨ys, hsq, Nat.le_refl _⟩
    | false => exact ⟨ys, hsq, Nat.le_refl _⟩
end
/-! ### what is due -/
theorem slopeO_spec {d : D} {b : Bool} {p q : Int} (h : slopeO d b = some (p, q)) : its? d = some [.int p, .int q] ∧ (1 ≤ p ∧ p ≤ 9) ∧ (0 ≤ q ∧ q ≤ 9) ∧ Nat.gcd p.natAbs q.natAbs = 1 := by
  unfold slopeO at h
  split at h
  · rename_i p' q' e
    split at h
    · cases h
      unfold slopePQ at e
      split at e
      · rename_i x y ex
        split at e
        · rename_i c
          cases e
          exact ⟨ex, c.1, c.2.1, c.2.2⟩
        · cases e
      · cases e
    · cases h
  · cases h
def sOut (c : D) (b : Bool) : D := match slopeO c b with
  | some (p, q) => pairI p q
  | none => errD .slope c
def mOut (c : D) : D := match slopeO c true with
  | some (p, q) => if q = 0 then pairI p q else pairI q p
  | none => errD .slope c
def dOut (n : Nat) (c : D) : D := match slopeO c true with
  | some (p, q) => .tuple ((sortI (dirs n p q)).map tupI)
  | none => errD .slope c
theorem slopel_ok {c : D} {b : Bool} (h : tiny 2 c = true) : fSlopeL [c, .bool b] = .ok (sOut c b) := by
  show (if tiny 2 c = true then Out.ok (sOut c b) else .no) = _
  rw [if_pos h]
theorem mirrorl_ok {c : D} (h : tiny 2 c = true) : fMirrorL [c] = .ok (mOut c) := by
  show (if tiny 2 c = true then Out.ok (mOut c) else .no) = _
  rw [if_pos h]
theorem dirson_ok {n : Nat} {c : D} (hn : n ≤ 5) (h : tiny 2 c = true) : deedO (fDirsOn [.int (n : Int), c]) = some (dOut n c) := by
  have e : fDirsOn [.int (n : Int), c] = match slopeO c true with
    | some (p, q) => .ok (.tuple ((sortI (dirs n p q)).map tupI))
    | none => .bad .slope c := by
    show (if faceB (.int (n : Int)) then _ else Out.bad .face _) = _
    rw [if_pos (face_nat hn)]
    rfl
  rw [e]
  unfold dOut
  cases slopeO c true with
  | none => exact if_pos h
  | some pq => rfl
theorem face_over {n : Nat} : faceB (.int (6 + (n : Int))) = false := by
  show (decide ((0 : Int) ≤ 6 + n) && decide (6 + (n : Int) ≤ 5)) = false
  simp
  omega
theorem dirson_face {n : Nat} {c : D} : deedO (fDirsOn [.int (6 + (n : Int)), c]) = some (.list [.str "BadFace", .int (6 + (n : Int))]) := by
  have e : fDirsOn [.int (6 + (n : Int)), c] = .bad .face (.int (6 + (n : Int))) := by
    show (if faceB (.int (6 + (n : Int))) then _ else Out.bad .face _) = _
    rw [if_neg (by rw [face_over]; decide)]
  rw [e]
  rfl
theorem plain_pair {c : D} {p q : Int} (h : its? c = some [.int p, .int q]) : plainD c = pairI p q := by
  rw [plain_seq h]
  show PyData.tuple [plainD (.int p), plainD (.int q)] = _
  rw [plain_leaf (d := .int p) rfl, plain_leaf (d := .int q) rfl]
  rfl
theorem tiny_small {k : Nat} {i : Int} (h : i.natAbs ≤ 10000) : tiny k (.int i) = true := tiny_int (Nat.lt_of_le_of_lt h (by decide))
theorem tiny_pair {k : Nat} {p q : Int} (hp : p.natAbs ≤ 10000) (hq : q.natAbs ≤ 10000) : tiny (k + 1) (pairI p q) = true := tiny_tup (by simp) fun x hx => by
  rcases List.mem_cons.mp hx with rfl | hx
  · exact tiny_small hp
  rcases List.mem_cons.mp hx with rfl | hx
  · exact tiny_small hq
  cases hx
theorem tiny_errS {c : D} (h : tiny 2 c = true) : tiny 3 (errD .slope c) = true := tiny_list (by simp) fun x hx => by
  rcases List.mem_cons.mp hx with rfl | hx
  · exact tiny_str (by decide +kernel)
  rcases List.mem_cons.mp hx with rfl | hx
  · exact tiny_plain h
  cases hx
theorem fine_sOut {c : D} {b : Bool} (h : tiny 2 c = true) : Fine (sOut c b) := by
  unfold sOut
  cases e : slopeO c b with
  | none => exact fine_of (tiny_errS h)
  | some pq =>
    obtain ⟨p, q⟩ := pq
    obtain ⟨_, h1, h2, _⟩ := slopeO_spec e
    exact fine_of (tiny_pair (by omega) (by omega))
theorem fine_mOut {c : D} (h : tiny 2 c = true) : Fine (mOut c) := by
  unfold mOut
  cases e : slopeO c true with
  | none => exact fine_of (tiny_errS h)
  | some pq =>
    obtain ⟨p, q⟩ := pq
    obtain ⟨_, h1, h2, _⟩ := slopeO_spec e
    show Fine (if q = 0 then pairI p q else pairI q p)
    split
    · exact fine_of (tiny_pair (by omega) (by omega))
    · exact fine_of (tiny_pair (by omega) (by omega))
theorem mem_set {α : Type} {l : List α} {i : Nat} {x y : α} (h : y ∈ l.set i x) : y ∈ l ∨ y = x := by
  rcases List.mem_or_eq_of_mem_set h with z | z
  · exact Or.inl z
  · exact Or.inr z
theorem unI_mem {n : Nat} {x y i : Int} (h : i ∈ unI n x y) : i = 0 ∨ i = x ∨ i = y := by
  unfold unI at h
  rcases mem_set h with h | h
  · rcases mem_set h with h | h
    · left
      rcases List.mem_cons.mp h with z | h
      · exact z
      rcases List.mem_cons.mp h with z | h
      · exact z
      rcases List.mem_cons.mp h with z | h
      · exact z
      cases h
    · exact Or.inr (Or.inl h)
  · exact Or.inr (Or.inr h)
theorem unI_len {n : Nat} {x y : Int} : (unI n x y).length = 3 := by unfold unI; rw [List.length_set, List.length_set]; rfl
theorem tiny_unI {k n : Nat} {x y : Int} (hx : x.natAbs ≤ 10000) (hy : y.natAbs ≤ 10000) : tiny (k + 1) (tupI (unI n x y)) = true := tiny_tup (by rw [List.length_map, unI_len]; decide) fun d hd => by
  obtain ⟨i, hi, rfl⟩ := List.mem_map.mp hd
  rcases unI_mem hi with rfl | rfl | rfl
  · exact tiny_small (by decide)
  · exact tiny_small hx
  · exact tiny_small hy
theorem fine_dOut {n : Nat} {c : D} (h : tiny 2 c = true) : Fine (dOut n c) := by
  unfold dOut
  cases e : slopeO c true with
  | none => exact fine_of (tiny_errS h)
  | some pq =>
    obtain ⟨p, q⟩ := pq
    obtain ⟨_, h1, h2, _⟩ := slopeO_spec e
    refine fine_of (tiny_tup ?_ fun d hd => ?_)
    · rw [List.length_map, (sortI_perm _).length_eq]
      show 4 ≤ 12
      decide
    · obtain ⟨v, hv, rfl⟩ := List.mem_map.mp hd
      have hv2 := (sortI_perm _).mem_iff.mp hv
      unfold dirs at hv2
      rcases List.mem_cons.mp hv2 with rfl | hv2
      · exact tiny_unI (by omega) (by omega)
      rcases List.mem_cons.mp hv2 with rfl | hv2
      · exact tiny_unI (by omega) (by omega)
      rcases List.mem_cons.mp hv2 with rfl | hv2
      · exact tiny_unI (by omega) (by omega)
      rcases List.mem_cons.mp hv2 with rfl | hv2
      · exact tiny_unI (by omega) (by omega)
      cases hv2
theorem fine_badFace {i : Int} (h : i.natAbs ≤ 10000) : Fine (.list [.str "BadFace", .int i]) := fine_of (tiny_list (by simp) fun x hx => by
  rcases List.mem_cons.mp hx with rfl | hx
  · exact tiny_str (by decide +kernel)
  rcases List.mem_cons.mp hx with rfl | hx
  · exact tiny_small h
  cases hx)
section
variable {K : PySem.W.Frag} {cl : Kd → Addr} {σ : L2.St} {H : Hp} {te td : TE} {d : D}
theorem et_like (h1 : EvD K te σ H d) (h2 : EvD K td σ H d) (fine : Fine d) : EvT (tNot (tB (tCall (spF K cl fLike) [] E0 (tCons te (tCons td tNil))))) σ H false :=
  et_not (b := true) (et_B (ev_B (ed_call0 (F := fLike) (ea_cons h1 (ea_cons h2 ea_nil)) (like_ok fine))))
theorem ed_callN {n m : Nat} {F : List D → Out} {t tk : TA} {ds es : List D} {r : D} {E : XK} (h1 : EvA K t σ H ds) (h2 : EvA K tk σ H es) (l1 : ds.length = n) (l2 : es.length = m) (hF : F (ds ++ es) = .ok r) : EvD K (tCallN n m (spF K cl F) (fun vs zs => vs ++ zs) E t tk) σ H r := fun H1 s Q q =>
  h1 H1 s _ fun xs H2 s2 hxs => h2 H2 (s.trans s2) _ fun zs H3 s3 hzs => ⟨by rw [hxs.len]; exact l1, by rw [hzs.len]; exact l2, ds ++ es, (DpAll.same s3 hxs).app hzs, by rw [hF]; exact fun u H4 s4 hu => q u H4 ((s2.trans s3).trans s4) hu⟩
end
theorem kb_cslope {K : PySem.W.Frag} {f : Addr} {fd : FuncData} (F : FunD K "check_slope" "check_slope" (defArgs sCSlope) (defBody sCSlope) (defScope sCSlope) [.bl false] [] f fd) : KBn K fd pCSlope 1 ["band"] (fun us ws => us ++ ws) (fun vs zs => vs ++ zs) := by
  obtain ⟨oc, od, dV, kV, doc, pm, an, cdv, ct, osl, rfl, lk, hcd, hD, hK⟩ := F.ex
  rcases hD with ⟨e, _⟩ | ⟨_, T, o, its, m, rfl, lT, oT, rT⟩
  · cases e
  · refine ⟨fun s us ws KX l1 l2 => ?_, fun r1 r2 => r1.append r2⟩
    have li : its.length = 1 := rT.length.symm
    match us, ws, its, l1, l2, li, lT, oT with
    | [u], [w], [i], _, _, _, lT, oT =>
      have bound : ∃ k, bindArgs (PySem.W.fnOf "check_slope" "check_slope" (defArgs sCSlope) (defBody sCSlope) (defScope sCSlope) (.ref T) kV doc pm an cdv ct) ⟨[u], [("band", w)]⟩ = seqItems? (.ref T) >>= k ∧ k (some [i].toArray) = pure (pCSlope.zip [u, w]) := ⟨_, rfl, rfl⟩
      obtain ⟨k, e1, e2⟩ := bound
      refine BindsTo.of_looks fun Md => ?_
      show PySem.W.Looks Md s.heap (bindArgs _ ⟨[u], [("band", w)]⟩) _
      rw [e1]
      exact looks_items KX lT oT (.of_pure e2)
end G4
/-! L11: _law_slopes. -/
namespace G4
open PySem PySem.Spec PyProof.Rows L2 L2H
def spSlopes (K : PySem.W.Frag) : Sp := fun vs H Q _ => ∃ a, vs = [.ref a] ∧ HandAt K H a ∧ ∀ H', Nx K a H H' → Q (.bl true) H'
/-- told = _law_plain(raised.slope); return told == (1, 0) -/
def tsTold (K : PySem.W.Frag) (cl : Kd → Addr) : Addr → Value → Option Addr → TS := fun a cls d =>
  tSeq (tAsg (tCallS (spF K cl (fPlain 2)) (fun _ => E0) (tCons (tXf a cls d (cl .slope) "slope" (tVar 10)) tNil)) (gName 9)) (tRet (tOp (rEqD K) (tVar 9) (tTup (tCons (tC (.int 1)) (tCons (tC (.int 0)) tNil)))))
/-- the slopes that are tried -/
def triedL (f s : Int) (sh odd : D) : List D := [sh, .tuple [.int f, odd], .list [odd, .int s], .tuple [.int f], .tuple [.int 1, .int 2, .int 3], .tuple [.int 1, .int 0], .list [.int 1, .int 0], .tuple [.int 0, .int 1], odd]
/-- _law_take(hand, n) - c -/
theorem dr_sub {K : PySem.W.Frag} {a : Addr} {H : Hp} {σ : L2.St} {th tn : TE} {E : L2.St → XK} {n c : Int} {Q : VK} (hA : HandAt K H a) (hh : EvV th σ (Hm a H) (.ref a)) (hn : EvV tn σ (Hm a H) (.int n)) (b : 1 ≤ n ∧ n < 1000000)
    (q : ∀ f H', -c ≤ f → f < n - c → Nx K a H H' → Q (.int f) H') : tOp (rI0 fun i j => .int (i - j)) (tCallSD (spTake K) [] E (tCons th (tCons tn tNil))) (tC (.int c)) σ H Q :=
  d_op (dr_take hA hh hn b fun r H1 r0 r1 x => ⟨r, c, rfl, rfl, q (r - c) H1 (by omega) (by omega) x⟩)
theorem odd_tiny {h : Int} (hb : h.natAbs ≤ 9) : ∀ c ∈ oddL h, tiny 1 c = true := fun c hc => by
  unfold oddL at hc
  rcases List.mem_cons.mp hc with rfl | hc
  · exact tiny_bool
  rcases List.mem_cons.mp hc with rfl | hc
  · exact tiny_none
  rcases List.mem_cons.mp hc with rfl | hc
  · exact tiny_str (by decide +kernel)
  rcases List.mem_cons.mp hc with rfl | hc
  · exact tiny_int (by decide)
  rcases List.mem_cons.mp hc with rfl | hc
  · exact tiny_int (by omega)
  rcases List.mem_cons.mp hc with rfl | hc
  · exact tiny_tup (by simp) fun x hx => by
      rcases List.mem_cons.mp hx with rfl | hx
      · exact tiny_int (by decide)
      cases hx
  rcases List.mem_cons.mp hc with rfl | hc
  · exact tiny_bool
  rcases List.mem_cons.mp hc with rfl | hc
  · refine tiny_int ?_
    have : (10 : Nat) ^ 22 = 10000000000000000000000 := by decide
    have : (10 : Int) ^ 20 = 100000000000000000000 := by decide
    omega
  cases hc
theorem tried_ok {f s : Int} {sh odd : D} (hf : f.natAbs ≤ 100) (hs : s.natAbs ≤ 100) (ho : tiny 1 odd = true) (no : noL odd = true) (hsh : sh = .list [.int f, .int s] ∨ sh = .tuple [.int f, .int s]) :
    ∀ e ∈ triedL f s sh odd, tiny 2 e = true ∧ noH e = true := fun e he => by
  have tf : ∀ {k}, tiny k (.int f) = true := tiny_int (Nat.lt_of_le_of_lt hf (by decide))
  have ts : ∀ {k}, tiny k (.int s) = true := tiny_int (Nat.lt_of_le_of_lt hs (by decide))
  have nh : noH odd = true := noH_of_noL no
  have t2 : ∀ {x y : D} {k}, tiny k x = true → tiny k y = true → ∀ z ∈ [x, y], tiny k z = true := fun hx hy z hz => by
    rcases List.mem_cons.mp hz with rfl | hz
    · exact hx
    rcases List.mem_cons.mp hz with rfl | hz
    · exact hy
    cases hz
  unfold triedL at he
  rcases List.mem_cons.mp he with rfl | he
  · rcases hsh with rfl | rfl
    · exact ⟨tiny_list (by simp) (t2 tf ts), noH_list rfl (by simp [noHs, noH])⟩
    · exact ⟨tiny_tup (by simp) (t2 tf ts), noH_tup (by simp [noHs, noH])⟩
  rcases List.mem_cons.mp he with rfl | he
  · exact ⟨tiny_tup (by simp) (t2 tf ho), noH_tup (by simp [noHs, noH, nh])⟩
  rcases List.mem_cons.mp he with rfl | he
  · exact ⟨tiny_list (by simp) (t2 ho ts), noH_list (handish_len (by simp)) (by simp [noHs, noH, nh])⟩
  rcases List.mem_cons.mp he with rfl | he
  · refine ⟨tiny_tup (by simp) fun z hz => ?_, noH_tup (by simp [noHs, noH])⟩
    rcases List.mem_cons.mp hz with rfl | hz
    · exact tf
    cases hz
  rcases List.mem_cons.mp he with rfl | he
  · exact ⟨by decide +kernel, noH_tup (by simp [noHs, noH])⟩
  rcases List.mem_cons.mp he with rfl | he
  · exact ⟨by decide +kernel, noH_tup (by simp [noHs, noH])⟩
  rcases List.mem_cons.mp he with rfl | he
  · exact ⟨by decide +kernel, noH_list rfl (by simp [noHs, noH])⟩
  rcases List.mem_cons.mp he with rfl | he
  · exact ⟨by decide +kernel, noH_tup (by simp [noHs, noH])⟩
  rcases List.mem_cons.mp he with rfl | he
  · exact ⟨tiny_up ho, nh⟩
  cases he
theorem sOut_yes {c : D} {b : Bool} (h : (slopeO c b).isSome = true) : plainD c = sOut c b := by
  unfold sOut
  cases e : slopeO c b with
  | none => rw [e] at h; cases h
  | some pq =>
    obtain ⟨p, q⟩ := pq
    exact plain_pair (slopeO_spec e).1
theorem sOut_no {c : D} {b : Bool} (h : (slopeO c b).isSome = false) : PyData.list [.str "BadSlope", plainD c] = sOut c b := by
  unfold sOut
  cases e : slopeO c b with
  | none => rfl
  | some pq => rw [e] at h; cases h
theorem noH_mOut {c : D} (h : tiny 2 c = true) : noH (mOut c) = true := by
  unfold mOut
  cases slopeO c true with
  | none => exact noH_list rfl (by simp [noHs, noH_of_noL (noL_plain h)]; simp [noH])
  | some pq =>
    obtain ⟨p, q⟩ := pq
    show noH (if q = 0 then pairI p q else pairI q p) = true
    split <;> exact noH_tup (by simp [noHs, noH])
section
variable {P : Program} {w : World} {K : PySem.W.Frag} {mg : Str → Option Value} {base : Heap} {cl : Kd → Addr} {pe : Addr}
theorem ok_slopes (M : Mo K mg cl pe) : KeptG P w K mg base 9 "_law_slopes" (spSlopes K) := by
  refine keptG_all M.aSlopes scSlopes (by rintro vs H Q E ⟨a, rfl, _⟩; rfl) (fun f cdv A outer s H vs Q E hq hr h => ?_) fun _ _ _ _ _ _ us hl => match us, hl with | [_], _ => rfl
  obtain ⟨a, rfl, hA, q⟩ := h
  obtain ⟨fd, gd, deed⟩ := deedy_of (ok_dirson (P := P) (w := w) (base := base) M) (by decide)
  obtain ⟨fC, fdC, FC, gC⟩ := M.aCSlope
  have hu : A.units + 3 + 64 < cLine := by
    have h := hr.un
    have h : A.units + 3 + 16 * 8 + 200 < cLine := h
    omega
  refine ⟨_, pss_cons (ps_set (i := 1) scSlopes.nd rfl (Or.inl rfl) (pe_op op_sub (pe_k (E := fun _ => E0) (ok_take M) hr (by decide) pass0N (pa_cons (pv 0) (pa_cons pe_int pa_nil))) pe_int))
    (pss_cons (ps_set (i := 2) scSlopes.nd rfl (Or.inl rfl) (pe_op op_sub (pe_k (E := fun _ => E0) (ok_take M) hr (by decide) pass0N (pa_cons (pv 0) (pa_cons pe_int pa_nil))) pe_int))
    (pss_cons (ps_set (i := 3) scSlopes.nd rfl (Or.inl rfl) (pe_k (E := fun _ => E0) (ok_odd M) hr (by decide) pass0N (pa_cons (pv 0) (pa_cons pe_int pa_nil))))
    (pss_cons (ps_set (i := 4) scSlopes.nd rfl (Or.inl rfl) (pe_k (E := fun _ => E0) (ok_shaped M) hr (by decide) pass0N (pa_cons (pv 0) (pa_cons (pe_tup (pa_cons (pv 1) (pa_cons (pv 2) pa_nil))) pa_nil))))
    (pss_cons (ps_for (L2.passes_of rfl) rfl (pi_seq (pe_lst (pa_cons (pv 4) (pa_cons (pe_tup (pa_cons (pv 1) (pa_cons (pv 3) pa_nil))) (pa_cons (pe_lst (pa_cons (pv 3) (pa_cons (pv 2) pa_nil))) (pa_cons (pe_tup (pa_cons (pv 1) pa_nil)) (pa_cons (pe_tup (pa_cons pe_int (pa_cons pe_int (pa_cons pe_int pa_nil))))
        (pa_cons (pe_tup (pa_cons pe_int (pa_cons pe_int pa_nil))) (pa_cons (pe_lst (pa_cons pe_int (pa_cons pe_int pa_nil))) (pa_cons (pe_tup (pa_cons pe_int (pa_cons pe_int pa_nil))) (pa_cons (pv 3) pa_nil))))))))))) (pg_name (i := 5) scSlopes.nd rfl (.inl rfl))
      (pss_cons (ps_for (L2.passes_of rfl) rfl (pi_seq (pe_lst (pa_cons pe_bl (pa_cons pe_bl pa_nil)))) (pg_name (i := 6) scSlopes.nd rfl (.inl rfl))
        (pss_cons (ps_set (i := 7) scSlopes.nd rfl (Or.inl rfl) (pe_ifExp (pt_val (pe_k (E := fun _ => E0) (ok_isslope M) hr (by decide) pass0N (pa_cons (pv 5) (pa_cons (pv 6) pa_nil)))) (pe_k (E := fun _ => E0) (ok_plain M 2) hr (by decide) pass0N (pa_cons (pv 5) pa_nil)) (pe_lst (pa_cons pe_str (pa_cons (pe_k (E := fun _ => E0) (ok_plain M 2) hr (by decide) pass0N (pa_cons (pv 5) pa_nil)) pa_nil)))))
        (pss_one (ps_if (pt_not (pt_val (pe_kG (ok_like M) hq hr (by decide) passG (pa_cons (pe_k (E := fun _ => E0) (ok_slopel M) hr (by decide) pass0N (pa_cons (pv 5) (pa_cons (pv 6) pa_nil))) (pa_cons (pv 7) pa_nil))))) (pss_one (ps_ret pe_bl)) pss_nil))))
      (pss_cons (ps_set (i := 7) scSlopes.nd rfl (Or.inl rfl) (pe_lst (pa_cons pe_str (pa_cons (pe_k (E := fun _ => E0) (ok_plain M 2) hr (by decide) pass0N (pa_cons (pv 5) pa_nil)) pa_nil))))
      (Evl.pss_cut (ps_if (pt_val (pe_k (E := fun _ => E0) (ok_isslope M) hr (by decide) pass0N (pa_cons (pv 5) (pa_cons pe_bl pa_nil)))) (pss_one (ps_set (i := 7) scSlopes.nd rfl (Or.inl rfl) (pe_ifExp (pt_cmpR op_eq (pe_ix ix_seq (pv 5) pe_int (fun _ _ => rfl)) pe_int (nomark _)) (pe_tup (pa_cons pe_int (pa_cons pe_int pa_nil))) (pe_tup (pa_cons (pe_ix ix_seq (pv 5) pe_int (fun _ _ => rfl)) (pa_cons (pe_ix ix_seq (pv 5) pe_int (fun _ _ => rfl)) pa_nil)))))) pss_nil)
      (pss_cons (ps_if (pt_not (pt_val (pe_kG (ok_like M) hq hr (by decide) passG (pa_cons (pe_k (E := fun _ => E0) (ok_mirrorl M) hr (by decide) pass0N (pa_cons (pv 5) pa_nil)) (pa_cons (pv 7) pa_nil))))) (pss_one (ps_ret pe_bl)) pss_nil)
      (pss_cons (ps_set (i := 8) scSlopes.nd rfl (Or.inl rfl) (pe_k (E := fun _ => E0) (ok_take M) hr (by decide) pass0N (pa_cons (pv 0) (pa_cons pe_int pa_nil))))
      (Evl.pss_cut (ps_if (pt_val (pe_k (E := fun _ => E0) (ok_isslope M) hr (by decide) pass0N (pa_cons (pv 5) (pa_cons pe_bl pa_nil)))) (pss_one (ps_set (i := 7) scSlopes.nd rfl (Or.inl rfl) (e_tuple (M := M) (ha := e_sorted (M := M) (ha := pe_k (E := fun _ => E0) (ok_four M) hr (by decide) pass0N (pa_cons (pv 8) (pa_cons (pv 5) pa_nil))))))) pss_nil)
      (pss_cons (ps_if (pt_not (pt_val (pe_kG (ok_like M) hq hr (by decide) passG (pa_cons (pe_k (E := fun _ => E0) (ok_deed M) hr (by decide) pass0N (pa_cons (pe_glob (v := .ref fd) rfl gd rfl) (pa_cons (pv 8) (pa_cons (pv 5) pa_nil)))) (pa_cons (pv 7) pa_nil))))) (pss_one (ps_ret pe_bl)) pss_nil)
      (pss_one (ps_if (pt_not (pt_val (pe_kG (ok_like M) hq hr (by decide) passG (pa_cons (pe_k (E := fun _ => E0) (ok_deed M) hr (by decide) pass0N (pa_cons (pe_glob (v := .ref fd) rfl gd rfl) (pa_cons (pe_op op_add pe_int (pv 8)) (pa_cons (pv 5) pa_nil)))) (pa_cons (pe_lst (pa_cons pe_str (pa_cons (pe_op op_add pe_int (pv 8)) pa_nil))) pa_nil))))) (pss_one (ps_ret pe_bl)) pss_nil))))))))))
    (pss_cons (ps_if (pt_cmpR (op_neD hu) (pe_callN (ok_cslope_fn M fC fdC FC) (hr.mono (by decide)) rfl gC FC.kp (kb_cslope FC) passG (pa_cons (pe_lst (pa_cons pe_int (pa_cons pe_int pa_nil))) pa_nil) (pk_cons pe_bl pk_nil)) (pe_tup (pa_cons pe_int (pa_cons pe_int pa_nil))) (nomark _)) (pss_one (ps_ret pe_bl)) pss_nil)
    (pss_cons (ps_tryC (l := [⟨.ref (cl .slope), some 10, tsTold K cl⟩]) (tb := fun W => tAsg (tCallSD (spF K cl fCSlope) [.bl false] (WE W) (tCons (tLst (tCons (tC (.int 1)) (tCons (tC (.int 0)) tNil))) tNil)) (gName 9)) rfl rfl takes0N
        (ClsOk.named ⟨rfl, by decide, Or.inl M.eS.gC⟩ scSlopes.nd rfl rfl (fun b oe cls d pn z hf => pss_cons (ps_set (i := 9) scSlopes.nd rfl (Or.inl rfl) (pe_kH (k := 8) (E := fun _ => E0) (ok_plainH M 2) (roomH_mark hr) (by decide) (suite_hot z hf) pass0N (pa_cons (pe_xf M.eS.xf M.eS.no z.zc hf (pv 10)) pa_nil)))
          (pss_one (ps_ret (pe_cmpR (op_eqD hu) (pv 9) (pe_tup (pa_cons pe_int (pa_cons pe_int pa_nil))) (nomark _))))) ClsOk.nil)
        (fun W pn xe tk _ => pss_one (ps_set (i := 9) scSlopes.nd rfl (Or.inl rfl) (pe_k (E := WE W) (ok_cslope1 M) hr (by decide) (fun σ => L2N.passAt tk σ) (pa_cons (pe_lst (pa_cons pe_int (pa_cons pe_int pa_nil))) pa_nil)))))
    (pss_one (ps_ret pe_bl)))))))), ?_⟩
  refine d_asg (dr_sub (n := 12) hA ev_var ev_c ⟨by decide, by decide⟩ fun f1 H1 r10 r11 x1 => ?_)
  refine d_asg (dr_sub (n := 12) x1.hand ev_var ev_c ⟨by decide, by decide⟩ fun f2 H2 r20 r21 x2 => ?_)
  refine d_asg (d_call (d_cons (d_var (v := .ref a) rfl (d_cons (d_c ⟨a, 9, rfl, x2.hand, fun o ou H3 ho x3 hou => ?_⟩)))))
  have b1 : f1.natAbs ≤ 100 := by omega
  have b2 : f2.natAbs ≤ 100 := by omega
  refine d_asg (d_call (d_cons (d_var (v := .ref a) rfl (d_cons ?_))))
  refine kn (te := tTup (tCons (tVar 1) (tCons (tVar 2) tNil))) (d := .tuple [.int f1, .int f2]) x3.hand (ed_tup (ea_cons (ed_var (.int f1)) (ea_cons (ed_var (.int f2)) ea_nil)) (by simp)) (noH_tup (by simp [noHs, noH])) fun tu H4 x4 htu => ?_
  refine ⟨a, tu, _, [.int f1, .int f2], rfl, x4.hand, htu, rfl, noH_list rfl (by simp [noHs, noH]), fun sh su H5 hsh x5 hsu => ?_⟩
  have x05 := (((x1.trans x2).trans x3).trans x4).trans x5
  have hou5 := x5.dp (x4.dp hou)
  have ot := odd_tiny (h := 9) (by decide) o ho
  have on := oddL_noL o ho
  have all := tried_ok b1 b2 ot on hsh
  refine h_for (d := .list (triedL f1 f2 sh o)) (xs := triedL f1 f2 sh o) x5.hand (ed_lst (ea_cons (ed_var hsu) (ea_cons (ed_tup (ea_cons (ed_var (.int f1)) (ea_cons (ed_var hou5) ea_nil)) (by simp)) (ea_cons (ed_lst (ea_cons (ed_var hou5) (ea_cons (ed_var (.int f2)) ea_nil)) (by simp)) (ea_cons (ed_tup (ea_cons (ed_var (.int f1)) ea_nil) (by simp))
      (ea_cons (ed_tup (ea_cons ed_int (ea_cons ed_int (ea_cons ed_int ea_nil))) (by simp)) (ea_cons (ed_tup (ea_cons ed_int (ea_cons ed_int ea_nil)) (by simp)) (ea_cons (ed_lst (ea_cons ed_int (ea_cons ed_int ea_nil)) (by simp)) (ea_cons (ed_tup (ea_cons ed_int (ea_cons ed_int ea_nil)) (by simp)) (ea_cons (ed_var hou5) ea_nil))))))))) (show 9 ≤ 1000 by decide)) rfl
    (noH_list (handish_len (show (9 : Nat) ≠ 4 by decide)) (mem_noHs fun e he => (all e he).2))
    (fun i σ' => ∃ o5 o6 o7 o8, σ' = [some (.ref a), some (.int f1), some (.int f2), some ou, some su, o5, o6, o7, o8, none, none]) ⟨none, none, none, none, rfl⟩ (fun i x e σ' Hi xi hi hx pv => ?_) (fun σ' He xe pv => ?_)
  · obtain ⟨o5, o6, o7, o8, rfl⟩ := pv
    obtain ⟨te, ne⟩ := all e (List.mem_of_getElem? hi)
    have hxi : Dp K Hi x e := Dp.same hm_same hx
    refine s_for (K := K) (d := .list [.bool false, .bool true]) (ed_lst (ea_cons ed_bl (ea_cons ed_bl ea_nil)) (by simp)) rfl (fun i σ' => ∃ o6 o7, σ' = [some (.ref a), some (.int f1), some (.int f2), some ou, some su, some x, o6, o7, o8, none, none]) ⟨o6, o7, rfl⟩ (fun j y bd σ' Hj sj hj hy pv => ?_) (fun σ' Hj sj pv => ?_)
    · obtain ⟨o6, o7, rfl⟩ := pv
      obtain ⟨b, rfl⟩ : ∃ b, bd = .bool b := by
        match j, hj with
        | 0, hj => exact ⟨false, (Option.some.inj hj).symm⟩
        | 1, hj => exact ⟨true, (Option.some.inj hj).symm⟩
      have := hy.scalB
      subst this
      have hxj := Dp.same sj hxi
      refine q_asg (K := K) (d := sOut e b) (ed_if (et_B (ev_B (ed_k0 (F := fIsSlope) (ea_cons (ed_var hxj) (ea_cons (ed_var (.bl b)) ea_nil)) rfl))) (fun hb => ?_) fun hb => ?_) fun du Hk sk hdu => ?_
      · exact ed_is (ed_k0 (F := fPlain 2) (ea_cons (ed_var hxj) ea_nil) (plain_ok te)) (sOut_yes hb)
      · exact ed_is (ed_lst (ea_cons ed_str (ea_cons (ed_k0 (F := fPlain 2) (ea_cons (ed_var hxj) ea_nil) (plain_ok te)) ea_nil)) (by simp)) (sOut_no hb)
      · refine s_if (et_like (d := sOut e b) (ed_k0 (F := fSlopeL) (ea_cons (ed_var (Dp.same sk hxj)) (ea_cons (ed_var (.bl b)) ea_nil)) (slopel_ok te)) (ed_var hdu) (fine_sOut te)) (fun hb => by cases hb) fun _ Hl sl => ⟨sk.trans sl, _, _, rfl⟩
    · obtain ⟨o6, o7, rfl⟩ := pv
      have hxj := Dp.same sj hxi
      dsimp only
      refine q_asg (K := K) (d := errD .slope e) (ed_lst (ea_cons ed_str (ea_cons (ed_k0 (F := fPlain 2) (ea_cons (ed_var hxj) ea_nil) (plain_ok te)) ea_nil)) (by simp)) fun du Hk sk hdu => ?_
      have hxk := Dp.same sk hxj
      have ski := sj.trans sk
      refine ⟨fun σ2 H2 => Same Hi H2 ∧ ∃ dv, σ2 = [some (.ref a), some (.int f1), some (.int f2), some ou, some su, some x, o6, some dv, o8, none, none] ∧ Dp K H2 dv (mOut e), ?_, ?_⟩
      · refine s_if (et_B (ev_B (ed_k0 (F := fIsSlope) (ea_cons (ed_var hxk) (ea_cons ed_bl ea_nil)) rfl))) (fun hb Hl sl => ?_) (fun hb Hl sl => ?_)
        · obtain ⟨pq, es⟩ := Option.isSome_iff_exists.mp hb
          obtain ⟨p, r⟩ := pq
          obtain ⟨ex, pb, rb, g⟩ := slopeO_spec es
          have hxl := Dp.same sl hxk
          have em : mOut e = if r = 0 then pairI p r else pairI r p := by
            unfold mOut
            rw [es]
          refine s_asg (d := mOut e) (ed_if (b := decide (r = 0)) (et_test (ev_eqI (ev_I (ed_ix (j := 1) (ed_var hxl) ex ev_c rfl)) ev_c)) (fun hb => ?_) fun hb => ?_) fun dv Hm' sm hdv => ⟨(ski.trans sl).trans sm, dv, rfl, hdv⟩
          · have r0 : r = 0 := of_decide_eq_true hb
            have p1 : p = 1 := by
              rw [r0] at g
              simp at g
              omega
            rw [em, if_pos r0, r0, p1]
            exact ed_tup (ea_cons ed_int (ea_cons ed_int ea_nil)) (by simp)
          · have r0 : ¬ r = 0 := of_decide_eq_false hb
            rw [em, if_neg r0]
            exact ed_tup (ea_cons (ed_ix (j := 1) (ed_var hxl) ex ev_c rfl) (ea_cons (ed_ix (j := 0) (ed_var hxl) ex ev_c rfl) ea_nil)) (by simp)
        · have em : mOut e = errD .slope e := by
            unfold mOut
            cases es : slopeO e true with
            | none => rfl
            | some pq => rw [es] at hb; cases hb
          refine ⟨ski.trans sl, du, rfl, ?_⟩
          rw [em]
          exact Dp.same sl hdu
      · rintro σ2 H6 ⟨s6, dv, rfl, hdv⟩
        have hx6 := Dp.same s6 hxi
        refine q_when (et_like (d := mOut e) (ed_k0 (F := fMirrorL) (ea_cons (ed_var hx6) ea_nil) (mirrorl_ok te)) (ed_var hdv) (fine_mOut te)) (fun hb => by cases hb) (fun _ H7 s7 => ?_)
        have xi7 := Nx.of xi.hand (s6.trans s7)
        have hx7 := xi7.dp hx
        have hdv7 := xi7.hand.hide (noH_mOut te) (Dp.same s7 hdv)
        refine d_asg (dr_take (n := 6) xi7.hand ev_var ev_c ⟨by decide, by decide⟩ fun nf H8 n0 n6 x8 => ?_)
        obtain ⟨n, rfl⟩ : ∃ n : Nat, nf = (n : Int) := ⟨nf.toNat, by omega⟩
        have hn : n ≤ 5 := by omega
        have hx8 := Dp.same hm_same (x8.dp hx7)
        have hdv8 := Dp.same hm_same (x8.dp hdv7)
        refine ⟨fun σ2 H2 => Same H8 H2 ∧ ∃ dv, σ2 = [some (.ref a), some (.int f1), some (.int f2), some ou, some su, some x, o6, some dv, some (.int (n : Int)), none, none] ∧ Dp K H2 dv (dOut n e), ?_, ?_⟩
        · refine s_if (et_B (ev_B (ed_k0 (F := fIsSlope) (ea_cons (ed_var hx8) (ea_cons ed_bl ea_nil)) rfl))) (fun hb Hl sl => ?_) (fun hb Hl sl => ?_)
          · obtain ⟨pq, es⟩ := Option.isSome_iff_exists.mp hb
            obtain ⟨p, r⟩ := pq
            obtain ⟨ex, pb, rb, g⟩ := slopeO_spec es
            have em : dOut n e = .tuple ((sortI (dirs n p r)).map tupI) := by
              unfold dOut
              rw [es]
            refine s_asg (d := dOut n e) ?_ fun dv Hm' sm hdv => ⟨sl.trans sm, dv, rfl, hdv⟩
            rw [em]
            refine ed_tuple (xs := (sortI (dirs n p r)).map tupI) (ed_sort (l := dirs n p r) (ed_k0 (F := fFour) (ea_cons (ed_var (.int (n : Int))) (ea_cons (ed_var (Dp.same sl hx8)) ea_nil)) (four_ok hn ex)) fun z hz => ?_) rfl
            have : z.length = 3 := by
              unfold dirs at hz
              rcases List.mem_cons.mp hz with rfl | hz
              · exact unI_len
              rcases List.mem_cons.mp hz with rfl | hz
              · exact unI_len
              rcases List.mem_cons.mp hz with rfl | hz
              · exact unI_len
              rcases List.mem_cons.mp hz with rfl | hz
              · exact unI_len
              cases hz
            intro z0
            rw [z0] at this
            cases this
          · refine ⟨sl, dv, rfl, ?_⟩
            have em : mOut e = dOut n e := by
              unfold mOut dOut
              cases es : slopeO e true with
              | none => rfl
              | some pq => rw [es] at hb; cases hb
            rw [← em]
            exact Dp.same sl hdv8
        · rintro σ2 H9 ⟨s9, dv, rfl, hdv⟩
          have hx9 := Dp.same s9 hx8
          refine q_when (et_like (d := dOut n e) (ed_deed ev_c deed (ed_var (.int (n : Int))) (ed_var hx9) (dirson_ok hn te)) (ed_var hdv) (fine_dOut te)) (fun hb => by cases hb) (fun _ H10 s10 => ?_)
          refine s_if (et_like (d := .list [.str "BadFace", .int (6 + (n : Int))]) (ed_deed ev_c deed (ed_I (ev_opI0 (g := fun i j => .int (i + j)) ev_c ev_var)) (ed_var (Dp.same s10 hx9)) dirson_face) (ed_lst (ea_cons ed_str (ea_cons (ed_I (ev_opI0 (g := fun i j => .int (i + j)) ev_c ev_var)) ea_nil)) (by simp)) (fine_badFace (by omega))) (fun hb => by cases hb) fun _ H11 s11 => ?_
          exact ⟨(xi7.trans x8).trans (.of x8.hand ((s9.trans s10).trans s11)), _, _, _, _, rfl⟩
  · obtain ⟨o5, o6, o7, o8, rfl⟩ := pv
    have fine10 : Fine (pairI 1 0) := fine_of (by decide +kernel)
    have l10 : ∀ {σ : L2.St} {H : Hp}, EvD K (tLst (tCons (tC (.int 1)) (tCons (tC (.int 0)) tNil))) σ H (.list [.int 1, .int 0]) := ed_lst (ea_cons ed_int (ea_cons ed_int ea_nil)) (by simp)
    have t10 : ∀ {σ : L2.St} {H : Hp}, EvD K (tTup (tCons (tC (.int 1)) (tCons (tC (.int 0)) tNil))) σ H (pairI 1 0) := ed_tup (ea_cons ed_int (ea_cons ed_int ea_nil)) (by simp)
    refine q_when (b := false) (et_test (ev_is (ev_neD (d := pairI 1 0) (e := pairI 1 0) (ed_callN (F := fCSlope) (ea_cons l10 ea_nil) (ea_cons ed_bl ea_nil) rfl rfl (by simp [fCSlope, slopeO, slopePQ, its?])) t10 fine10.shaped fine10.shaped) (by rw [fine10.self]; rfl))) (fun hb => by cases hb) (fun _ H6 s6 => ?_)
    refine er_k (F := fCSlope) (ds := [.list [.int 1, .int 0]]) (dds := [.bool false]) (k := .slope) (e := .list [.int 1, .int 0]) (ea_cons l10 ea_nil) (.cons (.bl false) .nil) (by simp [fCSlope, slopeO, slopePQ, its?]) H6 (Same.refl H6) ?_ _
    intro u dd H7 s7 nn hu hdd
    refine ⟨true, M.exm .slope .slope, fun _ b hb => ?_, fun z => by cases z⟩
    have ht : tiny 2 (.list [.int 1, .int 0]) = true := by decide +kernel
    show tSeq (tAsg (tCallS (spF K cl (fPlain 2)) (fun _ => E0) (tCons (tXf b (.ref (cl .slope)) (some dd) (cl .slope) "slope" (tVar 10)) tNil)) (gName 9)) (tRet (tOp (rEqD K) (tVar 9) (tTup (tCons (tC (.int 1)) (tCons (tC (.int 0)) tNil))))) _ [some (.ref a), some (.int f1), some (.int f2), some ou, some su, o5, o6, o7, o8, none, some (.ref b)] H7
    refine q_asg (K := K) (ed_callS (F := fPlain 2) (ea_cons (ed_xf hdd hu) ea_nil) (plain_ok ht)) fun z H8 s8 hz => ?_
    have hz : Dp K H8 z (pairI 1 0) := by
      rw [plain_pair (c := .list [.int 1, .int 0]) rfl] at hz
      exact hz
    refine s_retV (ev_eqD (ed_var hz) t10 fine10.shaped fine10.shaped) fun H9 s9 => ?_
    rw [fine10.self]
    exact q H9 (x05.trans (xe.trans (.of xe.hand (((s6.trans s7).trans s8).trans s9))))
end
end G4
/-! L12: _law_faceless. -/
namespace G4
open PySem PySem.Spec PyProof.Rows L2 L2H
/-- found.append(raised.face) -/
def tsApp (K : PySem.W.Frag) (cl : Kd → Addr) : Addr → Value → Option Addr → TS := fun a cls d => tDrop (tBM K "list" rAppend (tVar 2) (tCons (tXf a cls d (cl .face) "face" (tVar 3)) tNil))
theorem odd_noface {c : D} (h : c ∈ oddL 5) : faceB c = false := by
  unfold oddL at h
  rcases List.mem_cons.mp h with rfl | h
  · rfl
  rcases List.mem_cons.mp h with rfl | h
  · rfl
  rcases List.mem_cons.mp h with rfl | h
  · rfl
  rcases List.mem_cons.mp h with rfl | h
  · decide +kernel
  rcases List.mem_cons.mp h with rfl | h
  · decide +kernel
  rcases List.mem_cons.mp h with rfl | h
  · rfl
  rcases List.mem_cons.mp h with rfl | h
  · rfl
  rcases List.mem_cons.mp h with rfl | h
  · decide +kernel
  cases h
section
variable {P : Program} {w : World} {K : PySem.W.Frag} {mg : Str → Option Value} {base : Heap} {cl : Kd → Addr} {pe : Addr}
/-- the error caught, its face appended -/
theorem face_app (M : Mo K mg cl pe) {l : Addr} {us : List V} {o : D} {H : Hp} {D' : Ends} {s0 s1 : Option V} (at_l : H l = some (.lst us)) (hz : us.length < 100)
    (k : ∀ u H', Same H H' → Dp K H' u o → D'.nx [s0, s1, some (.ref l), none] (upd H' l (.lst (us ++ [u])))) :
    Bad K cl .face o H fun c dd H' => wCl K (fun _ _ _ _ => False) D' [⟨.ref (cl .face), some 3, tsApp K cl⟩] c dd [s0, s1, some (.ref l), none] H' := fun u dd H1 s n hu hdd => by
  refine ⟨true, M.exm .face .face, fun _ b hb => ?_, fun z => by cases z⟩
  show tsApp K cl b (.ref (cl .face)) (some dd) (clear 3 D') [s0, s1, some (.ref l), some (.ref b)] H1
  exact ⟨.ref l, rfl, Or.inl ⟨rfl, us, SqL.of (s _ _ at_l)⟩, .ref b, rfl, rfl, rfl, dd, _, u, rfl, hdd, rfl, l, us, u, rfl, rfl, s _ _ at_l, Nat.lt_of_lt_of_le hz (by decide), k u H1 s hu⟩
theorem ok_faceless (M : Mo K mg cl pe) : KeptG P w K mg base 7 "_law_faceless" (spSlopes K) := by
  refine keptG_all M.aFaceless scFaceless (by rintro vs H Q E ⟨a, rfl, _⟩; rfl) (fun f cdv A outer s H vs Q E hq hr h => ?_) fun _ _ _ _ _ _ us hl => match us, hl with | [_], _ => rfl
  obtain ⟨a, rfl, hA, q⟩ := h
  refine ⟨_, pss_cons (ps_set (i := 1) scFaceless.nd rfl (Or.inl rfl) (pe_k (E := fun _ => E0) (ok_odd M) hr (by decide) pass0N (pa_cons (pv 0) (pa_cons pe_int pa_nil))))
    (pss_cons (ps_set (i := 2) scFaceless.nd rfl (Or.inl rfl) (pe_lst pa_nil))
    (pss_cons (ps_tryC (l := [⟨.ref (cl .face), some 3, tsApp K cl⟩]) (tb := fun W => tDrop (tBM K "list" rAppend (tVar 2) (tCons (tCallSD (spF K cl fFramed) [] (WE W) (tCons (tVar 1) (tCons (tTup (tCons (tC (.int 1)) (tCons (tC (.int 2)) (tCons (tC (.int 3)) tNil)))) tNil))) tNil))) rfl rfl takes0N
        (ClsOk.named ⟨rfl, by decide, Or.inl M.eF.gC⟩ scFaceless.nd rfl rfl (fun b oe cls d pn z hf => pss_one (ps_expr (pe_bm PySem.F.plainAttrs_list PySem.F.slot_list_append PySem.F.type_list_append mt_append (pv 2) (pa_cons (pe_xf M.eF.xf M.eF.no z.zc hf (pv 3)) pa_nil)))) ClsOk.nil)
        (fun W pn xe tk _ => pss_one (ps_expr (pe_bm PySem.F.plainAttrs_list PySem.F.slot_list_append PySem.F.type_list_append mt_append (pv 2) (pa_cons (pe_k (E := WE W) (ok_framed M) hr (by decide) (fun σ => L2N.passAt tk σ) (pa_cons (pv 1) (pa_cons (pe_tup (pa_cons pe_int (pa_cons pe_int (pa_cons pe_int pa_nil)))) pa_nil))) pa_nil)))))
    (pss_cons (ps_tryC (l := [⟨.ref (cl .face), some 3, tsApp K cl⟩]) (tb := fun W => tDrop (tBM K "list" rAppend (tVar 2) (tCons (tCallSD (spF K cl fUnfr) [] (WE W) (tCons (tVar 1) (tCons (tC (.int 1)) (tCons (tC (.int 2)) tNil)))) tNil))) rfl rfl takes0N
        (ClsOk.named ⟨rfl, by decide, Or.inl M.eF.gC⟩ scFaceless.nd rfl rfl (fun b oe cls d pn z hf => pss_one (ps_expr (pe_bm PySem.F.plainAttrs_list PySem.F.slot_list_append PySem.F.type_list_append mt_append (pv 2) (pa_cons (pe_xf M.eF.xf M.eF.no z.zc hf (pv 3)) pa_nil)))) ClsOk.nil)
        (fun W pn xe tk _ => pss_one (ps_expr (pe_bm PySem.F.plainAttrs_list PySem.F.slot_list_append PySem.F.type_list_append mt_append (pv 2) (pa_cons (pe_k (E := WE W) (ok_unfr M) hr (by decide) (fun σ => L2N.passAt tk σ) (pa_cons (pv 1) (pa_cons pe_int (pa_cons pe_int pa_nil)))) pa_nil)))))
    (pss_one (ps_ret (pe_kG (ok_like M) hq hr (by decide) passG (pa_cons (pv 2) (pa_cons (pe_lst (pa_cons (pv 1) (pa_cons (pv 1) pa_nil))) pa_nil)))))))), ?_⟩
  refine d_asg (d_call (d_cons (d_var (v := .ref a) rfl (d_cons (d_c ⟨a, 5, rfl, hA, fun o ou H1 ho x1 hou => ?_⟩)))))
  have ho1 : Dp K H1 ou o := Dp.same hm_same hou
  have nf := odd_noface ho
  have on := oddL_noL o ho
  refine d_asg (d_lst (K := K) (ds := []) ea_nil (by decide) fun l us H2 s2 hl hus => ?_)
  cases hus
  have f1 : H1 l = none := s2.free hl
  have s3 := s2.newR (o := .lst []) hl
  have e1 : fFramed [o, .tuple [.int 1, .int 2, .int 3]] = .bad .face o := by
    show (if faceB o then _ else Out.bad .face o) = _
    rw [if_neg (by rw [nf]; decide)]
  have e2 : fUnfr [o, .int 1, .int 2] = .bad .face o := by
    show (if faceB o then _ else Out.bad .face o) = _
    rw [if_neg (by rw [nf]; decide)]
  refine ⟨.ref l, rfl, Or.inl ⟨rfl, [], SqL.of upd_same⟩, er_head (er_k0 (F := fFramed) (ea_cons (ed_var (Dp.same s3 ho1)) (ea_cons (ed_tup (ea_cons ed_int (ea_cons ed_int (ea_cons ed_int ea_nil))) (by decide)) ea_nil)) e1) _ (Same.refl _) (face_app M (us := []) upd_same (by decide) fun u H3 s3' hu => ?_) _⟩
  have at3 : H3 l = some (.lst []) := s3' _ _ upd_same
  have s4 : Same H1 (upd H3 l (.lst ([] ++ [u]))) := Same.mut (s3.trans s3') f1
  have hu4 : Dp K (upd H3 l (.lst ([] ++ [u]))) u o := dp_off at3 on hu
  refine ⟨.ref l, rfl, Or.inl ⟨rfl, _, SqL.of upd_same⟩, er_head (er_k0 (F := fUnfr) (ea_cons (ed_var (Dp.same s4 ho1)) (ea_cons ed_int (ea_cons ed_int ea_nil))) e2) _ (Same.refl _) (face_app M upd_same (show 1 < 100 by decide) fun u2 H5 s5 hu2 => ?_) _⟩
  have at5 : H5 l = some (.lst ([] ++ [u])) := s5 _ _ upd_same
  have s6 : Same H1 (upd H5 l (.lst (([] ++ [u]) ++ [u2]))) := Same.mut (s4.trans s5) f1
  have hu6 := dp_off (o := .lst (([] ++ [u]) ++ [u2])) at5 on (Dp.same s5 hu4)
  have hu26 := dp_off (o := .lst (([] ++ [u]) ++ [u2])) at5 on hu2
  have ho6 := Dp.same s6 ho1
  have fine : Fine (.list [o, o]) := fine_of (tiny_up (tiny_list (by simp) fun z hz => by
    have t1 := odd_tiny (h := 5) (by decide) o ho
    rcases List.mem_cons.mp hz with rfl | hz
    · exact t1
    rcases List.mem_cons.mp hz with rfl | hz
    · exact t1
    cases hz))
  refine s_ret (K := K) (d := .bool true) (ed_call0 (F := fLike) (ea_cons (ed_var (d := .list [o, o]) (.lst (SqL.of upd_same) (.cons hu6 (.cons hu26 .nil)))) (ea_cons (ed_lst (ea_cons (ed_var ho6) (ea_cons (ed_var ho6) ea_nil)) (by simp)) ea_nil)) (like_ok fine)) fun z H7 s7 hz => ?_
  have := hz.scalB
  subst this
  exact q H7 (x1.trans (.of x1.hand (s6.trans s7)))
end
end G4
/-! L13: law. -/
namespace G4
open PySem PySem.Spec PyProof.Rows L2 L2H
/-! ### directions that are drawn -/
theorem unI_at {n : Nat} (hn : n ≤ 5) (p q : Int) : (unI n p q).getD (axN n).1 0 = p ∧ (unI n p q).getD (axN n).2 0 = q ∧ (unI n p q).getD (n / 2) 0 = 0 := by
  have : n = 0 ∨ n = 1 ∨ n = 2 ∨ n = 3 ∨ n = 4 ∨ n = 5 := by omega
  rcases this with rfl | rfl | rfl | rfl | rfl | rfl <;> exact ⟨rfl, rfl, rfl⟩
theorem unI_small {n : Nat} {p q : Int} (hp : p.natAbs ≤ 10000) (hq : q.natAbs ≤ 10000) : ∀ i ∈ unI n p q, -10000 ≤ i ∧ i ≤ 10000 := fun i hi => by
  rcases unI_mem hi with rfl | rfl | rfl <;> omega
theorem ints3_unI {d : D} {v : List Int} (h : its? d = some (v.map .int)) (l : v.length = 3) (b : ∀ i ∈ v, -10000 ≤ i ∧ i ≤ 10000) : ints3 d = some v := by
  match v, l with
  | [x, y, z], _ =>
    unfold ints3
    rw [h]
    exact if_pos ⟨b x (by simp), b y (by simp), b z (by simp)⟩
theorem wordV_unI {n : Nat} (hn : n ≤ 5) {p q : Int} (g : Nat.gcd p.natAbs q.natAbs = 1) : wordV n (unI n p q) = none := by
  obtain ⟨e1, e2, e3⟩ := unI_at hn p q
  unfold wordV
  rw [e1, e2, e3, if_neg (fun z => z rfl), if_neg, if_neg (fun z => z g)]
  rintro ⟨rfl, rfl⟩
  cases g
theorem dirO_unI {n : Nat} (hn : n ≤ 5) {p q : Int} {d : D} (g : Nat.gcd p.natAbs q.natAbs = 1) (hp : p.natAbs ≤ 10000) (hq : q.natAbs ≤ 10000) (h : its? d = some ((unI n p q).map .int)) : dirO n d = .inr (unI n p q) := by
  unfold dirO
  rw [ints3_unI h unI_len (unI_small hp hq)]
  show (match wordV n (unI n p q) with | some w => Sum.inl w | none => Sum.inr (unI n p q)) = _
  rw [wordV_unI hn g]
/-! ### one of four quarter turns -/
def okPair (r : Int × Int) : Bool := decide (1 ≤ r.1) && decide (0 ≤ r.2)
theorem one_turn {p q : Int} (h : ¬ (p = 0 ∧ q = 0)) : [(p, q), (-q, p), (-p, -q), (q, -p)].filter okPair = [quart 4 p q] := by
  have e4 : quart 4 p q = if 1 ≤ p ∧ 0 ≤ q then (p, q) else if 1 ≤ -q ∧ 0 ≤ p then (-q, p) else if 1 ≤ -p ∧ 0 ≤ -q then (-p, -q) else if 1 ≤ q ∧ 0 ≤ -p then (q, -p) else (p, q) := by
    simp only [quart, Int.neg_neg]
  rw [e4]
  unfold okPair
  by_cases c1 : 1 ≤ p ∧ 0 ≤ q
  · have n2 : ¬ (1 ≤ -q ∧ 0 ≤ p) := by omega
    have n3 : ¬ (1 ≤ -p ∧ 0 ≤ -q) := by omega
    have n4 : ¬ (1 ≤ q ∧ 0 ≤ -p) := by omega
    rw [if_pos c1]
    simp only [List.filter_cons, ← Bool.decide_and, decide_eq_true c1, decide_eq_false n2, decide_eq_false n3, decide_eq_false n4]
    rfl
  rw [if_neg c1]
  by_cases c2 : 1 ≤ -q ∧ 0 ≤ p
  · have n3 : ¬ (1 ≤ -p ∧ 0 ≤ -q) := by omega
    have n4 : ¬ (1 ≤ q ∧ 0 ≤ -p) := by omega
    rw [if_pos c2]
    simp only [List.filter_cons, ← Bool.decide_and, decide_eq_false c1, decide_eq_true c2, decide_eq_false n3, decide_eq_false n4]
    rfl
  rw [if_neg c2]
  by_cases c3 : 1 ≤ -p ∧ 0 ≤ -q
  · have n4 : ¬ (1 ≤ q ∧ 0 ≤ -p) := by omega
    rw [if_pos c3]
    simp only [List.filter_cons, ← Bool.decide_and, decide_eq_false c1, decide_eq_false c2, decide_eq_true c3, decide_eq_false n4]
    rfl
  rw [if_neg c3]
  have c4 : 1 ≤ q ∧ 0 ≤ -p := by omega
  rw [if_pos c4]
  simp only [List.filter_cons, ← Bool.decide_and, decide_eq_false c1, decide_eq_false c2, decide_eq_false c3, decide_eq_true c4]
  rfl
def pairD (r : Int × Int) : D := pairI r.1 r.2
def okTurn : D → Bool
  | .tuple [.int a, .int b] => okPair (a, b)
  | _ => false
theorem turns_due {p q : Int} (h : ¬ (p = 0 ∧ q = 0)) : ([pairI p q, pairI (-q) p, pairI (-p) (-q), pairI q (-p)].filter okTurn).map (fun c => c) = [pairD (quart 4 p q)] := by
  rw [List.map_id']
  have e : [pairI p q, pairI (-q) p, pairI (-p) (-q), pairI q (-p)] = [(p, q), (-q, p), (-p, -q), (q, -p)].map pairD := rfl
  rw [e, List.filter_map]
  have e2 : okTurn ∘ pairD = okPair := rfl
  rw [e2, one_turn h]
  rfl
theorem quart_mem {p q : Int} (h : ¬ (p = 0 ∧ q = 0)) : (quart 4 p q).1.natAbs ≤ max p.natAbs q.natAbs ∧ (quart 4 p q).2.natAbs ≤ max p.natAbs q.natAbs := by
  have m : quart 4 p q ∈ [(p, q), (-q, p), (-p, -q), (q, -p)].filter okPair := by rw [one_turn h]; exact List.mem_cons_self
  have m2 := (List.mem_filter.mp m).1
  rcases List.mem_cons.mp m2 with e | m2
  · rw [e]; exact ⟨by simp only; omega, by simp only; omega⟩
  rcases List.mem_cons.mp m2 with e | m2
  · rw [e]; exact ⟨by simp only; omega, by simp only; omega⟩
  rcases List.mem_cons.mp m2 with e | m2
  · rw [e]; exact ⟨by simp only; omega, by simp only; omega⟩
  rcases List.mem_cons.mp m2 with e | m2
  · rw [e]; exact ⟨by simp only; omega, by simp only; omega⟩
  cases m2
/-! ### the four deeds -/
structure DeedLike (F : List D → Out) : Prop where
  face : ∀ f d, faceB f = false → F [f, d] = .bad .face f
  bad : ∀ f d w, faceB f = true → dirO (faceN f) d = .inl w → F [f, d] = .bad .dirn (.str w)
  ok : ∀ f d v, faceB f = true → dirO (faceN f) d = .inr v → ∃ xs, F [f, d] = .ok (.tuple xs)
theorem deed_cdir : DeedLike fCDir := ⟨fun _ _ => cdir_face, fun _ _ _ => cdir_bad, fun _ _ _ h1 h2 => ⟨_, cdir_ok h1 h2⟩⟩
theorem deed_dirF {g : Nat → List Int → D} (h : ∀ n v, ∃ xs, g n v = .tuple xs) : DeedLike (dirF g) := ⟨fun _ _ => dirF_face, fun _ _ _ => dirF_bad, fun f _ v h1 h2 => by
  obtain ⟨xs, e⟩ := h (faceN f) v
  exact ⟨xs, by rw [dirF_ok h1 h2, e]⟩⟩
theorem dirO_word {n : Nat} {d : D} {w : Str} (h : dirO n d = .inl w) : w = "kind" ∨ w = "axis" ∨ w = "both" ∨ w = "common" := by
  unfold dirO at h
  split at h
  · cases h
    exact Or.inl rfl
  · split at h
    · rename_i w' e
      cases h
      unfold wordV at e
      split at e
      · cases e
        exact Or.inr (Or.inl rfl)
      · split at e
        · cases e
          exact Or.inr (Or.inr (Or.inl rfl))
        · split at e
          · cases e
            exact Or.inr (Or.inr (Or.inr rfl))
          · cases e
    · cases h
theorem fine_word {w : Str} (h : w = "kind" ∨ w = "axis" ∨ w = "both" ∨ w = "common") : Fine (.list [.str "BadDirection", .str w]) := fine_of (tiny_list (by simp) fun x hx => by
  rcases List.mem_cons.mp hx with rfl | hx
  · exact tiny_str (by decide +kernel)
  rcases List.mem_cons.mp hx with rfl | hx
  · rcases h with rfl | rfl | rfl | rfl <;> exact tiny_str (by decide +kernel)
  cases hx)
theorem face_over' {n : Nat} : faceB (.int ((n : Int) + 6)) = false := by
  rw [Int.add_comm]
  exact face_over
section
variable {K : PySem.W.Frag} {σ : L2.St} {H : Hp} {tl : TE} {g : TG}
/-- for over a list of defs -/
theorem s_forF {tb : TS} {D' : Ends} {ys : List V} (h : ∀ Q : VK, (∀ l H2, Same H H2 → H2 l = some (.lst ys) → Q (.ref l) H2) → tl σ H Q) (Pv : Nat → L2.St → Prop) (h0 : Pv 0 σ)
    (hs : ∀ (i : Nat) (x : V) (σ' : L2.St) (H' : Hp), Same H H' → ys[i]? = some x → Pv i σ' → g x σ' H' fun σ2 H2 => tb { D' with nx := fun s h => Same H' h ∧ Pv (i + 1) s, ct := fun s h => Same H' h ∧ Pv (i + 1) s, bk := D'.nx } σ2 H2)
    (hd : ∀ σ' H', Same H H' → Pv ys.length σ' → D'.nx σ' H') : tFor (iSeq K tl) g tb D' σ H :=
  h _ fun l H1 s1 at_l => by
    let W : Nat → Nat → L2.St → Hp → Prop := fun i m s h => m = ys.length - i ∧ i ≤ ys.length ∧ Same H1 h ∧ Pv i s
    refine ⟨true, l, rfl, ⟨ys, SqL.of at_l⟩, W, ⟨ys.length, by simp, Nat.zero_le _, Same.refl H1, h0⟩, ?_⟩
    rintro i m s h ⟨rfl, hi, sm, pv⟩
    have hsq : SqL K h l ys := SqL.of (sm _ _ at_l)
    by_cases lt : i < ys.length
    · refine Or.inr ⟨⟨ys, ys[i], hsq, by simp [lt]⟩, fun s' h' => Same h h' ∧ Pv (i + 1) s', fun s' h' z => ⟨ys.length - (i + 1), by omega, rfl, lt, sm.trans z.1, z.2⟩, fun x H' y => ?_⟩
      obtain ⟨e, y2⟩ := y
      subst e
      exact hs i x s _ (s1.trans sm) (y2 _ hsq) pv
    · have e : i = ys.length := by omega
      subst e
      exact Or.inl ⟨⟨ys, hsq, Nat.le_refl _⟩, hd s h (s1.trans sm) pv⟩
end
section
variable {K : PySem.W.Frag} {cl : Kd → Addr} {σ : L2.St} {H : Hp} {ta tb : TE} {d : D} {t : TT} {tu tz : TS} {D' : Ends} {h : Addr} {Qt : Bool → Hp → Prop}
theorem et_ne (ha : EvD K ta σ H d) (hb : EvD K tb σ H d) (f : Fine d) : EvT (tTest (tOp (rNeD K) ta tb)) σ H false := et_test (ev_is (ev_neD ha hb f.shaped f.shaped) (by rw [f.self]; rfl))
theorem et_orF {t u : TT} (h1 : EvT t σ H false) (h2 : EvT u σ H false) : EvT (tOr t u) σ H false := et_or (a := false) (b := false) h1 fun _ => h2
theorem d_when (x : t σ H fun c H1 => if c = true then tu { D' with nx := tz D' } σ H1 else tz D' σ H1) : tSeq (tIfS t tu tNext) tz D' σ H := x
theorem d_slopes (hA : HandAt K H h) (hσ : σ[1]? = some (some (.ref h))) (q : ∀ H', Nx K h H H' → Qt false H') : tNot (tB (tCall (spSlopes K) [] E0 (tCons (tVar 1) tNil))) σ H Qt :=
  ⟨.ref h, hσ, h, rfl, hA, fun H' x => ⟨true, rfl, q H' x⟩⟩
theorem d_orF {t u : TT} (x : t σ H fun c H1 => if c = true then Qt true H1 else u σ H1 Qt) : tOr t u σ H Qt := x
end
theorem outstep_ok {m : Nat} {v : List Int} (hm : m ≤ 5) (l : v.length = 3) : fOutStep [.int (m : Int), tupI v] = .ok (.int (if m % 2 = 1 then v.getD (m / 2) 0 else -(v.getD (m / 2) 0))) := by
  have e : (v.map PyData.int)[m / 2]? = some (.int (v.getD (m / 2) 0)) := map_getD (by omega)
  show (if faceB (.int (m : Int)) then (match (v.map PyData.int)[m / 2]? with
    | some (.int s) => Out.ok (.int (if m % 2 = 1 then s else -s))
    | _ => .no) else .no) = _
  rw [if_pos (face_nat hm), e]
def spLaw (K : PySem.W.Frag) : Sp := fun vs H Q _ => ∃ (a : Addr) (ns : List Int), vs = [.ref a] ∧ SqL K H a (ns.map V.int) ∧ ns.length ≤ 63 ∧ ∀ H', Q (.bl true) H'
section
variable {P : Program} {w : World} {K : PySem.W.Frag} {mg : Str → Option Value} {base : Heap} {cl : Kd → Addr} {pe : Addr}
theorem ok_law (M : Mo K mg cl pe) (f : Addr) (fd : FuncData) (F : FunD K "law" "law" (defArgs sLaw) (defBody sLaw) (defScope sLaw) [] [] f fd) : FnG P w K mg base (L2N.CX P w) 10 f fd pLaw (spLaw K) := by
  obtain ⟨oc, od, dV, kV, doc, pm, an, cdv, ct, osl, rfl, lk, hcd, _, _⟩ := F.ex
  refine fnG_of lk hcd scLaw (by rintro vs H Q E ⟨a, ns, rfl, _⟩; rfl) fun A outer s H vs Q E hq hr h => ?_
  obtain ⟨sa, ns, rfl, hns, hl, q⟩ := h
  obtain ⟨d1, gd1, deed1⟩ := deedy_of (ok_cdir (P := P) (w := w) (base := base) M) (by decide)
  obtain ⟨d2, gd2, deed2⟩ := deedy_of (ok_slopeof (P := P) (w := w) (base := base) M) (by decide)
  obtain ⟨d3, gd3, deed3⟩ := deedy_of (ok_leftof (P := P) (w := w) (base := base) M) (by decide)
  obtain ⟨d4, gd4, deed4⟩ := deedy_of (ok_backof (P := P) (w := w) (base := base) M) (by decide)
  have hu : A.units + 3 + 64 < cLine := by
    have h := hr.un
    have h : A.units + 3 + 16 * 9 + 200 < cLine := h
    omega
  refine ⟨_, pss_cons (ps_set (i := 1) scLaw.nd rfl (Or.inl rfl) (pe_k (E := fun _ => E0) (ok_hand M) hr (by decide) pass0N (pa_cons (pv 0) pa_nil)))
    (pss_cons (ps_if (PW.pt (pw_or (pt_not (pt_val (pe_kG (ok_slopes M) hq hr (by decide) passG (pa_cons (pv 1) pa_nil)))) (pw_or1 (pt_not (pt_val (pe_kG (ok_faceless M) hq hr (by decide) passG (pa_cons (pv 1) pa_nil))))))) (pss_one (ps_ret pe_bl)) pss_nil)
    (pss_cons (ps_set (i := 2) scLaw.nd rfl (Or.inl rfl) (pe_k (E := fun _ => E0) (ok_take M) hr (by decide) pass0N (pa_cons (pv 1) (pa_cons pe_int pa_nil))))
    (pss_cons (ps_set (i := 3) scLaw.nd rfl (Or.inl rfl) (pe_k (E := fun _ => E0) (ok_drawn M) hr (by decide) pass0N (pa_cons (pv 1) (pa_cons (pv 2) pa_nil))))
    (pss_cons (ps_set (i := 4) scLaw.nd rfl (Or.inl rfl) (pe_k (E := fun _ => E0) (ok_laxes M) hr (by decide) pass0N (pa_cons (pv 2) pa_nil)))
    (pss_cons (ps_set (i := 5) scLaw.nd rfl (Or.inl rfl) (pe_ix ix_seq (pv 3) (pe_ix ix_seq (pv 4) pe_int (fun _ _ => rfl)) (fun _ _ => rfl)))
    (pss_cons (ps_set (i := 6) scLaw.nd rfl (Or.inl rfl) (pe_ix ix_seq (pv 3) (pe_ix ix_seq (pv 4) pe_int (fun _ _ => rfl)) (fun _ _ => rfl)))
    (pss_cons (ps_if (PW.pt (pw_or (pt_cmpR (op_neD hu) (pe_k (E := fun _ => E0) (ok_cdir M) hr (by decide) pass0N (pa_cons (pv 2) (pa_cons (e_list (M := M) (ha := pv 3)) pa_nil))) (pv 3) (nomark _)) (pw_or1 (pt_cmpR (op_neD hu) (pe_k (E := fun _ => E0) (ok_unfr M) hr (by decide) pass0N (pa_cons (pv 2) (pa_cons (pv 5) (pa_cons (pv 6) pa_nil)))) (pv 3) (nomark _))))) (pss_one (ps_ret pe_bl)) pss_nil)
    (pss_cons (ps_if (PW.pt (pw_or (pt_cmpR (op_neD hu) (pe_k (E := fun _ => E0) (ok_backof M) hr (by decide) pass0N (pa_cons (pv 2) (pa_cons (pv 3) pa_nil)))
          (e_tuple (M := M) (ha := pe_lc (own := [("_law_step", 14)]) (g := gName 14) (tt := tYes) (te := tUn (rU fun i => .int (-i)) (tVar 14)) rfl scLaw.nd (pi_seq (pv 3)) (blkOk_by (N := nLaw) (sc := defScope sLaw) (by decide +kernel)) (fun _ _ _ _ _ => pg_name (i := 14) scLaw.nd rfl (.inl rfl)) (fun _ _ _ _ _ => pts_nil) (fun _ _ _ _ _ => pe_un un_neg (pv 14)))) (nomark _))
        (pw_or1 (pt_cmpR (op_neD hu) (pe_k (E := fun _ => E0) (ok_leftof M) hr (by decide) pass0N (pa_cons (pv 2) (pa_cons (e_list (M := M) (ha := pv 3)) pa_nil))) (pe_k (E := fun _ => E0) (ok_steps M) hr (by decide) pass0N (pa_cons (pv 2) (pa_cons (pe_un un_neg (pv 6)) (pa_cons (pv 5) pa_nil)))) (nomark _))))) (pss_one (ps_ret pe_bl)) pss_nil)
    (pss_cons (ps_set (i := 7) scLaw.nd rfl (Or.inl rfl) (pe_lst (pa_cons (pe_tup (pa_cons (pv 5) (pa_cons (pv 6) pa_nil))) (pa_cons (pe_tup (pa_cons (pe_un un_neg (pv 6)) (pa_cons (pv 5) pa_nil))) (pa_cons (pe_tup (pa_cons (pe_un un_neg (pv 5)) (pa_cons (pe_un un_neg (pv 6)) pa_nil))) (pa_cons (pe_tup (pa_cons (pv 6) (pa_cons (pe_un un_neg (pv 5)) pa_nil))) pa_nil))))))
    (pss_cons (ps_setLc (i := 8) (own := [("_law_turn", 15)]) (g := gName 15) (tt := tAnd (tTest (tOp (rI0 fun i j => .bl (decide (j ≤ i))) (tOp (rIx K) (tVar 15) (tC (.int 0))) (tC (.int 1)))) (tTest (tOp (rI0 fun i j => .bl (decide (j ≤ i))) (tOp (rIx K) (tVar 15) (tC (.int 1))) (tC (.int 0))))) (te := tVar 15) rfl scLaw.nd rfl rfl rfl (pi_seq (pv 7))
        (blkOk_by (N := nLaw) (sc := defScope sLaw) (by decide +kernel)) (fun _ _ _ _ _ => pg_name (i := 15) scLaw.nd rfl (.inl rfl)) (fun _ _ _ _ _ => pts_one (PW.pt (pw_and (pt_cmpR op_ge (pe_ix ix_seq (pv 15) pe_int (fun _ _ => rfl)) pe_int (nomark _)) (pw_and1 (pt_cmpR op_ge (pe_ix ix_seq (pv 15) pe_int (fun _ _ => rfl)) pe_int (nomark _)))))) (fun _ _ _ _ _ => pv 15))
    (pss_cons (ps_if (PW.pt (pw_or (pt_cmpR op_ne (e_len (M := M) (ha := pv 8)) pe_int (nomark _)) (pw_or (pt_cmpR (op_neD hu) (pe_k (E := fun _ => E0) (ok_slopeof M) hr (by decide) pass0N (pa_cons (pv 2) (pa_cons (pv 3) pa_nil))) (pe_ix ix_seq (pv 8) pe_int (fun _ _ => rfl)) (nomark _))
        (pw_or1 (pt_not (pt_val (pe_k (E := fun _ => E0) (ok_tuples M) hr (by decide) pass0N (pa_cons (pe_k (E := fun _ => E0) (ok_slopeof M) hr (by decide) pass0N (pa_cons (pv 2) (pa_cons (pv 3) pa_nil))) pa_nil)))))))) (pss_one (ps_ret pe_bl)) pss_nil)
    (pss_cons (ps_set (i := 9) scLaw.nd rfl (Or.inl rfl) (pe_k (E := fun _ => E0) (ok_take M) hr (by decide) pass0N (pa_cons (pv 1) (pa_cons pe_int pa_nil))))
    (pss_cons (ps_if (pt_cmpR op_ne (pe_k (E := fun _ => E0) (ok_outstep M) hr (by decide) pass0N (pa_cons (pv 9) (pa_cons (pv 3) pa_nil))) (pe_k (E := fun _ => E0) (ok_lout M) hr (by decide) pass0N (pa_cons (pv 9) (pa_cons (pv 3) pa_nil))) (nomark _)) (pss_one (ps_ret pe_bl)) pss_nil)
    (pss_cons (ps_set (i := 10) scLaw.nd rfl (Or.inl rfl) (pe_k (E := fun _ => E0) (ok_spoilt M) hr (by decide) pass0N (pa_cons (pv 1) (pa_cons (pv 2) (pa_cons (pv 3) pa_nil)))))
    (pss_cons (ps_set (i := 11) scLaw.nd rfl (Or.inl rfl) (pe_k (E := fun _ => E0) (ok_word M) hr (by decide) pass0N (pa_cons (pv 2) (pa_cons (pv 10) pa_nil))))
    (pss_cons (ps_for (L2.passes_of rfl) rfl (pi_seq (pe_lst (pa_cons (pe_glob (v := .ref d1) rfl gd1 rfl) (pa_cons (pe_glob (v := .ref d2) rfl gd2 rfl) (pa_cons (pe_glob (v := .ref d3) rfl gd3 rfl) (pa_cons (pe_glob (v := .ref d4) rfl gd4 rfl) pa_nil)))))) (pg_name (i := 12) scLaw.nd rfl (.inl rfl))
      (pss_cons (ps_set (i := 13) scLaw.nd rfl (Or.inl rfl) (pe_k (E := fun _ => E0) (ok_deed M) hr (by decide) pass0N (pa_cons (pv 12) (pa_cons (pv 2) (pa_cons (pv 10) pa_nil)))))
      (pss_cons (ps_if (PW.pt (pw_and (pt_cmpR op_notN (pv 11) pe_non (nomark _)) (pw_and1 (pt_cmpR (op_neD hu) (pv 13) (pe_lst (pa_cons pe_str (pa_cons (pv 11) pa_nil))) (nomark _))))) (pss_one (ps_ret pe_bl)) pss_nil)
      (pss_cons (ps_if (PW.pt (pw_and (pt_cmpR op_isN (pv 11) pe_non (nomark _)) (pw_and1 (pt_val (e_isi M "list" (pv 13)))))) (pss_one (ps_ret pe_bl)) pss_nil)
      (pss_one (ps_if (pt_not (pt_val (pe_kG (ok_like M) hq hr (by decide) passG (pa_cons (pe_k (E := fun _ => E0) (ok_deed M) hr (by decide) pass0N (pa_cons (pv 12) (pa_cons (pe_op op_add (pv 9) pe_int) (pa_cons (pv 10) pa_nil)))) (pa_cons (pe_lst (pa_cons pe_str (pa_cons (pe_op op_add (pv 9) pe_int) pa_nil))) pa_nil))))) (pss_one (ps_ret pe_bl)) pss_nil))))))
    (pss_one (ps_ret pe_bl)))))))))))))))))), ?_⟩
  refine d_asg (d_call (d_cons (d_var (v := .ref sa) rfl ⟨sa, ns, rfl, hns, hl, fun hd H1 _ hA _ => ?_⟩)))
  refine d_when (d_orF (d_slopes hA rfl fun H2 x2 => ?_))
  rw [if_neg (by decide)]
  refine d_slopes x2.hand rfl fun H3 x3 => ?_
  rw [if_neg (by decide)]
  refine d_asg (dr_take (n := 6) x3.hand ev_var ev_c ⟨by decide, by decide⟩ fun nf H4 n0 n6 x4 => ?_)
  obtain ⟨n, rfl⟩ : ∃ n : Nat, nf = (n : Int) := ⟨nf.toNat, by omega⟩
  have hn : n ≤ 5 := by omega
  refine d_asg (d_call (d_cons (d_var (v := .ref hd) rfl (d_cons (d_var (v := .int (n : Int)) rfl ⟨hd, n, rfl, hn, x4.hand, fun p r su H5 g bp br x5 hsu => ?_⟩)))))
  have hs5 : Dp K H5 su (tupI (unI n p r)) := Dp.same hm_same hsu
  obtain ⟨a1, a2, _⟩ := axN_lt hn
  obtain ⟨e1, e2, e3⟩ := unI_at hn p r
  have len : (unI n p r).length = 3 := unI_len
  have nz : ¬ (p = 0 ∧ r = 0) := by
    rintro ⟨rfl, rfl⟩
    cases g
  have dro : ∀ {d : D}, its? d = some ((unI n p r).map .int) → dirO (faceN (.int (n : Int))) d = .inr (unI n p r) := fun h => dirO_unI hn g bp br h
  have fn := face_nat hn
  have fineV : Fine (tupI (unI n p r)) := fine_of (tiny_unI bp br)
  refine q_asg (d := pairN (axN n)) (ed_k0 (F := fLAxes) (ea_cons (ed_var (.int (n : Int))) ea_nil) (laxes_ok hn)) fun ax H6 s6 hax => ?_
  refine q_asgV (v := .int p) (ev_I (by rw [← e1]; exact ed_ix (j := (axN n).1) (ed_var (Dp.same s6 hs5)) rfl (ev_I (ed_ix (j := 0) (ed_var hax) rfl ev_c rfl)) (map_getD (by rw [len]; exact a1)))) fun H7 s7 => ?_
  have ep : V.int ((unI n p r).getD (axN n).1 0) = V.int p := by rw [e1]
  refine q_asgV (v := .int r) (ev_I (by rw [← e2]; exact ed_ix (j := (axN n).2) (ed_var (Dp.same (s6.trans s7) hs5)) rfl (ev_I (ed_ix (j := 1) (ed_var (Dp.same s7 hax)) rfl ev_c rfl)) (map_getD (by rw [len]; exact a2)))) fun H8 s8 => ?_
  have hs8 := Dp.same ((s6.trans s7).trans s8) hs5
  refine q_when (et_orF (et_ne (d := tupI (unI n p r)) (ed_k0 (F := fCDir) (ea_cons (ed_var (.int (n : Int))) (ea_cons (ed_list (ed_var hs8) rfl) ea_nil)) (cdir_ok fn (dro rfl))) (ed_var hs8) fineV)
    (et_ne (d := tupI (unI n p r)) (ed_k0 (F := fUnfr) (ea_cons (ed_var (.int (n : Int))) (ea_cons (ed_var (.int p)) (ea_cons (ed_var (.int r)) ea_nil))) (unfr_ok hn)) (ed_var hs8) fineV)) (fun hb => by cases hb) (fun _ H9 s9 => ?_)
  have hs9 := Dp.same s9 hs8
  have fineB : Fine (tupI ((unI n p r).map fun i => -i)) := fine_of (tiny_tup (by rw [List.length_map, List.length_map, len]; decide) fun d hd => by
    obtain ⟨i, hi, rfl⟩ := List.mem_map.mp hd
    obtain ⟨j, hj, rfl⟩ := List.mem_map.mp hi
    have := unI_small bp br j hj
    exact tiny_small (by omega))
  have fineL : Fine (tupI (unI n (-r) p)) := fine_of (tiny_unI (by omega) (by omega))
  have back : EvD K (tCB (rTupS K) (tCons (tLc (iSeq K (tVar 3)) (gName 14) tYes (tUn (rU fun i => .int (-i)) (tVar 14)) [14]) tNil)) [some (.ref sa), some (.ref hd), some (.int (n : Int)), some su, some ax, some (.int p), some (.int r), none, none, none, none, none, none, none, none, none] H9 (tupI ((unI n p r).map fun i => -i)) := by
    refine ed_tuple (d := .list (((unI n p r).map fun i => -i).map .int)) ?_ rfl
    refine ed_is (ed_lc (xs := (unI n p r).map .int) (fun _ => true) negD (ed_var hs9) rfl (by rw [List.length_map, len]; decide) (fun c hc _ => ?_) (fun i y c H3 s3 hc hy => ?_)) ?_
    · obtain ⟨i, rfl⟩ := mem_ints hc
      rfl
    · obtain ⟨i, rfl⟩ := mem_ints (List.mem_of_getElem? hc)
      have := hy.scalI
      subst this
      exact turns_name rfl et_yes fun _ => ed_I (ev_neg ev_var)
    · rw [filter_yes, List.map_map, List.map_map]
      rfl
  have lft : gLeftOf n (unI n p r) = tupI (unI n (-r) p) := by
    unfold gLeftOf
    rw [e1, e2]
  refine q_when (et_orF (et_ne (d := tupI ((unI n p r).map fun i => -i)) (ed_k0 (F := dirF gBackOf) (ea_cons (ed_var (.int (n : Int))) (ea_cons (ed_var hs9) ea_nil)) (dirF_ok fn (dro rfl))) back fineB)
    (et_ne (d := tupI (unI n (-r) p)) (ed_k0 (F := dirF gLeftOf) (ea_cons (ed_var (.int (n : Int))) (ea_cons (ed_list (ed_var hs9) rfl) ea_nil)) (by rw [dirF_ok fn (dro rfl)]; exact congrArg Out.ok lft)) (ed_k0 (F := fSteps) (ea_cons (ed_var (.int (n : Int))) (ea_cons (ed_I (ev_neg ev_var)) (ea_cons (ed_var (.int p)) ea_nil))) (steps_ok hn)) fineL)) (fun hb => by cases hb) (fun _ H10 s10 => ?_)
  refine q_asg (K := K) (d := .list [pairI p r, pairI (-r) p, pairI (-p) (-r), pairI r (-p)]) (ed_lst (ea_cons (ed_tup (ea_cons (ed_var (.int p)) (ea_cons (ed_var (.int r)) ea_nil)) (by simp)) (ea_cons (ed_tup (ea_cons (ed_I (ev_neg ev_var)) (ea_cons (ed_var (.int p)) ea_nil)) (by simp))
    (ea_cons (ed_tup (ea_cons (ed_I (ev_neg ev_var)) (ea_cons (ed_I (ev_neg ev_var)) ea_nil)) (by simp)) (ea_cons (ed_tup (ea_cons (ed_var (.int r)) (ea_cons (ed_I (ev_neg ev_var)) ea_nil)) (by simp)) ea_nil)))) (by simp)) fun tn H11 s11 htn => ?_
  obtain ⟨tr, htr⟩ : ∃ tr, tr = quart 4 p r := ⟨_, rfl⟩
  refine q_asg (K := K) (d := .list [pairD tr]) ?_ fun du H12 s12 hdu => ?_
  · refine ed_is (ed_lc (xs := [pairI p r, pairI (-r) p, pairI (-p) (-r), pairI r (-p)]) okTurn (fun c => c) (ed_var htn) rfl (by simp) (fun c hc _ => ?_) (fun i y c H3 s3 hc hy => ?_)) (by rw [turns_due nz, htr])
    · rcases List.mem_cons.mp hc with rfl | hc
      · rfl
      rcases List.mem_cons.mp hc with rfl | hc
      · rfl
      rcases List.mem_cons.mp hc with rfl | hc
      · rfl
      rcases List.mem_cons.mp hc with rfl | hc
      · rfl
      cases hc
    · obtain ⟨x1, x2, rfl⟩ : ∃ a b, c = pairI a b := by
        match i, hc with
        | 0, hc => exact ⟨_, _, (Option.some.inj hc).symm⟩
        | 1, hc => exact ⟨_, _, (Option.some.inj hc).symm⟩
        | 2, hc => exact ⟨_, _, (Option.some.inj hc).symm⟩
        | 3, hc => exact ⟨_, _, (Option.some.inj hc).symm⟩
      exact turns_name rfl (et_and (et_test (ev_opI0 (g := fun i j => .bl (decide (j ≤ i))) (ev_I (ed_ix (j := 0) (ed_var hy) rfl ev_c rfl)) ev_c)) fun _ => et_test (ev_opI0 (g := fun i j => .bl (decide (j ≤ i))) (ev_I (ed_ix (j := 1) (ed_var hy) rfl ev_c rfl)) ev_c)) fun _ => ed_var hy
  have hs12 := Dp.same ((s10.trans s11).trans s12) hs9
  have fineT : Fine (pairD tr) := by
    rw [htr]
    obtain ⟨b1, b2⟩ := quart_mem nz
    exact fine_of (tiny_pair (by omega) (by omega))
  have gs : dirF gSlopeOf [.int (n : Int), tupI (unI n p r)] = .ok (pairD tr) := by
    rw [dirF_ok fn (dro rfl)]
    show Out.ok (gSlopeOf n (unI n p r)) = _
    unfold gSlopeOf
    rw [e1, e2, htr]
    rfl
  have so : EvD K (tCallSD (spF K cl (dirF gSlopeOf)) [] (fun _ => E0) (tCons (tVar 2) (tCons (tVar 3) tNil))) [some (.ref sa), some (.ref hd), some (.int (n : Int)), some su, some ax, some (.int p), some (.int r), some tn, some du, none, none, none, none, none, none, none] H12 (pairD tr) :=
    ed_k0 (F := dirF gSlopeOf) (ea_cons (ed_var (.int (n : Int))) (ea_cons (ed_var hs12) ea_nil)) gs
  refine q_when (et_orF (et_is (et_test (ev_neI (ev_len (ed_var hdu) rfl) ev_c)) rfl) (et_orF (et_ne (d := pairD tr) so (ed_ix (j := 0) (ed_var hdu) rfl ev_c rfl) fineT) (et_not (b := true) (et_B (ev_B (ed_k0 (F := fT1) (ea_cons so ea_nil) rfl)))))) (fun hb => by cases hb) (fun _ H13 s13 => ?_)
  have s513 := ((((((s6.trans s7).trans s8).trans s9).trans s10).trans s11).trans s12).trans s13
  have x13 := Nx.of x5.hand s513
  refine d_asg (dr_take (n := 6) x13.hand ev_var ev_c ⟨by decide, by decide⟩ fun mf H14 m0 m6 x14 => ?_)
  obtain ⟨m, rfl⟩ : ∃ m : Nat, mf = (m : Int) := ⟨mf.toNat, by omega⟩
  have hm : m ≤ 5 := by omega
  have hsu14 := x14.dp (x13.dp hsu)
  have hs14 : Dp K H14 su (tupI (unI n p r)) := Dp.same hm_same hsu14
  refine q_when (b := false) (et_is (et_test (ev_neI (ev_I (ed_k0 (F := fOutStep) (ea_cons (ed_var (.int (m : Int))) (ea_cons (ed_var hs14) ea_nil)) (outstep_ok hm len))) (ev_I (ed_k0 (F := fOutStep) (ea_cons (ed_var (.int (m : Int))) (ea_cons (ed_var hs14) ea_nil)) (outstep_ok hm len))))) (by simp)) (fun hb => by cases hb) (fun _ H15 s15 => ?_)
  have x15 := Nx.of x14.hand s15
  refine d_asg (d_call (d_cons (d_var (v := .ref hd) rfl (d_cons (d_var (v := .int (n : Int)) rfl (d_cons (d_var (v := su) rfl ⟨hd, n, su, unI n p r, rfl, hn, x15.hand, x15.dp hsu14, len, fun d ou H16 x16 hou => ?_⟩)))))))
  refine q_asg (ed_k0 (F := fWord) (ea_cons (ed_var (.int (n : Int))) (ea_cons (ed_var hou) ea_nil)) (word_ok hn)) fun wu H17 s17 hwu => ?_
  have hou17 := Dp.same s17 hou
  refine s_forF (ys := [.ref d1, .ref d2, .ref d3, .ref d4]) (fun Q q => ⟨show 4 ≤ sizeLine by decide, fun l hl => q l _ (Same.new hl) upd_same⟩)
    (fun i σ' => ∃ o12 o13, σ' = [some (.ref sa), some (.ref hd), some (.int (n : Int)), some su, some ax, some (.int p), some (.int r), some tn, some du, some (.int (m : Int)), some ou, some wu, o12, o13, none, none]) ⟨none, none, rfl⟩ (fun i x σ' H' s' hx pv => ?_) (fun σ' H' s' pv => ?_)
  · obtain ⟨o12, o13, rfl⟩ := pv
    obtain ⟨fa, F, rfl, deed, dl⟩ : ∃ fa F, x = .ref fa ∧ Deedy P w K mg base cl fa F ∧ DeedLike F := by
      match i, hx with
      | 0, hx => exact ⟨d1, _, (Option.some.inj hx).symm, deed1, deed_cdir⟩
      | 1, hx => exact ⟨d2, _, (Option.some.inj hx).symm, deed2, deed_dirF fun n v => ⟨_, rfl⟩⟩
      | 2, hx => exact ⟨d3, _, (Option.some.inj hx).symm, deed3, deed_dirF fun n v => ⟨_, rfl⟩⟩
      | 3, hx => exact ⟨d4, _, (Option.some.inj hx).symm, deed4, deed_dirF fun n v => ⟨_, rfl⟩⟩
    have hou' := Dp.same s' hou17
    have hwu' := Dp.same s' hwu
    have over : deedO (F [.int ((m : Int) + 6), d]) = some (.list [.str "BadFace", .int ((m : Int) + 6)]) := by
      rw [dl.face _ d face_over']
      rfl
    have last : ∀ {fo : V} {Hx : Hp}, Same H' Hx → EvT (tNot (tB (tCall (spF K cl fLike) [] E0 (tCons (tCallSD (spDeed P w K mg base cl) [] (fun _ => E0) (tCons (tVar 12) (tCons (tOp (rI0 fun i j => .int (i + j)) (tVar 9) (tC (.int 6))) (tCons (tVar 10) tNil)))) (tCons (tLst (tCons (tC (.str "BadFace")) (tCons (tOp (rI0 fun i j => .int (i + j)) (tVar 9) (tC (.int 6))) tNil))) tNil)))))
        [some (.ref sa), some (.ref hd), some (.int (n : Int)), some su, some ax, some (.int p), some (.int r), some tn, some du, some (.int (m : Int)), some ou, some wu, some (.ref fa), some fo, none, none] Hx false := fun sx =>
      et_like (d := .list [.str "BadFace", .int ((m : Int) + 6)]) (ed_deed ev_var deed (ed_I (ev_opI0 (g := fun i j => .int (i + j)) ev_var ev_c)) (ed_var (Dp.same sx hou')) over) (ed_lst (ea_cons ed_str (ea_cons (ed_I (ev_opI0 (g := fun i j => .int (i + j)) ev_var ev_c)) ea_nil)) (by simp)) (fine_badFace (by omega))
    cases ed : dirO n d with
    | inl wd =>
      rw [ed] at hwu'
      have := hwu'.scalS
      subst this
      have ho : deedO (F [.int (n : Int), d]) = some (.list [.str "BadDirection", .str wd]) := by
        rw [dl.bad _ d wd fn ed]
        rfl
      have fw := fine_word (dirO_word ed)
      refine q_asg (K := K) (d := .list [.str "BadDirection", .str wd]) (ed_deed ev_var deed (ed_var (.int (n : Int))) (ed_var hou') ho) fun fo Hx sx hfo => ?_
      refine q_when (b := false) (et_is (et_and (b := false) (et_test (ev_notN (x := .str wd) ev_var)) fun _ => et_ne (d := .list [.str "BadDirection", .str wd]) (ed_var hfo) (ed_lst (ea_cons ed_str (ea_cons (ed_var (.str wd)) ea_nil)) (by simp)) fw) (Bool.and_false _)) (fun hb => by cases hb) (fun _ Hy sy => ?_)
      refine q_when (b := false) (et_is (et_and (b := false) (et_test (ev_isN (x := .str wd) ev_var)) fun hz => absurd (of_decide_eq_true hz) (by intro z; cases z)) (Bool.and_false _)) (fun hb => by cases hb) (fun _ Hz sz => ?_)
      exact s_if (last ((sx.trans sy).trans sz)) (fun hb => by cases hb) fun _ Hl sl => ⟨((sx.trans sy).trans sz).trans sl, _, _, rfl⟩
    | inr v' =>
      rw [ed] at hwu'
      have := hwu'.scalN
      subst this
      obtain ⟨xs, ho1⟩ := dl.ok _ d v' fn ed
      have ho : deedO (F [.int (n : Int), d]) = some (.tuple xs) := by
        rw [ho1]
        rfl
      refine q_asg (K := K) (d := .tuple xs) (ed_deed ev_var deed (ed_var (.int (n : Int))) (ed_var hou') ho) fun fo Hx sx hfo => ?_
      refine q_when (b := false) (et_is (et_and (b := false) (et_test (ev_notN (x := .non) ev_var)) fun hz => by simp at hz) (Bool.and_false _)) (fun hb => by cases hb) (fun _ Hy sy => ?_)
      refine q_when (b := false) (et_is (et_and (b := false) (et_test (ev_isN (x := .non) ev_var)) fun _ => et_B (ev_isi (ed_var (Dp.same sy hfo)) (show kitB "tuple" "list" = some false by decide +kernel))) (Bool.and_false _)) (fun hb => by cases hb) (fun _ Hz sz => ?_)
      exact s_if (last ((sx.trans sy).trans sz)) (fun hb => by cases hb) fun _ Hl sl => ⟨((sx.trans sy).trans sz).trans sl, _, _, rfl⟩
  · exact s_retV (σ := σ') (D' := { nx := fun _ H' => Q .non H', rt := Q }) (v := .bl true) ev_c fun H18 _ => q H18
end
end G4
/-! Z1: what the head is asked; the module's facts. -/
namespace G4
open PySem PySem.Spec PyProof.Rows L2
/-! ### data of constants -/
mutual
def dpB (K : PySem.W.Frag) : Nat → D → Value → Bool
  | _, .int i, .int j _ => decide (i = j)
  | k + 1, .tuple ds, .ref a => (match K.lookup a with
    | some ⟨.type c, _, .seq its _, _⟩ => decide (c = "tuple") && (decide (its.size ≤ sizeLine) && dpsB K k ds its.toList)
    | _ => false)
  | _, _, _ => false
def dpsB (K : PySem.W.Frag) : Nat → List D → List Value → Bool
  | _, [], [] => true
  | k, d :: ds, u :: us => dpB K k d u && dpsB K k ds us
  | _, _, _ => false
end
/-- the value that a scalar, an object is -/
def valV : Value → V
  | .int i _ => .int i
  | .ref a => .ref a
  | _ => .non
mutual
theorem dpB_val {K : PySem.W.Frag} {H : Hp} : ∀ (k : Nat) {d : D} {u : Value}, dpB K k d u = true → RelV (valV u) u ∧ Dp K H (valV u) d
  | k, .int i, .int j t, h => by
    have e : i = j := by
      unfold dpB at h
      exact of_decide_eq_true h
    rw [e]
    exact ⟨⟨t, rfl⟩, .int j⟩
  | k + 1, .tuple ds, .ref a, h => by
    unfold dpB at h
    refine ⟨rfl, ?_⟩
    split at h
    · rename_i c d2 its n sl e
      obtain ⟨h1, h2⟩ := He.ba h
      obtain ⟨h3, h4⟩ := He.ba h2
      obtain ⟨rv, dv⟩ := dpsB_val (H := H) k h4
      exact .tup (Or.inr ⟨_, its, n, e, congrArg Value.type (of_decide_eq_true h1), rfl, of_decide_eq_true h3, rv⟩) dv
    · cases h
theorem dpsB_val {K : PySem.W.Frag} {H : Hp} : ∀ (k : Nat) {ds : List D} {us : List Value}, dpsB K k ds us = true → Vals (us.map valV) us ∧ DpAll K H (us.map valV) ds
  | k, [], [], _ => ⟨.nil, .nil⟩
  | k, d :: ds, u :: us, h => by
    unfold dpsB at h
    obtain ⟨h1, h2⟩ := He.ba h
    obtain ⟨r1, d1⟩ := dpB_val (H := H) k h1
    obtain ⟨r2, d2⟩ := dpsB_val (H := H) k h2
    exact ⟨.cons r1 r2, .cons d1 d2⟩
end
theorem dpB_ok {K : PySem.W.Frag} {H : Hp} {a : Addr} {d : D} (k : Nat) (h : dpB K k d (.ref a) = true) : Dp K H (.ref a) d := (dpB_val k h).2
/-! ### an error class -/
def clsB (K : PySem.W.Frag) (C : Addr) : Bool := match K.lookup C with
  | some ⟨.type "type", _, .cls ⟨_, _, mro, _, _, hd, _, _, _, _, del⟩, sl⟩ => (match mro, sl.toList with
    | .ref C' :: bm, [_, _, _, _, some (.builtin n), _] => decide (C' = C) && (decide (n = "ValueError.__new__") && (hd && (!del && PySem.HandSPX.refsVE bm)))
    | _, _ => false)
  | _ => false
theorem clsB_ok {K : PySem.W.Frag} {C : Addr} (h : clsB K C = true) : ∃ nm q N bs bm sn sub ab col dd k0 k1 k2 k3 k5, K.lookup C = some (excClassObj nm q C N bs bm true sn sub ab col dd k0 k1 k2 k3 k5 "ValueError.__new__") ∧ PySem.HandSPX.refsVE bm = true := by
  unfold clsB at h
  split at h
  · rename_i dd nm bs mro N q hd sn sub ab col del sl e
    split at h
    · rename_i C' bm k0 k1 k2 k3 n k5 esl
      obtain ⟨h1, h⟩ := He.ba h
      obtain ⟨h2, h⟩ := He.ba h
      obtain ⟨h3, h⟩ := He.ba h
      obtain ⟨h4, h5⟩ := He.ba h
      have e1 : C' = C := of_decide_eq_true h1
      have e2 : n = "ValueError.__new__" := of_decide_eq_true h2
      have e4 : del = false := by simpa using h4
      subst e1 e2 h3 e4
      have esl2 : sl = #[k0, k1, k2, k3, some (.builtin "ValueError.__new__"), k5] := by
        obtain ⟨l⟩ := sl
        simp only at esl
        rw [esl]
      rw [esl2] at e
      exact ⟨nm, q, N, bs, bm, sn, sub, ab, col, dd, k0, k1, k2, k3, k5, e, h5⟩
    · cases h
  · cases h
def errB (K : PySem.W.Frag) (x f : Str) : Bool := clsB K (He.ga K x) && (He.eqO (PySem.W.findIn K (.ref (He.ga K x)) "__setattr__") (some (some (.builtin "object.__setattr__"))) && (decide (PySem.W.subIn K (.ref (He.ga K x)) (.type "BaseException") = some true) &&
  (decide (PySem.W.typeIn K (.ref (He.ga K x)) = some (.type "type")) && (PySem.W.keepIn K (.ref (He.ga K x)) && (xfB K (He.ga K x) && (He.eqO (PySem.W.findIn K (.ref (He.ga K x)) "__init__") (some (some (.ref (He.ma K (He.ga K x) "__init__")))) &&
  (decide (PySem.W.typeIn K (.ref (He.ma K (He.ga K x) "__init__")) = some (.type "function")) && He.eqO (PySem.W.findIn K (.ref (He.ga K x)) f) (some none))))))))
theorem err_ok {K : PySem.W.Frag} {mg : Str → Option Value} {x q f : Str} {st : Stmt} (g : mg x = some (.ref (He.ga K x))) (h : errB K x f = true)
    (d : ∃ fd, FunD K "__init__" q (defArgs st) (defBody st) (defScope st) [] [] (He.ma K (He.ga K x) "__init__") fd) : Err K mg (He.ga K x) x q f st := by
  unfold errB at h
  obtain ⟨h1, h⟩ := He.ba h
  obtain ⟨h2, h⟩ := He.ba h
  obtain ⟨h3, h⟩ := He.ba h
  obtain ⟨h4, h⟩ := He.ba h
  obtain ⟨h5, h⟩ := He.ba h
  obtain ⟨h6, h⟩ := He.ba h
  obtain ⟨h7, h⟩ := He.ba h
  obtain ⟨h8, h9⟩ := He.ba h
  obtain ⟨fd, F⟩ := d
  exact ⟨g, ⟨clsB_ok h1, He.eqO_ok h2, of_decide_eq_true h3, of_decide_eq_true h4, h5⟩, ⟨_, fd, He.eqO_ok h7, of_decide_eq_true h8, F⟩, He.eqO_ok h9, xfB_ok h6⟩
def framesD : D := .tuple [.tuple [.int 2, .int 1], .tuple [.int 1, .int 2], .tuple [.int 0, .int 2], .tuple [.int 2, .int 0], .tuple [.int 1, .int 0], .tuple [.int 0, .int 1]]
def xB (K : PySem.W.Frag) : Bool := errB K "BadFace" "face" && (errB K "BadSlope" "slope" && (errB K "BadDirection" "what" && (He.eqO (PySem.W.nsIn K mainGlobals "gcd") (some (some (.builtin "math.gcd"))) && dpB K 2 framesD (.ref (He.ga K "FRAMES")))))
/-! ### the defs -/
def dWhole : He.DefD := ⟨("is_whole", none), "is_whole", "is_whole", defArgs sWhole, defBody sWhole, defScope sWhole, [.non, .non], []⟩
def dCFace : He.DefD := ⟨("check_face", none), "check_face", "check_face", defArgs sCFace, defBody sCFace, defScope sCFace, [], []⟩
def dAxes : He.DefD := ⟨("face_axes", none), "face_axes", "face_axes", defArgs sAxes, defBody sAxes, defScope sAxes, [], []⟩
def dFramed : He.DefD := ⟨("framed", none), "framed", "framed", defArgs sFramed, defBody sFramed, defScope sFramed, [], []⟩
def dCSlope : He.DefD := ⟨("check_slope", none), "check_slope", "check_slope", defArgs sCSlope, defBody sCSlope, defScope sCSlope, [.bl false], []⟩
def dMirror : He.DefD := ⟨("mirrored_slope", none), "mirrored_slope", "mirrored_slope", defArgs sMirror, defBody sMirror, defScope sMirror, [], []⟩
def dCDir : He.DefD := ⟨("check_direction", none), "check_direction", "check_direction", defArgs sCDir, defBody sCDir, defScope sCDir, [], []⟩
def dUnfr : He.DefD := ⟨("unframed", none), "unframed", "unframed", defArgs sUnfr, defBody sUnfr, defScope sUnfr, [], []⟩
def dDirsOn : He.DefD := ⟨("directions_on", none), "directions_on", "directions_on", defArgs sDirsOn, defBody sDirsOn, defScope sDirsOn, [], []⟩
def dSlopeOf : He.DefD := ⟨("slope_of", none), "slope_of", "slope_of", defArgs sSlopeOf, defBody sSlopeOf, defScope sSlopeOf, [], []⟩
def dLeftOf : He.DefD := ⟨("left_of", none), "left_of", "left_of", defArgs sLeftOf, defBody sLeftOf, defScope sLeftOf, [], []⟩
def dBackOf : He.DefD := ⟨("back_of", none), "back_of", "back_of", defArgs sBackOf, defBody sBackOf, defScope sBackOf, [], []⟩
def dOutStep : He.DefD := ⟨("outward_step", none), "outward_step", "outward_step", defArgs sOutStep, defBody sOutStep, defScope sOutStep, [], []⟩
def dHand : He.DefD := ⟨("_law_hand", none), "_law_hand", "_law_hand", defArgs sHand, defBody sHand, defScope sHand, [], []⟩
def dMixed : He.DefD := ⟨("_law_mixed", none), "_law_mixed", "_law_mixed", defArgs sMixed, defBody sMixed, defScope sMixed, [], []⟩
def dTake : He.DefD := ⟨("_law_take", none), "_law_take", "_law_take", defArgs sTake, defBody sTake, defScope sTake, [], []⟩
def dCommon : He.DefD := ⟨("_law_common", none), "_law_common", "_law_common", defArgs sCommon, defBody sCommon, defScope sCommon, [], []⟩
def dLAxes : He.DefD := ⟨("_law_axes", none), "_law_axes", "_law_axes", defArgs sLAxes, defBody sLAxes, defScope sLAxes, [], []⟩
def dSteps : He.DefD := ⟨("_law_steps", none), "_law_steps", "_law_steps", defArgs sSteps, defBody sSteps, defScope sSteps, [], []⟩
def dFour : He.DefD := ⟨("_law_four", none), "_law_four", "_law_four", defArgs sFour, defBody sFour, defScope sFour, [], []⟩
def dLOut : He.DefD := ⟨("_law_out", none), "_law_out", "_law_out", defArgs sLOut, defBody sLOut, defScope sLOut, [], []⟩
def dTuples : He.DefD := ⟨("_law_tuples", none), "_law_tuples", "_law_tuples", defArgs sTuples, defBody sTuples, defScope sTuples, [], []⟩
def dOdd : He.DefD := ⟨("_law_odd", none), "_law_odd", "_law_odd", defArgs sOdd, defBody sOdd, defScope sOdd, [], []⟩
def dRid : He.DefD := ⟨("_law_rid", none), "_law_rid", "_law_rid", defArgs sRid, defBody sRid, defScope sRid, [], []⟩
def dLWhole : He.DefD := ⟨("_law_whole", none), "_law_whole", "_law_whole", defArgs sLWhole, defBody sLWhole, defScope sLWhole, [], []⟩
def dShaped : He.DefD := ⟨("_law_shaped", none), "_law_shaped", "_law_shaped", defArgs sShaped, defBody sShaped, defScope sShaped, [], []⟩
def dPlain : He.DefD := ⟨("_law_plain", none), "_law_plain", "_law_plain", defArgs sPlain, defBody sPlain, defScope sPlain, [], []⟩
def dLike : He.DefD := ⟨("_law_like", none), "_law_like", "_law_like", defArgs sLike, defBody sLike, defScope sLike, [], []⟩
def dSlopeL : He.DefD := ⟨("_law_slope_of", none), "_law_slope_of", "_law_slope_of", defArgs sSlopeL, defBody sSlopeL, defScope sSlopeL, [], []⟩
def dMirrorL : He.DefD := ⟨("_law_mirror", none), "_law_mirror", "_law_mirror", defArgs sMirrorL, defBody sMirrorL, defScope sMirrorL, [], []⟩
def dDeed : He.DefD := ⟨("_law_deed", none), "_law_deed", "_law_deed", defArgs sDeed, defBody sDeed, defScope sDeed, [], []⟩
def dIsSlope : He.DefD := ⟨("_law_is_slope", none), "_law_is_slope", "_law_is_slope", defArgs sIsSlope, defBody sIsSlope, defScope sIsSlope, [], []⟩
def dSlopes : He.DefD := ⟨("_law_slopes", none), "_law_slopes", "_law_slopes", defArgs sSlopes, defBody sSlopes, defScope sSlopes, [], []⟩
def dWord : He.DefD := ⟨("_law_word", none), "_law_word", "_law_word", defArgs sWord, defBody sWord, defScope sWord, [], []⟩
def dDrawn : He.DefD := ⟨("_law_drawn", none), "_law_drawn", "_law_drawn", defArgs sDrawn, defBody sDrawn, defScope sDrawn, [], []⟩
def dSpoilt : He.DefD := ⟨("_law_spoilt", none), "_law_spoilt", "_law_spoilt", defArgs sSpoilt, defBody sSpoilt, defScope sSpoilt, [], []⟩
def dFaceless : He.DefD := ⟨("_law_faceless", none), "_law_faceless", "_law_faceless", defArgs sFaceless, defBody sFaceless, defScope sFaceless, [], []⟩
def dLaw : He.DefD := ⟨("law", none), "law", "law", defArgs sLaw, defBody sLaw, defScope sLaw, [], []⟩
def dInitFace : He.DefD := ⟨("BadFace", some "__init__"), "__init__", "BadFace.__init__", defArgs sInitFace, defBody sInitFace, defScope sInitFace, [], []⟩
def dInitSlope : He.DefD := ⟨("BadSlope", some "__init__"), "__init__", "BadSlope.__init__", defArgs sInitSlope, defBody sInitSlope, defScope sInitSlope, [], []⟩
def dInitDirn : He.DefD := ⟨("BadDirection", some "__init__"), "__init__", "BadDirection.__init__", defArgs sInitDirn, defBody sInitDirn, defScope sInitDirn, [], []⟩
def fn1 : List He.DefD := [dWhole, dCFace, dAxes, dFramed, dCSlope, dMirror, dCDir, dUnfr, dDirsOn, dSlopeOf, dLeftOf, dBackOf, dOutStep, dHand, dMixed, dTake, dCommon, dLAxes, dSteps, dFour]
def fn2 : List He.DefD := [dLOut, dTuples, dOdd, dRid, dLWhole, dShaped, dPlain, dLike, dSlopeL, dMirrorL, dDeed, dIsSlope, dSlopes, dWord, dDrawn, dSpoilt, dFaceless, dLaw, dInitFace, dInitSlope, dInitDirn]
def fn : List He.DefD := fn1 ++ fn2
def fa1 : List He.Fa := [.glo "BadFace", .glo "BadSlope", .glo "BadDirection", .glo "ParcelError", .glo "FRAMES", .glo "is_whole", .glo "check_face", .glo "face_axes", .glo "framed", .glo "check_slope", .glo "mirrored_slope", .glo "check_direction", .glo "unframed", .glo "directions_on", .glo "slope_of", .glo "left_of", .glo "back_of", .glo "outward_step", .glo "_law_hand", .glo "_law_mixed", .glo "_law_take", .glo "_law_common"]
def fa2 : List He.Fa := [.glo "_law_axes", .glo "_law_steps", .glo "_law_four", .glo "_law_out", .glo "_law_tuples", .glo "_law_odd", .glo "_law_rid", .glo "_law_whole", .glo "_law_shaped", .glo "_law_plain", .glo "_law_like", .glo "_law_slope_of", .glo "_law_mirror", .glo "_law_deed", .glo "_law_is_slope", .glo "_law_slopes", .glo "_law_word", .glo "_law_drawn", .glo "_law_spoilt", .glo "_law_faceless", .glo "law"]
def fa3 : List He.Fa := [.free "isinstance", .free "bool", .free "int", .free "list", .free "tuple", .free "len", .free "sorted", .free "range", .free "abs", .free "max", .free "repr", .int "MOST_SLOPE" 9, .int "MOST_STEP" 10000, .exm "BadFace" "BadFace" true, .exm "BadFace" "BadSlope" false, .exm "BadFace" "BadDirection" false, .exm "BadSlope" "BadFace" false, .exm "BadSlope" "BadSlope" true, .exm "BadSlope" "BadDirection" false, .exm "BadDirection" "BadFace" false, .exm "BadDirection" "BadSlope" false, .exm "BadDirection" "BadDirection" true, .exm "BadFace" "ParcelError" true, .exm "BadSlope" "ParcelError" true, .exm "BadDirection" "ParcelError" true]
def fa : List He.Fa := fa1 ++ (fa2 ++ fa3)
/-! ### the Hook -/
abbrev AlX : Type := Bool × He.AlD
def obsX (n : Nat) (g : Addr → Option Obj) : AlX := (xB (He.frG g (He.asD g n)), He.obsDG n fa fn g)
def hookX (n : Nat) : PySem.W.Hook where
  α := AlX
  obs := fun s => obsX n s.heap.get?
  val := fun _ => (true, He.valD fn)
  says := fun _ h => ∃ K : PySem.W.Frag, K.In h ∧ xB K = true ∧ He.SaysD fa fn K
  of := fun _ s e => ⟨He.frG s.heap.get? (He.asD s.heap.get? n), He.frG_in, congrArg (fun z : AlX => z.1) e, congrArg (fun z : AlX => z.2) e⟩
  keeps := fun _ _ _ ⟨K, hK, c⟩ k => ⟨K, PySem.W.Frag.In.keeps hK k, c⟩
theorem obsX_eq {n : Nat} {g : Addr → Option Obj} {s : Shared} (h : ∀ a, g a = s.heap.get? a) : obsX n g = (hookX n).obs s := by
  have e : g = s.heap.get? := funext h
  rw [e] <;> rfl
section
variable {K : PySem.W.Frag} {h : Heap} {mg : Str → Option Value}
def clOf (K : PySem.W.Frag) : Kd → Addr
  | .face => He.ga K "BadFace"
  | .slope => He.ga K "BadSlope"
  | .dirn => He.ga K "BadDirection"
theorem facts (KX : K.In h) (G : h.Ns mainGlobals mg) (c : He.SaysD fa fn K) (x : xB K = true) : Mo K mg (clOf K) (He.ga K "ParcelError") := by
  have glo : ∀ (i : Nat) (n : Str), fa[i]? = some (.glo n) → mg n = some (.ref (He.ga K n)) := fun i n e => He.glo_ok KX G (c.fact i e)
  obtain ⟨x1, x⟩ := He.ba x
  obtain ⟨x2, x⟩ := He.ba x
  obtain ⟨x3, x⟩ := He.ba x
  obtain ⟨x4, x5⟩ := He.ba x
  refine {
    eF := err_ok (x := "BadFace") (f := "face") (glo 0 "BadFace" rfl) x1 (c.def_ 38 (d := dInitFace) rfl)
    eS := err_ok (x := "BadSlope") (f := "slope") (glo 1 "BadSlope" rfl) x2 (c.def_ 39 (d := dInitSlope) rfl)
    eD := err_ok (x := "BadDirection") (f := "what") (glo 2 "BadDirection" rfl) x3 (c.def_ 40 (d := dInitDirn) rfl)
    gP := glo 3 "ParcelError" rfl
    exm := fun k k' => by
      cases k <;> cases k'
      · exact He.exm_ok (c.fact 56 (f := .exm "BadFace" "BadFace" true) rfl)
      · exact He.exm_ok (c.fact 57 (f := .exm "BadFace" "BadSlope" false) rfl)
      · exact He.exm_ok (c.fact 58 (f := .exm "BadFace" "BadDirection" false) rfl)
      · exact He.exm_ok (c.fact 59 (f := .exm "BadSlope" "BadFace" false) rfl)
      · exact He.exm_ok (c.fact 60 (f := .exm "BadSlope" "BadSlope" true) rfl)
      · exact He.exm_ok (c.fact 61 (f := .exm "BadSlope" "BadDirection" false) rfl)
      · exact He.exm_ok (c.fact 62 (f := .exm "BadDirection" "BadFace" false) rfl)
      · exact He.exm_ok (c.fact 63 (f := .exm "BadDirection" "BadSlope" false) rfl)
      · exact He.exm_ok (c.fact 64 (f := .exm "BadDirection" "BadDirection" true) rfl)
    exP := fun k => by
      cases k
      · exact He.exm_ok (c.fact 65 (f := .exm "BadFace" "ParcelError" true) rfl)
      · exact He.exm_ok (c.fact 66 (f := .exm "BadSlope" "ParcelError" true) rfl)
      · exact He.exm_ok (c.fact 67 (f := .exm "BadDirection" "ParcelError" true) rfl)
    gcd := PySem.W.mg_of KX G (He.eqO_ok x4)
    frames := ⟨_, glo 4 "FRAMES" rfl, fun H => dpB_ok 2 x5⟩
    mSlope := He.int_ok KX G (c.fact 54 (f := .int "MOST_SLOPE" 9) rfl)
    mStep := He.int_ok KX G (c.fact 55 (f := .int "MOST_STEP" 10000) rfl)
    free := fun x hx => by
      rcases List.mem_cons.mp hx with rfl | hx
      · exact He.free_ok KX G (c.fact 43 (f := .free "isinstance") rfl)
      rcases List.mem_cons.mp hx with rfl | hx
      · exact He.free_ok KX G (c.fact 44 (f := .free "bool") rfl)
      rcases List.mem_cons.mp hx with rfl | hx
      · exact He.free_ok KX G (c.fact 45 (f := .free "int") rfl)
      rcases List.mem_cons.mp hx with rfl | hx
      · exact He.free_ok KX G (c.fact 46 (f := .free "list") rfl)
      rcases List.mem_cons.mp hx with rfl | hx
      · exact He.free_ok KX G (c.fact 47 (f := .free "tuple") rfl)
      rcases List.mem_cons.mp hx with rfl | hx
      · exact He.free_ok KX G (c.fact 48 (f := .free "len") rfl)
      rcases List.mem_cons.mp hx with rfl | hx
      · exact He.free_ok KX G (c.fact 49 (f := .free "sorted") rfl)
      rcases List.mem_cons.mp hx with rfl | hx
      · exact He.free_ok KX G (c.fact 50 (f := .free "range") rfl)
      rcases List.mem_cons.mp hx with rfl | hx
      · exact He.free_ok KX G (c.fact 51 (f := .free "abs") rfl)
      rcases List.mem_cons.mp hx with rfl | hx
      · exact He.free_ok KX G (c.fact 52 (f := .free "max") rfl)
      rcases List.mem_cons.mp hx with rfl | hx
      · exact He.free_ok KX G (c.fact 53 (f := .free "repr") rfl)
      cases hx
    aWhole := (by
    obtain ⟨fd, F⟩ := c.def_ 0 (d := dWhole) rfl
    exact ⟨_, fd, F, glo 5 "is_whole" rfl⟩)
    aCFace := (by
    obtain ⟨fd, F⟩ := c.def_ 1 (d := dCFace) rfl
    exact ⟨_, fd, F, glo 6 "check_face" rfl⟩)
    aAxes := (by
    obtain ⟨fd, F⟩ := c.def_ 2 (d := dAxes) rfl
    exact ⟨_, fd, F, glo 7 "face_axes" rfl⟩)
    aFramed := (by
    obtain ⟨fd, F⟩ := c.def_ 3 (d := dFramed) rfl
    exact ⟨_, fd, F, glo 8 "framed" rfl⟩)
    aCSlope := (by
    obtain ⟨fd, F⟩ := c.def_ 4 (d := dCSlope) rfl
    exact ⟨_, fd, F, glo 9 "check_slope" rfl⟩)
    aMirror := (by
    obtain ⟨fd, F⟩ := c.def_ 5 (d := dMirror) rfl
    exact ⟨_, fd, F, glo 10 "mirrored_slope" rfl⟩)
    aCDir := (by
    obtain ⟨fd, F⟩ := c.def_ 6 (d := dCDir) rfl
    exact ⟨_, fd, F, glo 11 "check_direction" rfl⟩)
    aUnfr := (by
    obtain ⟨fd, F⟩ := c.def_ 7 (d := dUnfr) rfl
    exact ⟨_, fd, F, glo 12 "unframed" rfl⟩)
    aDirsOn := (by
    obtain ⟨fd, F⟩ := c.def_ 8 (d := dDirsOn) rfl
    exact ⟨_, fd, F, glo 13 "directions_on" rfl⟩)
    aSlopeOf := (by
    obtain ⟨fd, F⟩ := c.def_ 9 (d := dSlopeOf) rfl
    exact ⟨_, fd, F, glo 14 "slope_of" rfl⟩)
    aLeftOf := (by
    obtain ⟨fd, F⟩ := c.def_ 10 (d := dLeftOf) rfl
    exact ⟨_, fd, F, glo 15 "left_of" rfl⟩)
    aBackOf := (by
    obtain ⟨fd, F⟩ := c.def_ 11 (d := dBackOf) rfl
    exact ⟨_, fd, F, glo 16 "back_of" rfl⟩)
    aOutStep := (by
    obtain ⟨fd, F⟩ := c.def_ 12 (d := dOutStep) rfl
    exact ⟨_, fd, F, glo 17 "outward_step" rfl⟩)
    aHand := (by
    obtain ⟨fd, F⟩ := c.def_ 13 (d := dHand) rfl
    exact ⟨_, fd, F, glo 18 "_law_hand" rfl⟩)
    aMixed := (by
    obtain ⟨fd, F⟩ := c.def_ 14 (d := dMixed) rfl
    exact ⟨_, fd, F, glo 19 "_law_mixed" rfl⟩)
    aTake := (by
    obtain ⟨fd, F⟩ := c.def_ 15 (d := dTake) rfl
    exact ⟨_, fd, F, glo 20 "_law_take" rfl⟩)
    aCommon := (by
    obtain ⟨fd, F⟩ := c.def_ 16 (d := dCommon) rfl
    exact ⟨_, fd, F, glo 21 "_law_common" rfl⟩)
    aLAxes := (by
    obtain ⟨fd, F⟩ := c.def_ 17 (d := dLAxes) rfl
    exact ⟨_, fd, F, glo 22 "_law_axes" rfl⟩)
    aSteps := (by
    obtain ⟨fd, F⟩ := c.def_ 18 (d := dSteps) rfl
    exact ⟨_, fd, F, glo 23 "_law_steps" rfl⟩)
    aFour := (by
    obtain ⟨fd, F⟩ := c.def_ 19 (d := dFour) rfl
    exact ⟨_, fd, F, glo 24 "_law_four" rfl⟩)
    aLOut := (by
    obtain ⟨fd, F⟩ := c.def_ 20 (d := dLOut) rfl
    exact ⟨_, fd, F, glo 25 "_law_out" rfl⟩)
    aTuples := (by
    obtain ⟨fd, F⟩ := c.def_ 21 (d := dTuples) rfl
    exact ⟨_, fd, F, glo 26 "_law_tuples" rfl⟩)
    aOdd := (by
    obtain ⟨fd, F⟩ := c.def_ 22 (d := dOdd) rfl
    exact ⟨_, fd, F, glo 27 "_law_odd" rfl⟩)
    aRid := (by
    obtain ⟨fd, F⟩ := c.def_ 23 (d := dRid) rfl
    exact ⟨_, fd, F, glo 28 "_law_rid" rfl⟩)
    aLWhole := (by
    obtain ⟨fd, F⟩ := c.def_ 24 (d := dLWhole) rfl
    exact ⟨_, fd, F, glo 29 "_law_whole" rfl⟩)
    aShaped := (by
    obtain ⟨fd, F⟩ := c.def_ 25 (d := dShaped) rfl
    exact ⟨_, fd, F, glo 30 "_law_shaped" rfl⟩)
    aPlain := (by
    obtain ⟨fd, F⟩ := c.def_ 26 (d := dPlain) rfl
    exact ⟨_, fd, F, glo 31 "_law_plain" rfl⟩)
    aLike := (by
    obtain ⟨fd, F⟩ := c.def_ 27 (d := dLike) rfl
    exact ⟨_, fd, F, glo 32 "_law_like" rfl⟩)
    aSlopeL := (by
    obtain ⟨fd, F⟩ := c.def_ 28 (d := dSlopeL) rfl
    exact ⟨_, fd, F, glo 33 "_law_slope_of" rfl⟩)
    aMirrorL := (by
    obtain ⟨fd, F⟩ := c.def_ 29 (d := dMirrorL) rfl
    exact ⟨_, fd, F, glo 34 "_law_mirror" rfl⟩)
    aDeed := (by
    obtain ⟨fd, F⟩ := c.def_ 30 (d := dDeed) rfl
    exact ⟨_, fd, F, glo 35 "_law_deed" rfl⟩)
    aIsSlope := (by
    obtain ⟨fd, F⟩ := c.def_ 31 (d := dIsSlope) rfl
    exact ⟨_, fd, F, glo 36 "_law_is_slope" rfl⟩)
    aSlopes := (by
    obtain ⟨fd, F⟩ := c.def_ 32 (d := dSlopes) rfl
    exact ⟨_, fd, F, glo 37 "_law_slopes" rfl⟩)
    aWord := (by
    obtain ⟨fd, F⟩ := c.def_ 33 (d := dWord) rfl
    exact ⟨_, fd, F, glo 38 "_law_word" rfl⟩)
    aDrawn := (by
    obtain ⟨fd, F⟩ := c.def_ 34 (d := dDrawn) rfl
    exact ⟨_, fd, F, glo 39 "_law_drawn" rfl⟩)
    aSpoilt := (by
    obtain ⟨fd, F⟩ := c.def_ 35 (d := dSpoilt) rfl
    exact ⟨_, fd, F, glo 40 "_law_spoilt" rfl⟩)
    aFaceless := (by
    obtain ⟨fd, F⟩ := c.def_ 36 (d := dFaceless) rfl
    exact ⟨_, fd, F, glo 41 "_law_faceless" rfl⟩)
    aLaw := (by
    obtain ⟨fd, F⟩ := c.def_ 37 (d := dLaw) rfl
    exact ⟨_, fd, F, glo 42 "law" rfl⟩)
  }
end
end G4
namespace G4
open PySem PySem.Spec PyProof.Rows L2
abbrev hk : PySem.W.Hook := hookX 5
def ob (s : PySem.W.SharedT) : AlX := obsX 5 (HandSHeadRun.getT s)
theorem ob_eq (s : PySem.W.SharedT) : ob s = hk.obs s.abs := obsX_eq (HandSHeadRun.getT_eq s)
abbrev rowR : PySem.W.OpenRow := PySem.W.OpenLaw.row PySem.Challenge.rw_tautparcel_k04_whole_slopes_and_directio
def loose1 : List Str := ["__name__", "ParcelError", "BadFace", "BadSlope", "BadDirection", "is_whole", "FRAMES", "check_face", "face_axes", "framed", "MOST_SLOPE", "MOST_STEP", "check_slope", "mirrored_slope", "check_direction", "unframed", "directions_on", "slope_of", "left_of", "back_of", "outward_step"]
def loose2 : List Str := ["_law_hand", "_law_mixed", "_law_take", "_law_common", "_law_axes", "_law_steps", "_law_four", "_law_out", "_law_tuples", "_law_odd", "_law_rid", "_law_whole", "_law_shaped", "_law_plain", "_law_like", "_law_slope_of", "_law_mirror", "_law_deed", "_law_is_slope", "_law_slopes", "_law_word", "_law_drawn", "_law_spoilt", "_law_faceless"]
def loose : List Str := loose1 ++ loose2
theorem run (w : World) : HandSHeadRun.RunEqI rowR (PySem.W.view rowR.prog [0, 51]) hk ob 20000 loose w := by
  unfold HandSHeadRun.RunEqI
  kernel_rfl
theorem law_facts {P : Program} {w : World} {K : PySem.W.Frag} {h : Heap} {mg : Str → Option Value} {f : Addr} (KX : K.In h) (G : h.Ns mainGlobals mg) (hfa : mg ("law" : Str) = some (.ref f)) (x : xB K = true) (c : He.SaysD fa fn K) :
    ∃ fd : FuncData, (∀ (s : Shared) (v : Value), BindsTo s fd ⟨[v], []⟩ [("_law_script", v)]) ∧ ∀ base : Heap, K.In base → base.Ns mainGlobals mg → FnG P w K mg base (L2N.CX P w) 10 f fd ["_law_script"] (spLaw K) := by
  have M := facts KX G c x
  obtain ⟨f2, fd, F, g⟩ := M.aLaw
  rw [g] at hfa
  cases hfa
  have b := FunD.bindsA (ps := ["_law_script"]) F fun _ _ _ _ _ _ us hl => match us, hl with | [_], _ => rfl
  exact ⟨fd, fun s v => b s [v] rfl, fun base _ _ => ok_law M f fd F⟩
end G4
open PySem PySem.W PySem.Calls PyProof.Rows
theorem PySem.Challenge.cw_tautparcel_k04_whole_slopes_and_directio_holds : PySem.Challenge.rw_tautparcel_k04_whole_slopes_and_directio.Holds := by
  w_on; o_law
  refine HandSHeadRun.head_imp (r := OpenLaw.row PySem.Challenge.rw_tautparcel_k04_whole_slopes_and_directio) (q := view (OpenLaw.row PySem.Challenge.rw_tautparcel_k04_whole_slopes_and_directio).prog [0, 51]) (H := G4.hk) (ob := G4.ob) (M := 20000) (loose := G4.loose) (d := HandSHeadRun.topDef (OpenLaw.row PySem.Challenge.rw_tautparcel_k04_whole_slopes_and_directio).prog 51) (kwd := []) G4.ob_eq
    G4.run (by kernel_rfl) (by kernel_rfl) (by kernel_rfl) (by rfl) (by first | assumption | decide +kernel) (by decide +kernel) ⟨rfl, rfl, rfl, rfl, rfl, by decide +kernel⟩ ?hw ?hc
  case hw => w_witness2
  case hc =>
    refine G4.walk_ofG (l := PySem.Challenge.rw_tautparcel_k04_whole_slopes_and_directio) (n := 63) (k := 10) (x := "_law_script") (CX := fun w => L2N.CX (PySem.Challenge.rw_tautparcel_k04_whole_slopes_and_directio).prog w) rfl (by decide) (by kernel_rfl) ⟨rfl, by decide, by decide⟩ ?F ?X
    case F =>
      intro w mg fa h Y G hmg0
      obtain ⟨K, KX, x, c⟩ := Y
      have hmg : mg ("law" : PySem.Str) = some (.ref fa) := by
        have e : (HandSHeadRun.topDef (OpenLaw.row PySem.Challenge.rw_tautparcel_k04_whole_slopes_and_directio).prog 51).name = ("law" : PySem.Str) := by kernel_rfl
        rw [← e]
        exact hmg0
      obtain ⟨fd, hb, hF⟩ := G4.law_facts (P := (PySem.Challenge.rw_tautparcel_k04_whole_slopes_and_directio).prog) (w := w) KX G hmg x c
      exact ⟨K, fd, G4.spLaw K, KX, hb, fun H a ns hl hS => ⟨a, ns, rfl, hS, hl, fun _ => rfl⟩, hF⟩
    case X =>
      intro w H s e s' z
      obtain ⟨_, _, _, _, _, _, _, _, _, _, _, _, z⟩ := z
      exact z.elim
