import PyProof.Rows.All
import Wide.All
import OpenK.AllK
import Wide.FinOn
import PySem.Challenge.RW_pq0347_02
set_option Elab.async false
set_option maxRecDepth 100000
set_option maxHeartbeats 8000000
namespace Mine
section
open PySem PySem.W PyProof.Rows
set_option maxHeartbeats 8000000
/-- the top's run over a tree of objects, its step and its guard given -/
def runT (stp : SharedT → Thread → Option (SharedT × Thread)) (ok : Thread → Bool) : Nat → SharedT → Thread → Option SharedT
  | 0, _, _ => none
  | n + 1, s, t => match through t with
    | true => some s
    | false => match ok t with
      | false => none
      | true => match stp s t with
        | some (s', t') => runT stp ok n s' t'
        | none => none
theorem runT_of {tb : String → Option Builtin} {p : Program} {w : World} {n₀ : Nat} {ann : Option Value} : ∀ {n : Nat} {s s' : SharedT} {t : Thread}, runT (stepT (denote tb) p w) (stepOk n₀ ann) n s t = some s' → topRun tb p w n₀ ann n s.abs t = some s'.abs
  | 0, _, _, _, h => by cases h
  | n + 1, s, s', t, h => by
    unfold runT at h
    unfold topRun
    cases he : through t with
    | true => rw [he] at h; cases h; rfl
    | false =>
      rw [he] at h
      cases hk : stepOk n₀ ann t with
      | false => rw [hk] at h; cases h
      | true =>
        rw [hk] at h
        cases hs : stepT (denote tb) p w s t with
        | none => rw [hs] at h; cases h
        | some r => obtain ⟨s₂, t₂⟩ := r; rw [hs] at h; rw [stepT_spec hs]; exact runT_of h
noncomputable def bootT (P : Params) : BT :=
  ((((((((((BT.nil.ins 0 (boot_o_0 P)).ins 1 (boot_o_1 P)).ins 2 (boot_o_2 P)).ins 3 (boot_o_3 P)).ins 4 (boot_o_4 P)).ins 5 (boot_o_5 P)).ins 6 (boot_o_6 P)).ins 7 (boot_o_7 P)).ins 8 (boot_o_8 P)).ins 9 (boot_o_9 P)).ins 10 (boot_o_10 P)
theorem bootT_eq (P : Params) : absHeap (bootT P) 11 {} = boot_heap P := by rfl
/-- the top's run behind the boot, in one look -/
theorem left_boot {p q : Program} {loose : List Str} {Xt : Shared → Bool} {α : Type} {Yf : Shared → α} {Ya : World → α} {N : Nat} {g0 : Bool} {ann : Option Value} (e : opening p = plainProg p.main.scope.names) (hN : Nat.ble 600 N = true) (f : ∀ s, fenceModules? p s = some s)
    (size : ∀ w : World, ((boot_heap w.params).isNs mainGlobals && (#[] : Array GenState).size == 0, (boot_heap w.params).objs.size, (boot_heap w.params).nsMap mainGlobals "__annotations__") = (true, 11, ann))
    (h : ∀ (w : World), (fun os => (runT (stepT (denote treeTable) p w) (stepOk 11 ann) N ⟨bootT w.params, 11, {}, Array.mk [], boot_drawn, boot_toks, os⟩ (topStub p)).map (fun s =>
      ((staticsOk (importedModules p.main.body) (boot_heap w.params) s.abs.heap && namesBound p s.abs.heap && gensDone s.abs && laidKept (boot_heap w.params) s.abs.heap), openSeen q loose (importedModules p.main.body) Xt g0 s.abs, Yf s.abs))) = fun _ => some (true, openGood q loose, Ya w)) : LeftO p q loose Xt Yf Ya N g0 := fun w => by
  obtain ⟨⟨h', gs, d, k, os⟩, e, e'⟩ := Option.map_eq_some_iff.mp (boot_open e hN f w)
  obtain ⟨rfl, rfl, rfl, rfl⟩ : h' = boot_heap w.params ∧ gs = Array.mk [] ∧ d = boot_drawn ∧ k = boot_toks := by simpa using e'
  obtain ⟨z1, z2, z3⟩ : _ ∧ _ ∧ _ := by simpa only [Prod.mk.injEq] using size w
  obtain ⟨s', hr, he⟩ := Option.map_eq_some_iff.mp (congrFun (h w) os)
  obtain ⟨l1, l2, l3⟩ : _ ∧ _ ∧ _ := by simpa only [Prod.mk.injEq] using he
  have r := runT_of hr
  have hb : SharedT.abs ⟨bootT w.params, 11, {}, Array.mk [], boot_drawn, boot_toks, os⟩ = ⟨boot_heap w.params, Array.mk [], boot_drawn, boot_toks, os⟩ := by
    unfold SharedT.abs
    rw [bootT_eq]
  rw [hb] at r
  have t : topFrom treeTable p w N ⟨boot_heap w.params, Array.mk [], boot_drawn, boot_toks, os⟩ = some s'.abs := by
    unfold topFrom
    dsimp only
    rw [z1, z2, z3, r]
    show (match staticsOk (importedModules p.main.body) (boot_heap w.params) s'.abs.heap && namesBound p s'.abs.heap && gensDone s'.abs && laidKept (boot_heap w.params) s'.abs.heap with | true => _ | false => _) = _
    rw [l1]
  unfold openEnds
  rw [e]
  show (topFrom treeTable p w N _).map _ = _
  rw [t]
  exact congrArg some (Prod.ext l2 l3)
def vw : Program := view PySem.Challenge.pw_pq0347_02 [0, 2, 3, 4, 5, 6, 7, 8, 9, 10, 11, 13, 15, 16, 17, 18, 19, 20, 21, 22, 23, 24, 25, 26, 28, 29, 30, 31, 32]
abbrev rw : RowW := PySem.Challenge.rw_pq0347_02.row.toRowW
set_option hygiene false in
local macro_rules | `(tactic| o_head $H) => `(tactic| (refine holds_open (q := vw) (loose := []) (Xt := fun s => xlAt vw [] s && recOk (RowW.records rw) s) (XP := XL vw []) (Yf := Hook.obs $H) (Ya := Hook.val $H) (YP := Hook.says $H) (N := 3508) (left_boot (p := PySem.Challenge.pw_pq0347_02) (ann := some (.ref 6)) (by rfl) (by decide) (fun _ => by rfl) (fun _ => by kernel_rfl) ?hl) (Hook.of $H) (Hook.keeps $H) (fun s e => xl_of s (Bool.and_eq_true_iff.mp e).1) XL.keeps (by rfl) (by rfl) (by rfl) (fun s e => recFacts_of (Bool.and_eq_true_iff.mp e).2) (by rfl) (by first | assumption | decide +kernel) (by decide +kernel) ⟨rfl, rfl, rfl, rfl, rfl, by decide +kernel⟩ ?hw ?hc; (case hl => (intro w; rw [PySem.W.Fast.te10156331382660048174, PySem.W.Fast.te6613529449190102663, PySem.W.Fast.te11892475500146522536, PySem.W.Fast.te14364793385576792824, PySem.W.Fast.te4187177175401517315]; kernel_rfl))))
open_top hd for PySem.Challenge.rw_pq0347_02
theorem top_off : True := by
  w_top off
  trivial
end
section
open PySem PySem.W PyProof.Rows PySem.Calls

/-- a contract of a def: the ledger A is what it may turn, R is what it reads -/
def Ctr (prog : Program) (w : World) (K : Frag) (p : Program) (loose : List Str) (mean : ExcName → Option Value) (mg mb : Str → Option Value) (dR dU : Nat) (f : Addr) (vs : List Value) (A R : List (Addr × Obj)) (post : Value → List (Addr × Obj) → Prop) : Prop :=
  ∀ (dp un : Nat) (gd : Option (List Code)) (cn : Str) (cs : Scope) (a : Addr) (ccd : Value) (cl : List (Str × Addr)) (outer : List Env) (A₀ : Around) (base h₀ : Heap) (L : Addr) (m : Str → Option Value) (s : Shared) (Q E : Value → Shared → Prop),
    Below A₀ base outer h₀ → Fr h₀ L s.heap m → K.In h₀ → News h₀ L s.heap A → Top p loose mean mg mb h₀ → cs.kind = .function →
    (∀ q ∈ R, s.heap.get? q.1 = some q.2) → (∀ q ∈ R, ∀ r ∈ A, r.1 ≠ q.1) → dp + dR < recursionLimit → un + dU < cLine →
    (∀ v A' h' tk', post v A' → GSub s.heap h' (A.map (·.1)) → Fr h₀ L h' m → News h₀ L h' A' → (∀ q ∈ A', q.1 ∉ A.map (·.1) → s.heap.get? q.1 = none) → Q v { s with heap := h', toks := tk' }) →
    wpAny (model prog w) (ktrTop dp un gd cn cs L a ccd cl outer) (call (.ref f) vs) Q E s

/-- the end of a body -/
def CEnd (g : Heap) (L : Addr) (post : Value → List (Addr × Obj) → Prop) (s₁ : Shared) (v : Value) (s' : Shared) : Prop :=
  ∃ m' A' h' tk', Fr g L h' m' ∧ News g L h' A' ∧ s' = { s₁ with heap := h', toks := tk' } ∧ post v A'
theorem CEnd.put {g : Heap} {L : Addr} {post : Value → List (Addr × Obj) → Prop} {s₁ : Shared} {v : Value} {h' : Heap} {tk' : Nat} {m' : Str → Option Value} {A₂ A' : List (Addr × Obj)}
    (F : Fr g L h' m') (N : News g L h' A₂) (hs : ∀ q ∈ A', q ∈ A₂) (hp : post v A') : CEnd g L post s₁ v { s₁ with heap := h', toks := tk' } :=
  ⟨m', A', h', tk', F, fun q hq => N q (hs q hq), rfl, hp⟩
theorem CEnd.put0 {g : Heap} {L : Addr} {P : Value → Prop} {s₁ : Shared} {v : Value} {h' : Heap} {tk' : Nat} {m' : Str → Option Value}
    (F : Fr g L h' m') (hp : P v) : CEnd g L (fun v A => A = [] ∧ P v) s₁ v { s₁ with heap := h', toks := tk' } :=
  ⟨m', [], h', tk', F, fun _ hq => (nomatch hq), rfl, rfl, hp⟩
theorem sub_nil {A : List (Addr × Obj)} : ∀ q ∈ ([] : List (Addr × Obj)), q ∈ A := fun _ h => (nomatch h)
section
variable {prog : Program} {w : World} {K : Frag} {p : Program} {loose : List Str} {mean : ExcName → Option Value} {mg mb : Str → Option Value} {dR dU : Nat} {f : Addr} {vs : List Value} {A R : List (Addr × Obj)} {post : Value → List (Addr × Obj) → Prop}

theorem news_kept {h₀ h h' : Heap} {L : Addr} {ad : List Addr} {news : List (Addr × Obj)} (N : News h₀ L h news) (G : GSub h h' ad) (hn : ∀ q ∈ news, q.1 ∉ ad) : News h₀ L h' news :=
  fun q hq => ⟨G _ _ (N q hq).1 (hn q hq), (N q hq).2⟩

theorem ctr_enter {name qual : Str} {params : Arguments} {body : List Stmt} {scope : Scope} {dV kV doc pm cdv ct oc : Value} {an od : Option Addr} {osl : Array (Option Value)} (binds rb : List (Str × Value))
    (ho : K.lookup f = some ⟨oc, od, .func (fnOf name qual params body scope dV kV doc pm an cdv ct), osl⟩) (hcd : codeIn K cdv qual = true)
    (hbind : bindArgs (fnOf name qual params body scope dV kV doc pm an cdv ct) ⟨vs, []⟩ = pure binds) (hrb : binds.reverse = rb) (hloc : ∀ y ∈ binds, scope.names.lookup y.1 = some .local)
    (h : ∀ (dp un : Nat) (gd : Option (List Code)) (cn : Str) (cs : Scope) (a : Addr) (ccd : Value) (cl : List (Str × Addr)) (outer : List Env) (base g : Heap) (L' L₀ : Addr) (s₁ : Shared),
      Fr g L' s₁.heap (fun y => rb.lookup y) → News g L' s₁.heap A → Below (ktrTop dp un gd cn cs L₀ a ccd cl outer) base (envX cn cs L₀ a ccd cl :: outer) g → K.In g → Top p loose mean mg mb g →
      (∀ q ∈ R, g.get? q.1 = some q.2) → dp + dR < recursionLimit → un + dU < cLine →
      let A9 : Around := (ktrTop dp un gd cn cs L₀ a ccd cl outer).deeper (envOf qual scope L' f cdv)
      let e9 : Env := envOf qual scope L' f cdv
      wpAny (model prog w) A9 (execs body e9) (fun fl s' => CEnd g L' post s₁ (match fl with | .ret v => v | _ => .none) s') (fun _ _ => False) s₁)
    (hco : scope.isCoroutine = false) (hgen : scope.isGenerator = false) (hk : scope.kind = .function) (hcell : ∀ x ∈ scope.names, x.2 ≠ .cell) : Ctr prog w K p loose mean mg mb dR dU f vs A R post := by
  subst hrb
  intro dp un gd cn cs a ccd cl outer A₀ base h₀ L m s Q E B F X N T hke hR hRA hd hu ret
  have hroom : (ktrTop dp un gd cn cs L a ccd cl outer).depth < recursionLimit := by show dp < recursionLimit; omega
  refine wpAny_call ?_
  refine code_defG (A := ktrTop dp un gd cn cs L a ccd cl outer) (env := envX cn cs L a ccd cl) B F X N T rfl rfl hke ho hcd hroom (BindsTo.of_eq hbind) hloc (fun g L' h₁ FG F' N' B' X' T' G => ?_) hco hgen hk hcell
  have hR' : ∀ q ∈ R, g.get? q.1 = some q.2 := fun q hq => G _ _ (hR q hq) fun hm => by
    obtain ⟨r, hr, e⟩ := List.mem_map.mp hm
    exact hRA q hq r hr e
  refine wpAny_mono (h dp un gd cn cs a ccd cl outer base g L' L { s with heap := h₁, toks := s.toks + binds.length } F' N' B' X' T' hR' hd hu) (fun fl s' hq => ?_) (fun _ _ x => x.elim)
  obtain ⟨m', A', h', tk', F₂, N₂, rfl, hp⟩ := hq
  exact leaveK_ F₂ N₂ fun F₃ N₃ => ret _ A' h' tk' hp (fun b o e n => F₂.keep b o (G b o e n)) F₃ N₃ (fun q hq n => by
    cases e : s.heap.get? q.1 with
    | none => rfl
    | some o => have := G _ _ e n; rw [(N₂ q hq).2.2] at this; cases this)

theorem Ctr.use {dp un : Nat} {gd : Option (List Code)} {cn : Str} {cs : Scope} {a : Addr} {ccd : Value} {cl : List (Str × Addr)} {outer : List Env} {A₀ : Around} {base h₀ : Heap} {L : Addr} {m : Str → Option Value} {s : Shared} {Q E : Value → Shared → Prop}
    (C : Ctr prog w K p loose mean mg mb dR dU f vs A R post) (B : Below A₀ base outer h₀) (F : Fr h₀ L s.heap m) (X : K.In h₀) (N : News h₀ L s.heap A) (T : Top p loose mean mg mb h₀) (hk : cs.kind = .function)
    (hR : ∀ q ∈ R, s.heap.get? q.1 = some q.2) (hRA : ∀ q ∈ R, ∀ r ∈ A, r.1 ≠ q.1) (hd : dp + dR < recursionLimit) (hu : un + dU < cLine)
    (ret : ∀ v A' h' tk', post v A' → GSub s.heap h' (A.map (·.1)) → Fr h₀ L h' m → News h₀ L h' A' → (∀ q ∈ A', q.1 ∉ A.map (·.1) → s.heap.get? q.1 = none) → Q v { s with heap := h', toks := tk' }) :
    wpAny (model prog w) (ktrTop dp un gd cn cs L a ccd cl outer) (call (.ref f) vs) Q E s := C _ _ _ _ _ _ _ _ _ _ _ _ _ _ _ _ _ B F X N T hk hR hRA hd hu ret

/-- the use of a contract that turns nothing and makes nothing -/
theorem Ctr.useP {dp un : Nat} {gd : Option (List Code)} {cn : Str} {cs : Scope} {a : Addr} {ccd : Value} {cl : List (Str × Addr)} {outer : List Env} {A₀ : Around} {base h₀ : Heap} {L : Addr} {m : Str → Option Value} {s : Shared} {Q E : Value → Shared → Prop} {news : List (Addr × Obj)} {P : Value → Prop}
    (C : Ctr prog w K p loose mean mg mb dR dU f vs [] R (fun v A => A = [] ∧ P v)) (B : Below A₀ base outer h₀) (F : Fr h₀ L s.heap m) (X : K.In h₀) (N : News h₀ L s.heap news) (T : Top p loose mean mg mb h₀) (hk : cs.kind = .function)
    (hR : ∀ q ∈ R, s.heap.get? q.1 = some q.2) (hd : dp + dR < recursionLimit) (hu : un + dU < cLine)
    (ret : ∀ v h' tk', P v → Fr h₀ L h' m → News h₀ L h' news → Q v { s with heap := h', toks := tk' }) :
    wpAny (model prog w) (ktrTop dp un gd cn cs L a ccd cl outer) (call (.ref f) vs) Q E s :=
  C.use B F X News.nil T hk hR (fun _ _ _ h => (nomatch h)) hd hu fun v _ h' tk' hp G F' _ _ => ret v h' tk' hp.2 F'
    (fun q hq => ⟨G _ _ (N q hq).1 (fun h => (nomatch h)), (N q hq).2⟩)

/-- the use of a contract that turns nothing: the whole ledger stands -/
theorem Ctr.use0 {dp un : Nat} {gd : Option (List Code)} {cn : Str} {cs : Scope} {a : Addr} {ccd : Value} {cl : List (Str × Addr)} {outer : List Env} {A₀ : Around} {base h₀ : Heap} {L : Addr} {m : Str → Option Value} {s : Shared} {Q E : Value → Shared → Prop} {news : List (Addr × Obj)}
    (C : Ctr prog w K p loose mean mg mb dR dU f vs [] R post) (B : Below A₀ base outer h₀) (F : Fr h₀ L s.heap m) (X : K.In h₀) (N : News h₀ L s.heap news) (T : Top p loose mean mg mb h₀) (hk : cs.kind = .function)
    (hR : ∀ q ∈ R, s.heap.get? q.1 = some q.2) (hd : dp + dR < recursionLimit) (hu : un + dU < cLine)
    (ret : ∀ v A' h' tk', post v A' → Fr h₀ L h' m → News h₀ L h' (A' ++ news) → (∀ q ∈ A', ∀ r ∈ news, r.1 ≠ q.1) → Q v { s with heap := h', toks := tk' }) :
    wpAny (model prog w) (ktrTop dp un gd cn cs L a ccd cl outer) (call (.ref f) vs) Q E s :=
  C.use B F X News.nil T hk hR (fun _ _ _ h => (nomatch h)) hd hu fun v A' h' tk' hp G F' N' fr => ret v A' h' tk' hp F'
    (fun q hq => (List.mem_append.mp hq).elim (N' q) fun hq => ⟨G _ _ (N q hq).1 (fun h => (nomatch h)), (N q hq).2⟩) fun q hq r hr e => by
      have h1 := fr q hq (fun h => (nomatch h))
      rw [← e, (N r hr).1] at h1; cases h1
end

/-- a contract of a class's call: what is made comes ahead of the ledger -/
def CtrK (prog : Program) (w : World) (K : Frag) (p : Program) (loose : List Str) (mean : ExcName → Option Value) (mg mb : Str → Option Value) (dR dU : Nat) (f : Addr) (vs : List Value) (post : Value → List (Addr × Obj) → Prop) : Prop :=
  ∀ (dp un : Nat) (gd : Option (List Code)) (cn : Str) (cs : Scope) (a : Addr) (ccd : Value) (cl : List (Str × Addr)) (outer : List Env) (A₀ : Around) (base h₀ : Heap) (L : Addr) (m : Str → Option Value) (s : Shared) (Q E : Value → Shared → Prop) (news : List (Addr × Obj)),
    Below A₀ base outer h₀ → Fr h₀ L s.heap m → K.In h₀ → News h₀ L s.heap news → Top p loose mean mg mb h₀ → cs.kind = .function → dp + dR < recursionLimit → un + dU < cLine →
    (∀ v A' h' tk', post v A' → (∀ q ∈ A', ∀ r ∈ news, r.1 < q.1) → Fr h₀ L h' m → News h₀ L h' (A' ++ news) → Q v { s with heap := h', toks := tk' }) →
    wpAny (model prog w) (ktrTop dp un gd cn cs L a ccd cl outer) (call (.ref f) vs) Q E s
theorem CtrK.use {prog : Program} {w : World} {K : Frag} {p : Program} {loose : List Str} {mean : ExcName → Option Value} {mg mb : Str → Option Value} {dR dU : Nat} {f : Addr} {vs : List Value} {post : Value → List (Addr × Obj) → Prop}
    {dp un : Nat} {gd : Option (List Code)} {cn : Str} {cs : Scope} {a : Addr} {ccd : Value} {cl : List (Str × Addr)} {outer : List Env} {A₀ : Around} {base h₀ : Heap} {L : Addr} {m : Str → Option Value} {s : Shared} {Q E : Value → Shared → Prop} {news : List (Addr × Obj)}
    (C : CtrK prog w K p loose mean mg mb dR dU f vs post) (B : Below A₀ base outer h₀) (F : Fr h₀ L s.heap m) (X : K.In h₀) (N : News h₀ L s.heap news) (T : Top p loose mean mg mb h₀) (hk : cs.kind = .function) (hd : dp + dR < recursionLimit) (hu : un + dU < cLine)
    (ret : ∀ v A' h' tk', post v A' → (∀ q ∈ A', ∀ r ∈ news, r.1 < q.1) → Fr h₀ L h' m → News h₀ L h' (A' ++ news) → Q v { s with heap := h', toks := tk' }) :
    wpAny (model prog w) (ktrTop dp un gd cn cs L a ccd cl outer) (call (.ref f) vs) Q E s := C _ _ _ _ _ _ _ _ _ _ _ _ _ _ _ _ _ _ B F X N T hk hd hu ret

def Stop (P : Prop) : Prop := P
theorem Stop.go {P : Prop} (h : P) : Stop P := h
/-- a mark in the context: stop at calls of the text's own -/
def StopC : Prop := True
theorem stopC : StopC := trivial
section
variable {M : Model} {A : Around} {E : Value → Shared → Prop} {s : Shared} {env : Env}
theorem callN {x : Str} {p pos : Pos} {args : List Expr} {Q : Value → Shared → Prop} (h : wpAny M A (eval (.Name x p) env) (fun f s₁ => wpAny M A (callWith pos f [] (backTo pos (starEach args env)) []) Q E s₁) E s) :
    wpAny M A (eval (.Call (.Name x p) args [] pos) env) Q E s := Call_ h
theorem stop_call {f : Addr} {vs : List Value} {kw : List (Str × Value)} {Q : Value → Shared → Prop} (_ : StopC) (h : Stop (wpAny M A (call (.ref f) vs kw) Q E s)) : wpAny M A (call (.ref f) vs kw) Q E s := h
theorem stop_comp {elt : Expr} {gs : List Comprehension} {sc : Scope} {pos : Pos} {Q : Value → Shared → Prop} (_ : StopC) (h : Stop (wpAny M A (eval (.ListComp elt gs sc pos) env) Q E s)) : wpAny M A (eval (.ListComp elt gs sc pos) env) Q E s := h
theorem stop_acomp {ts : List Expr} {elt : Expr} {gs : List Comprehension} {sc : Scope} {pos pos' : Pos} {Q : Flow → Shared → Prop} (_ : StopC) (h : Stop (wpAny M A (exec (.Assign ts (.ListComp elt gs sc pos) pos') env) Q E s)) : wpAny M A (exec (.Assign ts (.ListComp elt gs sc pos) pos') env) Q E s := h
theorem stop_for {tg it : Expr} {b e : List Stmt} {pos : Pos} {Q : Flow → Shared → Prop} (_ : StopC) (h : Stop (wpAny M A (exec (.For tg it b e pos) env) Q E s)) : wpAny M A (exec (.For tg it b e pos) env) Q E s := h
theorem stop_slice {v : Expr} {a b c : Option Expr} {p : Pos} {x : Str} {t : Tok} {r : Addr} {Q : Value → Shared → Prop} (h : Stop (wpAny M A (subscriptTail v (.Slice a b c p) (.str x t) (.ref r)) Q E s)) : wpAny M A (subscriptTail v (.Slice a b c p) (.str x t) (.ref r)) Q E s := h
theorem stop_iter {v : Value} {Q : Value → Shared → Prop} (_ : StopC) (h : Stop (wpAny M A (pyIter v) Q E s)) : wpAny M A (pyIter v) Q E s := h
end
theorem stop_src {prog : Program} {w : World} {A : Around} {h₀ : Heap} {L : Addr} {m : Str → Option Value} {env : Env} {elt : Expr} {x : Str} {scope : Scope} {cl : List (Str × Addr)} {Fin : Shared → List Value → List (Addr × Obj) → Prop} {xv : Value} {s₁ : Shared}
    (_ : StopC) (h : Stop (LCg.CompSrc prog w A h₀ L m env elt x scope cl Fin xv s₁)) : LCg.CompSrc prog w A h₀ L m env elt x scope cl Fin xv s₁ := h
theorem stop_cend {h₀ : Heap} {L : Addr} {m : Str → Option Value} {s₁ : Shared} {I : Addr} {oI : Obj} {C : Addr} {oC : Obj} {D : Addr} {oD : Obj} {S : List (Addr × Obj) → Prop} {rest : Value → List (Addr × Obj) → Prop} {y : Value} {s₂ : Shared}
    (h : Stop (LCg.CompEnd h₀ L m s₁ I oI C oC D oD S rest y s₂)) : LCg.CompEnd h₀ L m s₁ I oI C oC D oD S rest y s₂ := h
theorem stop_end {g : Heap} {L : Addr} {post : Value → List (Addr × Obj) → Prop} {s₁ : Shared} {v : Value} {s' : Shared} (h : Stop (CEnd g L post s₁ v s')) : CEnd g L post s₁ v s' := h
theorem stop_inv {h₀ : Heap} {L : Addr} {J : (Str → Option Value) → List (Addr × Obj) → Prop} {own : List (Addr × Obj)} {adr : List Addr} {s₁ s₂ : Shared} (h : Stop (InvEndN h₀ L J own adr s₁ s₂)) : InvEndN h₀ L J own adr s₁ s₂ := h

/-- a comprehension's turns, by an invariant over what is made and the ledger -/
theorem comp_rest {prog : Program} {w : World} {A : Around} {h₀ : Heap} {L : Addr} {m : Str → Option Value} {env : Env} {elt : Expr} {x : Str} {scope : Scope} {cl : List (Str × Addr)} {s : Shared} {S : List (Addr × Obj) → Prop} {P : Nat → Value → Prop} {Fin : List Value → List (Addr × Obj) → Prop} {news : List (Addr × Obj)} {n : Nat}
    (J : Nat → List Value → List (Addr × Obj) → Prop) (h0 : J 0 [] news)
    (turn : ∀ i v ys nw I oI C oC D m₂ h tk (E' : Value → Shared → Prop), i < n → P i v → J i ys nw → LCg.NsObj oC m₂ → m₂ x = some v → Fr h₀ L h m → News h₀ L h ((I, oI) :: (C, oC) :: (D, LCg.lst ys) :: nw) → LCg.Off3 I C D nw → ((@Ne Nat I C) ∧ (@Ne Nat I D) ∧ (@Ne Nat C D)) →
      wpAny (model prog w) A (eval elt (compEnvC scope cl C env)) (LCg.CompEnd h₀ L m { s with heap := h, toks := tk } I oI C oC D (LCg.lst ys) S (fun y nw' => J (i + 1) (ys ++ [y]) nw')) E' { s with heap := h, toks := tk })
    (fin : ∀ ys nw, J n ys nw → Fin ys nw) : LCg.CompRest prog w A h₀ L m env elt x scope cl s S P Fin n 0 [] news := by
  have key : ∀ (j i : Nat) (ys : List Value) (nw : List (Addr × Obj)), i + j = n → J i ys nw → LCg.CompRest prog w A h₀ L m env elt x scope cl s S P Fin j i ys nw := by
    intro j
    induction j with
    | zero => intro i ys nw hi hj; have e : i = n := by omega
              subst e; exact LCg.CompRest.zero (fin ys nw hj)
    | succ j ih =>
      intro i ys nw hi hj
      refine LCg.CompRest.succ ?_
      intro v I oI C oC D m₂ h tk E' hv hC hx F N off ne
      refine wpAny_mono (turn i v ys nw I oI C oC D m₂ h tk E' (by omega) hv hj hC hx F N off ne) (fun y s₂ hq => ?_) fun _ _ e => e
      obtain ⟨h', tk', nw', e, F', N', off', hS, hj'⟩ := hq
      exact ⟨h', tk', nw', e, F', N', off', hS, ih (i + 1) _ nw' (by omega) hj'⟩
  exact key n 0 [] news (by omega) h0
theorem news_perm3 {h₀ h : Heap} {L : Addr} {a b c : Addr × Obj} {rest : List (Addr × Obj)} (N : News h₀ L h (a :: b :: c :: rest)) : News h₀ L h (c :: a :: b :: rest) := fun q hq => N q (by
  rcases List.mem_cons.mp hq with rfl | hq
  · exact .tail _ (.tail _ (.head _))
  · rcases List.mem_cons.mp hq with rfl | hq
    · exact .head _
    · rcases List.mem_cons.mp hq with rfl | hq
      · exact .tail _ (.head _)
      · exact .tail _ (.tail _ (.tail _ hq)))
def All2 (G : Int → Value → Prop) : List Int → List Value → Prop
  | [], [] => True
  | k :: ns, y :: ys => G k y ∧ All2 G ns ys
  | _, _ => False
theorem all2_snoc {G : Int → Value → Prop} {k : Int} {y : Value} (h : G k y) : ∀ {ns : List Int} {ys : List Value}, All2 G ns ys → All2 G (ns ++ [k]) (ys ++ [y])
  | [], [], _ => ⟨h, trivial⟩
  | _ :: _, _ :: _, q => ⟨q.1, all2_snoc h q.2⟩
  | [], _ :: _, q => q.elim
  | _ :: _, [], q => q.elim
theorem all2_ints {f : Int → Int} : ∀ {ns : List Int} {ys : List Value}, All2 (fun k y => ∃ t, y = .int (f k) t) ns ys → IntsAre ys (ns.map f)
  | [], [], _ => .nil
  | _ :: _, _ :: _, ⟨⟨t, e⟩, q⟩ => by subst e; exact .cons _ _ (all2_ints q)
  | [], _ :: _, q => q.elim
  | _ :: _, [], q => q.elim
theorem all2_bools {f : Int → Bool} : ∀ {ns : List Int} {ys : List Value}, All2 (fun k y => y = .bool (f k)) ns ys → LSm.BoolsAre ys (ns.map f)
  | [], [], _ => .nil
  | _ :: _, _ :: _, ⟨e, q⟩ => by subst e; exact .cons _ (all2_bools q)
  | [], _ :: _, q => q.elim
  | _ :: _, [], q => q.elim
/-- a comprehension over a list of ints that turns no ledger -/
theorem comp_base {prog : Program} {w : World} {A : Around} {h₀ : Heap} {L : Addr} {m : Str → Option Value} {env : Env} {elt : Expr} {x : Str} {scope : Scope} {cl : List (Str × Addr)} {s : Shared} {S : List (Addr × Obj) → Prop} {Fin : List Value → List (Addr × Obj) → Prop} {news : List (Addr × Obj)} {vs : List Value} {ns : List Int}
    (G : Int → Value → Prop) (hi : IntsAre vs ns)
    (turn : ∀ k t ys I oI C oC D m₂ h tk (E' : Value → Shared → Prop), k ∈ ns → LCg.NsObj oC m₂ → m₂ x = some (.int k t) → Fr h₀ L h m → News h₀ L h ((I, oI) :: (C, oC) :: (D, LCg.lst ys) :: news) → LCg.Off3 I C D news → ((@Ne Nat I C) ∧ (@Ne Nat I D) ∧ (@Ne Nat C D)) →
      wpAny (model prog w) A (eval elt (compEnvC scope cl C env)) (LCg.CompEnd h₀ L m { s with heap := h, toks := tk } I oI C oC D (LCg.lst ys) S (fun y nw' => nw' = news ∧ G k y)) E' { s with heap := h, toks := tk })
    (fin : ∀ ys, All2 G ns ys → Fin ys news) : LCg.CompRest prog w A h₀ L m env elt x scope cl s S (fun i v => vs.toArray[i]? = some v) Fin vs.toArray.size 0 [] news := by
  refine comp_rest (fun i ys nw => nw = news ∧ All2 G (ns.take i) ys) ⟨rfl, trivial⟩ ?_ ?_
  · rintro i v ys nw I oI C oC D m₂ h tk E' hin hP ⟨rfl, hy⟩ hC hx F N off ne
    obtain ⟨k, t, rfl, hk⟩ := IntsAre.at hi i v (by simpa using hP)
    refine wpAny_mono (turn k t ys I oI C oC D m₂ h tk E' (List.mem_of_getElem? hk) hC hx F N off ne) (fun y s₂ hq => ?_) fun _ _ e => e
    obtain ⟨h', tk', nw', e, F', N', off', hS, hn, hg⟩ := hq
    refine ⟨h', tk', nw', e, F', N', off', hS, hn, ?_⟩
    rw [List.take_add_one, hk]
    exact all2_snoc hg hy
  · rintro ys nw ⟨rfl, hy⟩
    refine fin ys ?_
    rw [List.size_toArray, hi.length, List.take_length] at hy
    exact hy
end
section
open PySem PySem.W PyProof.Rows PySem.Calls PySem.Spec
set_option maxHeartbeats 2000000
section
variable {prog : Program} {w : World} {A : Around} {E : Value → Shared → Prop} {s : Shared} {h₀ : Heap} {L : Addr} {m : Str → Option Value} {env : Env}

/-- a comprehension's source: a text -/
def StrSrc (prog : Program) (w : World) (A : Around) (h₀ : Heap) (L : Addr) (m : Str → Option Value) (env : Env) (elt : Expr) (x : Str) (scope : Scope) (cl : List (Str × Addr)) (Fin : Shared → List Value → List (Addr × Obj) → Prop) (xv : Value) (s₁ : Shared) : Prop :=
  ∃ y t news, xv = .str y t ∧ A.handled = none ∧ Fr h₀ L s₁.heap m ∧ News h₀ L s₁.heap news ∧ y.cps.size ≤ sizeLine ∧
    ∀ s₂ : Shared, (∃ h, s₂ = { s₁ with heap := h }) → LCg.CompRest prog w A h₀ L m env elt x scope cl s₂ (fun _ => True) (SignAt y) (Fin s₂) y.cps.size 0 [] news
def StrSrcT (prog : Program) (w : World) (A : Around) (h₀ : Heap) (L : Addr) (m : Str → Option Value) (env : Env) (ct elt : Expr) (x : Str) (scope : Scope) (cl : List (Str × Addr)) (Fin : Shared → List Value → List (Addr × Obj) → Prop) (xv : Value) (s₁ : Shared) : Prop :=
  ∃ y t news, xv = .str y t ∧ A.handled = none ∧ Fr h₀ L s₁.heap m ∧ News h₀ L s₁.heap news ∧ y.cps.size ≤ sizeLine ∧
    ∀ s₂ : Shared, (∃ h, s₂ = { s₁ with heap := h }) → LCt.CompRestT prog w A h₀ L m env ct elt x scope cl s₂ (fun _ => True) (SignAt y) (Fin s₂) y.cps.size 0 [] news
theorem stop_ssrc {elt : Expr} {x : Str} {scope : Scope} {cl : List (Str × Addr)} {Fin : Shared → List Value → List (Addr × Obj) → Prop} {xv : Value} {s₁ : Shared} (h : Stop (StrSrc prog w A h₀ L m env elt x scope cl Fin xv s₁)) : StrSrc prog w A h₀ L m env elt x scope cl Fin xv s₁ := h
theorem stop_ssrcT {ct elt : Expr} {x : Str} {scope : Scope} {cl : List (Str × Addr)} {Fin : Shared → List Value → List (Addr × Obj) → Prop} {xv : Value} {s₁ : Shared} (h : Stop (StrSrcT prog w A h₀ L m env ct elt x scope cl Fin xv s₁)) : StrSrcT prog w A h₀ L m env ct elt x scope cl Fin xv s₁ := h
theorem striter_st {I : Addr} {ty : String} {y : Str} {t : Tok} : ∀ i (h h' : Heap) (o : Obj) (nw : List (Addr × Obj)), h.IsStrIter I ty y t i → h.get? I = some o → h'.get? I = some o → (∀ b o, h₀.get? b = some o → h'.get? b = some o) → News h₀ L h' nw → True → h'.IsStrIter I ty y t i :=
  fun i h h' o nw st e e' _ _ _ => by
    obtain ⟨o', ho, r⟩ := st
    rw [e] at ho
    cases ho
    exact ⟨o, e', r⟩

theorem ListComp_S {elt iter : Expr} {x : Str} {px : Pos} {scope : Scope} {cl : List (Str × Addr)} {pos : Pos} {Q : Value → Shared → Prop}
    (_F₀ : Fr h₀ L s.heap m) (hclos : closureFor scope env = pure cl) (hcell : ∀ y ∈ scope.names, y.2 ≠ .cell) (hkind : scope.kind = .function)
    (hnames : ∀ y ∈ scope.names, y.2 = .local → scope.names.lookup y.1 = some .local) (hx : scope.names.lookup x = some .local)
    (h : wpAny (model prog w) A (eval iter env) (StrSrc prog w A h₀ L m env elt x scope cl (fun s₂ => LCg.FinE h₀ L m s₂ Q)) E s)
    (hs : ∀ x, foldedSetIterable iter env x = pure x) :
    wpAny (model prog w) A (eval (.ListComp elt [⟨.Name x px, iter, [], 0⟩] scope pos) env) Q E s := by
  rw [eval_ListComp]
  refine wpAny_comprehension_free (use := none) rfl hs hclos hkind hnames (wpAny_mono h (fun xv s₁ h₁ => ?_) fun _ _ e => e)
  obtain ⟨y, t, news, rfl, hh, F, N, hsz, R⟩ := h₁
  have fin : ∀ {I : Addr} (D C : Addr) (h : Heap) (tk : Nat) (m' : Str → Option Value) (ys : List Value) (news' : List (Addr × Obj)) (o : Obj), Fr h₀ L h m → News h₀ L h ((D, LCg.lst ys) :: news') → LCg.Off1 D news' → h.Ns C m' → h₀.get? C = none → h₀.get? D = none → C ≠ L → D ≠ L → C ≠ D → (∀ p ∈ news', p.1 ≠ C) → LCg.FinE h₀ L m { s₁ with heap := s₁.heap.push o } Q ys news' →
      ∃ m', h.Ns C m' ∧ ∀ h'', Heap.SameBut C h h'' → Q (.ref D) { s₁ with heap := h'', toks := tk } := by
    intro I D C h tk m' ys news' o F' N' o1 hn hC₀ hD₀ hCL hDL hCD offC fin
    refine ⟨m', hn, fun h'' hs'' => fin D h'' tk (F'.change hs'' hCL hC₀) (fun p hp => ?_) o1⟩
    refine ⟨hs''.extBut _ _ ?_ (N' p hp).1, (N' p hp).2⟩
    rcases List.mem_cons.mp hp with rfl | hp
    · exact Ne.symm hCD
    · exact offC p hp
  have up : ∀ o b x, s₁.heap.get? b = some x → (s₁.heap.push o).get? b = some x := fun o b x e => Heap.get?_push_of_some _ e
  cases ha : y.cps.all (· < 128)
  · refine wpAny_pyIter_wide ha ?_
    refine LCg.block_U (Walks.strWide hh _ y t) hsz (fun i h st => by obtain ⟨o, e, _⟩ := st; exact ⟨o, e⟩) striter_st hcell hkind hx ⟨_, Heap.get?_push_size _ rfl, rfl, rfl⟩ (fun b hb => ?_)
      (F.keeps (up _)) (N.grown (up _)) (Nat.ne_of_lt F.ns.lt) (next_is_new F) (fun p hp => Nat.ne_of_lt (Heap.lt_size (N p hp).1)) trivial (R _ ⟨_, rfl⟩) ?_
    · rw [List.mem_singleton.mp hb]
      show s₁.heap.objs.size < (s₁.heap.push _).objs.size
      rw [Heap.size_push]; exact Nat.lt_succ_self _
    · intro D C h tk m' ys news' F' N' o1 hn hC₀ hD₀ hCL hDL hCD offC f
      exact fin (I := 0) D C h tk m' ys news' _ F' N' o1 hn hC₀ hD₀ hCL hDL hCD offC f
  · refine wpAny_pyIter_ascii ha ?_
    refine LCg.block_U (Walks.strAscii hh _ y t) hsz (fun i h st => by obtain ⟨o, e, _⟩ := st; exact ⟨o, e⟩) striter_st hcell hkind hx ⟨_, Heap.get?_push_size _ rfl, rfl, rfl⟩ (fun b hb => ?_)
      (F.keeps (up _)) (N.grown (up _)) (Nat.ne_of_lt F.ns.lt) (next_is_new F) (fun p hp => Nat.ne_of_lt (Heap.lt_size (N p hp).1)) trivial (R _ ⟨_, rfl⟩) ?_
    · rw [List.mem_singleton.mp hb]
      show s₁.heap.objs.size < (s₁.heap.push _).objs.size
      rw [Heap.size_push]; exact Nat.lt_succ_self _
    · intro D C h tk m' ys news' F' N' o1 hn hC₀ hD₀ hCL hDL hCD offC f
      exact fin (I := 0) D C h tk m' ys news' _ F' N' o1 hn hC₀ hD₀ hCL hDL hCD offC f

theorem ListComp_ST {ct elt iter : Expr} {x : Str} {px : Pos} {scope : Scope} {cl : List (Str × Addr)} {pos : Pos} {Q : Value → Shared → Prop}
    (_F₀ : Fr h₀ L s.heap m) (hclos : closureFor scope env = pure cl) (hcell : ∀ y ∈ scope.names, y.2 ≠ .cell) (hkind : scope.kind = .function)
    (hnames : ∀ y ∈ scope.names, y.2 = .local → scope.names.lookup y.1 = some .local) (hx : scope.names.lookup x = some .local)
    (h : wpAny (model prog w) A (eval iter env) (StrSrcT prog w A h₀ L m env ct elt x scope cl (fun s₂ => LCg.FinE h₀ L m s₂ Q)) E s)
    (hs : ∀ x, foldedSetIterable iter env x = pure x) :
    wpAny (model prog w) A (eval (.ListComp elt [⟨.Name x px, iter, [ct], 0⟩] scope pos) env) Q E s := by
  rw [eval_ListComp]
  refine wpAny_comprehension_free (use := none) rfl hs hclos hkind hnames (wpAny_mono h (fun xv s₁ h₁ => ?_) fun _ _ e => e)
  obtain ⟨y, t, news, rfl, hh, F, N, hsz, R⟩ := h₁
  have fin : ∀ {I : Addr} (D C : Addr) (h : Heap) (tk : Nat) (m' : Str → Option Value) (ys : List Value) (news' : List (Addr × Obj)) (o : Obj), Fr h₀ L h m → News h₀ L h ((D, LCg.lst ys) :: news') → LCg.Off1 D news' → h.Ns C m' → h₀.get? C = none → h₀.get? D = none → C ≠ L → D ≠ L → C ≠ D → (∀ p ∈ news', p.1 ≠ C) → LCg.FinE h₀ L m { s₁ with heap := s₁.heap.push o } Q ys news' →
      ∃ m', h.Ns C m' ∧ ∀ h'', Heap.SameBut C h h'' → Q (.ref D) { s₁ with heap := h'', toks := tk } := by
    intro I D C h tk m' ys news' o F' N' o1 hn hC₀ hD₀ hCL hDL hCD offC fin
    refine ⟨m', hn, fun h'' hs'' => fin D h'' tk (F'.change hs'' hCL hC₀) (fun p hp => ?_) o1⟩
    refine ⟨hs''.extBut _ _ ?_ (N' p hp).1, (N' p hp).2⟩
    rcases List.mem_cons.mp hp with rfl | hp
    · exact Ne.symm hCD
    · exact offC p hp
  have up : ∀ o b x, s₁.heap.get? b = some x → (s₁.heap.push o).get? b = some x := fun o b x e => Heap.get?_push_of_some _ e
  cases ha : y.cps.all (· < 128)
  · refine wpAny_pyIter_wide ha ?_
    refine LCt.block_T (Walks.strWide hh _ y t) hsz (fun i h st => by obtain ⟨o, e, _⟩ := st; exact ⟨o, e⟩) striter_st hcell hkind hx ⟨_, Heap.get?_push_size _ rfl, rfl, rfl⟩ (fun b hb => ?_)
      (F.keeps (up _)) (N.grown (up _)) (Nat.ne_of_lt F.ns.lt) (next_is_new F) (fun p hp => Nat.ne_of_lt (Heap.lt_size (N p hp).1)) trivial (R _ ⟨_, rfl⟩) ?_
    · rw [List.mem_singleton.mp hb]
      show s₁.heap.objs.size < (s₁.heap.push _).objs.size
      rw [Heap.size_push]; exact Nat.lt_succ_self _
    · intro D C h tk m' ys news' F' N' o1 hn hC₀ hD₀ hCL hDL hCD offC f
      exact fin (I := 0) D C h tk m' ys news' _ F' N' o1 hn hC₀ hD₀ hCL hDL hCD offC f
  · refine wpAny_pyIter_ascii ha ?_
    refine LCt.block_T (Walks.strAscii hh _ y t) hsz (fun i h st => by obtain ⟨o, e, _⟩ := st; exact ⟨o, e⟩) striter_st hcell hkind hx ⟨_, Heap.get?_push_size _ rfl, rfl, rfl⟩ (fun b hb => ?_)
      (F.keeps (up _)) (N.grown (up _)) (Nat.ne_of_lt F.ns.lt) (next_is_new F) (fun p hp => Nat.ne_of_lt (Heap.lt_size (N p hp).1)) trivial (R _ ⟨_, rfl⟩) ?_
    · rw [List.mem_singleton.mp hb]
      show s₁.heap.objs.size < (s₁.heap.push _).objs.size
      rw [Heap.size_push]; exact Nat.lt_succ_self _
    · intro D C h tk m' ys news' F' N' o1 hn hC₀ hD₀ hCL hDL hCD offC f
      exact fin (I := 0) D C h tk m' ys news' _ F' N' o1 hn hC₀ hD₀ hCL hDL hCD offC f

/-- a tested comprehension's turns, by an invariant -/
theorem comp_restT {ct elt : Expr} {x : Str} {scope : Scope} {cl : List (Str × Addr)} {S : List (Addr × Obj) → Prop} {P : Nat → Value → Prop} {Fin : List Value → List (Addr × Obj) → Prop} {news : List (Addr × Obj)} {n : Nat}
    (J : Nat → List Value → List (Addr × Obj) → Prop) (h0 : J 0 [] news)
    (turn : ∀ i v ys nw I oI C oC D m₂ h tk (E' : Value → Shared → Prop), i < n → P i v → J i ys nw → LCg.NsObj oC m₂ → m₂ x = some v → Fr h₀ L h m → News h₀ L h ((I, oI) :: (C, oC) :: (D, LCg.lst ys) :: nw) → LCg.Off3 I C D nw → ((@Ne Nat I C) ∧ (@Ne Nat I D) ∧ (@Ne Nat C D)) →
      wpAny (model prog w) A (isTrue ct (compEnvC scope cl C env) (eval ct (compEnvC scope cl C env))) (fun ok s' => if ok = true then
        wpAny (model prog w) A (eval elt (compEnvC scope cl C env)) (LCg.CompEnd h₀ L m { s with heap := h, toks := tk } I oI C oC D (LCg.lst ys) S (fun y nw' => J (i + 1) (ys ++ [y]) nw')) E' s'
        else LCg.CompEnd h₀ L m { s with heap := h, toks := tk } I oI C oC D (LCg.lst ys) S (fun _ nw' => J (i + 1) ys nw') Value.none s') E' { s with heap := h, toks := tk })
    (fin : ∀ ys nw, J n ys nw → Fin ys nw) : LCt.CompRestT prog w A h₀ L m env ct elt x scope cl s S P Fin n 0 [] news := by
  have key : ∀ (j i : Nat) (ys : List Value) (nw : List (Addr × Obj)), i + j = n → J i ys nw → LCt.CompRestT prog w A h₀ L m env ct elt x scope cl s S P Fin j i ys nw := by
    intro j
    induction j with
    | zero => intro i ys nw hi hj; have e : i = n := by omega
              subst e; exact LCt.CompRestT.zero (fin ys nw hj)
    | succ j ih =>
      intro i ys nw hi hj
      refine LCt.CompRestT.succ ?_
      intro v I oI C oC D m₂ h tk E' hv hC hx F N off ne
      refine wpAny_mono (turn i v ys nw I oI C oC D m₂ h tk E' (by omega) hv hj hC hx F N off ne) (fun ok s₂ hq => ?_) fun _ _ e => e
      cases ok with
      | true =>
        rw [if_pos rfl] at hq ⊢
        refine wpAny_mono hq (fun y s₃ hq => ?_) fun _ _ e => e
        obtain ⟨h', tk', nw', e, F', N', off', hS, hj'⟩ := hq
        exact ⟨h', tk', nw', e, F', N', off', hS, ih (i + 1) _ nw' (by omega) hj'⟩
      | false =>
        rw [if_neg Bool.false_ne_true] at hq ⊢
        obtain ⟨h', tk', nw', e, F', N', off', hS, hj'⟩ := hq
        exact ⟨h', tk', nw', e, F', N', off', hS, ih (i + 1) _ nw' (by omega) hj'⟩
  exact key n 0 [] news (by omega) h0
end

section
variable {prog : Program} {w : World} {K : Frag} {p : Program} {loose : List Str} {mean : ExcName → Option Value} {mg mb : Str → Option Value} {dR dU : Nat} {f : Addr} {vs : List Value} {A R : List (Addr × Obj)} {post : Value → List (Addr × Obj) → Prop}
/-- the way into a def whose names are captured -/
theorem ctr_enterC {name qual : Str} {params : Arguments} {body : List Stmt} {scope : Scope} {dV kV doc pm cdv ct oc : Value} {an od : Option Addr} {osl : Array (Option Value)} {binds : List (Str × Value)} (mL : Str → Option Value)
    (ho : K.lookup f = some ⟨oc, od, .func (fnOf name qual params body scope dV kV doc pm an cdv ct), osl⟩) (hcd : codeIn K cdv qual = true)
    (hbind : bindArgs (fnOf name qual params body scope dV kV doc pm an cdv ct) ⟨vs, []⟩ = pure binds) (hkind : (binds.all fun y => scope.names.lookup y.1 == some .local || scope.names.lookup y.1 == some .cell) = true)
    (hnd : ((cellsFrom 0 scope.names []).map (·.1)).Nodup) (hmL : ∀ L', bindL (envOfC qual scope L' f cdv).kindOf binds (fun _ => none) = mL)
    (h : ∀ (dp un : Nat) (gd : Option (List Code)) (cn : Str) (cs : Scope) (a : Addr) (ccd : Value) (cl : List (Str × Addr)) (outer : List Env) (base g : Heap) (L' L₀ : Addr) (s₁ : Shared) (cells : List (Addr × Obj)),
      Fr g L' s₁.heap mL → News g L' s₁.heap (cells ++ A) → CellsAre (bindC (envOfC qual scope L' f cdv).kindOf binds fun _ => none) (cellsFrom (L' + 1) scope.names []) cells →
      Below (ktrTop dp un gd cn cs L₀ a ccd cl outer) base (envX cn cs L₀ a ccd cl :: outer) g → K.In g → Top p loose mean mg mb g →
      (∀ q ∈ R, g.get? q.1 = some q.2) → dp + dR < recursionLimit → un + dU < cLine → (∀ q ∈ A, q.1 < L') →
      wpAny (model prog w) ((ktrTop dp un gd cn cs L₀ a ccd cl outer).deeper (envOfC qual scope L' f cdv)) (execs body (envOfC qual scope L' f cdv))
        (fun fl s' => CEnd g L' post s₁ (match fl with | .ret v => v | _ => .none) s') (fun _ _ => False) s₁)
    (hco : scope.isCoroutine = false) (hgen : scope.isGenerator = false) (hk : scope.kind = .function) : Ctr prog w K p loose mean mg mb dR dU f vs A R post := by
  intro dp un gd cn cs a ccd cl outer A₀ base h₀ L m s Q E B F X N T hke hR hRA hd hu ret
  have hroom : (ktrTop dp un gd cn cs L a ccd cl outer).depth < recursionLimit := by show dp < recursionLimit; omega
  refine wpAny_call ?_
  obtain ⟨FG, BG, st, lv⟩ := groundX (A := ktrTop dp un gd cn cs L a ccd cl outer) (env := envX cn cs L a ccd cl) (R := fun r s' => match r with | .ok (.ret v) => Q v s' | .ok _ => False | .error e => E e s') B F N rfl rfl hke
  have X' := X.keeps F.keep
  refine codeAny_call_function hroom (X' _ _ ho) rfl hco hgen rfl (codeRec_of X' hcd) (BindsTo.of_eq hbind _ _ _ _ ?_)
  refine wpAny_newFunctionEnv_cells hk (kindsX hkind _) fun env' he s' x => ?_
  subst he
  refine ⟨(T.nolimit.keeps F.keep).keeps x.toInCall.keep, codeAny_func ?_⟩
  obtain ⟨h₁, tk, rfl, _⟩ := x.done
  have hk₁ := x.toInCall.keep
  obtain ⟨cells, NC, Y⟩ := Cl.news (h₀ := s.heap) (Nat.le_refl _) fun n c hm => ⟨x.cell n c (lookup_of_mem_nodup (cellsFrom_names scope.names 0 (s.heap.objs.size + 1) [] [] rfl ▸ hnd) hm), x.above n c hm⟩
  have G : GSub s.heap (hideAll s.heap (A.map (fun q : Addr × Obj => q.1))) (A.map (fun q : Addr × Obj => q.1)) := fun b o e n => hideAll_get _ e n
  have hR' : ∀ q ∈ R, (hideAll s.heap (A.map (fun q : Addr × Obj => q.1))).get? q.1 = some q.2 := fun q hq => G _ _ (hR q hq) fun hm => by
    obtain ⟨r, hr, e⟩ := List.mem_map.mp hm
    exact hRA q hq r hr e
  refine wpAny_mono (h dp un gd cn cs a ccd cl outer base (hideAll s.heap (A.map (fun q : Addr × Obj => q.1))) s.heap.objs.size L { s with heap := h₁, toks := tk } cells
    ⟨hmL s.heap.objs.size ▸ x.toInCall.ns, fun b o e => hk₁ b o (of_hideAll _ e), Nat.le_of_eq (hideAll_size _ _)⟩ (fun p hp => ?_) Y BG (X.keeps st) (T.keeps st) hR' hd hu (fun p hp => Heap.lt_size (N p hp).1)) (fun fl s' hq => ?_) (fun _ _ x => x.elim)
  · rcases List.mem_append.mp hp with hp | hp
    · refine ⟨(NC p hp).1, (NC p hp).2.1, ?_⟩
      cases q : (hideAll s.heap (A.map (fun q : Addr × Obj => q.1))).get? p.1 with
      | none => rfl
      | some o => have := of_hideAll _ q; rw [(NC p hp).2.2] at this; cases this
    · exact ⟨hk₁ _ _ (N p hp).1, Nat.ne_of_lt (Heap.lt_size (N p hp).1), hideAll_none _ (List.mem_map_of_mem hp)⟩
  · obtain ⟨m', A', h', tk', F₂, N₂, rfl, hp⟩ := hq
    exact lv _ _ (leaveK_ F₂ N₂ fun F₃ N₃ => ret _ A' h' tk' hp (fun b o e n => F₂.keep b o (G b o e n)) F₃ N₃ (fun q hq n => by
      cases e : s.heap.get? q.1 with
      | none => rfl
      | some o => have := G _ _ e n; rw [(N₂ q hq).2.2] at this; cases this))
end
end
section
open PySem PySem.W PyProof.Rows PySem.Calls PySem.Spec
set_option maxHeartbeats 2000000
section
variable {prog : Program} {w : World} {K : Type} [DecidableEq K] {knd : KeyKind prog w K} {A : Around} {E : Value → Shared → Prop} {s : Shared} {d : Addr} {kvs : List (K × Value)} {k : K} {key v dflt : Value}
theorem dmeth {pl : Sem Bool} {Q : Value × List Value → Shared → Prop} (hD : s.heap.DictOf knd d kvs) (h : Q (.builtin "dict.get", [.ref d]) s) : wpAny (model prog w) A (getMethod (.ref d) (Str.ofString "get") pl) Q E s :=
  getMethod_builtin hD.typeIs PySem.F.plainAttrs_dict PySem.F.slot_dict_get PySem.F.type_dict_get hD.mapOf.noDict h
theorem dget2 {Q : Value → Shared → Prop} (hD : s.heap.DictOf knd d kvs) (lo : (d == sysModules) = false) (hkey : knd.is k key = true) (h : Q ((valueAt kvs k).getD dflt) { s with toks := s.toks + 1 }) :
    wpAny (model prog w) A (call (.builtin "dict.get") [.ref d, key, dflt]) Q E s :=
  call_meetsIn PySem.F.slot_dict_get hD.typeIs PySem.F.entry_dict_get (PySem.F.args_dict_get_3 _ _ _) (meets_dict_get_default knd d hkey lo dflt) ⟨_, hD.mapOf, h⟩
theorem din {Q : Value → Shared → Prop} (hD : s.heap.DictOf knd d kvs) (lo : (d == sysModules) = false) (hkey : knd.is k key = true) (h : Q (.bool (valueAt kvs k).isSome) { s with toks := s.toks + 1 }) :
    wpAny (model prog w) A (compareOp .In key (.ref d)) Q E s := wpAny_in_of hkey lo hD.mapOf h
theorem stop_gm {M : Model} {r : Addr} {pl : Sem Bool} {Q : Value × List Value → Shared → Prop} (h : Stop (wpAny M A (getMethod (.ref r) (Str.ofString "get") pl) Q E s)) : wpAny M A (getMethod (.ref r) (Str.ofString "get") pl) Q E s := h
theorem stop_while {M : Model} {ts : Expr} {b e : List Stmt} {pos : Pos} {env : Env} {Q : Flow → Shared → Prop} (_ : StopC) (h : Stop (wpAny M A (exec (.While ts b e pos) env) Q E s)) : wpAny M A (exec (.While ts b e pos) env) Q E s := h
theorem stop_wrest {ts : Expr} {b e : List Stmt} {env : Env} {Q : Flow → Shared → Prop} {k : Nat} (_ : StopC) (h : Stop (WhlRest prog w A E env ts b e Q k s)) : WhlRest prog w A E env ts b e Q k s := h
theorem stop_si {M : Model} {r : Addr} {k v : Value} {Q : Unit → Shared → Prop} (h : Stop (wpAny M A (setItem (.ref r) k v) Q E s)) : wpAny M A (setItem (.ref r) k v) Q E s := h
theorem stop_dg {M : Model} {vs : List Value} {Q : Value → Shared → Prop} (h : Stop (wpAny M A (call (.builtin "dict.get") vs) Q E s)) : wpAny M A (call (.builtin "dict.get") vs) Q E s := h
end
/-- a tree's ways meet: one value, one ledger -/
def CutV (h₀ : Heap) (L : Addr) (m : Str → Option Value) (news : List (Addr × Obj)) (s : Shared) (R : Tok → Value) (v : Value) (s' : Shared) : Prop :=
  ∃ t h' tk', v = R t ∧ s' = { s with heap := h', toks := tk' } ∧ Fr h₀ L h' m ∧ News h₀ L h' news
theorem cut_put {h₀ h' : Heap} {L : Addr} {m : Str → Option Value} {news : List (Addr × Obj)} {s : Shared} {R : Tok → Value} {v : Value} {tk' : Nat} (F : Fr h₀ L h' m) (N : News h₀ L h' news) (e : ∃ t, v = R t) : CutV h₀ L m news s R v { s with heap := h', toks := tk' } :=
  let ⟨t, e⟩ := e; ⟨t, h', tk', e, rfl, F, N⟩
theorem cut_use {M : Model} {A : Around} {E : Value → Shared → Prop} {s : Shared} {tr : Sem Value} {Q : Value → Shared → Prop} {h₀ : Heap} {L : Addr} {m : Str → Option Value} {news : List (Addr × Obj)} (R : Tok → Value) (_F : Fr h₀ L s.heap m) (_N : News h₀ L s.heap news)
    (h : wpAny M A tr (CutV h₀ L m news s R) E s) (k : ∀ t h' tk', Fr h₀ L h' m → News h₀ L h' news → Q (R t) { s with heap := h', toks := tk' }) : wpAny M A tr Q E s :=
  wpAny_mono h (fun v s' hq => by obtain ⟨t, h', tk', rfl, rfl, F, N⟩ := hq; exact k t h' tk' F N) fun _ _ e => e
theorem stop_cut {h₀ : Heap} {L : Addr} {m : Str → Option Value} {news : List (Addr × Obj)} {s : Shared} {R : Tok → Value} {v : Value} {s' : Shared} (h : Stop (CutV h₀ L m news s R v s')) : CutV h₀ L m news s R v s' := h
theorem stop_ifexp {M : Model} {A : Around} {E : Value → Shared → Prop} {s : Shared} {env : Env} {a b c : Expr} {p : Pos} {Q : Value → Shared → Prop} (_ : StopC) (h : Stop (wpAny M A (eval (.IfExp a b c p) env) Q E s)) : wpAny M A (eval (.IfExp a b c p) env) Q E s := h
theorem stop_invG {h₀ : Heap} {L : Addr} {J : (Str → Option Value) → List (Addr × Obj) → Prop} {own : List (Addr × Obj)} {s₁ s₂ : Shared} (h : Stop (InvEndG h₀ L J own s₁ s₂)) : InvEndG h₀ L J own s₁ s₂ := h
def StopD : Prop := True
theorem stopD : StopD := trivial
theorem stop_callD {M : Model} {A : Around} {E : Value → Shared → Prop} {s : Shared} {f : Addr} {vs : List Value} {kw : List (Str × Value)} {Q : Value → Shared → Prop} (_ : StopD) (h : Stop (wpAny M A (call (.ref f) vs kw) Q E s)) : wpAny M A (call (.ref f) vs kw) Q E s := h
theorem stop_iterD {M : Model} {A : Around} {E : Value → Shared → Prop} {s : Shared} {v : Value} {Q : Value → Shared → Prop} (_ : StopD) (h : Stop (wpAny M A (pyIter v) Q E s)) : wpAny M A (pyIter v) Q E s := h
theorem stored_mem {k : Int} {v : Value} {kvs : List (Int × Value)} {q : Int × Value} (h : q ∈ stored kvs k v) : q ∈ kvs ∨ q = (k, v) := by
  unfold stored at h
  split at h
  · obtain ⟨p, hp, e⟩ := List.mem_map.mp h
    split at e
    · rename_i e'; right; rw [← e, ← e']
    · left; rw [← e]; exact hp
  · rcases List.mem_append.mp h with h | h
    · exact .inl h
    · exact .inr (List.mem_singleton.mp h)
theorem stored_len (k : Int) (v : Value) (kvs : List (Int × Value)) : (stored kvs k v).length ≤ kvs.length + 1 := by
  unfold stored
  split
  · rw [List.length_map]; omega
  · rw [List.length_append, List.length_singleton]; omega
theorem valueAt_mem {kvs : List (Int × Value)} {k : Int} {v : Value} (h : valueAt kvs k = some v) : (k, v) ∈ kvs := by
  unfold valueAt at h
  obtain ⟨p, hp, e⟩ := Option.map_eq_some_iff.mp h
  have h1 := List.find?_some hp
  have h2 := List.mem_of_find?_eq_some hp
  have h3 : p.1 = k := by simpa using h1
  rw [← h3, ← e]; exact h2

theorem inst_keep {h₀ h : Heap} {x C : Addr} {ox : Obj} {od : Option Obj} (I : InstAt h₀ x ox C od) (k : ∀ b o, h₀.get? b = some o → h.get? b = some o) : InstAt h x ox C od := by
  obtain ⟨a, b, c, d⟩ := I
  refine ⟨k _ _ a, b, c, ?_⟩
  revert d
  cases ox.dict <;> cases od <;> intro d <;> first | exact d | exact k _ _ d
theorem inst_of {h : Heap} {x dx C : Addr} {od : Obj} (a : h.get? x = some (instObj C dx)) (b : h.get? dx = some od) : InstAt h x (instObj C dx) C (some od) := ⟨a, rfl, rfl, b⟩
theorem dict_of {prog : Program} {w : World} {h : Heap} {r : Addr} {o : Obj} {kvs : List (Int × Value)} (a : h.get? r = some o) (b : o.IsDictOf (intKind prog w) kvs) : h.DictOf (intKind prog w) r kvs := Heap.dictOf_iff.mpr ⟨o, a, b⟩

abbrev synD (P : Params) (k : Str) (mv : Value) (t1 t2 t3 t4 t5 : Tok) : Obj :=
  dictOf [⟨PyData.keyHash P (Str.ofString "kind"), .str (Str.ofString "kind") t1, .str k t2⟩, ⟨PyData.keyHash P (Str.ofString "match"), .str (Str.ofString "match") t3, mv⟩, ⟨PyData.keyHash P (Str.ofString "flags"), .str (Str.ofString "flags") t4, .str (Str.ofString "") t5⟩] 3
abbrev tabD (P : Params) (t1 t2 : Tok) (r : Addr) : Obj :=
  dictOf [⟨PyData.keyHash P (Str.ofString "parent"), .str (Str.ofString "parent") t1, .none⟩, ⟨PyData.keyHash P (Str.ofString "rows"), .str (Str.ofString "rows") t2, .ref r⟩] 2
/-- an object of class Syntax, of kind k -/
def SynAt (P : Params) (sy : List (Addr × Obj)) (v : Value) (k : Str) : Prop := ∃ x dx mv t1 t2 t3 t4 t5, v = .ref x ∧ (x, instObj 150 dx) ∈ sy ∧ (dx, synD P k mv t1 t2 t3 t4 t5) ∈ sy ∧ (k == Str.ofString "@") = false
theorem SynAt.mono {P : Params} {sy sy' : List (Addr × Obj)} {v : Value} {k : Str} (h : SynAt P sy v k) (hs : ∀ q ∈ sy, q ∈ sy') : SynAt P sy' v k :=
  let ⟨x, dx, mv, t1, t2, t3, t4, t5, e, a, b, c⟩ := h
  ⟨x, dx, mv, t1, t2, t3, t4, t5, e, hs _ a, hs _ b, c⟩
def TabOk (P : Params) (sy : List (Addr × Obj)) (kvs : List (Int × Value)) : Prop := ∀ q ∈ kvs, ∃ k, SynAt P sy q.2 k
def kindDef (c : Int) : Str := if c > 127 then Str.ofString "w" else Str.ofString "."
def KindIs (P : Params) (sy : List (Addr × Obj)) (kvs : List (Int × Value)) (c : Int) (k : Str) : Prop := (valueAt kvs c = none ∧ k = kindDef c) ∨ ∃ v, valueAt kvs c = some v ∧ SynAt P sy v k
theorem TabOk.kinds {P : Params} {sy : List (Addr × Obj)} {kvs : List (Int × Value)} (h : TabOk P sy kvs) : ∃ kf : Int → Str, ∀ c, KindIs P sy kvs c (kf c) := by
  have e : ∀ c, ∃ k, KindIs P sy kvs c k := fun c => by
    cases hv : valueAt kvs c with
    | none => exact ⟨_, .inl ⟨hv, rfl⟩⟩
    | some v =>
      obtain ⟨k, hk⟩ := h _ (valueAt_mem hv)
      exact ⟨k, .inr ⟨v, hv, hk⟩⟩
  exact ⟨fun c => (e c).choose, fun c => (e c).choose_spec⟩
theorem TabOk.put {P : Params} {sy : List (Addr × Obj)} {kvs : List (Int × Value)} {c : Int} {v : Value} {k : Str} (h : TabOk P sy kvs) (hv : SynAt P sy v k) : TabOk P sy (stored kvs c v) := fun q hq => by
  rcases stored_mem hq with hq | rfl
  · exact h q hq
  · exact ⟨k, hv⟩
theorem TabOk.mono {P : Params} {sy sy' : List (Addr × Obj)} {kvs : List (Int × Value)} (h : TabOk P sy kvs) (hs : ∀ q ∈ sy, q ∈ sy') : TabOk P sy' kvs := fun q hq => let ⟨k, hk⟩ := h q hq; ⟨k, hk.mono hs⟩
abbrev tabR (P : Params) (t td r : Addr) (t1 t2 : Tok) (oR : Obj) (sy : List (Addr × Obj)) : List (Addr × Obj) := (t, instObj 231 td) :: (td, tabD P t1 t2 r) :: (r, oR) :: sy
end
section
open PySem PySem.W PyProof.Rows PySem.Calls PySem.Spec
set_option maxHeartbeats 2000000
section
variable {prog : Program} {w : World} {A : Around} {E : Value → Shared → Prop} {s : Shared} {env : Env} {h₀ : Heap} {target : Expr} {body : List Stmt} {Q : Flow → Shared → Prop}
/-- a loop's turns by an invariant over the turn's number, the frame and the ledger -/
theorem turnsG {I : Addr} {fp wr : List Addr} {n : Nat} {P Md : Nat → Value → Heap → Prop} {St : Nat → Heap → Prop} {m₀ : Str → Option Value} {news : List (Addr × Obj)} {hp : Heap} {tk0 : Nat} (ws : List Addr) (J : Nat → (Str → Option Value) → List (Addr × Obj) → Prop)
    (W : KTurns prog w A target I fp wr n P Md St) (hwr : ∀ b ∈ wr, b ∈ ws) (hws : ∀ b ∈ ws, b ∈ fp ∧ h₀.get? b = none) (hfp : ∀ b ∈ fp, b ∈ ws ∨ h₀.get? b ≠ none ∨ ∃ o, ∀ i m nx, J i m nx → (b, o) ∈ nx) (hL : env.locals ∉ fp) (hnw : ∀ p ∈ news, p.1 ∉ ws) (hst : St 0 hp)
    (hob : ∀ i h, St i h → ∀ b ∈ ws, ∃ o, h.get? b = some o) (F : Fr h₀ env.locals hp m₀) (N : News h₀ env.locals hp news) (h0 : J 0 m₀ news)
    (turn : ∀ i v m₁ nx h tk own, i < n → P i v h → OwnOff own (nx.map (·.1)) → J i m₁ nx → Fr h₀ env.locals h m₁ → News h₀ env.locals h (nx ++ own) →
      wpAny (model prog w) A (assign target env v) (fun _ s₃ => wpAny (model prog w) A (execs body env) (InvPostG h₀ env.locals (J (i + 1)) own { s with heap := h, toks := tk } Q) E s₃) E { s with heap := h, toks := tk })
    (done : ∀ m₁ nx h tk, J n m₁ nx → Fr h₀ env.locals h m₁ → News h₀ env.locals h nx → Q .next { s with heap := h, toks := tk }) :
    TurnsAt prog w A h₀ env target body Q E (.ref I) { s with heap := hp, toks := tk0 } := by
  refine ⟨I, fp, wr, n, P, Md, St, m₀, news, fun i m nx => J i m nx ∧ ∀ p ∈ nx, p.1 ∉ ws, rfl, W, hL, fun b hb => (hws b (hwr b hb)).2, fun p hp hq => hnw p hp (hwr _ hq), hst, F, N, ⟨h0, hnw⟩, ?_, ?_⟩
  · rintro i v m₁ news₁ h₁ tk₁ own hin hPi ⟨hJ, hJw⟩ hoff hown hget hall hst₁ F₁ N₁
    have hsep : OwnOff (own.filter fun p => decide (p.1 ∈ ws)) (news₁.map (·.1)) := by
      intro p hp b hb e
      obtain ⟨q, hq, rfl⟩ := List.mem_map.mp hb
      have h1 : p.1 ∈ ws := by simpa using (List.mem_filter.mp hp).2
      exact hJw q hq (e ▸ h1)
    have N₂ : News h₀ env.locals h₁ (news₁ ++ own.filter fun p => decide (p.1 ∈ ws)) := fun p hp => N₁ p ((List.mem_append.mp hp).elim (fun h => List.mem_append.mpr (.inr h)) fun h => List.mem_append.mpr (.inl ((List.mem_filter.mp h).1)))
    have fin : ∀ s₃, InvEndG h₀ env.locals (J (i + 1)) (own.filter fun p => decide (p.1 ∈ ws)) { s with heap := h₁, toks := tk₁ } s₃ → LoopStepU h₀ env.locals wr own (fun m nx => J (i + 1) m nx ∧ ∀ p ∈ nx, p.1 ∉ ws) { s with heap := h₁, toks := tk₁ } .next s₃ := by
      rintro s₃ ⟨h', tk, m', news', nx, e, F', N', hn, ho, ha, hm⟩
      have hnx : ∀ p ∈ nx, p.1 ∉ ws := fun p hp hq => by
        obtain ⟨o, hbo⟩ := hob _ _ hst₁ _ hq
        have h6 := hall _ (hws _ hq).1 (hws _ hq).2 o hbo
        exact ha _ (List.mem_filter.mpr ⟨h6, by simpa using hq⟩) p.1 (List.mem_map.mpr ⟨p, hp, rfl⟩) rfl
      refine ⟨rfl, h', tk, m', nx, e, F', fun p hp => ?_, fun p hp hq => hnx p hp (hwr _ hq), hm, hnx⟩
      rcases List.mem_append.mp hp with h | h
      · by_cases hI : p.1 ∈ ws
        · exact N' p (ho p (List.mem_filter.mpr ⟨h, by simpa using hI⟩))
        · rcases hfp p.1 (hown p h) with h2 | h2 | ⟨o, h2⟩
          · exact absurd h2 hI
          · exact absurd (N₁ p (List.mem_append_left _ h)).2.2 h2
          · have h3 : h₁.get? p.1 = some o := (N₁ _ (List.mem_append_right _ (h2 _ _ _ hJ))).1
            have h4 : p = (p.1, o) := Prod.ext rfl (Option.some.inj ((hget p h).symm.trans h3))
            rw [h4]
            exact N' _ (hn _ (h2 _ _ _ hm))
      · exact N' p (hn p h)
    refine wpAny_mono (turn i v m₁ news₁ h₁ tk₁ _ hin hPi hsep hJ F₁ N₂) (fun _ s₂ h₂ => wpAny_mono h₂ (fun f s₃ p => ?_) fun _ _ e => e) fun _ _ e => e
    cases f with
    | ret v => exact .ret p
    | brk => exact .brk p
    | next => exact .next (fin _ p)
    | cont => exact .cont (fin _ p)
  · rintro h' tk m' news' F' N' _ ⟨hJ, _⟩
    exact done m' news' h' tk hJ F' N'

/-- over a tuple of the ledger -/
theorem turns_tup {ax : Addr} {lo : Obj} {vs : List Value} {n : Nat} {m₀ : Str → Option Value} {news : List (Addr × Obj)} (J : Nat → (Str → Option Value) → List (Addr × Obj) → Prop)
    (hh : A.handled = none) (F : Fr h₀ env.locals s.heap m₀) (N : News h₀ env.locals s.heap news) (hm : (ax, lo) ∈ news) (hJm : ∀ i m nx, J i m nx → (ax, lo) ∈ nx) (hc : lo.cls = .type "tuple") (hd : lo.data = .seq vs.toArray n) (h0 : J 0 m₀ news)
    (turn : ∀ i v m₁ nx h tk own, vs[i]? = some v → OwnOff own (nx.map (·.1)) → J i m₁ nx → Fr h₀ env.locals h m₁ → News h₀ env.locals h (nx ++ own) →
      wpAny (model prog w) A (assign target env v) (fun _ s₃ => wpAny (model prog w) A (execs body env) (InvPostG h₀ env.locals (J (i + 1)) own { s with heap := h, toks := tk } Q) E s₃) E { s with heap := h, toks := tk })
    (done : ∀ m₁ nx h tk, J vs.length m₁ nx → Fr h₀ env.locals h m₁ → News h₀ env.locals h nx → Q .next { s with heap := h, toks := tk }) :
    wpAny (model prog w) A (pyIter (.ref ax)) (fun it s₂ => TurnsAt prog w A h₀ env target body Q E it s₂) E s := by
  have hax := N _ hm
  have hl : s.heap.IsTuple ax vs.toArray := ⟨lo, hax.1, hc, n, hd⟩
  have hlt : ax < s.heap.objs.size := Heap.lt_size hax.1
  have hne : ax ≠ s.heap.objs.size := Nat.ne_of_lt hlt
  refine wpAny_pyIter_tuple hl ?_
  refine turnsG (tk0 := s.toks) [s.heap.objs.size] J (KTurns.ofWalks (Walks.tuple hh s.heap.objs.size ax hne vs.toArray) fun i v s Q E st q => letGo_tupleiter st.1 q) (fun _ h => h) ?_ ?_ ?_ ?_ ?_ ?_ (F.push _) (fun p hp => ⟨Heap.get?_push_of_some _ (N p hp).1, (N p hp).2⟩) h0 ?_ ?_
  · intro b hb
    rw [List.mem_singleton.mp hb]
    exact ⟨List.mem_cons_self .., next_is_new F⟩
  · intro b hb
    have hb' : b = s.heap.objs.size ∨ b = ax := by simpa using hb
    rcases hb' with e | e
    · exact .inl (by simp [e])
    · exact .inr (.inr ⟨lo, fun i m nx h => e ▸ hJm i m nx h⟩)
  · intro hI
    rcases List.mem_cons.mp hI with e | hI
    · exact absurd F.ns.lt (e ▸ Nat.lt_irrefl _)
    · exact hax.2.1 (List.mem_singleton.mp hI).symm
  · intro p hp hI
    exact absurd (Heap.lt_size (N p hp).1) ((List.mem_singleton.mp hI) ▸ Nat.lt_irrefl _)
  · exact ⟨⟨_, Heap.get?_push_size _ rfl, rfl, rfl⟩, hl.at fun o e => Heap.get?_push_of_some _ e⟩
  · intro i h st b hb
    obtain ⟨it, hit, hic, _⟩ := st.1
    rw [List.mem_singleton.mp hb]
    exact ⟨it, hit⟩
  · intro i v m₁ nx h tk own hi hP
    have hP' : vs[i]? = some v := by simpa using (show vs.toArray[i]? = some v from hP)
    exact turn i v m₁ nx h tk own hP'
  · intro m₁ nx h tk hJ
    exact done m₁ nx h tk (by simpa using hJ)

/-- over enumerate(l) of a list -/
theorem turns_enum {elts : List Expr} {k : Nat} {pos : Pos} {l : Addr} {lo : Obj} {vs : List Value} {n : Nat} {m₀ : Str → Option Value} {news : List (Addr × Obj)} (J : Nat → (Str → Option Value) → List (Addr × Obj) → Prop)
    (hh : A.handled = none) (F : Fr h₀ env.locals s.heap m₀) (N : News h₀ env.locals s.heap news) (hg : s.heap.get? l = some lo) (hlL : l ≠ env.locals) (hJm : h₀.get? l ≠ none ∨ ∀ i m nx, J i m nx → (l, lo) ∈ nx) (hc : lo.cls = .type "list") (hd : lo.data = .seq vs.toArray n) (h0 : J 0 m₀ news)
    (turn : ∀ (i : Nat) T t x m₁ nx h tk own, vs[i]? = some x → IsTup h T #[.int ((i : Nat) : Int) t, x] → OwnOff own (nx.map (·.1)) → J i m₁ nx → Fr h₀ env.locals h m₁ → News h₀ env.locals h (nx ++ own) →
      wpAny (model prog w) A (assign (.Tuple elts k pos) env (.ref T)) (fun _ s₃ => wpAny (model prog w) A (execs body env) (InvPostG h₀ env.locals (J (i + 1)) own { s with heap := h, toks := tk } Q) E s₃) E { s with heap := h, toks := tk })
    (done : ∀ m₁ nx h tk, J vs.length m₁ nx → Fr h₀ env.locals h m₁ → News h₀ env.locals h nx → Q .next { s with heap := h, toks := tk }) :
    wpAny (model prog w) A (call (.type "enumerate") [.ref l]) (fun xv s₁ => wpAny (model prog w) A (pyIter xv) (fun it s₂ => TurnsAt prog w A h₀ env (.Tuple elts k pos) body Q E it s₂) E s₁) E s := by
  have hl : s.heap.IsList l vs.toArray := ⟨lo, hg, hc, n, hd⟩
  have hlt : l < s.heap.objs.size := Heap.lt_size hg
  have hLs : env.locals < s.heap.objs.size := F.ns.lt
  refine call_enumerate_list hl fun h' hE hI hsz hk => ?_
  refine wpAny_pyIter_enum hE ?_
  refine turnsG (tk0 := s.toks) [s.heap.objs.size + 1, s.heap.objs.size] J (KTurns.ofWalksU (WalksT.enumerate hh (s.heap.objs.size + 1) s.heap.objs.size l (Nat.succ_ne_self _) (ktu_ne 1 hlt) (Nat.ne_of_lt hlt) vs.toArray).toU) (fun _ h => h) ?_ ?_ ?_ ?_ ?_ ?_ (F.keeps hk) (N.grown hk) h0 ?_ ?_
  · intro b hb
    have hb' : b = s.heap.objs.size + 1 ∨ b = s.heap.objs.size := by simpa using hb
    rcases hb' with rfl | rfl
    · exact ⟨by simp, ktu_new F (Nat.le_add_right _ _)⟩
    · exact ⟨by simp, ktu_new F (Nat.le_refl _)⟩
  · intro b hb
    have hb' : b = s.heap.objs.size + 1 ∨ b = s.heap.objs.size ∨ b = l := by simpa using hb
    rcases hb' with rfl | rfl | rfl
    · exact .inl (by simp)
    · exact .inl (by simp)
    · exact .inr (hJm.imp id fun h => ⟨lo, h⟩)
  · intro hI
    have hb' : env.locals = s.heap.objs.size + 1 ∨ env.locals = s.heap.objs.size ∨ env.locals = l := by simpa using hI
    rcases hb' with e | e | e
    · exact ktu_ne 1 hLs e
    · exact Nat.ne_of_lt hLs e
    · exact hlL e.symm
  · intro p hp hI
    have hp' := Heap.lt_size (N p hp).1
    have hb' : p.1 = s.heap.objs.size + 1 ∨ p.1 = s.heap.objs.size := by simpa using hI
    rcases hb' with e | e
    · exact ktu_ne 1 hp' e
    · exact Nat.ne_of_lt hp' e
  · exact ⟨⟨.none, hE⟩, hI, hl.at fun o e => hk l o e⟩
  · rintro i h ⟨⟨old, he⟩, ⟨oi, hoi, hic, _⟩, _⟩ b hb
    have he' : ∃ oe : Obj, h.get? (s.heap.objs.size + 1) = some oe ∧ oe.cls = .type "enumerate" := ⟨_, he, rfl⟩
    obtain ⟨oe, h1, h2⟩ := he'
    have hb' : b = s.heap.objs.size + 1 ∨ b = s.heap.objs.size := by simpa using hb
    rcases hb' with rfl | rfl
    · exact ⟨oe, h1⟩
    · exact ⟨oi, hoi⟩
  · rintro i v m₁ nx h tk own hi ⟨T, vals, rfl, ⟨t, x, hx, rfl⟩, hT⟩
    exact turn i T t x m₁ nx h tk own (by simpa using hx) hT
  · intro m₁ nx h tk hJ
    exact done m₁ nx h tk (by simpa using hJ)

/-- over zip(l1, l2) of two lists -/
theorem turns_zip {elts : List Expr} {k : Nat} {pos : Pos} {l1 l2 : Addr} {lo1 lo2 : Obj} {xs ys : List Value} {n1 n2 : Nat} {m₀ : Str → Option Value} {news : List (Addr × Obj)} (J : Nat → (Str → Option Value) → List (Addr × Obj) → Prop)
    (hh : A.handled = none) (F : Fr h₀ env.locals s.heap m₀) (N : News h₀ env.locals s.heap news) (hm1 : (l1, lo1) ∈ news) (hJm1 : ∀ i m nx, J i m nx → (l1, lo1) ∈ nx) (hc1 : lo1.cls = .type "list") (hd1 : lo1.data = .seq xs.toArray n1) (hm2 : (l2, lo2) ∈ news) (hJm2 : ∀ i m nx, J i m nx → (l2, lo2) ∈ nx) (hc2 : lo2.cls = .type "list") (hd2 : lo2.data = .seq ys.toArray n2) (h0 : J 0 m₀ news)
    (turn : ∀ (i : Nat) T x y m₁ nx h tk own, xs[i]? = some x → ys[i]? = some y → IsTup h T #[x, y] → OwnOff own (nx.map (·.1)) → J i m₁ nx → Fr h₀ env.locals h m₁ → News h₀ env.locals h (nx ++ own) →
      wpAny (model prog w) A (assign (.Tuple elts k pos) env (.ref T)) (fun _ s₃ => wpAny (model prog w) A (execs body env) (InvPostG h₀ env.locals (J (i + 1)) own { s with heap := h, toks := tk } Q) E s₃) E { s with heap := h, toks := tk })
    (done : ∀ m₁ nx h tk, J (min xs.length ys.length) m₁ nx → Fr h₀ env.locals h m₁ → News h₀ env.locals h nx → Q .next { s with heap := h, toks := tk }) :
    wpAny (model prog w) A (call (.type "zip") [.ref l1, .ref l2]) (fun xv s₁ => wpAny (model prog w) A (pyIter xv) (fun it s₂ => TurnsAt prog w A h₀ env (.Tuple elts k pos) body Q E it s₂) E s₁) E s := by
  have hax1 := N _ hm1
  have hax2 := N _ hm2
  have hl1 : s.heap.IsList l1 xs.toArray := ⟨lo1, hax1.1, hc1, n1, hd1⟩
  have hl2 : s.heap.IsList l2 ys.toArray := ⟨lo2, hax2.1, hc2, n2, hd2⟩
  have hlt1 : l1 < s.heap.objs.size := Heap.lt_size hax1.1
  have hlt2 : l2 < s.heap.objs.size := Heap.lt_size hax2.1
  have hLs : env.locals < s.heap.objs.size := F.ns.lt
  have D : ZipApart (s.heap.objs.size + 4) (s.heap.objs.size + 2) (s.heap.objs.size + 3) s.heap.objs.size (s.heap.objs.size + 1) l1 l2 := ktu_apart _ _ _ hlt1 hlt2
  refine call_zip_2 hl1 hl2 fun h' hz hTI hTO hi1 hi2 hsz hk => ?_
  refine wpAny_pyIter_zip hz ?_
  refine turnsG (tk0 := s.toks) [s.heap.objs.size + 4, s.heap.objs.size + 2, s.heap.objs.size + 3, s.heap.objs.size, s.heap.objs.size + 1] J (KTurns.ofWalksU (WalksT.zip2 hh _ _ _ _ _ _ _ D xs.toArray ys.toArray).toU) ?_ ?_ ?_ ?_ ?_ ?_ ?_ (F.keeps hk) (N.grown hk) h0 ?_ ?_
  · intro b hb
    have hb' : b = s.heap.objs.size + 4 ∨ b = s.heap.objs.size + 3 ∨ b = s.heap.objs.size ∨ b = s.heap.objs.size + 1 := by simpa using hb
    rcases hb' with rfl | rfl | rfl | rfl <;> simp
  · intro b hb
    have hb' : b = s.heap.objs.size + 4 ∨ b = s.heap.objs.size + 2 ∨ b = s.heap.objs.size + 3 ∨ b = s.heap.objs.size ∨ b = s.heap.objs.size + 1 := by simpa using hb
    rcases hb' with rfl | rfl | rfl | rfl | rfl
    · exact ⟨by simp, ktu_new F (Nat.le_add_right _ _)⟩
    · exact ⟨by simp, ktu_new F (Nat.le_add_right _ _)⟩
    · exact ⟨by simp, ktu_new F (Nat.le_add_right _ _)⟩
    · exact ⟨by simp, ktu_new F (Nat.le_refl _)⟩
    · exact ⟨by simp, ktu_new F (Nat.le_add_right _ _)⟩
  · intro b hb
    have hb' : b = s.heap.objs.size + 4 ∨ b = s.heap.objs.size + 2 ∨ b = s.heap.objs.size + 3 ∨ b = s.heap.objs.size ∨ b = s.heap.objs.size + 1 ∨ b = l1 ∨ b = l2 := by simpa using hb
    rcases hb' with rfl | rfl | rfl | rfl | rfl | rfl | rfl
    · exact .inl (by simp)
    · exact .inl (by simp)
    · exact .inl (by simp)
    · exact .inl (by simp)
    · exact .inl (by simp)
    · exact .inr (.inr ⟨lo1, hJm1⟩)
    · exact .inr (.inr ⟨lo2, hJm2⟩)
  · intro hI'
    have hb' : env.locals = s.heap.objs.size + 4 ∨ env.locals = s.heap.objs.size + 2 ∨ env.locals = s.heap.objs.size + 3 ∨ env.locals = s.heap.objs.size ∨ env.locals = s.heap.objs.size + 1 ∨ env.locals = l1 ∨ env.locals = l2 := by simpa using hI'
    have n1 := hax1.2.1
    have n2 := hax2.2.1
    rcases hb' with e | e | e | e | e | e | e
    · exact ktu_ne 4 hLs e
    · exact ktu_ne 2 hLs e
    · exact ktu_ne 3 hLs e
    · exact Nat.ne_of_lt hLs e
    · exact ktu_ne 1 hLs e
    · exact n1 e.symm
    · exact n2 e.symm
  · intro p hp hI'
    have hb' : p.1 = s.heap.objs.size + 4 ∨ p.1 = s.heap.objs.size + 2 ∨ p.1 = s.heap.objs.size + 3 ∨ p.1 = s.heap.objs.size ∨ p.1 = s.heap.objs.size + 1 := by simpa using hI'
    have hlp := Heap.lt_size (N p hp).1
    rcases hb' with e | e | e | e | e
    · exact ktu_ne 4 hlp e
    · exact ktu_ne 2 hlp e
    · exact ktu_ne 3 hlp e
    · exact Nat.ne_of_lt hlp e
    · exact ktu_ne 1 hlp e
  · exact ⟨hz, hTI, ⟨_, _, hTO⟩, hi1, hi2, hl1.at fun o e => hk l1 o e, hl2.at fun o e => hk l2 o e⟩
  · rintro i h ⟨hz, hTI, ⟨a, b, hTO⟩, ⟨o1, ho1, hc1, _⟩, ⟨o2, ho2, hc2, _⟩, _⟩ b hb
    have hb' : b = s.heap.objs.size + 4 ∨ b = s.heap.objs.size + 2 ∨ b = s.heap.objs.size + 3 ∨ b = s.heap.objs.size ∨ b = s.heap.objs.size + 1 := by simpa using hb
    rcases hb' with rfl | rfl | rfl | rfl | rfl
    · exact ⟨_, hz⟩
    · exact ⟨_, hTI⟩
    · exact ⟨_, hTO⟩
    · exact ⟨_, ho1⟩
    · exact ⟨_, ho2⟩
  · rintro i v m₁ nx h tk own hi ⟨T, vals, rfl, ⟨x, y, hx, hy, rfl⟩, hT⟩
    exact turn i T x y m₁ nx h tk own (by simpa using hx) (by simpa using hy) hT
  · intro m₁ nx h tk hJ
    exact done m₁ nx h tk (by simpa using hJ)
end
end
section
open PySem PySem.W PyProof.Rows PySem.Calls PySem.Spec
set_option maxHeartbeats 2000000
theorem entry_update_loop : entryFor table "dict.update.loop" = some Builtin.«dict.update.loop» := entryFor_of_tree (by kernel_rfl)
theorem plain_update_loop : plainId "dict.update.loop" = true := by decide +kernel
theorem list_no_keys : typeLookup (.type "list") "keys" = pure none := am_miss_of_fast (by kernel_rfl)
section
variable {prog : Program} {w : World} {A : Around} {E : Value → Shared → Prop} {s : Shared}
theorem keys_miss {a : Addr} {xs : Array Value} {k : Nat} {Q : Option Value → Shared → Prop} (hx : s.heap.get? a = some (listOf xs k)) (hA : A.handled = none)
    (h : ∀ h' tk, (∀ b o, s.heap.get? b = some o → h'.get? b = some o) → Q none { s with heap := h', toks := tk }) : wpAny (model prog w) A (getAttr? (.ref a) "keys") Q E s := by
  obtain ⟨hp, g, d, tk, os⟩ := s
  have hT : ∀ tk', (⟨hp, g, d, tk', os⟩ : Shared).TypeIs (.ref a) "list" := fun _ => ⟨_, hx, rfl⟩
  have f1 := sub_AttributeError
  have f3 := F.slot_list_getattribute.lookup
  have f4 := F.slot_list_getattribute.bind (.ref a)
  have f5 := am_list_getattr_none
  unfold getAttr? getAttrBy? getAttrBy
  repeat (any_goals (first | assumption | exact hT _ | ((with_reducible show wpAny _ _ (call (Value.builtin "list.__getattribute__") _ _) _ _ _); refine call_meets F.slot_list_getattribute (hT _) am_entry_list_getattribute (F.args_list_getattribute_2 _ _) (meets_getattribute_miss_list a xs k #[] "keys" _ list_no_keys (by decide) (by decide)) ⟨hx, hA, fun h' tk' e hx' => ?_⟩) | wp_step))
  obtain ⟨t', u', he⟩ := hx'.there
  show wpAny _ _ (getattributeRaised _ _ _ _ _ _ _) _ _ _
  unfold getattributeRaised
  repeat (any_goals (first | assumption | wp_step))
  exact h _ _ hx'.keeps

/-- a list's items are tuples of an int and a value -/
def PairsAt (h : Heap) (vs : List Value) (ps : List (Int × Value)) : Prop := vs.length = ps.length ∧ ∀ (i : Nat) (v : Value), vs[i]? = some v → ∃ (k : Int) (t : Tok) (x : Value) (T : Addr), ps[i]? = some (k, x) ∧ v = .ref T ∧ h.IsTuple T #[.int k t, x]
theorem PairsAt.keeps {h h' : Heap} {vs : List Value} {ps : List (Int × Value)} (x : PairsAt h vs ps) (hk : ∀ b o, h.get? b = some o → h'.get? b = some o) : PairsAt h' vs ps :=
  ⟨x.1, fun i v e => let ⟨k, t, y, T, a, b, c⟩ := x.2 i v e; ⟨k, t, y, T, a, b, c.at fun o => hk T o⟩⟩

theorem PairsAt.but {h h' : Heap} {vs : List Value} {ps : List (Int × Value)} {I d : Addr} (x : PairsAt h vs ps) (hT : ∀ (i : Nat) (T : Addr), vs[i]? = some (.ref T) → T ≠ I ∧ T ≠ d) (hk : ∀ b o, b ≠ I → b ≠ d → h.get? b = some o → h'.get? b = some o) : PairsAt h' vs ps :=
  ⟨x.1, fun i v e => let ⟨k, t, y, T, a, b, c⟩ := x.2 i v e; ⟨k, t, y, T, a, b, c.at fun o => hk T o (hT i T (b ▸ e)).1 (hT i T (b ▸ e)).2⟩⟩
theorem update_loop {d I l : Addr} {vs : List Value} {ps : List (Int × Value)} {R : Result → Shared → Prop} {St : Nat → Heap → Prop} (W : Walks prog w A.in1 I [I, l] [I] vs.length (fun i v => vs[i]? = some v) St) (hdI : d ≠ I) (hdl : d ≠ l) (hn : vs.length ≤ 100000)
    (hT : ∀ (i : Nat) (T : Addr), vs[i]? = some (.ref T) → T ≠ I ∧ T ≠ d) :
    ∀ (k i : Nat) (s : Shared) (kvs : List (Int × Value)) (tk : Tok), vs.length - i = k → i ≤ vs.length → St i s.heap → s.heap.DictOf (intKind prog w) d kvs → kvs.length ≤ i → PairsAt s.heap vs ps →
    (∀ h' tk', h'.DictOf (intKind prog w) d ((ps.drop i).foldl (fun kv p => stored kv p.1 p.2) kvs) → (∀ b o, b ≠ I → b ≠ d → s.heap.get? b = some o → h'.get? b = some o) → R (.ok (.ret .none)) { s with heap := h', toks := tk' }) →
    codeAny (model prog w) A (.builtin "dict.update.loop" ⟨[.ref d, .ref I, .int i tk, .none], []⟩) R s := by
  intro k
  induction k with
  | zero =>
    intro i s kvs tk hk hi hst hD hl hP hR
    have hin : i = vs.length := by omega
    refine codeAny_builtin entry_update_loop ?_
    rw [Around.under_plainId plain_update_loop _]
    show wpAny _ A.in1 (pyNext (.ref I) >>= _) _ _ s
    subst hin
    refine wpAny_bind (W.done s _ _ hst fun h' tk' hk' => ?_)
    have e : ps.drop vs.length = [] := List.drop_eq_nil_of_le (by rw [hP.1]; exact Nat.le_refl _)
    rw [e] at hR
    refine wpAny_bind (wpAny_pure (wpAny_pure (hR h' tk' ?_ fun b o hb _ => hk' b o (by simpa using hb))))
    obtain ⟨o, es, ep, ho, r⟩ := hD
    exact ⟨o, es, ep, hk' d o (by simpa using hdI) ho, r⟩
  | succ k ih =>
    intro i s kvs tk hk hi hst hD hl hP hR
    have hlt : i < vs.length := by omega
    refine codeAny_builtin entry_update_loop ?_
    rw [Around.under_plainId plain_update_loop _]
    show wpAny _ A.in1 (pyNext (.ref I) >>= _) _ _ s
    refine wpAny_bind (W.item i s _ _ hlt hst fun v h' tk' hv hst' hk' => ?_)
    obtain ⟨kk, t, x, T, hp, rfl, hTt⟩ := hP.2 i v hv
    obtain ⟨n1, n2⟩ := hT i T hv
    have hTt' : h'.IsTuple T #[.int kk t, x] := hTt.at fun o => hk' T o (by simpa using n1)
    have hD' : h'.DictOf (intKind prog w) d kvs := by
      obtain ⟨o, es, ep, ho, r⟩ := hD
      exact ⟨o, es, ep, hk' d o (by simpa using hdI) ho, r⟩
    refine wpAny_bind (wpAny_holding ?_)
    refine wpAny_bind (wpAny_tryCatch ?_)
    unfold Builtin.Dict.pairItems
    refine wpAny_bind (wpAny_typeOf (T := "tuple") hTt'.typeIs ?_)
    rw [if_pos (by decide)]
    obtain ⟨oT, hoT, hcT, nT, hdT⟩ := hTt'
    refine wpAny_bind (wpAny_seqItems hoT hdT (wpAny_pure ?_))
    show wpAny _ _ (holding [.int kk t, x] (dictSet d (.int kk t) x)) _ _ _
    refine wpAny_holding ?_
    refine wpAny_dictSet_pairs (s := { s with heap := h', toks := tk' }) (hsz := by rw [PySem.sizeLine_eq]; omega) (intKind_is _ _ kk t) hD' fun h'' hD'' hs'' => ?_
    refine wpAny_pure ⟨plainId_quiet plain_update_loop _, ?_⟩
    have hk2 : ∀ b o, b ≠ I → b ≠ d → s.heap.get? b = some o → h''.get? b = some o := fun b o h1 h2 e => (hs''.2 b h2).trans (hk' b o (by simpa using h1) e)
    refine ih (i + 1) { s with heap := h'', toks := tk' + 1 } (stored kvs kk x) _ (by omega) hlt ?_ hD'' (Nat.le_trans (stored_len kk x kvs) (by omega)) (hP.but hT hk2) (fun h3 tk3 hD3 hk3 => ?_)
    · refine W.frame (i + 1) h' h'' hst' fun b hb o e => ?_
      have hbd : b ≠ d := by
        rcases List.mem_cons.mp hb with rfl | hb
        · exact hdI.symm
        · rw [List.mem_singleton.mp hb]; exact hdl.symm
      exact (hs''.2 b hbd).trans e
    · refine hR h3 tk3 ?_ fun b o h1 h2 e => hk3 b o h1 h2 (hk2 b o h1 h2 e)
      have hdrop : ps.drop i = (kk, x) :: ps.drop (i + 1) := by
        have hlt' : i < ps.length := by rw [← hP.1]; exact hlt
        rw [List.drop_eq_getElem_cons hlt']
        congr 1
        exact Option.some.inj ((List.getElem?_eq_getElem hlt').symm.trans hp)
      rw [hdrop]
      exact hD3

theorem dict_pairs_call {l : Addr} {vs : List Value} {n : Nat} {ps : List (Int × Value)} {Q : Value → Shared → Prop} (hh : A.handled = none) (hl : s.heap.get? l = some (listOf vs.toArray n)) (hP : PairsAt s.heap vs ps) (hn : vs.length ≤ 100000)
    (h : ∀ h' tk', h'.DictOf (intKind prog w) s.heap.objs.size (ps.foldl (fun kv p => stored kv p.1 p.2) []) → (∀ b o, s.heap.get? b = some o → h'.get? b = some o) → Q (.ref s.heap.objs.size) { s with heap := h', toks := tk' }) :
    wpAny (model prog w) A (call (.type "dict") [.ref l]) Q E s := by
  refine callType_codes (Q₁ := fun obj s₁ => obj = .ref s.heap.objs.size ∧ s₁ = { s with heap := s.heap.push { cls := .type "dict", data := .dict #[] } }) F.kt_called_dict (F.kt_typeCall_dict_1 _) F.entry_dict_init (kt_code_dict_new _ ⟨rfl, rfl⟩) ?_
  rintro obj s₁ ⟨rfl, rfl⟩
  have hnew : (s.heap.push { cls := .type "dict", data := .dict #[] }).DictOf (intKind prog w) s.heap.objs.size [] := Heap.DictOf.new s.heap
  have hl' : (s.heap.push { cls := .type "dict", data := .dict #[] }).get? l = some (listOf vs.toArray n) := Heap.get?_push_of_some _ hl
  have hlt : l < s.heap.objs.size := Heap.lt_size hl
  refine ⟨hnew.typeIs, F.args_dict_init_2 _ _, ?_⟩
  unfold Builtin.«dict.__init__»
  refine wpAny_bind ?_
  unfold Builtin.Dict.selfAndRest
  refine wpAny_bind (wpAny_notOrdered_dict hnew.typeIs ?_)
  show wpAny _ _ (pure (s.heap.objs.size, [Value.ref l])) _ _ _
  refine wpAny_pure ?_
  show wpAny _ _ (Builtin.Dict.updateFrom "dict.__init__" s.heap.objs.size (.ref l) [] .none) _ _ _
  unfold Builtin.Dict.updateFrom
  have hT : (⟨s.heap.push { cls := .type "dict", data := .dict #[] }, s.gens, s.drawn, s.toks, s.os⟩ : Shared).TypeIs (.ref l) "list" := ⟨_, hl', rfl⟩
  refine wpAny_bind (wpAny_typeOf hT ?_)
  rw [if_pos (by decide)]
  refine wpAny_bind (keys_miss hl' hh fun h1 tk1 hk1 => ?_)
  rw [if_pos (show (none : Option Value).isNone = true from rfl)]
  refine wpAny_bind (wpAny_rule ?_)
  have hl1 : h1.get? l = some (listOf vs.toArray n) := hk1 _ _ hl'
  have hls1 : h1.IsList l vs.toArray := ⟨_, hl1, rfl, n, rfl⟩
  have hd1 : h1.DictOf (intKind prog w) s.heap.objs.size [] := by
    obtain ⟨o, es, ep, ho, r⟩ := hnew
    exact ⟨o, es, ep, hk1 _ _ ho, r⟩
  have hk0 : ∀ b o, s.heap.get? b = some o → h1.get? b = some o := fun b o e => hk1 b o (Heap.get?_push_of_some _ e)
  have hdlt : s.heap.objs.size < h1.objs.size := by
    obtain ⟨o, es, ep, ho, r⟩ := hd1
    exact Heap.lt_size ho
  refine wpAny_bind (wpAny_pyIter_list (s := ⟨h1, s.gens, s.drawn, tk1, s.os⟩) hls1 ?_)
  refine wpAny_pure ⟨plainId_quiet plain_update_loop _, ?_⟩
  have hne : l ≠ h1.objs.size := Nat.ne_of_lt (Heap.lt_size hl1)
  have W := Walks.list (prog := prog) (w := w) (A := A.in1.in1) hh h1.objs.size l hne vs.toArray
  have hlen : vs.toArray.size = vs.length := by simp
  rw [hlen] at W
  have W' : Walks prog w A.in1.in1 h1.objs.size [h1.objs.size, l] [h1.objs.size] vs.length (fun i v => vs[i]? = some v) (fun i h => h.IsListIter h1.objs.size l i ∧ h.IsList l vs.toArray) := by
    refine ⟨W.sub, W.frame, fun i s Q E hi st hQ => W.item i s Q E hi st fun v h' tk hv => hQ v h' tk (by simpa using hv), W.done, W.self⟩
  refine update_loop (ps := ps) W' (Nat.ne_of_lt hdlt) (Nat.ne_of_gt hlt) hn ?_ vs.length 0 _ [] 0 rfl (Nat.zero_le _) ?_ ?_ (Nat.le_refl _) ?_ ?_
  · intro i T hi
    obtain ⟨k, t, x, T', a, b, c⟩ := hP.2 i _ hi
    cases b
    obtain ⟨o, ho, _⟩ := c
    exact ⟨Nat.ne_of_lt (Nat.lt_trans (Heap.lt_size ho) hdlt), Nat.ne_of_lt (Heap.lt_size ho)⟩
  · exact ⟨⟨_, Heap.get?_push_size _ rfl, rfl, rfl⟩, hls1.at fun o e => Heap.get?_push_of_some _ e⟩
  · exact hd1.push _
  · exact hP.keeps fun b o e => Heap.get?_push_of_some _ (hk0 b o e)
  · intro h' tk' hd' hk'
    refine ⟨rfl, h h' tk' hd' fun b o e => hk' b o ?_ ?_ (Heap.get?_push_of_some _ (hk0 b o e))⟩
    · exact Nat.ne_of_lt (Heap.lt_size (hk0 b o e))
    · exact Nat.ne_of_lt (Heap.lt_size e)

/-- dict(l): a dict out of a list of pairs, onto the ledger -/
theorem dict_pairs {h₀ : Heap} {L l : Addr} {m : Str → Option Value} {news : List (Addr × Obj)} {vs : List Value} {n : Nat} {ps : List (Int × Value)} {Q : Value → Shared → Prop} (hh : A.handled = none) (F : Fr h₀ L s.heap m) (N : News h₀ L s.heap news) (hbig : sysModules < h₀.objs.size) (hl : s.heap.get? l = some (listOf vs.toArray n)) (hP : PairsAt s.heap vs ps) (hn : vs.length ≤ 100000)
    (h : ∀ D o h' tk', o.IsDictOf (intKind prog w) (ps.foldl (fun kv p => stored kv p.1 p.2) []) → (D == sysModules) = false → (∀ p ∈ news, @LT.lt Nat _ p.1 D) → Fr h₀ L h' m → News h₀ L h' ((D, o) :: news) → Q (.ref D) { s with heap := h', toks := tk' }) :
    wpAny (model prog w) A (call (.type "dict") [.ref l]) Q E s := by
  refine dict_pairs_call hh hl hP hn fun h' tk' hd hk => ?_
  obtain ⟨o, ho, hd'⟩ := Heap.dictOf_iff.mp hd
  refine h s.heap.objs.size o h' tk' hd' (F.notModules hbig) (fun p hp => Heap.lt_size (N p hp).1) (F.keeps hk) fun q hq => ?_
  rcases List.mem_cons.mp hq with rfl | hq
  · exact ⟨ho, Ne.symm (Nat.ne_of_lt F.ns.lt), next_is_new F⟩
  · exact ⟨hk _ _ (N q hq).1, (N q hq).2⟩
end
end
section
open PySem PySem.W PyProof.Rows PySem.Calls PySem.Spec
set_option maxHeartbeats 2000000
section
variable {prog : Program} {w : World} {A : Around} {E : Value → Shared → Prop} {s : Shared} {h₀ : Heap} {L : Addr} {m : Str → Option Value} {env : Env}
/-- an object that stands: in the base or on the ledger -/
def Has (h₀ : Heap) (d : Addr) (od : Obj) (nw : List (Addr × Obj)) : Prop := h₀.get? d = some od ∨ (d, od) ∈ nw
theorem Has.at {h : Heap} {d : Addr} {od : Obj} {nw : List (Addr × Obj)} (x : Has h₀ d od nw) (k : ∀ b o, h₀.get? b = some o → h.get? b = some o) (N : News h₀ L h nw) : h.get? d = some od := x.elim (k _ _) fun q => (N _ q).1
/-- a comprehension's source: the keys of a dict of ints -/
def DictSrc (prog : Program) (w : World) (A : Around) (h₀ : Heap) (L : Addr) (m : Str → Option Value) (env : Env) (elt : Expr) (x : Str) (scope : Scope) (cl : List (Str × Addr)) (Fin : Shared → List Value → List (Addr × Obj) → Prop) (xv : Value) (s₁ : Shared) : Prop :=
  ∃ d od kvs news, xv = .ref d ∧ A.handled = none ∧ Fr h₀ L s₁.heap m ∧ News h₀ L s₁.heap news ∧ Has h₀ d od news ∧ od.IsDictOf (intKind prog w) kvs ∧ (d == sysModules) = false ∧ kvs.length ≤ sizeLine ∧
    ∀ s₂ : Shared, (∃ h, s₂ = { s₁ with heap := h }) → LCg.CompRest prog w A h₀ L m env elt x scope cl s₂ (Has h₀ d od) (fun i v => ∃ k x t, kvs[i]? = some (k, x) ∧ v = .int k t) (Fin s₂) kvs.length 0 [] news
theorem DictSrc.intro {elt : Expr} {x : Str} {scope : Scope} {cl : List (Str × Addr)} {Fin : Shared → List Value → List (Addr × Obj) → Prop} {d : Addr} {kvs : List (Int × Value)} {news : List (Addr × Obj)} {s₁ : Shared}
    (hh : A.handled = none) (F : Fr h₀ L s₁.heap m) (N : News h₀ L s₁.heap news) {od : Obj} (hd : Has h₀ d od news) (hO : od.IsDictOf (intKind prog w) kvs) (lo : (d == sysModules) = false) (hsz : kvs.length ≤ sizeLine)
    (h : ∀ g, LCg.CompRest prog w A h₀ L m env elt x scope cl { s₁ with heap := g } (Has h₀ d od) (fun i v => ∃ k x t, kvs[i]? = some (k, x) ∧ v = .int k t) (Fin { s₁ with heap := g }) kvs.length 0 [] news) :
    DictSrc prog w A h₀ L m env elt x scope cl Fin (.ref d) s₁ := ⟨d, od, kvs, news, rfl, hh, F, N, hd, hO, lo, hsz, fun _ ⟨g, e⟩ => e ▸ h g⟩
theorem stop_dsrc {elt : Expr} {x : Str} {scope : Scope} {cl : List (Str × Addr)} {Fin : Shared → List Value → List (Addr × Obj) → Prop} {xv : Value} {s₁ : Shared} (h : Stop (DictSrc prog w A h₀ L m env elt x scope cl Fin xv s₁)) : DictSrc prog w A h₀ L m env elt x scope cl Fin xv s₁ := h
theorem ListComp_D {elt iter : Expr} {x : Str} {px : Pos} {scope : Scope} {cl : List (Str × Addr)} {pos : Pos} {Q : Value → Shared → Prop}
    (_F₀ : Fr h₀ L s.heap m) (hclos : closureFor scope env = pure cl) (hcell : ∀ y ∈ scope.names, y.2 ≠ .cell) (hkind : scope.kind = .function)
    (hnames : ∀ y ∈ scope.names, y.2 = .local → scope.names.lookup y.1 = some .local) (hx : scope.names.lookup x = some .local)
    (h : wpAny (model prog w) A (eval iter env) (DictSrc prog w A h₀ L m env elt x scope cl (fun s₂ => LCg.FinE h₀ L m s₂ Q)) E s)
    (hs : ∀ x, foldedSetIterable iter env x = pure x) :
    wpAny (model prog w) A (eval (.ListComp elt [⟨.Name x px, iter, [], 0⟩] scope pos) env) Q E s := by
  rw [eval_ListComp]
  refine wpAny_comprehension_free (use := none) rfl hs hclos hkind hnames (wpAny_mono h (fun xv s₁ h₁ => ?_) fun _ _ e => e)
  obtain ⟨d, od, kvs, news, rfl, hh, F, N, hd, hO, lo, hsz, R⟩ := h₁
  obtain ⟨es, ep, hO⟩ := hO
  have hm : s₁.heap.DictAt (intKind prog w) d kvs ep := ⟨od, es, hd.at F.keep N, hO⟩
  have hlt : d < s₁.heap.objs.size := hm.lt_size
  have up : ∀ o b x, s₁.heap.get? b = some x → (s₁.heap.push o).get? b = some x := fun o b x e => Heap.get?_push_of_some _ e
  refine wpAny_pyIter_dict lo hm ?_
  have W := Walks.dictKeys (knd := intKind prog w) hh s₁.heap.objs.size d (Nat.ne_of_lt hlt) kvs ep
  have W' : Walks prog w A s₁.heap.objs.size [s₁.heap.objs.size, d] [s₁.heap.objs.size] kvs.length (fun i v => ∃ k x t, kvs[i]? = some (k, x) ∧ v = .int k t) _ :=
    ⟨W.sub, W.frame, fun i s Q E hi st hQ => W.item i s Q E hi st fun v h' tk hv => hQ v h' tk (by obtain ⟨k, x, a, b⟩ := hv; obtain ⟨t, rfl⟩ := Value.isInt_shape b; exact ⟨k, x, t, a, rfl⟩), W.done, W.self⟩
  refine LCg.block_U W' hsz (fun i h st => by obtain ⟨o, e, _⟩ := st.1; exact ⟨o, e⟩) ?_ hcell hkind hx ⟨⟨_, Heap.get?_push_size _ rfl, rfl, rfl⟩, hm.push _⟩ (fun b hb => ?_)
      (F.keeps (up _)) (N.grown (up _)) (Nat.ne_of_lt F.ns.lt) (next_is_new F) (fun p hp => Nat.ne_of_lt (Heap.lt_size (N p hp).1)) hd (R _ ⟨_, rfl⟩) ?_
  · intro i h h' o nw st e e' k N hs
    refine ⟨?_, ⟨od, es, hs.at k N, hO⟩⟩
    obtain ⟨o', ho', r⟩ := st.1
    rw [e] at ho'
    cases ho'
    exact ⟨o, e', r⟩
  · show b < (s₁.heap.push _).objs.size
    rw [Heap.size_push]
    rcases List.mem_cons.mp hb with rfl | hb
    · exact Nat.lt_succ_self _
    · rw [List.mem_singleton.mp hb]; exact Nat.lt_succ_of_lt hlt
  · intro D C h tk m' ys news' F' N' o1 hn hC₀ hD₀ hCL hDL hCD offC fin
    refine ⟨m', hn, fun h'' hs'' => fin D h'' tk (F'.change hs'' hCL hC₀) (fun p hp => ?_) o1⟩
    refine ⟨hs''.extBut _ _ ?_ (N' p hp).1, (N' p hp).2⟩
    rcases List.mem_cons.mp hp with rfl | hp
    · exact Ne.symm hCD
    · exact offC p hp

theorem ditem {d : Addr} {kvs : List (Int × Value)} {k : Int} {t : Tok} {v : Value} {value slice : Expr} {Q : Value → Shared → Prop} (hD : s.heap.DictOf (intKind prog w) d kvs) (hv : valueAt kvs k = some v) (h : Q v { s with toks := s.toks + 1 })
    (hs : subscripted slice false (.ref d) (.int k t) = operate [.ref d, .int k t] (getItem (.ref d) (.int k t)) := by with_unfolding_all rfl) : wpAny (model prog w) A (subscriptTail value slice (.ref d) (.int k t)) Q E s :=
  tail_any hD.typeIs PySem.F.slot_dict_getitem.lookup (wpAny_getItem_of (intKind_is prog w k t) hD.mapOf hv h) hs

/-- list(range(..)), onto the ledger -/
theorem list_range_led {r : Addr} {a b : Int} {t u v : Tok} {n : Nat} {news : List (Addr × Obj)} {Q : Value → Shared → Prop} (hh : A.handled = none) (F : Fr h₀ L s.heap m) (N : News h₀ L s.heap news)
    (hr : IsRange s.heap r a b 1 t u v) (hsmall : Builtin.Range.small a b 1 = true) (hn : Builtin.Range.rangeSize a b 1 = (n : Int)) (hlen : n ≤ 100)
    (h : ∀ D c us h' tk, IntsAre us (rangeInts a 1 n) → (∀ q ∈ news, @LT.lt Nat _ q.1 D) → Fr h₀ L h' m → News h₀ L h' ((D, listOf us.toArray c) :: news) → Q (.ref D) { s with heap := h', toks := tk }) :
    wpAny (model prog w) A (call (.type "list") [.ref r]) Q E s := by
  refine call_list_range hh hr hsmall hn (by omega) fun h' tk acc' c' hk hS' hacc => ?_
  have hC : CarriedAll acc'.toList ((rangeInts a 1 n).map .int) := carriedAll_of_get _ _ (by simp [hacc.1, rangeInts_length]) fun j v hv => by
    have hv' : acc'[j]? = some v := by simpa using hv
    obtain ⟨t, rfl⟩ := hacc.2 j v hv'
    have hj : j < n := by rw [← hacc.1]; exact (Array.getElem?_eq_some_iff.mp hv').1
    exact ⟨PyData.int (a + (j : Nat) * 1), by simp only [List.getElem?_map, rangeInts_get hj, Option.map_some], .int _ _⟩
  refine h s.heap.objs.size c' acc'.toList h' tk (CarriedAll.intsOf (f := fun i : Int => i) (as := rangeInts a 1 n) hC |> fun x => by simpa using x) (fun q hq => Heap.lt_size (N q hq).1) (F.keeps hk) (news_pushed F N hk (by rw [Array.toArray_toList]; exact hS') rfl)
def StopR : Prop := True
theorem stopR : StopR := trivial
def StopL : Prop := True
theorem stopL : StopL := trivial
theorem stop_lst {M : Model} {A : Around} {E : Value → Shared → Prop} {s : Shared} {r : Addr} {Q : Value → Shared → Prop} (_ : StopL) (h : Stop (wpAny M A (call (.type "list") [.ref r]) Q E s)) : wpAny M A (call (.type "list") [.ref r]) Q E s := h
theorem stop_enu {M : Model} {A : Around} {E : Value → Shared → Prop} {s : Shared} {r : Addr} {Q : Value → Shared → Prop} (_ : StopR) (h : Stop (wpAny M A (call (.type "enumerate") [.ref r]) Q E s)) : wpAny M A (call (.type "enumerate") [.ref r]) Q E s := h
theorem stop_zip {M : Model} {A : Around} {E : Value → Shared → Prop} {s : Shared} {r r' : Addr} {Q : Value → Shared → Prop} (_ : StopR) (h : Stop (wpAny M A (call (.type "zip") [.ref r, .ref r']) Q E s)) : wpAny M A (call (.type "zip") [.ref r, .ref r']) Q E s := h
theorem stop_dic {M : Model} {A : Around} {E : Value → Shared → Prop} {s : Shared} {r : Addr} {Q : Value → Shared → Prop} (h : Stop (wpAny M A (call (.type "dict") [.ref r]) Q E s)) : wpAny M A (call (.type "dict") [.ref r]) Q E s := h
def StopA : Prop := True
theorem stopA : StopA := trivial
theorem stop_add {M : Model} {A : Around} {E : Value → Shared → Prop} {s : Shared} {a b : Addr} {Q : Value → Shared → Prop} (_ : StopA) (h : Stop (wpAny M A (binaryOp .Add (.ref a) (.ref b)) Q E s)) : wpAny M A (binaryOp .Add (.ref a) (.ref b)) Q E s := h
theorem stop_sub {M : Model} {A : Around} {E : Value → Shared → Prop} {s : Shared} {vx sx : Expr} {d : Addr} {k : Int} {t : Tok} {Q : Value → Shared → Prop} (_ : StopR) (h : Stop (wpAny M A (subscriptTail vx sx (.ref d) (.int k t)) Q E s)) : wpAny M A (subscriptTail vx sx (.ref d) (.int k t)) Q E s := h
theorem stop_in {M : Model} {A : Around} {E : Value → Shared → Prop} {s : Shared} {v : Value} {d : Addr} {Q : Value → Shared → Prop} (_ : StopR) (h : Stop (wpAny M A (compareOp .In v (.ref d)) Q E s)) : wpAny M A (compareOp .In v (.ref d)) Q E s := h

/-- a dict by a function: its keys, and at each its function's value -/
def KvF (f : Int → Int) (ks : List Int) (kvs : List (Int × Value)) : Prop := kvs.map (·.1) = ks ∧ ∀ p ∈ kvs, ∃ t, p.2 = .int (f p.1) t
theorem stored_new {kvs : List (Int × Value)} {k : Int} {v : Value} (h : k ∉ kvs.map (·.1)) : stored kvs k v = kvs ++ [(k, v)] := by
  unfold stored
  rw [if_neg]
  intro c
  obtain ⟨p, hp, e⟩ := List.any_eq_true.mp c
  exact h (List.mem_map.mpr ⟨p, hp, by simpa using e⟩)
theorem foldl_stored {ps : List (Int × Value)} : ∀ {kvs : List (Int × Value)}, ((kvs ++ ps).map (·.1)).Nodup → ps.foldl (fun kv p => stored kv p.1 p.2) kvs = kvs ++ ps := by
  induction ps with
  | nil => intro kvs _; simp
  | cons p r ih =>
    intro kvs hn
    rw [List.foldl_cons, stored_new, ih]
    · rw [List.append_assoc]; rfl
    · rw [List.append_assoc]; exact hn
    · intro hm
      rw [List.map_append, List.nodup_append] at hn
      exact hn.2.2 p.1 hm p.1 (List.mem_map.mpr ⟨p, .head _, rfl⟩) rfl
theorem KvF.get {f : Int → Int} {ks : List Int} {kvs : List (Int × Value)} (h : KvF f ks kvs) (c : Int) : (c ∈ ks ∧ ∃ t, valueAt kvs c = some (.int (f c) t)) ∨ (c ∉ ks ∧ valueAt kvs c = none) := by
  cases hv : valueAt kvs c with
  | some v =>
    have hm := valueAt_mem hv
    obtain ⟨t, e⟩ := h.2 _ hm
    refine .inl ⟨by rw [← h.1]; exact List.mem_map.mpr ⟨_, hm, rfl⟩, t, ?_⟩
    rw [← e]
  | none =>
    refine .inr ⟨fun hc => ?_, rfl⟩
    rw [← h.1] at hc
    obtain ⟨p, hp, e⟩ := List.mem_map.mp hc
    unfold valueAt at hv
    have h1 := Option.map_eq_none_iff.mp hv
    exact absurd (by simpa using e) (List.find?_eq_none.mp h1 p hp)
theorem KvF.isSome {f : Int → Int} {ks : List Int} {kvs : List (Int × Value)} (h : KvF f ks kvs) (c : Int) : (valueAt kvs c).isSome = decide (c ∈ ks) := by
  rcases h.get c with ⟨a, t, e⟩ | ⟨a, e⟩
  · rw [e, decide_eq_true a]; rfl
  · rw [e, decide_eq_false a]; rfl
theorem KvF.getD {f : Int → Int} {ks : List Int} {kvs : List (Int × Value)} (h : KvF f ks kvs) (c x : Int) (t : Tok) : ∃ u, (valueAt kvs c).getD (.int x t) = .int (if c ∈ ks then f c else x) u := by
  rcases h.get c with ⟨a, u, e⟩ | ⟨a, e⟩
  · exact ⟨u, by rw [e, if_pos a]; rfl⟩
  · exact ⟨t, by rw [e, if_neg a]; rfl⟩

/-- a comprehension over ints, by an invariant over what is made and the ledger -/
theorem comp_ints {elt : Expr} {x : Str} {scope : Scope} {cl : List (Str × Addr)} {S : List (Addr × Obj) → Prop} {Fin : List Value → List (Addr × Obj) → Prop} {news : List (Addr × Obj)} {vs : List Value} {ns : List Int} (J : Nat → List Value → List (Addr × Obj) → Prop) (hi : IntsAre vs ns) (h0 : J 0 [] news)
    (turn : ∀ i k t ys nw I oI C oC D m₂ h tk (E' : Value → Shared → Prop), ns[i]? = some k → J i ys nw → LCg.NsObj oC m₂ → m₂ x = some (.int k t) → Fr h₀ L h m → News h₀ L h ((I, oI) :: (C, oC) :: (D, LCg.lst ys) :: nw) → LCg.Off3 I C D nw → ((@Ne Nat I C) ∧ (@Ne Nat I D) ∧ (@Ne Nat C D)) →
      wpAny (model prog w) A (eval elt (compEnvC scope cl C env)) (LCg.CompEnd h₀ L m { s with heap := h, toks := tk } I oI C oC D (LCg.lst ys) S (fun y nw' => J (i + 1) (ys ++ [y]) nw')) E' { s with heap := h, toks := tk })
    (fin : ∀ ys nw, J ns.length ys nw → Fin ys nw) : LCg.CompRest prog w A h₀ L m env elt x scope cl s S (fun i v => vs.toArray[i]? = some v) Fin vs.toArray.size 0 [] news := by
  refine comp_rest J h0 ?_ ?_
  · rintro i v ys nw I oI C oC D m₂ h tk E' hin hP hJ hC hx F N off ne
    obtain ⟨k, t, rfl, hk⟩ := IntsAre.at hi i v (by simpa using hP)
    exact turn i k t ys nw I oI C oC D m₂ h tk E' hk hJ hC hx F N off ne
  · intro ys nw hJ
    rw [List.size_toArray, hi.length] at hJ
    exact fin ys nw hJ

/-- values that are tuples of the ledger, each an int and a value -/
def PairsIn (ts : List (Addr × Obj)) (ys : List Value) (ps : List (Int × Value)) : Prop := ys.length = ps.length ∧ ∀ (j : Nat) (v : Value), ys[j]? = some v → ∃ (p : Int × Value) (T : Addr) (t : Tok) (oT : Obj) (n : Nat), ps[j]? = some p ∧ v = .ref T ∧ (T, oT) ∈ ts ∧ oT.cls = .type "tuple" ∧ oT.data = .seq #[.int p.1 t, p.2] n
theorem PairsIn.nil : PairsIn [] [] [] := ⟨rfl, fun j v h => by simp at h⟩
theorem PairsIn.snoc {ts : List (Addr × Obj)} {ys : List Value} {ps : List (Int × Value)} {T : Addr} {a : Int} {t : Tok} {b : Value} {oT : Obj} {n : Nat} (h : PairsIn ts ys ps) (hc : oT.cls = .type "tuple") (hd : oT.data = .seq #[.int a t, b] n) : PairsIn ((T, oT) :: ts) (ys ++ [.ref T]) (ps ++ [(a, b)]) := by
  refine ⟨by rw [List.length_append, List.length_append, h.1]; rfl, fun j v hv => ?_⟩
  by_cases hj : j < ys.length
  · rw [List.getElem?_append_left hj] at hv
    obtain ⟨p, T', t', oT', n', h1, h2, h3, h4, h5⟩ := h.2 j v hv
    exact ⟨p, T', t', oT', n', by rw [List.getElem?_append_left (by rw [← h.1]; exact hj)]; exact h1, h2, .tail _ h3, h4, h5⟩
  · have hj' : j = ys.length := by
      have := (List.getElem?_eq_some_iff.mp hv).1
      rw [List.length_append, List.length_singleton] at this
      omega
    subst hj'
    rw [List.getElem?_append_right (Nat.le_refl _), Nat.sub_self] at hv
    have hv' : Value.ref T = v := Option.some.inj hv
    refine ⟨(a, b), T, t, oT, n, ?_, hv'.symm, .head _, hc, hd⟩
    rw [h.1, List.getElem?_append_right (Nat.le_refl _), Nat.sub_self]
    rfl
theorem PairsIn.at {h : Heap} {ts all : List (Addr × Obj)} {ys : List Value} {ps : List (Int × Value)} (x : PairsIn ts ys ps) (N : News h₀ L h all) (hs : ∀ q ∈ ts, q ∈ all) : PairsAt h ys ps :=
  ⟨x.1, fun i v hv => let ⟨p, T, t, oT, n, h1, h2, h3, h4, h5⟩ := x.2 i v hv; ⟨p.1, t, p.2, T, h1, h2, oT, (N _ (hs _ h3)).1, h4, n, h5⟩⟩
/-- the ledger of a comprehension that makes tuples (f k, g k) -/
def TupJ (f g : Int → Int) (ns : List Int) (rest : List (Addr × Obj)) (i : Nat) (ys : List Value) (nw : List (Addr × Obj)) : Prop :=
  ∃ ts ps, nw = ts ++ rest ∧ PairsIn ts ys ps ∧ ps.map (·.1) = (ns.take i).map f ∧ ∀ (j : Nat) (p : Int × Value), ps[j]? = some p → ∃ k u, ns[j]? = some k ∧ p = (f k, .int (g k) u)
theorem TupJ.zero {f g : Int → Int} {ns : List Int} {rest : List (Addr × Obj)} : TupJ f g ns rest 0 [] rest := ⟨[], [], rfl, PairsIn.nil, rfl, fun j p h => by simp at h⟩
theorem TupJ.next {f g : Int → Int} {ns : List Int} {rest : List (Addr × Obj)} {i : Nat} {ys : List Value} {nw : List (Addr × Obj)} {k : Int} {T : Addr} {t u : Tok} {oT : Obj} {n : Nat} (h : TupJ f g ns rest i ys nw) (hi : i < ns.length) (hk : ns[i]? = some k) (hc : oT.cls = .type "tuple") (hd : oT.data = .seq #[.int (f k) t, .int (g k) u] n) : TupJ f g ns rest (i + 1) (ys ++ [.ref T]) ((T, oT) :: nw) := by
  obtain ⟨ts, ps, rfl, hp, hm, hv⟩ := h
  have hl : ps.length = i := by
    have := congrArg List.length hm
    rw [List.length_map, List.length_map, List.length_take] at this
    omega
  refine ⟨(T, oT) :: ts, ps ++ [(f k, .int (g k) u)], rfl, hp.snoc hc hd, ?_, fun j p hj => ?_⟩
  · rw [List.map_append, hm, List.take_add_one, hk, List.map_append]; rfl
  · by_cases hjl : j < ps.length
    · rw [List.getElem?_append_left hjl] at hj; exact hv j p hj
    · have : j = i := by
        have := (List.getElem?_eq_some_iff.mp hj).1
        rw [List.length_append, List.length_singleton] at this
        omega
      subst this
      rw [← hl, List.getElem?_append_right (Nat.le_refl _), Nat.sub_self] at hj
      exact ⟨k, u, hk, (Option.some.inj hj).symm⟩
/-- such a comprehension's end: a dict by a function -/
theorem TupJ.kv {f g G : Int → Int} {ns : List Int} {ks : List Int} {ps : List (Int × Value)} (hm : ps.map (·.1) = ns.map f) (hv : ∀ (j : Nat) (p : Int × Value), ps[j]? = some p → ∃ k u, ns[j]? = some k ∧ p = (f k, .int (g k) u)) (hks : ns.map f = ks) (hn : ks.Nodup) (hG : ∀ k ∈ ns, G (f k) = g k) : KvF G ks (ps.foldl (fun kv p => stored kv p.1 p.2) []) := by
  rw [foldl_stored (by rw [List.nil_append, hm, hks]; exact hn), List.nil_append]
  refine ⟨hm.trans hks, fun p hp => ?_⟩
  obtain ⟨j, hj⟩ := List.getElem?_of_mem hp
  obtain ⟨k, u, hk, rfl⟩ := hv j p hj
  exact ⟨u, by rw [hG k (List.mem_of_getElem? hk)]⟩
theorem TupJ.mem {f g : Int → Int} {ns : List Int} {rest : List (Addr × Obj)} {i : Nat} {ys : List Value} {nw : List (Addr × Obj)} {q : Addr × Obj} (h : TupJ f g ns rest i ys nw) (hq : q ∈ rest) : q ∈ nw := by
  obtain ⟨ts, ps, rfl, _⟩ := h
  exact List.mem_append.mpr (.inr hq)
theorem comp_end_new {I C D T : Addr} {oI oC oD oT : Obj} {S : List (Addr × Obj) → Prop} {rest : Value → List (Addr × Obj) → Prop} {y : Value} {h' : Heap} {tk : Nat} {nw : List (Addr × Obj)}
    (F : Fr h₀ L h' m) (N : News h₀ L h' ((T, oT) :: (I, oI) :: (C, oC) :: (D, oD) :: nw)) (hT : @Ne Nat T I ∧ @Ne Nat T C ∧ @Ne Nat T D) (off : LCg.Off3 I C D nw) (hS : S ((T, oT) :: nw)) (r : rest y ((T, oT) :: nw)) :
    LCg.CompEnd h₀ L m s I oI C oC D oD S rest y { s with heap := h', toks := tk } :=
  LCg.CompEnd.intro F N ((T, oT) :: nw) (fun p hp => by
    rcases List.mem_cons.mp hp with rfl | hp
    · exact .tail _ (.head _)
    rcases List.mem_cons.mp hp with rfl | hp
    · exact .tail _ (.tail _ (.head _))
    rcases List.mem_cons.mp hp with rfl | hp
    · exact .tail _ (.tail _ (.tail _ (.head _)))
    rcases List.mem_cons.mp hp with rfl | hp
    · exact .head _
    · exact .tail _ (.tail _ (.tail _ (.tail _ hp)))) ⟨hT, off⟩ hS r
theorem getElem?_lt {α : Type} {l : List α} {i : Nat} {x : α} (h : l[i]? = some x) : i < l.length := (List.getElem?_eq_some_iff.mp h).1

/-- the use of a contract that turns one object of the ledger -/
theorem Ctr.use1 {K : Frag} {p : Program} {loose : List Str} {mean : ExcName → Option Value} {mg mb : Str → Option Value} {dR dU : Nat} {f : Addr} {vs : List Value} {R : List (Addr × Obj)} {post : Value → List (Addr × Obj) → Prop} {d : Addr} {o : Obj}
    {dp un : Nat} {gd : Option (List Code)} {cn : Str} {cs : Scope} {a : Addr} {ccd : Value} {cl : List (Str × Addr)} {outer : List Env} {A₀ : Around} {base h₀ : Heap} {L : Addr} {m : Str → Option Value} {s : Shared} {Q E : Value → Shared → Prop} {news : List (Addr × Obj)} (rest : List (Addr × Obj))
    (C : Ctr prog w K p loose mean mg mb dR dU f vs [(d, o)] R post) (B : Below A₀ base outer h₀) (F : Fr h₀ L s.heap m) (X : K.In h₀) (N : News h₀ L s.heap news) (T : Top p loose mean mg mb h₀) (hk : cs.kind = .function)
    (hd : dp + dR < recursionLimit) (hu : un + dU < cLine) (hN : (d, o) ∈ news) (hrest : ∀ q ∈ rest, q ∈ news ∧ q.1 ≠ d) (hR : ∀ q ∈ R, s.heap.get? q.1 = some q.2 ∧ d ≠ q.1)
    (ret : ∀ v A' h' tk', post v A' → (∀ q ∈ A', q.1 ≠ d → ∀ p ∈ news, p.1 ≠ q.1) → (∀ b o, b ≠ d → s.heap.get? b = some o → h'.get? b = some o) → Fr h₀ L h' m → News h₀ L h' (A' ++ rest) → Q v { s with heap := h', toks := tk' }) :
    wpAny (model prog w) (ktrTop dp un gd cn cs L a ccd cl outer) (call (.ref f) vs) Q E s := by
  refine C.use B F X (fun q hq => by rw [List.mem_singleton.mp hq]; exact N _ hN) T hk (fun q hq => (hR q hq).1) (fun q hq r hr => by rw [List.mem_singleton.mp hr]; exact (hR q hq).2) hd hu ?_
  intro v A' h' tk' hp G F' N' fr
  have kept : ∀ b o, b ≠ d → s.heap.get? b = some o → h'.get? b = some o := fun b o n e => G b o e (by simpa using n)
  refine ret v A' h' tk' hp (fun q hq n p hpn e => ?_) kept F' (fun q hq => ?_)
  · have h1 := fr q hq (by simpa using n)
    rw [← e, (N p hpn).1] at h1
    cases h1
  · rcases List.mem_append.mp hq with hq | hq
    · exact N' q hq
    · exact ⟨kept _ _ (hrest q hq).2 (N q (hrest q hq).1).1, (N q (hrest q hq).1).2⟩
theorem Ctr.use1_3 {K : Frag} {p : Program} {loose : List Str} {mean : ExcName → Option Value} {mg mb : Str → Option Value} {dR dU : Nat} {f : Addr} {vs : List Value} {R : List (Addr × Obj)} {post : Value → List (Addr × Obj) → Prop} {d : Addr} {o : Obj}
    {dp un : Nat} {gd : Option (List Code)} {cn : Str} {cs : Scope} {a : Addr} {ccd : Value} {cl : List (Str × Addr)} {outer : List Env} {A₀ : Around} {base h₀ : Heap} {L : Addr} {m : Str → Option Value} {s : Shared} {Q E : Value → Shared → Prop} {T1 T2 T3 : Addr × Obj} {rest : List (Addr × Obj)}
    (C : Ctr prog w K p loose mean mg mb dR dU f vs [(d, o)] R post) (B : Below A₀ base outer h₀) (F : Fr h₀ L s.heap m) (X : K.In h₀) (N : News h₀ L s.heap (T1 :: T2 :: T3 :: (d, o) :: rest)) (T : Top p loose mean mg mb h₀) (hk : cs.kind = .function)
    (hd : dp + dR < recursionLimit) (hu : un + dU < cLine) (hne : ∀ q ∈ T1 :: T2 :: T3 :: rest, q.1 ≠ d) (hR : ∀ q ∈ R, s.heap.get? q.1 = some q.2 ∧ d ≠ q.1)
    (ret : ∀ v A' h' tk', post v A' → (∀ q ∈ A', q.1 ≠ d → ∀ p ∈ (T1 :: T2 :: T3 :: (d, o) :: rest), p.1 ≠ q.1) → (∀ b o, b ≠ d → s.heap.get? b = some o → h'.get? b = some o) → Fr h₀ L h' m → News h₀ L h' (A' ++ (T1 :: T2 :: T3 :: rest)) → Q v { s with heap := h', toks := tk' }) :
    wpAny (model prog w) (ktrTop dp un gd cn cs L a ccd cl outer) (call (.ref f) vs) Q E s :=
  C.use1 (T1 :: T2 :: T3 :: rest) B F X N T hk hd hu (.tail _ (.tail _ (.tail _ (.head _)))) (fun q hq => ⟨by
    rcases List.mem_cons.mp hq with rfl | hq
    · exact .head _
    rcases List.mem_cons.mp hq with rfl | hq
    · exact .tail _ (.head _)
    rcases List.mem_cons.mp hq with rfl | hq
    · exact .tail _ (.tail _ (.head _))
    · exact .tail _ (.tail _ (.tail _ (.tail _ hq))), hne q hq⟩) hR ret
theorem Ctr.use1_0 {K : Frag} {p : Program} {loose : List Str} {mean : ExcName → Option Value} {mg mb : Str → Option Value} {dR dU : Nat} {f : Addr} {vs : List Value} {R : List (Addr × Obj)} {post : Value → List (Addr × Obj) → Prop} {d : Addr} {o : Obj}
    {dp un : Nat} {gd : Option (List Code)} {cn : Str} {cs : Scope} {a : Addr} {ccd : Value} {cl : List (Str × Addr)} {outer : List Env} {A₀ : Around} {base h₀ : Heap} {L : Addr} {m : Str → Option Value} {s : Shared} {Q E : Value → Shared → Prop} {rest : List (Addr × Obj)}
    (C : Ctr prog w K p loose mean mg mb dR dU f vs [(d, o)] R post) (B : Below A₀ base outer h₀) (F : Fr h₀ L s.heap m) (X : K.In h₀) (N : News h₀ L s.heap ((d, o) :: rest)) (T : Top p loose mean mg mb h₀) (hk : cs.kind = .function)
    (hd : dp + dR < recursionLimit) (hu : un + dU < cLine) (hne : ∀ q ∈ rest, q.1 ≠ d) (hR : ∀ q ∈ R, s.heap.get? q.1 = some q.2 ∧ d ≠ q.1)
    (ret : ∀ v A' h' tk', post v A' → (∀ q ∈ A', q.1 ≠ d → ∀ p ∈ ((d, o) :: rest), p.1 ≠ q.1) → (∀ b o, b ≠ d → s.heap.get? b = some o → h'.get? b = some o) → Fr h₀ L h' m → News h₀ L h' (A' ++ rest) → Q v { s with heap := h', toks := tk' }) :
    wpAny (model prog w) (ktrTop dp un gd cn cs L a ccd cl outer) (call (.ref f) vs) Q E s :=
  C.use1 rest B F X N T hk hd hu (.head _) (fun q hq => ⟨.tail _ hq, hne q hq⟩) hR ret
theorem item_list {l : Addr} {items : Array Value} {k : Int} {t : Tok} {v : Value} {value slice : Expr} {Q : Value → Shared → Prop} (hl : s.heap.IsList l items) (h0 : 0 ≤ k) (hhi : k < 2 ^ 63) (hx : items[k.toNat]? = some v) (h : Q v s)
    (hs : subscripted slice false (.ref l) (.int k t) = operate [.ref l, .int k t] (getItem (.ref l) (.int k t)) := by with_unfolding_all rfl) : wpAny (model prog w) A (subscriptTail value slice (.ref l) (.int k t)) Q E s :=
  tail_any hl.typeIs slot_list_getitem.lookup (wpAny_getItem_list hl h0 hhi hx h) hs
theorem news_drop {h : Heap} {X Y c : Addr × Obj} {ts : List (Addr × Obj)} (N : News h₀ L h (X :: Y :: (ts ++ [c]))) : News h₀ L h [X, c] := fun q hq => N q (by
  rcases List.mem_cons.mp hq with rfl | hq
  · exact .head _
  · rw [List.mem_singleton.mp hq]
    exact .tail _ (.tail _ (List.mem_append.mpr (.inr (.head _)))))
theorem push_news {h : Heap} {f : Addr} {us : List Value} {v : Value} {k : Nat} {rest : List (Addr × Obj)} (N : News h₀ L h ((f, listOf (us.toArray.push v) k) :: rest)) : News h₀ L h ((f, listOf (us ++ [v]).toArray k) :: rest) := by
  rw [← List.push_toArray]; exact N
/-- a frame's map, as it stood but for the names that are stored -/
theorem fr_stored {h : Heap} {m₀ m₁ : Str → Option Value} (stored : List Str) (e : ∀ z, stored.contains z = false → m₁ z = m₀ z) (F : Fr h₀ L h m₁) : Fr h₀ L h (fun z => if stored.contains z then m₁ z else m₀ z) := by
  have : (fun z => if stored.contains z then m₁ z else m₀ z) = m₁ := by
    funext z
    cases hz : stored.contains z with
    | true => rw [if_pos rfl]
    | false => rw [if_neg Bool.false_ne_true]; exact (e z hz).symm
  rw [this]; exact F
theorem TupJ.all {f g : Int → Int} {ns : List Int} {rest : List (Addr × Obj)} {i : Nat} {ys : List Value} {nw : List (Addr × Obj)} (h : TupJ f g ns rest i ys nw) (hi : ns.length ≤ i) :
    ∃ ts ps, nw = ts ++ rest ∧ PairsIn ts ys ps ∧ ps.map (·.1) = ns.map f ∧ (∀ (j : Nat) (p : Int × Value), ps[j]? = some p → ∃ k u, ns[j]? = some k ∧ p = (f k, .int (g k) u)) ∧ ys.length = ns.length := by
  obtain ⟨ts, ps, e, hp, hm, hv⟩ := h
  rw [List.take_of_length_le hi] at hm
  refine ⟨ts, ps, e, hp, hm, hv, ?_⟩
  rw [hp.1, ← List.length_map (f := (·.1)), hm, List.length_map]
theorem news_dup {h : Heap} {T1 T2 T3 c : Addr × Obj} {nw : List (Addr × Obj)} (N : News h₀ L h (T1 :: T2 :: T3 :: nw)) (hc : c ∈ nw) : News h₀ L h (T1 :: T2 :: T3 :: c :: nw) := fun q hq => N q (by
  rcases List.mem_cons.mp hq with rfl | hq
  · exact .head _
  rcases List.mem_cons.mp hq with rfl | hq
  · exact .tail _ (.head _)
  rcases List.mem_cons.mp hq with rfl | hq
  · exact .tail _ (.tail _ (.head _))
  rcases List.mem_cons.mp hq with rfl | hq
  · exact .tail _ (.tail _ (.tail _ hc))
  · exact .tail _ (.tail _ (.tail _ hq)))
theorem news_undup {h : Heap} {T0 T1 T2 T3 c : Addr × Obj} {nw : List (Addr × Obj)} (N : News h₀ L h (T0 :: T1 :: T2 :: T3 :: c :: nw)) : News h₀ L h (T0 :: T1 :: T2 :: T3 :: nw) := fun q hq => N q (by
  rcases List.mem_cons.mp hq with rfl | hq
  · exact .head _
  rcases List.mem_cons.mp hq with rfl | hq
  · exact .tail _ (.head _)
  rcases List.mem_cons.mp hq with rfl | hq
  · exact .tail _ (.tail _ (.head _))
  rcases List.mem_cons.mp hq with rfl | hq
  · exact .tail _ (.tail _ (.tail _ (.head _)))
  · exact .tail _ (.tail _ (.tail _ (.tail _ (.tail _ hq)))))
end
section
variable {prog : Program} {w : World} {A : Around} {E : Value → Shared → Prop} {s : Shared} {env : Env} {h₀ : Heap} {x : Str} {body : List Stmt} {Q : Flow → Shared → Prop}
/-- a loop over a range by an invariant -/
theorem loop_range {r : Addr} {a₀ b₀ : Int} {t₀ u₀ v₀ : Tok} {n : Nat} {m₀ : Str → Option Value} {news : List (Addr × Obj)} (J : Nat → (Str → Option Value) → List (Addr × Obj) → Prop)
    (hh : A.handled = none) (hr : IsRange s.heap r a₀ b₀ 1 t₀ u₀ v₀) (hsmall : Builtin.Range.small a₀ b₀ 1 = true) (hsz : Builtin.Range.rangeSize a₀ b₀ 1 = (n : Int)) (F : Fr h₀ env.locals s.heap m₀) (N : News h₀ env.locals s.heap news) (h0 : J 0 m₀ news)
    (turn : ∀ (i : Nat) t m₁ nx h tk own, i < n → OwnOff own (nx.map (·.1)) → J i m₁ nx → Fr h₀ env.locals h (fun y => if y = x then some (.int (a₀ + (i : Int)) t) else m₁ y) → News h₀ env.locals h (nx ++ own) →
      wpAny (model prog w) A (execs body env) (InvPostG h₀ env.locals (J (i + 1)) own { s with heap := h, toks := tk } Q) E { s with heap := h, toks := tk })
    (done : ∀ m₁ nx h tk, J n m₁ nx → Fr h₀ env.locals h m₁ → News h₀ env.locals h nx → Q .next { s with heap := h, toks := tk }) :
    wpAny (model prog w) A (pyIter (.ref r)) (fun it s₂ => LoopAtV prog w A h₀ env x body Q E it s₂) E s := by
  refine wpAny_pyIter_range hr hsmall ?_
  have W : Walks prog w A s.heap.objs.size [s.heap.objs.size] [s.heap.objs.size] n (fun i v => i < n ∧ ∃ t, v = .int (a₀ + i * 1) t)
      (fun i h => IsRangeIter h s.heap.objs.size (a₀ + (i : Nat) * 1) ((n : Int) - (i : Nat)) 1) := (Walks.range hh _ a₀ 1 n).bound
  refine kdr_loop J W (fun _ h => h) (fun _ h => h) ?_ ?_ ?_ ?_ (by show IsRangeIter _ _ _ _ _; rw [hsz]; simpa using Heap.get?_push_size _ rfl) (F.push _) (fun p hp => ⟨Heap.get?_push_of_some _ (N p hp).1, (N p hp).2⟩) h0 ?_ done
  · intro i h hi b hb
    rw [List.mem_singleton.mp hb]
    exact ⟨_, hi⟩
  · intro hm
    exact absurd F.ns.lt ((List.mem_singleton.mp hm) ▸ Nat.lt_irrefl _)
  · intro b hb
    rw [List.mem_singleton.mp hb]
    exact next_is_new F
  · intro p hp hI
    exact absurd (Heap.lt_size (N p hp).1) ((List.mem_singleton.mp hI) ▸ Nat.lt_irrefl _)
  · rintro i v m₁ nx h tk own hi ⟨_, t, rfl⟩ hoff hJ F₁ N₁
    have e1 : a₀ + (i : Int) * 1 = a₀ + (i : Int) := by omega
    rw [e1] at F₁
    exact turn i t m₁ nx h tk own hi hoff hJ F₁ N₁
end
end
section
open PySem PySem.W PyProof.Rows PySem.Calls PyProof.V PySem.Spec
set_option maxHeartbeats 400000
theorem kb_canLayAll0 : ∀ ns : List Bool, PyData.canLayAll0 (ns.map PyData.bool) = true
  | [] => rfl
  | _ :: r => by simp [PyData.canLayAll0, PyData.canLay0, kb_canLayAll0 r]
theorem kb_depthAll : ∀ ns : List Bool, PyData.depthAll (ns.map PyData.bool) = 0
  | [] => rfl
  | _ :: r => by simp [PyData.depthAll, PyData.depth, kb_depthAll r]
theorem kb_shaped (ns : List Bool) : SeqAt.shaped (.list (ns.map PyData.bool)) = true := by
  simp [SeqAt.shaped, PyData.canLay0, PyData.depth, kb_canLayAll0, kb_depthAll]
theorem kb_sameAll : ∀ ns : List Bool, PySem.Spec.sameAll (ns.map PyData.bool) (ns.map PyData.bool) = true
  | [] => by simp [PySem.Spec.sameAll]
  | a :: r => by
    simp only [List.map_cons, PySem.Spec.sameAll, PySem.Spec.same, kb_sameAll r]
    simp
theorem kb_same (ns : List Bool) : PySem.Spec.same (.list (ns.map PyData.bool)) (.list (ns.map PyData.bool)) = true := by
  simp only [PySem.Spec.same]; exact kb_sameAll ns
theorem kb_carried : ∀ {vs : List Value} {ns : List Bool}, LSm.BoolsAre vs ns → CarriedAll vs (ns.map PyData.bool)
  | _, _, .nil => .nil
  | _, _, .cons _ r => .cons (.bool _) (kb_carried r)
section
variable {prog : Program} {w : World} {A : Around} {E : Value → Shared → Prop} {s : Shared} {a b : Addr} {xs ys : List Value} {ns : List Bool} {Q : Value → Shared → Prop}
theorem kb_ne (ha : s.heap.IsList a xs.toArray) (hb : s.heap.IsList b ys.toArray) (hi : LSm.BoolsAre xs ns) (hj : LSm.BoolsAre ys ns) (hu : A.units + 64 < cLine) (h : Q (.bool false) s) :
    wpAny (model prog w) A (compareOp .NotEq (.ref a) (.ref b)) Q E s :=
  ne_dataH_same (reads_newData ha (kb_carried hi)) (reads_newData hb (kb_carried hj)) (kb_shaped _) (kb_shaped _) hu (SeqAt.noMix_of_shape (.list .bool) rfl _ _ (list_map_has fun _ => rfl) (list_map_has fun _ => rfl)) (by rw [kb_same]; exact h)
end
def StopE : Prop := True
theorem stopE : StopE := trivial
theorem stop_ne {M : Model} {A : Around} {E : Value → Shared → Prop} {s : Shared} {a b : Addr} {Q : Value → Shared → Prop} (_ : StopE) (h : Stop (wpAny M A (compareOp .NotEq (.ref a) (.ref b)) Q E s)) : wpAny M A (compareOp .NotEq (.ref a) (.ref b)) Q E s := h
theorem stop_eq {M : Model} {A : Around} {E : Value → Shared → Prop} {s : Shared} {a b : Addr} {Q : Value → Shared → Prop} (_ : StopE) (h : Stop (wpAny M A (compareOp .Eq (.ref a) (.ref b)) Q E s)) : wpAny M A (compareOp .Eq (.ref a) (.ref b)) Q E s := h
theorem filter_snoc {p : Int → Bool} {l : List Int} {k : Int} (h : p k = true) : (l ++ [k]).filter p = l.filter p ++ [k] := by rw [List.filter_append]; simp [h]
theorem filter_skip {p : Int → Bool} {l : List Int} {k : Int} (h : p k = false) : (l ++ [k]).filter p = l.filter p := by rw [List.filter_append]; simp [h]
section
variable {prog : Program} {w : World} {A : Around} {h₀ : Heap} {L : Addr} {m : Str → Option Value} {env : Env} {s : Shared}
/-- a tested comprehension over ints, [x for x in l if ..], that turns no ledger -/
theorem comp_baseT {ct elt : Expr} {x : Str} {scope : Scope} {cl : List (Str × Addr)} {S : List (Addr × Obj) → Prop} {Fin : List Value → List (Addr × Obj) → Prop} {news : List (Addr × Obj)} {vs : List Value} {ns : List Int} (p : Int → Bool) (hi : IntsAre vs ns)
    (turn : ∀ k t ys I oI C oC D m₂ h tk (E' : Value → Shared → Prop), k ∈ ns → LCg.NsObj oC m₂ → m₂ x = some (.int k t) → Fr h₀ L h m → News h₀ L h ((I, oI) :: (C, oC) :: (D, LCg.lst ys) :: news) → LCg.Off3 I C D news → ((@Ne Nat I C) ∧ (@Ne Nat I D) ∧ (@Ne Nat C D)) →
      wpAny (model prog w) A (isTrue ct (compEnvC scope cl C env) (eval ct (compEnvC scope cl C env))) (fun ok s' => if ok = true then
        wpAny (model prog w) A (eval elt (compEnvC scope cl C env)) (LCg.CompEnd h₀ L m { s with heap := h, toks := tk } I oI C oC D (LCg.lst ys) S (fun y nw' => nw' = news ∧ p k = true ∧ ∃ t, y = .int k t)) E' s'
        else LCg.CompEnd h₀ L m { s with heap := h, toks := tk } I oI C oC D (LCg.lst ys) S (fun _ nw' => nw' = news ∧ p k = false) Value.none s') E' { s with heap := h, toks := tk })
    (fin : ∀ ys, IntsAre ys (ns.filter p) → Fin ys news) : LCt.CompRestT prog w A h₀ L m env ct elt x scope cl s S (fun i v => vs.toArray[i]? = some v) Fin vs.toArray.size 0 [] news := by
  refine comp_restT (fun i ys nw => nw = news ∧ IntsAre ys ((ns.take i).filter p)) ⟨rfl, .nil⟩ ?_ ?_
  · rintro i v ys nw I oI C oC D m₂ h tk E' hin hP ⟨rfl, hy⟩ hC hx F N off ne
    obtain ⟨k, t, rfl, hk⟩ := IntsAre.at hi i v (by simpa using hP)
    have e : ns.take (i + 1) = ns.take i ++ [k] := by rw [List.take_add_one, hk]; rfl
    refine wpAny_mono (turn k t ys I oI C oC D m₂ h tk E' (List.mem_of_getElem? hk) hC hx F N off ne) (fun ok s₂ hq => ?_) fun _ _ e => e
    cases ok with
    | true =>
      rw [if_pos rfl] at hq ⊢
      refine wpAny_mono hq (fun y s₃ hq => ?_) fun _ _ e => e
      obtain ⟨h', tk', nw', e1, F', N', off', hS, hn, hp, t', rfl⟩ := hq
      exact ⟨h', tk', nw', e1, F', N', off', hS, hn, by rw [e, filter_snoc hp]; exact IntsAre.append hy (.cons _ _ .nil)⟩
    | false =>
      rw [if_neg Bool.false_ne_true] at hq ⊢
      obtain ⟨h', tk', nw', e1, F', N', off', hS, hn, hp⟩ := hq
      exact ⟨h', tk', nw', e1, F', N', off', hS, hn, by rw [e, filter_skip hp]; exact hy⟩
  · rintro ys nw ⟨rfl, hy⟩
    rw [List.size_toArray, hi.length, List.take_length] at hy
    exact fin ys hy
end
theorem any_filter {p : Int → Bool} : ∀ {l : List Int}, (!decide (l.filter p = [])) = l.any p
  | [] => rfl
  | a :: r => by
    cases h : p a with
    | true => simp [h]
    | false => rw [List.filter_cons, if_neg (by simp [h]), List.any_cons, h, Bool.false_or]; exact any_filter
theorem stop_srcT {prog : Program} {w : World} {A : Around} {h₀ : Heap} {L : Addr} {m : Str → Option Value} {env : Env} {ct elt : Expr} {x : Str} {scope : Scope} {cl : List (Str × Addr)} {Fin : Shared → List Value → List (Addr × Obj) → Prop} {xv : Value} {s₁ : Shared}
    (_ : StopC) (h : Stop (LCt.CompSrcT prog w A h₀ L m env ct elt x scope cl Fin xv s₁)) : LCt.CompSrcT prog w A h₀ L m env ct elt x scope cl Fin xv s₁ := h
end
section
open PySem PySem.W PyProof.Rows PySem.Calls PySem.Spec PyProof.V PyProof.Rows.LCg
set_option maxHeartbeats 2000000
section
variable {prog : Program} {w : World} {A : Around} {E : Value → Shared → Prop} {s : Shared} {h₀ : Heap} {L : Addr} {m : Str → Option Value} {env : Env}
/-- one turn of a comprehension over pairs, with or without a test, by an invariant -/
def PairTurn (prog : Program) (w : World) (A : Around) (h₀ : Heap) (L : Addr) (m : Str → Option Value) (env : Env) (c elt : Expr) (x x₂ : Str) (scope : Scope) (cl : List (Str × Addr)) (s₂ : Shared) (S : List (Addr × Obj) → Prop) (J : Nat → List Value → List (Addr × Obj) → Prop) (i : Nat) (v : Value) (ys : List Value) (nw : List (Addr × Obj)) : Prop :=
  ∃ (t : Addr) (ot : Obj) (v₁ v₂ : Value) (nt : Nat), v = .ref t ∧ Has h₀ t ot nw ∧ ot.cls = .type "tuple" ∧ ot.data = .seq #[v₁, v₂] nt ∧
    ∀ I oI C oC D m₂ h tk (E' : Value → Shared → Prop), NsObj oC m₂ → m₂ x = some v₁ → m₂ x₂ = some v₂ → Fr h₀ L h m → News h₀ L h ((I, oI) :: (C, oC) :: (D, lst ys) :: nw) → Off3 I C D nw → ((@Ne Nat I C) ∧ (@Ne Nat I D) ∧ (@Ne Nat C D)) →
      wpAny (model prog w) A (isTrue c (compEnvC scope cl C env) (eval c (compEnvC scope cl C env))) (fun ok s' => if ok = true then
        wpAny (model prog w) A (eval elt (compEnvC scope cl C env)) (CompEnd h₀ L m { s₂ with heap := h, toks := tk } I oI C oC D (lst ys) S (fun y nw' => J (i + 1) (ys ++ [y]) nw')) E' s'
        else CompEnd h₀ L m { s₂ with heap := h, toks := tk } I oI C oC D (lst ys) S (fun _ nw' => J (i + 1) ys nw') Value.none s') E' { s₂ with heap := h, toks := tk }
theorem block_PT {c elt iter : Expr} {x x₂ : Str} {px px₂ tp : Pos} {kk : Nat} {scope : Scope} {cl : List (Str × Addr)} {pos : Pos} {s₂ : Shared} {I : Addr} {fp : List Addr} {n : Nat} {P : Nat → Value → Prop} {St : Nat → Heap → Prop} {S : List (Addr × Obj) → Prop} {news : List (Addr × Obj)}
    {RR : Value → Addr → Result → Shared → Prop} (J : Nat → List Value → List (Addr × Obj) → Prop)
    (W : Walks prog w A I fp [I] n P St) (hsz : n ≤ sizeLine) (hIo : ∀ i h, St i h → ∃ o, h.get? I = some o)
    (hSt : ∀ i h h' o nw, St i h → h.get? I = some o → h'.get? I = some o → (∀ b o, h₀.get? b = some o → h'.get? b = some o) → News h₀ L h' nw → S nw → St i h')
    (hcell : ∀ y ∈ scope.names, y.2 ≠ .cell) (hkind : scope.kind = .function) (hx : scope.names.lookup x = some .local) (hx₂ : scope.names.lookup x₂ = some .local) (hxx : x ≠ x₂) (hh : A.handled = none) (hLI : ∀ i h, St i h → ∃ l j, h.IsListIter I l j) (hst : St 0 s₂.heap) (hfp : ∀ b ∈ fp, b < s₂.heap.objs.size)
    (F : Fr h₀ L s₂.heap m) (N : News h₀ L s₂.heap news) (hIL : L ≠ I) (hI₀ : h₀.get? I = none) (off : ∀ p ∈ news, p.1 ≠ I) (hS : S news) (hJ : J 0 [] news)
    (turn : ∀ i v ys nw, i < n → P i v → J i ys nw → PairTurn prog w A h₀ L m env c elt x x₂ scope cl s₂ S J i v ys nw)
    (hRR : ∀ D C h tk m' ys news', Fr h₀ L h m → News h₀ L h ((D, lst ys) :: news') → Off1 D news' → h.Ns C m' → h₀.get? C = none → h₀.get? D = none → C ≠ L → D ≠ L → C ≠ D → (∀ p ∈ news', p.1 ≠ C) → J n ys news' → RR (.ref D) C (.ok .next) { s₂ with heap := h, toks := tk }) :
    wpAny (model prog w) A (newList []) (fun acc s₃ => wpAny (model prog w) A (newFunctionEnv scope env.globals cl [] env.qual none .none (some env)) (fun cenv s₄ =>
      codeAny (model prog w) A (.compStart (.ListComp elt [⟨.Tuple [.Name x px, .Name x₂ px₂] kk tp, iter, [c], 0⟩] scope pos) 0 (.ref I) acc { cenv with scope := relabel scope env }) (RR acc cenv.locals) s₄) E s₃) E s₂ := by
  refine wpAny_newObj_type (wpAny_newFunctionEnv hcell (by intro y hy; simp at hy) (fun h₁ hns₁ hsb₁ => ?_) hkind)
  dsimp only at hns₁ hsb₁ ⊢
  generalize hH2 : s₂.heap.push { cls := .type "list", dict := none, data := .seq ([] : List Value).toArray } = H2 at hns₁ hsb₁ ⊢
  have hC : H2.objs.size = s₂.heap.objs.size + 1 := by rw [← hH2, Heap.size_push]
  have hDC : s₂.heap.objs.size ≠ H2.objs.size := by rw [hC]; exact Nat.ne_of_lt (Nat.lt_succ_self _)
  have below : ∀ b, b < s₂.heap.objs.size → b ≠ H2.objs.size ∧ b ≠ s₂.heap.objs.size := fun b hb => ⟨by rw [hC]; exact Nat.ne_of_lt (Nat.lt_succ_of_lt hb), Nat.ne_of_lt hb⟩
  have hDf : s₂.heap.objs.size ∉ fp := fun hm => Nat.lt_irrefl _ (hfp _ hm)
  have hCf : H2.objs.size ∉ fp := fun hm => by have := hfp _ hm; rw [hC] at this; exact Nat.lt_irrefl _ (Nat.lt_of_succ_lt this)
  have hIlt : I < s₂.heap.objs.size := hfp I (W.sub I (List.mem_singleton.mpr rfl))
  have old : ∀ b o, s₂.heap.get? b = some o → h₁.get? b = some o := fun b o e => hsb₁.extBut b o (below b (Heap.lt_size e)).1 (Heap.get?_push_of_some _ (hH2 ▸ Heap.get?_push_of_some _ e))
  have hacc : h₁.get? s₂.heap.objs.size = some (lst []) := hsb₁.extBut _ _ hDC (Heap.get?_push_of_some _ (hH2 ▸ Heap.get?_push_size _ rfl))
  have hst₁ : St 0 h₁ := W.frame _ _ _ hst fun b _ o e => old b o e
  have fresh₀ : ∀ a, s₂.heap.objs.size ≤ a → h₀.get? a = none := fun a ha => by
    cases e : h₀.get? a with
    | none => rfl
    | some o' => exact absurd (Heap.lt_size (F.keep a o' e)) (Nat.not_lt.mpr ha)
  have hD₀ : h₀.get? s₂.heap.objs.size = none := fresh₀ _ (Nat.le_refl _)
  have hC₀ : h₀.get? H2.objs.size = none := fresh₀ _ (by rw [hC]; exact Nat.le_succ _)
  have hDL : s₂.heap.objs.size ≠ L := Ne.symm (below L F.ns.lt).2
  have hCL : H2.objs.size ≠ L := Ne.symm (below L F.ns.lt).1
  have hCI : I ≠ H2.objs.size := (below I hIlt).1
  have hDI : I ≠ s₂.heap.objs.size := (below I hIlt).2
  have off₀ : Off3 I H2.objs.size s₂.heap.objs.size news := Off3.of fun p hp => ⟨off p hp, (below _ (Heap.lt_size (N p hp).1)).1, (below _ (Heap.lt_size (N p hp).1)).2⟩
  have loop : ∀ s₃ : Shared, s₃ = { s₂ with heap := h₁, toks := s₂.toks + ([] : List (Str × Value)).length } →
      codeAny (model prog w) A (.compLoop (.ListComp elt [⟨.Tuple [.Name x px, .Name x₂ px₂] kk tp, iter, [c], 0⟩] scope pos) 0 (.ref I) (.ref s₂.heap.objs.size) (compEnvC scope cl H2.objs.size env))
        (RR (.ref s₂.heap.objs.size) H2.objs.size) s₃ := by
    rintro s₃ rfl
    refine kct_loop
      (fun k s' => ∃ h' tk i ys m' news', s' = { s₂ with heap := h', toks := tk } ∧ i ≤ n ∧ k = n + 1 - i ∧ ys.length ≤ i ∧ St i h' ∧ Fr h₀ L h' m ∧ h'.Ns H2.objs.size m' ∧ News h₀ L h' ((s₂.heap.objs.size, lst ys) :: news') ∧
        Off3 I H2.objs.size s₂.heap.objs.size news' ∧ S news' ∧ J i ys news') ?_ (n + 1)
      ⟨h₁, _, 0, [], _, news, rfl, Nat.zero_le _, rfl, Nat.le_refl _, hst₁, F.keeps old, hns₁, fun p hp => ?_, off₀, hS, hJ⟩
    · rintro k s' ⟨h', tk, i, ys, m', news', rfl, hi, rfl, hyl, hst', F', hn', N', off', hS', J'⟩
      have off3 := off'.mem
      by_cases hlt : i < n
      · refine W.item i _ _ _ hlt hst' fun v h₂ tk₂ hPv hst₂ hk₂ => ?_
        obtain ⟨t, ot, v₁, v₂, nt, rfl, hmt, hct, hdt, R⟩ := turn i v ys news' hlt hPv J'
        have N₂ : News h₀ L h₂ ((s₂.heap.objs.size, lst ys) :: news') := news_but N' hk₂ fun p hp => by
          rcases List.mem_cons.mp hp with rfl | hp
          · exact Ne.symm hDI
          · exact (off3 p hp).1
        have F₂ : Fr h₀ L h₂ m := fr_but F' hk₂ hIL hI₀
        have ht : IsTup h₂ t #[v₁, v₂] := ⟨ot, hmt.at F₂.keep (fun q hq => N₂ q (.tail _ hq)), hct, nt, hdt⟩
        obtain ⟨lI, jI, hLi⟩ := hLI _ _ hst₂
        refine wpAny_letOwnedTupleGo_listiter hLi ?_
        refine assign_Tuple_tuple hh ht rfl rfl fun h₅ he => ?_
        have he' : ∀ b o, h₂.get? b = some o → h₅.get? b = some o := fun b o e => he b o (Nat.ne_of_lt (Heap.lt_size e)) e
        refine assignInOrder_cons (wpAny_assign_Name (wpAny_storeName_local (lookup_relabel_local hx) ((hn'.at' fun o e => hk₂ _ o (by simpa using Ne.symm hCI) e).at' fun o e => he' _ o e) (fun h₆ hn₆ hs₆ => ?_) (by simp [compEnvC, relabel, hkind])))
        refine assignInOrder_cons (wpAny_assign_Name (wpAny_storeName_local (lookup_relabel_local hx₂) hn₆ (fun h₃ hn₃ hs₃ => ?_) (by simp [compEnvC, relabel, hkind])))
        refine assignInOrder_nil ?_
        have old3 : ∀ b o, b ≠ H2.objs.size → h₂.get? b = some o → h₃.get? b = some o := fun b o hb e => hs₃.extBut b o hb (hs₆.extBut b o hb (he' b o e))
        have hst₃ : St (i + 1) h₃ := W.frame _ _ _ hst₂ fun b hb o e => old3 b o (fun q => hCf (by rw [← q]; exact hb)) e
        obtain ⟨oI, heI⟩ := hIo _ _ hst₃
        obtain ⟨oC, heC, hoC⟩ := ns_obj hn₃
        have F₃ : Fr h₀ L h₃ m := ((F₂.keeps he').change hs₆ hCL hC₀).change hs₃ hCL hC₀
        have N₃ : News h₀ L h₃ ((I, oI) :: (H2.objs.size, oC) :: (s₂.heap.objs.size, lst ys) :: news') := fun p hp => by
          rcases List.mem_cons.mp hp with rfl | hp
          · exact ⟨heI, Ne.symm hIL, hI₀⟩
          rcases List.mem_cons.mp hp with rfl | hp
          · exact ⟨heC, hCL, hC₀⟩
          refine ⟨old3 _ _ ?_ (N₂ p hp).1, (N₂ p hp).2⟩
          rcases List.mem_cons.mp hp with rfl | hp
          · exact hDC
          · exact (off3 p hp).2.1
        refine wpAny_mono (R I oI H2.objs.size oC s₂.heap.objs.size _ h₃ _ _ hoC (by simp [hxx]) (by simp) F₃ N₃ off' ⟨hCI, hDI, Ne.symm hDC⟩) (fun ok s₄ h₄ => ?_) fun _ _ e => e
        have step : ∀ (nw : List (Addr × Obj)) (h₄ : Heap), Fr h₀ L h₄ m → News h₀ L h₄ ((I, oI) :: (H2.objs.size, oC) :: (s₂.heap.objs.size, lst ys) :: nw) → S nw → St (i + 1) h₄ := fun nw h₄ F₄ N₄ hS₄ =>
          hSt _ _ _ _ _ hst₃ heI (N₄ (I, oI) (.head _)).1 F₄.keep (fun p hp => N₄ p (.tail _ (.tail _ (.tail _ hp)))) hS₄
        cases ok with
        | false =>
          rw [if_neg Bool.false_ne_true] at h₄ ⊢
          obtain ⟨h₄, tk₄, news₄, rfl, F₄, N₄, off₄, hS₄, R₄⟩ := h₄
          exact ⟨n + 1 - (i + 1), by omega, h₄, tk₄, i + 1, ys, _, news₄, rfl, hlt, rfl, by omega, step _ _ F₄ N₄ hS₄, F₄, hoC.ns (N₄ _ (.tail _ (.head _))).1, fun p hp => N₄ p (.tail _ (.tail _ hp)), off₄, hS₄, R₄⟩
        | true =>
          rw [if_pos rfl] at h₄ ⊢
          refine wpAny_mono h₄ (fun y s₅ h₅ => ?_) fun _ _ e => e
          obtain ⟨h₄, tk₄, news₄, rfl, F₄, N₄, off₄, hS₄, R₄⟩ := h₅
          have off4 := off₄.mem
          have hst₄ := step _ _ F₄ N₄ hS₄
          refine append_at (hsz := by show ys.toArray.size ≤ sizeLine; rw [List.size_toArray]; omega) (N₄ _ (.tail _ (.tail _ (.head _)))).1 fun h₅ hs₅ hD₅ => ?_
          refine ⟨n + 1 - (i + 1), by omega, h₅, tk₄, i + 1, ys ++ [y], _, news₄, rfl, hlt, rfl, by rw [List.length_append, List.length_singleton]; omega, W.frame _ _ _ hst₄ fun b hb o e => hs₅.extBut b o (fun q => hDf (q ▸ hb)) e, F₄.change hs₅ hDL hD₀,
            (hoC.ns (N₄ _ (.tail _ (.head _))).1).sameBut hs₅ (Ne.symm hDC), fun p hp => ?_, off₄, hS₄, R₄⟩
          rcases List.mem_cons.mp hp with rfl | hp
          · exact ⟨hD₅.trans (congrArg some (lst_snoc ys y)), hDL, hD₀⟩
          · have z := N₄ p (.tail _ (.tail _ (.tail _ hp)))
            exact ⟨hs₅.extBut _ _ (off4 p hp).2.2 z.1, z.2⟩
      · obtain rfl : i = n := Nat.le_antisymm hi (Nat.not_lt.mp hlt)
        refine W.done _ _ _ hst' fun h₂ tk₂ hk₂ => ?_
        exact hRR _ _ h₂ tk₂ _ ys news' (fr_but F' hk₂ hIL hI₀) (news_but N' hk₂ fun p hp => by
          rcases List.mem_cons.mp hp with rfl | hp
          · exact Ne.symm hDI
          · exact (off3 p hp).1) off'.one (hn'.at' fun o e => hk₂ _ o (by simpa using Ne.symm hCI) e) hC₀ hD₀ hCL hDL (Ne.symm hDC) (fun p hp => (off3 p hp).2.1) J'
    · rcases List.mem_cons.mp hp with rfl | hp
      · exact ⟨hacc, hDL, hD₀⟩
      · exact ⟨old _ _ (N p hp).1, (N p hp).2⟩
  exact codeAny_compStart_list (loop _ rfl) (W.self 0 _ _ _ hst₁ (loop _ rfl))
/-- the source of such a comprehension: a list that stands -/
def SrcPT (prog : Program) (w : World) (A : Around) (h₀ : Heap) (L : Addr) (m : Str → Option Value) (env : Env) (c elt : Expr) (x x₂ : Str) (scope : Scope) (cl : List (Str × Addr)) (Fin : Shared → List Value → List (Addr × Obj) → Prop) (xv : Value) (s₁ : Shared) : Prop :=
  ∃ ax vs news J, xv = .ref ax ∧ A.handled = none ∧ Fr h₀ L s₁.heap m ∧ News h₀ L s₁.heap news ∧ SrcAt h₀ ax (List.toArray vs) news ∧ vs.length ≤ sizeLine ∧ J 0 [] news ∧
    (∀ g i v ys nw, vs[i]? = some v → J i ys nw → PairTurn prog w A h₀ L m env c elt x x₂ scope cl { s₁ with heap := g } (SrcAt h₀ ax vs.toArray) J i v ys nw) ∧ ∀ g ys nw, J vs.length ys nw → Fin { s₁ with heap := g } ys nw
theorem ListComp_PT {c elt iter : Expr} {x x₂ : Str} {px px₂ tp : Pos} {kk : Nat} {scope : Scope} {cl : List (Str × Addr)} {pos : Pos} {Q : Value → Shared → Prop} (_F₀ : Fr h₀ L s.heap m)
    (hclos : closureFor scope env = pure cl) (hcell : ∀ y ∈ scope.names, y.2 ≠ .cell) (hkind : scope.kind = .function)
    (hnames : ∀ y ∈ scope.names, y.2 = .local → scope.names.lookup y.1 = some .local) (hx : scope.names.lookup x = some .local) (hx₂ : scope.names.lookup x₂ = some .local) (hxx : x ≠ x₂)
    (h : wpAny (model prog w) A (eval iter env) (SrcPT prog w A h₀ L m env c elt x x₂ scope cl (fun s₂ => FinE h₀ L m s₂ Q)) E s)
    (hs : ∀ x, foldedSetIterable iter env x = pure x := by intro _; rfl) :
    wpAny (model prog w) A (eval (.ListComp elt [⟨.Tuple [.Name x px, .Name x₂ px₂] kk tp, iter, [c], 0⟩] scope pos) env) Q E s := by
  rw [eval_ListComp]
  refine wpAny_comprehension_free (use := none) rfl hs hclos hkind hnames (wpAny_mono h (fun xv s₁ h₁ => ?_) fun _ _ e => e)
  obtain ⟨ax, vs, news, J, rfl, hh, F, N, S, hsz, hJ, turn, fin⟩ := h₁
  have hl := S.list F.keep N
  have hlt : ax < s₁.heap.objs.size := by obtain ⟨_, e, _⟩ := hl; exact Heap.lt_size e
  refine wpAny_pyIter_list hl ?_
  have up : ∀ b o, s₁.heap.get? b = some o → (s₁.heap.push { cls := .type "list_iterator", data := .fields #[.ref ax, .int 0 0] }).get? b = some o := fun b o e => Heap.get?_push_of_some _ e
  refine block_PT J (Walks.list hh s₁.heap.objs.size ax (Nat.ne_of_lt hlt) vs.toArray) (by rw [List.size_toArray]; exact hsz) (fun i h st => by obtain ⟨o, e, _⟩ := st.1; exact ⟨o, e⟩) list_st hcell hkind hx hx₂ hxx hh (fun i h st => ⟨_, _, st.1⟩) ⟨⟨_, Heap.get?_push_size _ rfl, rfl, rfl⟩, hl.push _⟩ (fun b hb => ?_)
    (F.keeps up) (N.grown up) (Nat.ne_of_lt F.ns.lt) (next_is_new F) (fun p hp => Nat.ne_of_lt (Heap.lt_size (N p hp).1)) S hJ (fun i v ys nw _ hP hJ => turn _ i v ys nw (by simpa using (show vs.toArray[i]? = some v from hP)) hJ) ?_
  · show b < (s₁.heap.push _).objs.size
    rw [Heap.size_push]
    rcases List.mem_cons.mp hb with rfl | hb
    · exact Nat.lt_succ_self _
    · rw [List.mem_singleton.mp hb]; exact Nat.lt_succ_of_lt hlt
  · intro D C h tk m' ys news' F' N' o1 hn hC₀ hD₀ hCL hDL hCD offC hJ'
    rw [List.size_toArray] at hJ'
    refine ⟨m', hn, fun h'' hs'' => fin s₁.heap ys news' hJ' D h'' tk (F'.change hs'' hCL hC₀) (fun p hp => ?_) o1⟩
    refine ⟨hs''.extBut _ _ ?_ (N' p hp).1, (N' p hp).2⟩
    rcases List.mem_cons.mp hp with rfl | hp
    · exact Ne.symm hCD
    · exact offC p hp
/-- the same, its list stored under a name -/
theorem Assign_ListComp_PT {c elt iter : Expr} {x x₂ y : Str} {px px₂ tp py : Pos} {kk : Nat} {scope : Scope} {cl : List (Str × Addr)} {pos spos : Pos} {Q : Flow → Shared → Prop} (_F₀ : Fr h₀ L s.heap m) (hLe : env.locals = L)
    (hsw : swapsWith (.ListComp elt [⟨.Tuple [.Name x px, .Name x₂ px₂] kk tp, iter, [c], 0⟩] scope pos) (some (.Name y py)) spos.line env = pure true)
    (hclos : closureFor scope env = pure cl) (hcell : ∀ z ∈ scope.names, z.2 ≠ .cell) (hkind : scope.kind = .function)
    (hnames : ∀ z ∈ scope.names, z.2 = .local → scope.names.lookup z.1 = some .local) (hx : scope.names.lookup x = some .local) (hx₂ : scope.names.lookup x₂ = some .local) (hxx : x ≠ x₂)
    (hy : env.kindOf y = some .local) (hp : (env.scope.kind == .class || (env.scope.kind == .module && env.locals != env.globals)) = false)
    (h : wpAny (model prog w) A (eval iter env) (SrcPT prog w A h₀ L m env c elt x x₂ scope cl (fun s₂ => FinA h₀ L m s₂ y Q)) E s)
    (hs : ∀ x, foldedSetIterable iter env x = pure x := by intro _; rfl) :
    wpAny (model prog w) A (exec (.Assign [.Name y py] (.ListComp elt [⟨.Tuple [.Name x px, .Name x₂ px₂] kk tp, iter, [c], 0⟩] scope pos) spos) env) Q E s := by
  subst hLe
  rw [exec_Assign_Name_used _ _ _ _ hsw]
  refine wpAny_bind (wpAny_standAt (wpAny_bind ?_))
  show wpAny _ A (do let _ ← comprehension (.ListComp elt [⟨.Tuple [.Name x px, .Name x₂ px₂] kk tp, iter, [c], 0⟩] scope pos) scope env _ (newList []) false (eval iter env) (some (assign (.Name y py) env))) _ _ s
  refine wpAny_bind (wpAny_mono (wpAny_comprehension_free (use := some (assign (.Name y py) env)) (Q := fun _ s' => Q .next s') rfl hs hclos hkind hnames
    (wpAny_mono h (fun xv s₁ h₁ => ?_) fun _ _ e => e)) (fun _ s' hq => wpAny_pure (wpAny_pure hq)) fun _ _ e => e)
  obtain ⟨ax, vs, news, J, rfl, hh, F, N, S, hsz, hJ, turn, fin⟩ := h₁
  have hl := S.list F.keep N
  have hlt : ax < s₁.heap.objs.size := by obtain ⟨_, e, _⟩ := hl; exact Heap.lt_size e
  refine wpAny_pyIter_list hl ?_
  have up : ∀ b o, s₁.heap.get? b = some o → (s₁.heap.push { cls := .type "list_iterator", data := .fields #[.ref ax, .int 0 0] }).get? b = some o := fun b o e => Heap.get?_push_of_some _ e
  refine block_PT J (Walks.list hh s₁.heap.objs.size ax (Nat.ne_of_lt hlt) vs.toArray) (by rw [List.size_toArray]; exact hsz) (fun i h st => by obtain ⟨o, e, _⟩ := st.1; exact ⟨o, e⟩) list_st hcell hkind hx hx₂ hxx hh (fun i h st => ⟨_, _, st.1⟩) ⟨⟨_, Heap.get?_push_size _ rfl, rfl, rfl⟩, hl.push _⟩ (fun b hb => ?_)
    (F.keeps up) (N.grown up) (Nat.ne_of_lt F.ns.lt) (next_is_new F) (fun p hp => Nat.ne_of_lt (Heap.lt_size (N p hp).1)) S hJ (fun i v ys nw _ hP hJ => turn _ i v ys nw (by simpa using (show vs.toArray[i]? = some v from hP)) hJ) ?_
  · show b < (s₁.heap.push _).objs.size
    rw [Heap.size_push]
    rcases List.mem_cons.mp hb with rfl | hb
    · exact Nat.lt_succ_self _
    · rw [List.mem_singleton.mp hb]; exact Nat.lt_succ_of_lt hlt
  · intro D C h' tk m' ys news' F' N' o1 hn hC₀ hD₀ hCL hDL hCD offC hJ'
    rw [List.size_toArray] at hJ'
    show wpAny _ A (assign (.Name y py) env (.ref D)) _ _ _
    refine wpAny_assign_Name (wpAny_storeName_local hy F'.ns (fun h₂ hn₂ hs₂ => ?_) hp)
    have hL₀ : h₀.get? env.locals = none := Heap.get?_none_of_le F'.above
    have F₂ : Fr h₀ env.locals h₂ (fun z => if z = y then some (.ref D) else m z) := ⟨hn₂, fun b o e => hs₂.extBut b o (fun q => by rw [q, hL₀] at e; cases e) (F'.keep b o e), F'.above⟩
    refine ⟨m', hn.sameBut hs₂ hCL, fun h'' hs'' => fin s₁.heap ys news' hJ' D h'' _ (F₂.change hs'' hCL hC₀) (fun p hp => ?_) o1⟩
    have z : h₂.get? p.1 = some p.2 := hs₂.extBut _ _ (N' p hp).2.1 (N' p hp).1
    refine ⟨hs''.extBut _ _ ?_ z, (N' p hp).2⟩
    rcases List.mem_cons.mp hp with rfl | hp
    · exact Ne.symm hCD
    · exact offC p hp
end
end
section
open PySem PySem.W PyProof.Rows PySem.Calls PySem.Spec PyProof.V
set_option maxHeartbeats 2000000
section
variable {prog : Program} {w : World} {A : Around} {E : Value → Shared → Prop} {s : Shared} {env : Env} {h₀ : Heap} {body : List Stmt} {Q : Flow → Shared → Prop}
theorem letGo_Name {x : Str} {px : Pos} {it v : Value} {Q : Unit → Shared → Prop} (q : Q () s) : wpAny (model prog w) A (letOwnedTupleGo (.Name x px) it v) Q E s := by
  unfold letOwnedTupleGo
  exact wpAny_pure q
/-- a loop over a list of the ledger, its target a name -/
theorem turns_list {y : Str} {py : Pos} {ax : Addr} {lo : Obj} {vs : List Value} {n : Nat} {m₀ : Str → Option Value} {news : List (Addr × Obj)} (J : Nat → (Str → Option Value) → List (Addr × Obj) → Prop)
    (hh : A.handled = none) (F : Fr h₀ env.locals s.heap m₀) (N : News h₀ env.locals s.heap news) (hm : (ax, lo) ∈ news) (hJm : ∀ i m nx, J i m nx → (ax, lo) ∈ nx) (hc : lo.cls = .type "list") (hd : lo.data = .seq vs.toArray n) (h0 : J 0 m₀ news)
    (turn : ∀ i v m₁ nx h tk own, vs[i]? = some v → OwnOff own (nx.map (·.1)) → J i m₁ nx → Fr h₀ env.locals h m₁ → News h₀ env.locals h (nx ++ own) →
      wpAny (model prog w) A (assign (.Name y py) env v) (fun _ s₃ => wpAny (model prog w) A (execs body env) (InvPostG h₀ env.locals (J (i + 1)) own { s with heap := h, toks := tk } Q) E s₃) E { s with heap := h, toks := tk })
    (done : ∀ m₁ nx h tk, J vs.length m₁ nx → Fr h₀ env.locals h m₁ → News h₀ env.locals h nx → Q .next { s with heap := h, toks := tk }) :
    wpAny (model prog w) A (pyIter (.ref ax)) (fun it s₂ => TurnsAt prog w A h₀ env (.Name y py) body Q E it s₂) E s := by
  have hax := N _ hm
  have hl : s.heap.IsList ax vs.toArray := ⟨lo, hax.1, hc, n, hd⟩
  have hlt : ax < s.heap.objs.size := Heap.lt_size hax.1
  have hne : ax ≠ s.heap.objs.size := Nat.ne_of_lt hlt
  refine wpAny_pyIter_list hl ?_
  refine turnsG (tk0 := s.toks) [s.heap.objs.size] J (KTurns.ofWalks (Walks.list hh s.heap.objs.size ax hne vs.toArray) fun i v s Q E st q => letGo_Name q) (fun _ h => h) ?_ ?_ ?_ ?_ ?_ ?_ (F.push _) (fun p hp => ⟨Heap.get?_push_of_some _ (N p hp).1, (N p hp).2⟩) h0 ?_ ?_
  · intro b hb
    rw [List.mem_singleton.mp hb]
    exact ⟨List.mem_cons_self .., next_is_new F⟩
  · intro b hb
    have hb' : b = s.heap.objs.size ∨ b = ax := by simpa using hb
    rcases hb' with e | e
    · exact .inl (by simp [e])
    · exact .inr (.inr ⟨lo, fun i m nx h => e ▸ hJm i m nx h⟩)
  · intro hI
    rcases List.mem_cons.mp hI with e | hI
    · exact absurd F.ns.lt (e ▸ Nat.lt_irrefl _)
    · exact hax.2.1 (List.mem_singleton.mp hI).symm
  · intro p hp hI
    exact absurd (Heap.lt_size (N p hp).1) ((List.mem_singleton.mp hI) ▸ Nat.lt_irrefl _)
  · exact ⟨⟨_, Heap.get?_push_size _ rfl, rfl, rfl⟩, hl.at fun o e => Heap.get?_push_of_some _ e⟩
  · intro i h st b hb
    obtain ⟨it, hit, hic, _⟩ := st.1
    rw [List.mem_singleton.mp hb]
    exact ⟨it, hit⟩
  · intro i v m₁ nx h tk own hi hP
    exact turn i v m₁ nx h tk own (by simpa using (show vs.toArray[i]? = some v from hP))
  · intro m₁ nx h tk hJ
    exact done m₁ nx h tk (by simpa using hJ)
end
/-- pairs of ints, as a list of the ledger's values holds them -/
def PA (ps : List (Int × Value)) (l : List (Int × Int)) : Prop := ps.length = l.length ∧ ∀ (j : Nat) (p : Int × Value), ps[j]? = some p → ∃ k u, l[j]? = some (p.1, k) ∧ p.2 = .int k u
theorem PA.nil : PA [] [] := ⟨rfl, fun j p h => by simp at h⟩
theorem PA.append {ps qs : List (Int × Value)} {l m : List (Int × Int)} (a : PA ps l) (b : PA qs m) : PA (ps ++ qs) (l ++ m) := by
  refine ⟨by rw [List.length_append, List.length_append, a.1, b.1], fun j p hj => ?_⟩
  by_cases h : j < ps.length
  · rw [List.getElem?_append_left h] at hj
    rw [List.getElem?_append_left (a.1 ▸ h)]
    exact a.2 j p hj
  · rw [List.getElem?_append_right (Nat.not_lt.mp h)] at hj
    rw [List.getElem?_append_right (a.1 ▸ Nat.not_lt.mp h), ← a.1]
    exact b.2 _ p hj
theorem PA.one {a b : Int} {u : Tok} : PA [(a, .int b u)] [(a, b)] := ⟨rfl, fun j p h => by
  cases j with
  | zero => cases Option.some.inj h; exact ⟨b, u, rfl, rfl⟩
  | succ j => simp at h⟩
theorem PA.fst {ps : List (Int × Value)} {l : List (Int × Int)} (a : PA ps l) : ps.map (·.1) = l.map (·.1) := by
  apply List.ext_getElem?
  intro j
  rw [List.getElem?_map, List.getElem?_map]
  cases h : ps[j]? with
  | some p =>
    obtain ⟨k, u, e, _⟩ := a.2 j p h
    rw [e]; rfl
  | none =>
    have : l[j]? = none := List.getElem?_eq_none_iff.mpr (a.1 ▸ List.getElem?_eq_none_iff.mp h)
    rw [this]; rfl
theorem PairsIn.append {ts us : List (Addr × Obj)} {xs ys : List Value} {ps qs : List (Int × Value)} (a : PairsIn ts xs ps) (b : PairsIn us ys qs) : PairsIn (us ++ ts) (xs ++ ys) (ps ++ qs) := by
  refine ⟨by rw [List.length_append, List.length_append, a.1, b.1], fun j v hj => ?_⟩
  by_cases h : j < xs.length
  · rw [List.getElem?_append_left h] at hj
    rw [List.getElem?_append_left (a.1 ▸ h)]
    obtain ⟨p, T, t, oT, n, h1, h2, h3, h4⟩ := a.2 j v hj
    exact ⟨p, T, t, oT, n, h1, h2, List.mem_append.mpr (.inr h3), h4⟩
  · rw [List.getElem?_append_right (Nat.not_lt.mp h)] at hj
    rw [List.getElem?_append_right (a.1 ▸ Nat.not_lt.mp h), ← a.1]
    obtain ⟨p, T, t, oT, n, h1, h2, h3, h4⟩ := b.2 _ v hj
    exact ⟨p, T, t, oT, n, h1, h2, List.mem_append.mpr (.inl h3), h4⟩
/-- the ledger of a comprehension that makes the pairs of a list -/
def MkJ (l : Nat → List (Int × Int)) (rest : List (Addr × Obj)) (i : Nat) (ys : List Value) (nw : List (Addr × Obj)) : Prop :=
  ∃ ts ps, nw = ts ++ rest ∧ PairsIn ts ys ps ∧ PA ps (l i)
theorem MkJ.zero {l : Nat → List (Int × Int)} {rest : List (Addr × Obj)} (h : l 0 = []) : MkJ l rest 0 [] rest := ⟨[], [], rfl, PairsIn.nil, h ▸ PA.nil⟩
theorem MkJ.next {l : Nat → List (Int × Int)} {rest nw : List (Addr × Obj)} {i : Nat} {ys : List Value} {T : Addr} {oT : Obj} {a b : Int} {t u : Tok} {n : Nat} (h : MkJ l rest i ys nw) (hl : l (i + 1) = l i ++ [(a, b)]) (hc : oT.cls = .type "tuple") (hd : oT.data = .seq #[.int a t, .int b u] n) : MkJ l rest (i + 1) (ys ++ [.ref T]) ((T, oT) :: nw) := by
  obtain ⟨ts, ps, rfl, hp, hm⟩ := h
  exact ⟨(T, oT) :: ts, ps ++ [(a, .int b u)], rfl, hp.snoc hc hd, hl ▸ hm.append PA.one⟩
theorem MkJ.skip {l : Nat → List (Int × Int)} {rest nw : List (Addr × Obj)} {i : Nat} {ys : List Value} (h : MkJ l rest i ys nw) (hl : l (i + 1) = l i) : MkJ l rest (i + 1) ys nw := by
  obtain ⟨ts, ps, rfl, hp, hm⟩ := h
  exact ⟨ts, ps, rfl, hp, hl ▸ hm⟩
theorem MkJ.mem {l : Nat → List (Int × Int)} {rest nw : List (Addr × Obj)} {i : Nat} {ys : List Value} {q : Addr × Obj} (h : MkJ l rest i ys nw) (hq : q ∈ rest) : q ∈ nw := by
  obtain ⟨ts, ps, rfl, _⟩ := h
  exact List.mem_append.mpr (.inr hq)
/-- a dict by such pairs -/
theorem PA.kv {ps : List (Int × Value)} {l : List (Int × Int)} {G : Int → Int} {ks : List Int} (a : PA ps l) (hk : l.map (·.1) = ks) (hn : ks.Nodup) (hG : ∀ q ∈ l, q.2 = G q.1) : KvF G ks (ps.foldl (fun kv p => stored kv p.1 p.2) []) := by
  have hf := a.fst
  rw [foldl_stored (by rw [List.nil_append, hf, hk]; exact hn), List.nil_append]
  refine ⟨hf.trans hk, fun p hp => ?_⟩
  obtain ⟨j, hj⟩ := List.getElem?_of_mem hp
  obtain ⟨k, u, e, e2⟩ := a.2 j p hj
  exact ⟨u, by rw [e2, show k = G p.1 from hG _ (List.mem_of_getElem? e)]⟩
/-- the pair at a place -/
theorem PairsIn.pair {ts : List (Addr × Obj)} {ys : List Value} {ps : List (Int × Value)} {l : List (Int × Int)} {i : Nat} {v : Value} (x : PairsIn ts ys ps) (a : PA ps l) (hv : ys[i]? = some v) : ∃ T oT p k t u n, v = .ref T ∧ (T, oT) ∈ ts ∧ oT.cls = .type "tuple" ∧ oT.data = .seq #[.int p t, .int k u] n ∧ l[i]? = some (p, k) := by
  obtain ⟨p, T, t, oT, n, h1, h2, h3, h4, h5⟩ := x.2 i v hv
  obtain ⟨k, u, e, e2⟩ := a.2 i p h1
  exact ⟨T, oT, p.1, k, t, u, n, h2, h3, h4, by rw [h5, e2], e⟩
section
variable {prog : Program} {w : World} {A : Around} {E : Value → Shared → Prop} {s : Shared} {h₀ : Heap} {L : Addr} {m : Str → Option Value} {env : Env}
/-- the kit's comprehension over pairs without a test, by an invariant -/
theorem comp_restP {elt : Expr} {x x₂ : Str} {scope : Scope} {cl : List (Str × Addr)} {S : List (Addr × Obj) → Prop} {P : Nat → Value → Prop} {Fin : List Value → List (Addr × Obj) → Prop} {news : List (Addr × Obj)} {n : Nat}
    (J : Nat → List Value → List (Addr × Obj) → Prop) (h0 : J 0 [] news)
    (turn : ∀ i v ys nw, P i v → J i ys nw → ∃ (t : Addr) (ot : Obj) (v₁ v₂ : Value) (nt : Nat), v = .ref t ∧ (t, ot) ∈ nw ∧ ot.cls = .type "tuple" ∧ ot.data = .seq #[v₁, v₂] nt ∧
      ∀ I oI C oC D m₂ h tk (E' : Value → Shared → Prop), LCg.NsObj oC m₂ → m₂ x = some v₁ → m₂ x₂ = some v₂ → Fr h₀ L h m → News h₀ L h ((I, oI) :: (C, oC) :: (D, LCg.lst ys) :: nw) → LCg.Off3 I C D nw → ((@Ne Nat I C) ∧ (@Ne Nat I D) ∧ (@Ne Nat C D)) →
      wpAny (model prog w) A (eval elt (compEnvC scope cl C env)) (LCg.CompEnd h₀ L m { s with heap := h, toks := tk } I oI C oC D (LCg.lst ys) S (fun y nw' => J (i + 1) (ys ++ [y]) nw')) E' { s with heap := h, toks := tk })
    (fin : ∀ ys nw, J n ys nw → Fin ys nw) : LCp.CompRestP prog w A h₀ L m env elt x x₂ scope cl s S P Fin n 0 [] news := by
  have key : ∀ (j i : Nat) (ys : List Value) (nw : List (Addr × Obj)), i + j = n → J i ys nw → LCp.CompRestP prog w A h₀ L m env elt x x₂ scope cl s S P Fin j i ys nw := by
    intro j
    induction j with
    | zero =>
      intro i ys nw hi hJ
      have hi' : i = n := by omega
      subst hi'
      exact LCp.CompRestP.zero (fin ys nw hJ)
    | succ j ih =>
      intro i ys nw hi hJ
      refine LCp.CompRestP.succ fun v hP => ?_
      obtain ⟨t, ot, v₁, v₂, nt, e, h1, h2, h3, R⟩ := turn i v ys nw hP hJ
      refine ⟨t, ot, v₁, v₂, nt, e, h1, h2, h3, fun I oI C oC D m₂ h tk E' a b c d e f g => wpAny_mono (R I oI C oC D m₂ h tk E' a b c d e f g) (fun y s₂ hq => ?_) fun _ _ e => e⟩
      obtain ⟨h', tk', nw', e1, F', N', off', hS, hJ'⟩ := hq
      exact ⟨h', tk', nw', e1, F', N', off', hS, ih _ _ _ (by omega) hJ'⟩
  exact key n 0 [] news (by omega) h0
/-- a source of a tested comprehension over pairs of ints: a list of the base or of the ledger -/
theorem mixed_eq {l1 l2 : Addr} {a b : Int} {p q : Bool} {t1 t2 u1 u2 : Tok} {Q : Value → Shared → Prop} (h1 : s.heap.IsList l1 #[.int a t1, .int b t2, .bool p, .bool q]) (h2 : s.heap.IsList l2 #[.int a u1, .int b u2, .bool p, .bool q]) (hu : A.units + 64 < cLine) (h : Q (.bool true) s) :
    wpAny (model prog w) A (compareOp .Eq (.ref l1) (.ref l2)) Q E s := by
  have c : ∀ t u : Tok, CarriedAll [.int a t, .int b u, .bool p, .bool q] [.int a, .int b, .bool p, .bool q] := fun t u => .cons (.int _ _) (.cons (.int _ _) (.cons (.bool _) (.cons (.bool _) .nil)))
  have sh : SeqAt.shaped (.list [.int a, .int b, .bool p, .bool q]) = true := by simp [SeqAt.shaped, PyData.canLay0, PyData.depth, PyData.canLayAll0, PyData.depthAll]
  refine eq_dataH_same (reads_newData h1 (c t1 t2)) (reads_newData h2 (c u1 u2)) sh sh hu (by simp [SeqAt.noMix, SeqAt.noMixAll]) ?_
  rw [show PySem.Spec.same (.list [.int a, .int b, .bool p, .bool q]) (.list [.int a, .int b, .bool p, .bool q]) = true by simp [PySem.Spec.same, PySem.Spec.sameAll]]
  exact h
end
end
open PySem PySem.W PyProof.Rows PySem.Calls
local macro_rules | `(tactic| walk_at "CEnd") => `(tactic| with_reducible (first | refine stop_end ?_))
local macro_rules | `(tactic| walk_at "CEnd bool") => `(tactic| with_reducible (first | refine stop_end ?_))
local macro_rules | `(tactic| walk_at "CEnd int") => `(tactic| with_reducible (first | refine stop_end ?_))
local macro_rules | `(tactic| walk_at "CEnd none") => `(tactic| with_reducible (first | refine stop_end ?_))
local macro_rules | `(tactic| walk_at "CEnd ref") => `(tactic| with_reducible (first | refine stop_end ?_))
local macro_rules | `(tactic| walk_at "CEnd str") => `(tactic| with_reducible (first | refine stop_end ?_))
local macro_rules | `(tactic| walk_at "CompEnd bool") => `(tactic| with_reducible (first | refine stop_cend ?_))
local macro_rules | `(tactic| walk_at "CompEnd int") => `(tactic| with_reducible (first | refine stop_cend ?_))
local macro_rules | `(tactic| walk_at "CompEnd none") => `(tactic| with_reducible (first | refine stop_cend ?_))
local macro_rules | `(tactic| walk_at "CompEnd ref") => `(tactic| with_reducible (first | refine stop_cend ?_))
local macro_rules | `(tactic| walk_at "CompSrc BinOp nil ref") => `(tactic| with_reducible (first | refine stop_src (by assumption) ?_))
local macro_rules | `(tactic| walk_at "CompSrc Call cons ref") => `(tactic| with_reducible (first | refine stop_src (by assumption) ?_))
local macro_rules | `(tactic| walk_at "CompSrc Call nil ref") => `(tactic| with_reducible (first | refine stop_src (by assumption) ?_))
local macro_rules | `(tactic| walk_at "CompSrc Compare cons ref") => `(tactic| with_reducible (first | refine stop_src (by assumption) ?_))
local macro_rules | `(tactic| walk_at "CompSrc Subscript cons ref") => `(tactic| with_reducible (first | refine stop_src (by assumption) ?_))
local macro_rules | `(tactic| walk_at "CompSrc Tuple nil ref") => `(tactic| with_reducible (first | refine stop_src (by assumption) ?_))
local macro_rules | `(tactic| walk_at "CompSrcT Compare Name cons ref") => `(tactic| with_reducible (first | refine stop_srcT (by assumption) ?_))
local macro_rules | `(tactic| walk_at "CompSrcT Compare Tuple nil ref") => `(tactic| with_reducible (first | refine stop_srcT (by assumption) ?_))
local macro_rules | `(tactic| walk_at "CutV cons int") => `(tactic| with_reducible (first | refine stop_cut ?_))
local macro_rules | `(tactic| walk_at "CutV nil str") => `(tactic| with_reducible (first | refine stop_cut ?_))
local macro_rules | `(tactic| walk_at "DictSrc Tuple cons ref") => `(tactic| with_reducible (first | refine stop_dsrc ?_))
local macro_rules | `(tactic| walk_at "InvEndG") => `(tactic| with_reducible (first | refine stop_invG ?_))
local macro_rules | `(tactic| walk_at "InvEndN") => `(tactic| with_reducible (first | refine stop_inv ?_))
local macro_rules | `(tactic| walk_at "StrSrc BoolOp nil str") => `(tactic| with_reducible (first | refine stop_ssrc ?_))
local macro_rules | `(tactic| walk_at "StrSrcT Compare Name cons str") => `(tactic| with_reducible (first | refine stop_ssrcT ?_))
local macro_rules | `(tactic| walk_at "WhlRest Compare cons nil") => `(tactic| with_reducible (first | refine stop_wrest (by assumption) ?_))
local macro_rules | `(tactic| walk_at "binaryOp Add ref ref") => `(tactic| with_reducible (first | refine stop_add (by assumption) ?_))
local macro_rules | `(tactic| walk_at "call builtin:dict.get cons nil") => `(tactic| with_reducible (first | refine stop_dg ?_))
local macro_rules | `(tactic| walk_at "call ref cons nil") => `(tactic| with_reducible (first | refine stop_call (by assumption) ?_ | refine stop_callD (by assumption) ?_))
local macro_rules | `(tactic| walk_at "call ref nil") => `(tactic| with_reducible (first | refine stop_call (by assumption) ?_ | refine stop_callD (by assumption) ?_))
local macro_rules | `(tactic| walk_at "call type:dict cons nil") => `(tactic| with_reducible (first | refine stop_dic ?_))
local macro_rules | `(tactic| walk_at "call type:enumerate cons nil") => `(tactic| with_reducible (first | refine stop_enu (by assumption) ?_))
local macro_rules | `(tactic| walk_at "call type:list cons nil") => `(tactic| with_reducible (first | refine stop_lst (by assumption) ?_))
local macro_rules | `(tactic| walk_at "call type:zip cons nil") => `(tactic| with_reducible (first | refine stop_zip (by assumption) ?_))
local macro_rules | `(tactic| walk_at "compareOp Eq ref ref") => `(tactic| with_reducible (first | refine stop_eq (by assumption) ?_))
local macro_rules | `(tactic| walk_at "compareOp In int ref") => `(tactic| with_reducible (first | refine stop_in (by assumption) ?_))
local macro_rules | `(tactic| walk_at "compareOp NotEq ref ref") => `(tactic| with_reducible (first | refine stop_ne (by assumption) ?_))
local macro_rules | `(tactic| walk_at "eval Call Name cons nil") => `(tactic| with_reducible (first | refine callN ?_))
local macro_rules | `(tactic| walk_at "eval Call Name nil nil") => `(tactic| with_reducible (first | refine callN ?_))
local macro_rules | `(tactic| walk_at "eval IfExp Compare Name Name") => `(tactic| with_reducible (first | refine stop_ifexp (by assumption) ?_))
local macro_rules | `(tactic| walk_at "eval IfExp Name Call Call") => `(tactic| with_reducible (first | refine stop_ifexp (by assumption) ?_))
local macro_rules | `(tactic| walk_at "eval IfExp Name Call Name") => `(tactic| with_reducible (first | refine stop_ifexp (by assumption) ?_))
local macro_rules | `(tactic| walk_at "eval IfExp Name Name Call") => `(tactic| with_reducible (first | refine stop_ifexp (by assumption) ?_))
local macro_rules | `(tactic| walk_at "eval ListComp BinOp cons") => `(tactic| with_reducible (first | refine stop_comp (by assumption) ?_))
local macro_rules | `(tactic| walk_at "eval ListComp BoolOp cons") => `(tactic| with_reducible (first | refine stop_comp (by assumption) ?_))
local macro_rules | `(tactic| walk_at "eval ListComp Call cons") => `(tactic| with_reducible (first | refine stop_comp (by assumption) ?_))
local macro_rules | `(tactic| walk_at "eval ListComp Compare cons") => `(tactic| with_reducible (first | refine stop_comp (by assumption) ?_))
local macro_rules | `(tactic| walk_at "eval ListComp Name cons") => `(tactic| with_reducible (first | refine stop_comp (by assumption) ?_))
local macro_rules | `(tactic| walk_at "eval ListComp Tuple cons") => `(tactic| with_reducible (first | refine stop_comp (by assumption) ?_))
local macro_rules | `(tactic| walk_at "exec Assign cons ListComp") => `(tactic| with_reducible (first | refine stop_acomp (by assumption) ?_))
local macro_rules | `(tactic| walk_at "exec For Name Call cons nil") => `(tactic| with_reducible (first | refine stop_for (by assumption) ?_))
local macro_rules | `(tactic| walk_at "exec For Name List cons nil") => `(tactic| with_reducible (first | refine stop_for (by assumption) ?_))
local macro_rules | `(tactic| walk_at "exec For Name Name cons nil") => `(tactic| with_reducible (first | refine stop_for (by assumption) ?_))
local macro_rules | `(tactic| walk_at "exec For Tuple Call cons nil") => `(tactic| with_reducible (first | refine stop_for (by assumption) ?_))
local macro_rules | `(tactic| walk_at "exec While BoolOp cons nil") => `(tactic| with_reducible (first | refine stop_while (by assumption) ?_))
local macro_rules | `(tactic| walk_at "exec While Compare cons nil") => `(tactic| with_reducible (first | refine stop_while (by assumption) ?_))
local macro_rules | `(tactic| walk_at "getMethod ref") => `(tactic| with_reducible (first | refine stop_gm ?_))
local macro_rules | `(tactic| walk_at "pyIter ref") => `(tactic| with_reducible (first | refine stop_iter (by assumption) ?_ | refine stop_iterD (by assumption) ?_))
local macro_rules | `(tactic| walk_at "pyIter str") => `(tactic| with_reducible (first | refine stop_iter (by assumption) ?_ | refine stop_iterD (by assumption) ?_))
local macro_rules | `(tactic| walk_at "setItem ref int ref") => `(tactic| with_reducible (first | refine stop_si ?_))
local macro_rules | `(tactic| walk_at "subscriptTail Name BinOp ref int") => `(tactic| with_reducible (first | refine stop_sub (by assumption) ?_))
local macro_rules | `(tactic| walk_at "subscriptTail Name Call ref int") => `(tactic| with_reducible (first | refine stop_sub (by assumption) ?_))
local macro_rules | `(tactic| walk_at "subscriptTail Name Name ref int") => `(tactic| with_reducible (first | refine stop_sub (by assumption) ?_))
local macro_rules | `(tactic| walk_at "subscriptTail Name Slice str ref") => `(tactic| with_reducible (first | refine stop_slice ?_))
local macro_rules | `(tactic| k_room) => `(tactic| ktr_room)
local macro_rules | `(tactic| k_inst) => `(tactic| exact inst_keep (by assumption) (Fr.keep (by k_asm)))
section
open PySem PySem.W PyProof.Rows PySem.Calls
set_option maxHeartbeats 8000000
theorem fill : (PySem.Challenge.rw_pq0347_02 = PySem.Challenge.rw_pq0347_02) ∧ (hd.heap_39 = hd.heap_39) := by
  k_fill
  exact ⟨rfl, rfl⟩

abbrev CtrKL (w : World) (mean : ExcName → Option Value) (mg mb : Str → Option Value) (dR dU : Nat) (f : Addr) (vs : List Value) (post : Value → List (Addr × Obj) → Prop) : Prop :=
  CtrK PySem.Challenge.pw_pq0347_02 w (hd.heap_39 w.params) vw (looseW vw []) mean mg mb dR dU f vs post
abbrev CtrL (w : World) (mean : ExcName → Option Value) (mg mb : Str → Option Value) (dR dU : Nat) (f : Addr) (vs : List Value) (A R : List (Addr × Obj)) (post : Value → List (Addr × Obj) → Prop) : Prop :=
  Ctr PySem.Challenge.pw_pq0347_02 w (hd.heap_39 w.params) vw (looseW vw []) mean mg mb dR dU f vs A R post

def up (c : Int) : Int := if (97 ≤ c ∧ c ≤ 122) ∨ (224 ≤ c ∧ c ≤ 254 ∧ c ≠ 247) then c - 32 else c
def dn (c : Int) : Int := if (65 ≤ c ∧ c ≤ 90) ∨ (192 ≤ c ∧ c ≤ 222 ∧ c ≠ 215) then c + 32 else c

theorem up1 {c : Int} (h : 97 ≤ c) (h' : c ≤ 122) : c - 32 = up c := by unfold up; rw [if_pos (.inl ⟨h, h'⟩)]
theorem up2 {c : Int} (h : 224 ≤ c) (h' : c ≤ 254) (h'' : c ≠ 247) : c - 32 = up c := by unfold up; rw [if_pos (.inr ⟨h, h', h''⟩)]
theorem up3 {c : Int} (h : ¬ (97 ≤ c ∧ c ≤ 122)) (h' : ¬ (224 ≤ c ∧ c ≤ 254 ∧ c ≠ 247)) : c = up c := by unfold up; rw [if_neg (fun x => x.elim h h')]
theorem dn1 {c : Int} (h : 65 ≤ c) (h' : c ≤ 90) : c + 32 = dn c := by unfold dn; rw [if_pos (.inl ⟨h, h'⟩)]
theorem dn2 {c : Int} (h : 192 ≤ c) (h' : c ≤ 222) (h'' : c ≠ 215) : c + 32 = dn c := by unfold dn; rw [if_pos (.inr ⟨h, h', h''⟩)]
theorem dn3 {c : Int} (h : ¬ (65 ≤ c ∧ c ≤ 90)) (h' : ¬ (192 ≤ c ∧ c ≤ 222 ∧ c ≠ 215)) : c = dn c := by unfold dn; rw [if_neg (fun x => x.elim h h')]

theorem up_c (w : World) (mean : ExcName → Option Value) (mg mb : Str → Option Value) (c : Int) (t : Tok) : CtrL w mean mg mb 1 8 35 [.int c t] [] [] (fun v A => A = [] ∧ ∃ t, v = .int (up c) t) := by
  k_dflt (refine' ctr_enter [(Str.ofString "code", .int c t)] [(Str.ofString "code", .int c t)] ?k1 ?k2 ?k3 ?kr ?k4 ?_ ?c2 ?c3 ?c4 ?c5; (case k1 => k_is); (case k2 => k_is); (case k3 => exact rfl); (case kr => exact rfl); (case k4 => exact locs rfl); (case c2 => exact rfl); (case c3 => exact rfl); (case c4 => exact rfl); (case c5 => decide))
  intro dp un gd cn cs a ccd cl outer base g L' L₀ s₁ F N B X T hR hd hu A9 e9
  (try dsimp only); (try k_fold)
  k_steps
  all_goals refine Stop.go (CEnd.put0 (by k_asm) ⟨_, congrArg (fun x => Value.int x _) (by first | exact up1 (by assumption) (by assumption) | exact up2 (by assumption) (by assumption) (by assumption) | exact up3 (by omega) (by omega))⟩)

theorem dn_c (w : World) (mean : ExcName → Option Value) (mg mb : Str → Option Value) (c : Int) (t : Tok) : CtrL w mean mg mb 1 8 28 [.int c t] [] [] (fun v A => A = [] ∧ ∃ t, v = .int (dn c) t) := by
  k_dflt (refine' ctr_enter [(Str.ofString "code", .int c t)] [(Str.ofString "code", .int c t)] ?k1 ?k2 ?k3 ?kr ?k4 ?_ ?c2 ?c3 ?c4 ?c5; (case k1 => k_is); (case k2 => k_is); (case k3 => exact rfl); (case kr => exact rfl); (case k4 => exact locs rfl); (case c2 => exact rfl); (case c3 => exact rfl); (case c4 => exact rfl); (case c5 => decide))
  intro dp un gd cn cs a ccd cl outer base g L' L₀ s₁ F N B X T hR hd hu A9 e9
  (try dsimp only); (try k_fold)
  k_steps
  all_goals refine Stop.go (CEnd.put0 (by k_asm) ⟨_, congrArg (fun x => Value.int x _) (by first | exact dn1 (by assumption) (by assumption) | exact dn2 (by assumption) (by assumption) (by assumption) | exact dn3 (by omega) (by omega))⟩)

theorem fold_c (w : World) (mean : ExcName → Option Value) (mg mb : Str → Option Value) (c : Int) (t : Tok) : CtrL w mean mg mb 2 16 42 [.int c t] [] [] (fun v A => A = [] ∧ ∃ t, v = .int (dn c) t) := by
  k_dflt (refine' ctr_enter [(Str.ofString "code", .int c t)] [(Str.ofString "code", .int c t)] ?k1 ?k2 ?k3 ?kr ?k4 ?_ ?c2 ?c3 ?c4 ?c5; (case k1 => k_is); (case k2 => k_is); (case k3 => exact rfl); (case kr => exact rfl); (case k4 => exact locs rfl); (case c2 => exact rfl); (case c3 => exact rfl); (case c4 => exact rfl); (case c5 => decide))
  intro dp un gd cn cs a ccd cl outer base g L' L₀ s₁ F N B X T hR hd hu A9 e9
  (try dsimp only); (try k_fold)
  have hSC := stopC
  k_steps
  k_dflt (refine' Stop.go (Ctr.useP (dn_c _ _ _ _ _ _) ?B ?F ?X ?N ?T ?hk ?hR ?hd ?hu ?_); (case B => k_asm); (case F => k_asm); (case X => k_asm); (case N => k_asm); (case T => k_asm); (case hk => first | exact rfl | assumption); (case hd => ktr_room); (case hu => ktr_units); (case hR => exact fun _ h => (nomatch h))); rintro v9 h9 tk9 ⟨t9, rfl⟩ F9 N9; (try dsimp only)
  k_steps
  exact Stop.go (CEnd.put0 (by k_asm) ⟨_, rfl⟩)

theorem isup_c (w : World) (mean : ExcName → Option Value) (mg mb : Str → Option Value) (c : Int) (t : Tok) : CtrL w mean mg mb 2 16 49 [.int c t] [] [] (fun v A => A = [] ∧ v = .bool (dn c != c)) := by
  k_dflt (refine' ctr_enter [(Str.ofString "code", .int c t)] [(Str.ofString "code", .int c t)] ?k1 ?k2 ?k3 ?kr ?k4 ?_ ?c2 ?c3 ?c4 ?c5; (case k1 => k_is); (case k2 => k_is); (case k3 => exact rfl); (case kr => exact rfl); (case k4 => exact locs rfl); (case c2 => exact rfl); (case c3 => exact rfl); (case c4 => exact rfl); (case c5 => decide))
  intro dp un gd cn cs a ccd cl outer base g L' L₀ s₁ F N B X T hR hd hu A9 e9
  (try dsimp only); (try k_fold)
  have hSC := stopC
  k_steps
  k_dflt (refine' Stop.go (Ctr.useP (dn_c _ _ _ _ _ _) ?B ?F ?X ?N ?T ?hk ?hR ?hd ?hu ?_); (case B => k_asm); (case F => k_asm); (case X => k_asm); (case N => k_asm); (case T => k_asm); (case hk => first | exact rfl | assumption); (case hd => ktr_room); (case hu => ktr_units); (case hR => exact fun _ h => (nomatch h))); rintro v9 h9 tk9 ⟨t9, rfl⟩ F9 N9; (try dsimp only)
  k_steps
  exact Stop.go (CEnd.put0 (by k_asm) rfl)

theorem islo_c (w : World) (mean : ExcName → Option Value) (mg mb : Str → Option Value) (c : Int) (t : Tok) : CtrL w mean mg mb 2 16 56 [.int c t] [] [] (fun v A => A = [] ∧ v = .bool (up c != c)) := by
  k_dflt (refine' ctr_enter [(Str.ofString "code", .int c t)] [(Str.ofString "code", .int c t)] ?k1 ?k2 ?k3 ?kr ?k4 ?_ ?c2 ?c3 ?c4 ?c5; (case k1 => k_is); (case k2 => k_is); (case k3 => exact rfl); (case kr => exact rfl); (case k4 => exact locs rfl); (case c2 => exact rfl); (case c3 => exact rfl); (case c4 => exact rfl); (case c5 => decide))
  intro dp un gd cn cs a ccd cl outer base g L' L₀ s₁ F N B X T hR hd hu A9 e9
  (try dsimp only); (try k_fold)
  have hSC := stopC
  k_steps
  k_dflt (refine' Stop.go (Ctr.useP (up_c _ _ _ _ _ _) ?B ?F ?X ?N ?T ?hk ?hR ?hd ?hu ?_); (case B => k_asm); (case F => k_asm); (case X => k_asm); (case N => k_asm); (case T => k_asm); (case hk => first | exact rfl | assumption); (case hd => ktr_room); (case hu => ktr_units); (case hR => exact fun _ h => (nomatch h))); rintro v9 h9 tk9 ⟨t9, rfl⟩ F9 N9; (try dsimp only)
  k_steps
  exact Stop.go (CEnd.put0 (by k_asm) rfl)

theorem upd_c (w : World) (mean : ExcName → Option Value) (mg mb : Str → Option Value) (l : Addr) (vs : List Value) (n : Nat) (ns : List Int) (hi : IntsAre vs ns) (hlen : ns.length ≤ 100) :
    CtrL w mean mg mb 2 24 61 [.ref l] [] [(l, listOf vs.toArray n)] (fun v A => ∃ r us, v = .ref r ∧ A = [(r, LCg.lst us)] ∧ IntsAre us (ns.map up)) := by
  k_dflt (refine' ctr_enter [(Str.ofString "codes", .ref l)] [(Str.ofString "codes", .ref l)] ?k1 ?k2 ?k3 ?kr ?k4 ?_ ?c2 ?c3 ?c4 ?c5; (case k1 => k_is); (case k2 => k_is); (case k3 => exact rfl); (case kr => exact rfl); (case k4 => exact locs rfl); (case c2 => exact rfl); (case c3 => exact rfl); (case c4 => exact rfl); (case c5 => decide))
  intro dp un gd cn cs a ccd cl outer base g L' L₀ s₁ F N B X T hR hd hu A9 e9
  (try dsimp only); (try k_fold)
  have hl : g.IsList l vs.toArray := ⟨_, hR _ (.head _), rfl, n, rfl⟩
  have hlv : vs.length ≤ 100 := by rw [hi.length]; exact hlen
  have hSC := stopC
  k_steps
  refine Stop.go (LCg.ListComp_U (F₀ := by k_asm) (by with_unfolding_all rfl) (by decide) (by rfl) (by decide) (by rfl) ?_)
  k_steps
  refine Stop.go (LCg.CompSrc.base (by rfl) (by k_asm) (by k_asm) hl (by simp only [List.size_toArray, PySem.sizeLine_eq]; omega) fun g' => comp_base (fun k y => ∃ t, y = .int (up k) t) hi ?_ ?_)
  · intro k t ys I oI C oC D m₂ h tk E' hk hC hx F N off ne
    k_steps
    k_dflt (refine' Stop.go (Ctr.useP (up_c _ _ _ _ _ _) ?B ?F ?X ?N ?T ?hk ?hR ?hd ?hu ?_); (case B => k_asm); (case F => k_asm); (case X => k_asm); (case N => k_asm); (case T => k_asm); (case hk => first | exact rfl | assumption); (case hd => ktr_room); (case hu => ktr_units); (case hR => exact fun _ h => (nomatch h))); rintro v9 h9 tk9 ⟨t9, rfl⟩ F9 N9; (try dsimp only)
    k_steps
    exact Stop.go (LCg.CompEnd.intro (by k_asm) (by k_asm) [] (fun _ h => h) off (.inl hl) ⟨rfl, _, rfl⟩)
  · intro ys hy D h tk F N off
    k_steps
    exact Stop.go (CEnd.put (by k_asm) (by k_asm) (fun _ h => h) ⟨D, ys, rfl, rfl, all2_ints hy⟩)

theorem dnd_c (w : World) (mean : ExcName → Option Value) (mg mb : Str → Option Value) (l : Addr) (vs : List Value) (n : Nat) (ns : List Int) (hi : IntsAre vs ns) (hlen : ns.length ≤ 100) :
    CtrL w mean mg mb 2 24 66 [.ref l] [] [(l, listOf vs.toArray n)] (fun v A => ∃ r us, v = .ref r ∧ A = [(r, LCg.lst us)] ∧ IntsAre us (ns.map dn)) := by
  k_dflt (refine' ctr_enter [(Str.ofString "codes", .ref l)] [(Str.ofString "codes", .ref l)] ?k1 ?k2 ?k3 ?kr ?k4 ?_ ?c2 ?c3 ?c4 ?c5; (case k1 => k_is); (case k2 => k_is); (case k3 => exact rfl); (case kr => exact rfl); (case k4 => exact locs rfl); (case c2 => exact rfl); (case c3 => exact rfl); (case c4 => exact rfl); (case c5 => decide))
  intro dp un gd cn cs a ccd cl outer base g L' L₀ s₁ F N B X T hR hd hu A9 e9
  (try dsimp only); (try k_fold)
  have hl : g.IsList l vs.toArray := ⟨_, hR _ (.head _), rfl, n, rfl⟩
  have hlv : vs.length ≤ 100 := by rw [hi.length]; exact hlen
  have hSC := stopC
  k_steps
  refine Stop.go (LCg.ListComp_U (F₀ := by k_asm) (by with_unfolding_all rfl) (by decide) (by rfl) (by decide) (by rfl) ?_)
  k_steps
  refine Stop.go (LCg.CompSrc.base (by rfl) (by k_asm) (by k_asm) hl (by simp only [List.size_toArray, PySem.sizeLine_eq]; omega) fun g' => comp_base (fun k y => ∃ t, y = .int (dn k) t) hi ?_ ?_)
  · intro k t ys I oI C oC D m₂ h tk E' hk hC hx F N off ne
    k_steps
    k_dflt (refine' Stop.go (Ctr.useP (dn_c _ _ _ _ _ _) ?B ?F ?X ?N ?T ?hk ?hR ?hd ?hu ?_); (case B => k_asm); (case F => k_asm); (case X => k_asm); (case N => k_asm); (case T => k_asm); (case hk => first | exact rfl | assumption); (case hd => ktr_room); (case hu => ktr_units); (case hR => exact fun _ h => (nomatch h))); rintro v9 h9 tk9 ⟨t9, rfl⟩ F9 N9; (try dsimp only)
    k_steps
    exact Stop.go (LCg.CompEnd.intro (by k_asm) (by k_asm) [] (fun _ h => h) off (.inl hl) ⟨rfl, _, rfl⟩)
  · intro ys hy D h tk F N off
    k_steps
    exact Stop.go (CEnd.put (by k_asm) (by k_asm) (fun _ h => h) ⟨D, ys, rfl, rfl, all2_ints hy⟩)

theorem hasup_c (w : World) (mean : ExcName → Option Value) (mg mb : Str → Option Value) (l : Addr) (vs : List Value) (n : Nat) (ns : List Int) (hi : IntsAre vs ns) (hlen : ns.length ≤ 100) :
    CtrL w mean mg mb 3 32 71 [.ref l] [] [(l, listOf vs.toArray n)] (fun v A => A = [] ∧ v = .bool (ns.any fun c => dn c != c)) := by
  k_dflt (refine' ctr_enter [(Str.ofString "codes", .ref l)] [(Str.ofString "codes", .ref l)] ?k1 ?k2 ?k3 ?kr ?k4 ?_ ?c2 ?c3 ?c4 ?c5; (case k1 => k_is); (case k2 => k_is); (case k3 => exact rfl); (case kr => exact rfl); (case k4 => exact locs rfl); (case c2 => exact rfl); (case c3 => exact rfl); (case c4 => exact rfl); (case c5 => decide))
  intro dp un gd cn cs a ccd cl outer base g L' L₀ s₁ F N B X T hR hd hu A9 e9
  (try dsimp only); (try k_fold)
  have hl : g.IsList l vs.toArray := ⟨_, hR _ (.head _), rfl, n, rfl⟩
  have hlv : vs.length ≤ 100 := by rw [hi.length]; exact hlen
  have hSC := stopC
  k_steps
  refine Stop.go (LCg.ListComp_U (F₀ := by k_asm) (by with_unfolding_all rfl) (by decide) (by rfl) (by decide) (by rfl) ?_)
  k_steps
  refine Stop.go (LCg.CompSrc.base (by rfl) (by k_asm) (by k_asm) hl (by simp only [List.size_toArray, PySem.sizeLine_eq]; omega) fun g' => comp_base (fun k y => y = .bool (dn k != k)) hi ?_ ?_)
  · intro k t ys I oI C oC D m₂ h tk E' hk hC hx F N off ne
    k_steps
    k_dflt (refine' Stop.go (Ctr.useP (isup_c _ _ _ _ _ _) ?B ?F ?X ?N ?T ?hk ?hR ?hd ?hu ?_); (case B => k_asm); (case F => k_asm); (case X => k_asm); (case N => k_asm); (case T => k_asm); (case hk => first | exact rfl | assumption); (case hd => ktr_room); (case hu => ktr_units); (case hR => exact fun _ h => (nomatch h))); rintro v9 h9 tk9 rfl F9 N9; (try dsimp only)
    k_steps
    exact Stop.go (LCg.CompEnd.intro (by k_asm) (by k_asm) [] (fun _ h => h) off (.inl hl) ⟨rfl, rfl⟩)
  · intro ys hy D h tk F N off
    k_steps
    refine LSm.any_bools (by k_asm) (by k_asm) (by rfl) (News.isList (by k_asm) (.head _)) (all2_bools hy) ?_
    intro h' tk' F' N'
    k_steps
    exact Stop.go (CEnd.put0 (by k_asm) (congrArg Value.bool (by rw [List.any_map]; rfl)))
end
section
open PySem PySem.W PyProof.Rows PySem.Calls
set_option maxHeartbeats 8000000
theorem occE {i c : Nat} (h : (Str.ofString "1234bcnp").cps[i]? = some c) : List.isEmpty (Builtin.Str.occurrences (Str.ofString "") (Str.mk #[c]) 0 (Str.length (Str.ofString "")) 1) = true :=
  (show ∀ c ∈ (Str.ofString "1234bcnp").cps.toList, List.isEmpty (Builtin.Str.occurrences (Str.ofString "") (Str.mk #[c]) 0 (Str.length (Str.ofString "")) 1) = true by decide +kernel) c (by
    rw [Array.mem_toList_iff]; exact Array.mem_of_getElem? h)
theorem sf_c (w : World) (mean : ExcName → Option Value) (mg mb : Str → Option Value) (t : Tok) :
    CtrL w mean mg mb 2 20 159 [.str (Str.ofString "") t] [] [] (fun v A => A = [] ∧ ∃ t, v = .str (Str.ofString "") t) := by
  k_dflt (refine' ctr_enterC (fun _ => none) ?k1 ?k2 ?k3 ?k4 ?kD ?km ?_ ?c2 ?c3 ?c4; (case k1 => k_is); (case k2 => k_is); (case k3 => exact rfl); (case k4 => exact rfl); (case kD => decide +kernel); (case km => exact fun _ => rfl); (case c2 => exact rfl); (case c3 => exact rfl); (case c4 => exact rfl))
  intro dp un gd cn cs a ccd cl outer base g L' L₀ s₁ cells F N Y B X T hR hd hu l1
  (try k_lt l1); k_cells Y; (try simp only [List.cons_append, List.nil_append] at N)
  (try dsimp only); (try k_fold)
  (rename Obj => o1); (rename o1.data = _ => d1); (replace d1 : o1.data = Data.cell (some (.str (Str.ofString "") t)) := d1)
  have hSC := stopC
  k_steps
  refine Stop.go (ListComp_ST (by k_asm) (by with_unfolding_all rfl) (by decide) (by rfl) (by decide) (by rfl) ?_ (by intro _; rfl))
  k_steps
  refine Stop.go ⟨_, _, _, rfl, by rfl, by k_asm, by k_asm, by decide, ?_⟩
  rintro s₂ ⟨_, rfl⟩
  refine comp_restT (fun i ys nw => ys = [] ∧ nw = _) ⟨rfl, rfl⟩ ?_ ?_
  · rintro i v ys nw I oI C oC D m₂ h tk E' hin ⟨c, u, hc, rfl⟩ ⟨rfl, rfl⟩ hC hx F N off ne
    have hO := occE hc
    k_steps
    exact Stop.go (LCg.CompEnd.intro (by k_asm) (by k_asm) _ (fun _ h => h) off trivial ⟨rfl, rfl⟩)
  · rintro ys nw ⟨rfl, rfl⟩ D h tk F N off
    k_steps
    exact Stop.go (CEnd.put0 (by k_asm) ⟨_, congrArg (fun x => Value.str x _) (show Txt.join (Str.ofString "") [] = Str.ofString "" by decide)⟩)

theorem syn_c (w : World) (mean : ExcName → Option Value) (mg mb : Str → Option Value) (k : Str) (t2 t5 : Tok) (mv : Value) :
    CtrKL w mean mg mb 3 16 150 [.str k t2, mv, .str (Str.ofString "") t5] (fun v A => ∃ x dx t1 t3 t4, v = .ref x ∧ A = [(x, instObj 150 dx), (dx, synD w.params k mv t1 t2 t3 t4 t5)]) := by
  intro dp un gd cn cs a ccd cl outer A₀ base h₀ L m s Q E news B F X N T hk hd hu ret
  k_dflt (refine' call_cls ?k1 ?k2 ?k3 ?k4 ?k5 ?k6 ?_; (case k1 => k_asm); (case k2 => k_asm); (case k3 => k_asm); (case k4 => k_is); (case k5 => k_is); (case k6 => k_is))
  intro x dx h' F' N' l1 l2
  (replace l2 := ltN l2)
  k_dflt cell_enter
  k_steps
  refine ret _ [_, _] _ _ ⟨x, dx, _, _, _, rfl, rfl⟩ ?_ (by k_asm) (by k_asm)
  intro q hq r hr
  rcases List.mem_cons.mp hq with rfl | hq
  · exact Nat.lt_trans (l1 r hr) l2
  · rw [List.mem_singleton.mp hq]; exact l1 r hr

theorem rs_c (w : World) (mean : ExcName → Option Value) (mg mb : Str → Option Value) (t : Tok) (tx : Str) (hlen : tx.length = 1) (h0 : (tx == Str.ofString "") = false) (k1 : (Txt.item tx 0 == Str.ofString "-") = false) 
   (hK : List.isEmpty (Builtin.Str.occurrences (Str.ofString " w_.()'\"\\/$<>@!|") (Txt.item tx 0) 0 (Str.length (Str.ofString " w_.()'\"\\/$<>@!|")) 1) = false)
  (hsl : Txt.slice tx (some 2) none = Str.ofString "") :
    CtrL w mean mg mb 8 60 164 [.str tx t] [] [] (fun v A => ∃ x dx mv t1 t2 t3 t4 t5, v = .ref x ∧ A = [(x, instObj 150 dx), (dx, synD w.params (Txt.item tx 0) mv t1 t2 t3 t4 t5)]) := by
  k_dflt (refine' ctr_enter [(Str.ofString "text", .str tx t)] [(Str.ofString "text", .str tx t)] ?k1 ?k2 ?k3 ?kr ?k4 ?_ ?c2 ?c3 ?c4 ?c5; (case k1 => k_is); (case k2 => k_is); (case k3 => exact rfl); (case kr => exact rfl); (case k4 => exact locs rfl); (case c2 => exact rfl); (case c3 => exact rfl); (case c4 => exact rfl); (case c5 => decide))
  intro dp un gd cn cs a ccd cl outer base g L' L₀ s₁ F N B X T hR hd hu A9 e9
  (try dsimp only); (try k_fold)
  k_steps
  refine Stop.go (slice_strN_sn (s := ⟨_, _, _, _, _⟩) (hsz := by rw [hlen, PySem.sizeLine_eq]; decide) (by k_asm) (by k_asm) (fun h' t' k F' N' => ?_))
  rw [hsl]
  have hSC := stopC
  k_steps
  refine Stop.go (ListComp_S (by k_asm) (by with_unfolding_all rfl) (by decide) (by rfl) (by decide) (by rfl) ?_ (by intro _; rfl))
  k_steps
  refine Stop.go ⟨_, _, _, rfl, by rfl, by k_asm, by k_asm, by decide, ?_⟩
  rintro s₂ ⟨_, rfl⟩
  refine LCg.CompRest.zero ?_
  intro D h tk F N off
  k_steps
  k_dflt (refine' Stop.go (Ctr.useP (sf_c _ _ _ _ _) ?B ?F ?X ?N ?T ?hk ?hR ?hd ?hu ?_); (case B => k_asm); (case F => k_asm); (case X => k_asm); (case N => k_asm); (case T => k_asm); (case hk => first | exact rfl | assumption); (case hd => ktr_room); (case hu => ktr_units); (case hR => exact fun _ h => (nomatch h))); rintro v9 h9 tk9 ⟨t9, rfl⟩ F9 N9; (try dsimp only)
  k_steps
  k_dflt (refine' Stop.go (CtrK.use (syn_c _ _ _ _ _ _ _ _) ?B ?F ?X ?N ?T ?hk ?hd ?hu ?_); (case B => k_asm); (case F => k_asm); (case X => k_asm); (case N => k_asm); (case T => k_asm); (case hk => first | exact rfl | assumption); (case hd => ktr_room); (case hu => ktr_units)); rintro v9 A9' h9 tk9 ⟨x9, dx9, t1, t3, t4, rfl, rfl⟩ lt9 F9 N9; (try dsimp only [List.nil_append, List.cons_append] at N9); (try dsimp only)
  k_steps
  (refine Stop.go (CEnd.put (by k_asm) (by k_asm) (fun _ hq => List.mem_of_mem_take (i := 2) hq) ?_); exact ⟨_, _, _, _, _, _, _, _, rfl, rfl⟩)

theorem rs2_c (w : World) (mean : ExcName → Option Value) (mg mb : Str → Option Value) (t : Tok) (tx : Str) (hlen : tx.length = 2) (h0 : (tx == Str.ofString "") = false) (k1 : (Txt.item tx 0 == Str.ofString "-") = false) (k2 : (Txt.item tx 1 == Str.ofString " ") = false)
   (hK : List.isEmpty (Builtin.Str.occurrences (Str.ofString " w_.()'\"\\/$<>@!|") (Txt.item tx 0) 0 (Str.length (Str.ofString " w_.()'\"\\/$<>@!|")) 1) = false)
  (hsl : Txt.slice tx (some 2) none = Str.ofString "") :
    CtrL w mean mg mb 8 60 164 [.str tx t] [] [] (fun v A => ∃ x dx mv t1 t2 t3 t4 t5, v = .ref x ∧ A = [(x, instObj 150 dx), (dx, synD w.params (Txt.item tx 0) mv t1 t2 t3 t4 t5)]) := by
  k_dflt (refine' ctr_enter [(Str.ofString "text", .str tx t)] [(Str.ofString "text", .str tx t)] ?k1 ?k2 ?k3 ?kr ?k4 ?_ ?c2 ?c3 ?c4 ?c5; (case k1 => k_is); (case k2 => k_is); (case k3 => exact rfl); (case kr => exact rfl); (case k4 => exact locs rfl); (case c2 => exact rfl); (case c3 => exact rfl); (case c4 => exact rfl); (case c5 => decide))
  intro dp un gd cn cs a ccd cl outer base g L' L₀ s₁ F N B X T hR hd hu A9 e9
  (try dsimp only); (try k_fold)
  k_steps
  refine Stop.go (slice_strN_sn (s := ⟨_, _, _, _, _⟩) (hsz := by rw [hlen, PySem.sizeLine_eq]; decide) (by k_asm) (by k_asm) (fun h' t' k F' N' => ?_))
  rw [hsl]
  have hSC := stopC
  k_steps
  refine Stop.go (ListComp_S (by k_asm) (by with_unfolding_all rfl) (by decide) (by rfl) (by decide) (by rfl) ?_ (by intro _; rfl))
  k_steps
  refine Stop.go ⟨_, _, _, rfl, by rfl, by k_asm, by k_asm, by decide, ?_⟩
  rintro s₂ ⟨_, rfl⟩
  refine LCg.CompRest.zero ?_
  intro D h tk F N off
  k_steps
  k_dflt (refine' Stop.go (Ctr.useP (sf_c _ _ _ _ _) ?B ?F ?X ?N ?T ?hk ?hR ?hd ?hu ?_); (case B => k_asm); (case F => k_asm); (case X => k_asm); (case N => k_asm); (case T => k_asm); (case hk => first | exact rfl | assumption); (case hd => ktr_room); (case hu => ktr_units); (case hR => exact fun _ h => (nomatch h))); rintro v9 h9 tk9 ⟨t9, rfl⟩ F9 N9; (try dsimp only)
  k_steps
  k_dflt (refine' Stop.go (CtrK.use (syn_c _ _ _ _ _ _ _ _) ?B ?F ?X ?N ?T ?hk ?hd ?hu ?_); (case B => k_asm); (case F => k_asm); (case X => k_asm); (case N => k_asm); (case T => k_asm); (case hk => first | exact rfl | assumption); (case hd => ktr_room); (case hu => ktr_units)); rintro v9 A9' h9 tk9 ⟨x9, dx9, t1, t3, t4, rfl, rfl⟩ lt9 F9 N9; (try dsimp only [List.nil_append, List.cons_append] at N9); (try dsimp only)
  k_steps
  (refine Stop.go (CEnd.put (by k_asm) (by k_asm) (fun _ hq => List.mem_of_mem_take (i := 2) hq) ?_); exact ⟨_, _, _, _, _, _, _, _, rfl, rfl⟩)
end
section
open PySem PySem.W PyProof.Rows PySem.Calls
set_option maxHeartbeats 8000000
section
variable (w : World) (mean : ExcName → Option Value) (mg mb : Str → Option Value) (t td r : Addr) (t1 t2 : Tok) (oR : Obj) (sy : List (Addr × Obj)) (kvs : List (Int × Value)) (c : Int) (tc : Tok) (k : Str)
theorem own_c (hD : oR.IsDictOf (intKind PySem.Challenge.pw_pq0347_02 w) kvs) (lo : (r == sysModules) = false) (hk : KindIs w.params sy kvs c k) :
    CtrL w mean mg mb 2 20 207 [.ref t, .int c tc] [] (tabR w.params t td r t1 t2 oR sy) (fun v A => A = [] ∧ v = (valueAt kvs c).getD .none) := by
  k_dflt (refine' ctr_enter [(Str.ofString "self", .ref t), (Str.ofString "code", .int c tc)] [(Str.ofString "code", .int c tc), (Str.ofString "self", .ref t)] ?k1 ?k2 ?k3 ?kr ?k4 ?_ ?c2 ?c3 ?c4 ?c5; (case k1 => k_is); (case k2 => k_is); (case k3 => exact rfl); (case kr => exact rfl); (case k4 => exact locs rfl); (case c2 => exact rfl); (case c3 => exact rfl); (case c4 => exact rfl); (case c5 => decide))
  intro dp un gd cn cs a ccd cl outer base g L' L₀ s₁ F N B X T hR hd hu A9 e9
  (try dsimp only); (try k_fold)
  have HI : InstAt g t (instObj 231 td) 231 (some (tabD w.params t1 t2 r)) := inst_of (hR _ (.head _)) (hR _ (.tail _ (.head _)))
  have HD : g.DictOf (intKind PySem.Challenge.pw_pq0347_02 w) r kvs := dict_of (hR _ (.tail _ (.tail _ (.head _)))) hD
  k_steps
  refine Stop.go (dmeth (knd := intKind _ _) (HD.keep F.keep) ?_)
  k_steps
  refine Stop.go (dget2 (knd := intKind _ _) (HD.keep F.keep) lo (intKind_is _ _ _ _) ?_)
  rcases hk with ⟨h1, -⟩ | ⟨v, h1, x, dx, mv, u1, u2, u3, u4, u5, rfl, hx, hdx, hka⟩
  · rw [h1]
    simp only [Option.getD]
    k_steps
    exact Stop.go (CEnd.put0 (by k_asm) (by rw [h1]; rfl))
  · rw [h1]
    simp only [Option.getD]
    have HX : InstAt g x (instObj 150 dx) 150 (some (synD w.params k mv u1 u2 u3 u4 u5)) := inst_of (hR _ (.tail _ (.tail _ (.tail _ hx)))) (hR _ (.tail _ (.tail _ (.tail _ hdx))))
    k_steps
    exact Stop.go (CEnd.put0 (by k_asm) (by rw [h1]; rfl))

theorem at_c (hD : oR.IsDictOf (intKind PySem.Challenge.pw_pq0347_02 w) kvs) (lo : (r == sysModules) = false) (hk : KindIs w.params sy kvs c k) :
    CtrL w mean mg mb 6 40 214 [.ref t, .int c tc] [] (tabR w.params t td r t1 t2 oR sy) (fun v A => ∃ x dx mv u1 u2 u3 u4 u5, v = .ref x ∧ ((A = [] ∧ (x, instObj 150 dx) ∈ sy ∧ (dx, synD w.params k mv u1 u2 u3 u4 u5) ∈ sy) ∨ A = [(x, instObj 150 dx), (dx, synD w.params k mv u1 u2 u3 u4 u5)])) := by
  k_dflt (refine' ctr_enter [(Str.ofString "self", .ref t), (Str.ofString "code", .int c tc)] [(Str.ofString "code", .int c tc), (Str.ofString "self", .ref t)] ?k1 ?k2 ?k3 ?kr ?k4 ?_ ?c2 ?c3 ?c4 ?c5; (case k1 => k_is); (case k2 => k_is); (case k3 => exact rfl); (case kr => exact rfl); (case k4 => exact locs rfl); (case c2 => exact rfl); (case c3 => exact rfl); (case c4 => exact rfl); (case c5 => decide))
  intro dp un gd cn cs a ccd cl outer base g L' L₀ s₁ F N B X T hR hd hu A9 e9
  (try dsimp only); (try k_fold)
  have HI : InstAt g t (instObj 231 td) 231 (some (tabD w.params t1 t2 r)) := inst_of (hR _ (.head _)) (hR _ (.tail _ (.head _)))
  have hSC := stopC
  k_steps
  refine Stop.go (whl_start 2 (whl_turn (fun _ _ h => h.elim) ?_))
  k_steps
  k_dflt (refine' Stop.go (Ctr.useP (own_c w _ _ _ t td r t1 t2 oR sy kvs c _ k hD lo hk) ?B ?F ?X ?N ?T ?hk ?hR ?hd ?hu ?_); (case B => k_asm); (case F => k_asm); (case X => k_asm); (case N => k_asm); (case T => k_asm); (case hk => first | exact rfl | assumption); (case hd => ktr_room); (case hu => ktr_units); (case hR => exact fun q hq => Fr.keep (by k_asm) _ _ (hR q hq))); rintro v9 h9 tk9 rfl F9 N9; (try dsimp only)
  rcases hk with ⟨h1, rfl⟩ | ⟨v, h1, x, dx, mv, u1, u2, u3, u4, u5, rfl, hx, hdx, hka⟩
  · rw [h1]
    simp only [Option.getD]
    k_steps
    refine Stop.go (whl_turn (fun _ _ h => h.elim) ?_)
    k_steps
    refine Stop.go (cut_use (fun t => .str (kindDef c) t) (by k_asm) (by k_asm) ?_ ?_)
    · refine IfExp_ ?_
      k_steps
      · exact Stop.go (cut_put (by k_asm) (by k_asm) ⟨_, congrArg (fun x => Value.str x _) (if_pos (by omega)).symm⟩)
      · exact Stop.go (cut_put (by k_asm) (by k_asm) ⟨_, congrArg (fun x => Value.str x _) (if_neg (by omega)).symm⟩)
    intro t9 h9 tk9 F N
    k_steps
    k_dflt (refine' Stop.go (CtrK.use (syn_c _ _ _ _ _ _ _ _) ?B ?F ?X ?N ?T ?hk ?hd ?hu ?_); (case B => k_asm); (case F => k_asm); (case X => k_asm); (case N => k_asm); (case T => k_asm); (case hk => first | exact rfl | assumption); (case hd => ktr_room); (case hu => ktr_units)); rintro v9 A9' h9 tk9 ⟨x9, dx9, v1, v3, v4, rfl, rfl⟩ lt9 F9 N9; (try dsimp only [List.nil_append, List.cons_append] at N9); (try dsimp only)
    k_steps
    (refine Stop.go (CEnd.put (by k_asm) (by k_asm) (fun _ hq => List.mem_of_mem_take (i := 2) hq) ?_); exact ⟨_, _, _, _, _, _, _, _, rfl, .inr rfl⟩)
  · rw [h1]
    simp only [Option.getD]
    k_steps
    (refine Stop.go (CEnd.put (by k_asm) (by k_asm) (fun _ hq => List.mem_of_mem_take (i := 0) hq) ?_); exact ⟨_, _, _, _, _, _, _, _, rfl, .inl ⟨rfl, hx, hdx⟩⟩)

theorem kind_c (hD : oR.IsDictOf (intKind PySem.Challenge.pw_pq0347_02 w) kvs) (lo : (r == sysModules) = false) (hk : KindIs w.params sy kvs c k) :
    CtrL w mean mg mb 8 50 221 [.ref t, .int c tc] [] (tabR w.params t td r t1 t2 oR sy) (fun v A => A = [] ∧ ∃ u, v = .str k u) := by
  k_dflt (refine' ctr_enter [(Str.ofString "self", .ref t), (Str.ofString "code", .int c tc)] [(Str.ofString "code", .int c tc), (Str.ofString "self", .ref t)] ?k1 ?k2 ?k3 ?kr ?k4 ?_ ?c2 ?c3 ?c4 ?c5; (case k1 => k_is); (case k2 => k_is); (case k3 => exact rfl); (case kr => exact rfl); (case k4 => exact locs rfl); (case c2 => exact rfl); (case c3 => exact rfl); (case c4 => exact rfl); (case c5 => decide))
  intro dp un gd cn cs a ccd cl outer base g L' L₀ s₁ F N B X T hR hd hu A9 e9
  (try dsimp only); (try k_fold)
  have HI : InstAt g t (instObj 231 td) 231 (some (tabD w.params t1 t2 r)) := inst_of (hR _ (.head _)) (hR _ (.tail _ (.head _)))
  have hSC := stopC
  k_steps
  k_dflt (refine' Stop.go (Ctr.use0 (at_c w _ _ _ t td r t1 t2 oR sy kvs c _ k hD lo hk) ?B ?F ?X ?N ?T ?hk ?hR ?hd ?hu ?_); (case B => k_asm); (case F => k_asm); (case X => k_asm); (case N => k_asm); (case T => k_asm); (case hk => first | exact rfl | assumption); (case hd => ktr_room); (case hu => ktr_units); (case hR => exact fun q hq => Fr.keep (by k_asm) _ _ (hR q hq))); rintro v9 A9 h9 tk9 ⟨x, dx, mv, u1, u2, u3, u4, u5, rfl, ⟨rfl, hx, hdx⟩ | rfl⟩ F9 N9 D9; (try dsimp only [List.nil_append, List.cons_append] at N9); (try dsimp only)
  · have HX : InstAt g x (instObj 150 dx) 150 (some (synD w.params k mv u1 u2 u3 u4 u5)) := inst_of (hR _ (.tail _ (.tail _ (.tail _ hx)))) (hR _ (.tail _ (.tail _ (.tail _ hdx))))
    k_steps
    exact Stop.go (CEnd.put0 (by k_asm) ⟨_, rfl⟩)
  · k_steps
    exact Stop.go (CEnd.put0 (by k_asm) ⟨_, rfl⟩)
end
end
section
open PySem PySem.W PyProof.Rows PySem.Calls
set_option maxHeartbeats 8000000
def capS (f : Int → Int) (isw : Int → Bool) (ns : List Int) : List Int × Bool := ns.foldl (fun p c => (p.1 ++ [if p.2 then f c else up c], isw c)) ([], false)
theorem capS_snoc (f : Int → Int) (isw : Int → Bool) (ns : List Int) (c : Int) : capS f isw (ns ++ [c]) = ((capS f isw ns).1 ++ [if (capS f isw ns).2 then f c else up c], isw c) := by
  unfold capS; rw [List.foldl_append]; rfl
theorem capS_len (f : Int → Int) (isw : Int → Bool) (ns : List Int) : (capS f isw ns).1.length = ns.length := by
  rw [← List.reverse_reverse ns]
  induction ns.reverse with
  | nil => rfl
  | cons c r ih => rw [List.reverse_cons, capS_snoc, List.length_append, ih, List.length_append]; rfl
theorem app_mem {f : Addr} {us : List Value} {v : Value} {k : Nat} {rest : List (Addr × Obj)} : ∀ p ∈ [(f, listOf (us ++ [v]).toArray k)], p ∈ (f, listOf (us.toArray.push v) k) :: rest := fun p hp => by
  rw [List.mem_singleton.mp hp, ← List.push_toArray]; exact .head _
def isW (kf : Int → Str) (c : Int) : Bool := kf c == Str.ofString "w"
section
variable (w : World) (mean : ExcName → Option Value) (mg mb : Str → Option Value) (t td r : Addr) (t1 t2 : Tok) (oR : Obj) (sy : List (Addr × Obj)) (kvs : List (Int × Value)) (kf : Int → Str) (l : Addr) (vs : List Value) (n : Nat) (ns : List Int)
theorem cap_c (hD : oR.IsDictOf (intKind PySem.Challenge.pw_pq0347_02 w) kvs) (lo : (r == sysModules) = false) (hk : ∀ c, KindIs w.params sy kvs c (kf c)) (hi : IntsAre vs ns) (hlen : ns.length ≤ 100) :
    CtrL w mean mg mb 10 60 85 [.ref l, .ref t] [] ((l, listOf vs.toArray n) :: tabR w.params t td r t1 t2 oR sy) (fun v A => ∃ f us k, v = .ref f ∧ A = [(f, listOf us.toArray k)] ∧ IntsAre us (capS (dn) (isW kf) ns).1) := by
  k_dflt (refine' ctr_enter [(Str.ofString "codes", .ref l), (Str.ofString "table", .ref t)] [(Str.ofString "table", .ref t), (Str.ofString "codes", .ref l)] ?k1 ?k2 ?k3 ?kr ?k4 ?_ ?c2 ?c3 ?c4 ?c5; (case k1 => k_is); (case k2 => k_is); (case k3 => exact rfl); (case kr => exact rfl); (case k4 => exact locs rfl); (case c2 => exact rfl); (case c3 => exact rfl); (case c4 => exact rfl); (case c5 => decide))
  intro dp un gd cn cs a ccd cl outer base g L' L₀ s₁ F N B X T hR hd hu A9 e9
  (try dsimp only); (try k_fold)
  have hl : g.IsList l vs.toArray := ⟨_, hR _ (.head _), rfl, n, rfl⟩
  have HI : InstAt g t (instObj 231 td) 231 (some (tabD w.params t1 t2 r)) := inst_of (hR _ (.tail _ (.head _))) (hR _ (.tail _ (.tail _ (.head _))))
  have hSC := stopC
  k_steps
  rename_i f9 _ _ _ _ _ _ _ _ _ N9
  refine Stop.go (For_invVF (by k_asm) (by rfl) (by rfl) ?_ (by intro _; rfl) (fun _ _ h => h.elim))
  k_steps
  refine Stop.go (kst_list (σ := List Value × Nat × Bool) (fun c => [(f9, listOf c.1.toArray c.2.1)]) (fun c => [(Str.ofString "is_inside", .bool c.2.2)]) (fun _ => True) [] (fun pre c => IntsAre c.1 (capS (dn) (isW kf) pre).1 ∧ c.2.2 = (capS (dn) (isW kf) pre).2) ([], _, false) (by rfl) hl hi (by k_asm) (fun q hq => N9 q (List.mem_cons_of_mem _ hq)) trivial (by intro p hp; rw [List.mem_singleton.mp hp]; rfl) ⟨.nil, rfl⟩ ?_ ?_)
  · rintro ⟨us, kk, b⟩ pre post c tc u h tk own e hc hoff - ⟨hu, hb⟩ F N
    simp only [List.singleton_append] at N
    have hul : us.length ≤ 100 := by rw [hu.length, capS_len]; have := congrArg List.length e; simp only [List.length_append, List.length_cons] at this; omega
    (try k_fold)
    k_steps
    refine Stop.go (cut_use (fun t => .int (if b then (dn c) else up c) t) (by k_asm) (by k_asm) ?_ ?_)
    · refine IfExp_ ?_
      k_steps
      · k_dflt (refine' Stop.go (Ctr.useP (dn_c _ _ _ _ _ _) ?B ?F ?X ?N ?T ?hk ?hR ?hd ?hu ?_); (case B => k_asm); (case F => k_asm); (case X => k_asm); (case N => k_asm); (case T => k_asm); (case hk => first | exact rfl | assumption); (case hd => ktr_room); (case hu => ktr_units); (case hR => exact fun _ h => (nomatch h))); rintro v9 h9 tk9 ⟨t9, rfl⟩ F9 N9; (try dsimp only)
        k_steps
        exact Stop.go (cut_put (by k_asm) (by k_asm) ⟨_, congrArg (fun x => Value.int x _) (if_pos (by assumption)).symm⟩)
      · k_dflt (refine' Stop.go (Ctr.useP (up_c _ _ _ _ _ _) ?B ?F ?X ?N ?T ?hk ?hR ?hd ?hu ?_); (case B => k_asm); (case F => k_asm); (case X => k_asm); (case N => k_asm); (case T => k_asm); (case hk => first | exact rfl | assumption); (case hd => ktr_room); (case hu => ktr_units); (case hR => exact fun _ h => (nomatch h))); rintro v9 h9 tk9 ⟨t9, rfl⟩ F9 N9; (try dsimp only)
        k_steps
        exact Stop.go (cut_put (by k_asm) (by k_asm) ⟨_, congrArg (fun x => Value.int x _) (if_neg (by simp only [Bool.not_eq_true]; assumption)).symm⟩)
    intro t9 h9 tk9 F N
    k_steps
    k_dflt (refine' Stop.go (Ctr.useP (kind_c w _ _ _ t td r t1 t2 oR sy kvs c _ (kf c) hD lo (hk c)) ?B ?F ?X ?N ?T ?hk ?hR ?hd ?hu ?_); (case B => k_asm); (case F => k_asm); (case X => k_asm); (case N => k_asm); (case T => k_asm); (case hk => first | exact rfl | assumption); (case hd => ktr_room); (case hu => ktr_units); (case hR => exact fun q hq => Fr.keep (by k_asm) _ _ (hR q (.tail _ hq)))); rintro v9 h9 tk9 ⟨u9, rfl⟩ F9 N9; (try dsimp only)
    k_steps
    refine Stop.go (InvEndN.intro (by k_asm) (by k_asm) ⟨(us ++ [Value.int (if b then (dn c) else up c) t9], kk + 1, isW kf c), rfl, trivial, ?_, ?_, ?_, ?_⟩ rfl app_mem (fun p hp => .tail _ hp))
    · intro p hp; rw [List.mem_singleton.mp hp]; rfl
    · intro z h1 h2 _; exact (if_neg (h2 _ (.head _))).trans ((if_neg h1).trans (if_neg (h2 _ (.head _))))
    · rw [capS_snoc, ← hb]; exact IntsAre.append hu (.cons _ _ .nil)
    · rw [capS_snoc]
  · rintro ⟨us, kk, b⟩ u h tk - ⟨hu, hb⟩ F N
    k_steps
    (refine Stop.go (CEnd.put (by k_asm) (by k_asm) (fun _ hq => List.mem_of_mem_take (i := 1) hq) ?_); exact ⟨_, _, _, rfl, rfl, hu⟩)

theorem ini_c (hD : oR.IsDictOf (intKind PySem.Challenge.pw_pq0347_02 w) kvs) (lo : (r == sysModules) = false) (hk : ∀ c, KindIs w.params sy kvs c (kf c)) (hi : IntsAre vs ns) (hlen : ns.length ≤ 100) :
    CtrL w mean mg mb 10 60 78 [.ref l, .ref t] [] ((l, listOf vs.toArray n) :: tabR w.params t td r t1 t2 oR sy) (fun v A => ∃ f us k, v = .ref f ∧ A = [(f, listOf us.toArray k)] ∧ IntsAre us (capS (fun c => c) (isW kf) ns).1) := by
  k_dflt (refine' ctr_enter [(Str.ofString "codes", .ref l), (Str.ofString "table", .ref t)] [(Str.ofString "table", .ref t), (Str.ofString "codes", .ref l)] ?k1 ?k2 ?k3 ?kr ?k4 ?_ ?c2 ?c3 ?c4 ?c5; (case k1 => k_is); (case k2 => k_is); (case k3 => exact rfl); (case kr => exact rfl); (case k4 => exact locs rfl); (case c2 => exact rfl); (case c3 => exact rfl); (case c4 => exact rfl); (case c5 => decide))
  intro dp un gd cn cs a ccd cl outer base g L' L₀ s₁ F N B X T hR hd hu A9 e9
  (try dsimp only); (try k_fold)
  have hl : g.IsList l vs.toArray := ⟨_, hR _ (.head _), rfl, n, rfl⟩
  have HI : InstAt g t (instObj 231 td) 231 (some (tabD w.params t1 t2 r)) := inst_of (hR _ (.tail _ (.head _))) (hR _ (.tail _ (.tail _ (.head _))))
  have hSC := stopC
  k_steps
  rename_i f9 _ _ _ _ _ _ _ _ _ N9
  refine Stop.go (For_invVF (by k_asm) (by rfl) (by rfl) ?_ (by intro _; rfl) (fun _ _ h => h.elim))
  k_steps
  refine Stop.go (kst_list (σ := List Value × Nat × Bool) (fun c => [(f9, listOf c.1.toArray c.2.1)]) (fun c => [(Str.ofString "is_inside", .bool c.2.2)]) (fun _ => True) [] (fun pre c => IntsAre c.1 (capS (fun c => c) (isW kf) pre).1 ∧ c.2.2 = (capS (fun c => c) (isW kf) pre).2) ([], _, false) (by rfl) hl hi (by k_asm) (fun q hq => N9 q (List.mem_cons_of_mem _ hq)) trivial (by intro p hp; rw [List.mem_singleton.mp hp]; rfl) ⟨.nil, rfl⟩ ?_ ?_)
  · rintro ⟨us, kk, b⟩ pre post c tc u h tk own e hc hoff - ⟨hu, hb⟩ F N
    simp only [List.singleton_append] at N
    have hul : us.length ≤ 100 := by rw [hu.length, capS_len]; have := congrArg List.length e; simp only [List.length_append, List.length_cons] at this; omega
    (try k_fold)
    k_steps
    refine Stop.go (cut_use (fun t => .int (if b then c else up c) t) (by k_asm) (by k_asm) ?_ ?_)
    · refine IfExp_ ?_
      k_steps
      · skip
        exact Stop.go (cut_put (by k_asm) (by k_asm) ⟨_, congrArg (fun x => Value.int x _) (if_pos (by assumption)).symm⟩)
      · k_dflt (refine' Stop.go (Ctr.useP (up_c _ _ _ _ _ _) ?B ?F ?X ?N ?T ?hk ?hR ?hd ?hu ?_); (case B => k_asm); (case F => k_asm); (case X => k_asm); (case N => k_asm); (case T => k_asm); (case hk => first | exact rfl | assumption); (case hd => ktr_room); (case hu => ktr_units); (case hR => exact fun _ h => (nomatch h))); rintro v9 h9 tk9 ⟨t9, rfl⟩ F9 N9; (try dsimp only)
        k_steps
        exact Stop.go (cut_put (by k_asm) (by k_asm) ⟨_, congrArg (fun x => Value.int x _) (if_neg (by simp only [Bool.not_eq_true]; assumption)).symm⟩)
    intro t9 h9 tk9 F N
    k_steps
    k_dflt (refine' Stop.go (Ctr.useP (kind_c w _ _ _ t td r t1 t2 oR sy kvs c _ (kf c) hD lo (hk c)) ?B ?F ?X ?N ?T ?hk ?hR ?hd ?hu ?_); (case B => k_asm); (case F => k_asm); (case X => k_asm); (case N => k_asm); (case T => k_asm); (case hk => first | exact rfl | assumption); (case hd => ktr_room); (case hu => ktr_units); (case hR => exact fun q hq => Fr.keep (by k_asm) _ _ (hR q (.tail _ hq)))); rintro v9 h9 tk9 ⟨u9, rfl⟩ F9 N9; (try dsimp only)
    k_steps
    refine Stop.go (InvEndN.intro (by k_asm) (by k_asm) ⟨(us ++ [Value.int (if b then c else up c) t9], kk + 1, isW kf c), rfl, trivial, ?_, ?_, ?_, ?_⟩ rfl app_mem (fun p hp => .tail _ hp))
    · intro p hp; rw [List.mem_singleton.mp hp]; rfl
    · intro z h1 h2 _; exact (if_neg (h2 _ (.head _))).trans ((if_neg h1).trans (if_neg (h2 _ (.head _))))
    · rw [capS_snoc, ← hb]; exact IntsAre.append hu (.cons _ _ .nil)
    · rw [capS_snoc]
  · rintro ⟨us, kk, b⟩ u h tk - ⟨hu, hb⟩ F N
    k_steps
    (refine Stop.go (CEnd.put (by k_asm) (by k_asm) (fun _ hq => List.mem_of_mem_take (i := 1) hq) ?_); exact ⟨_, _, _, rfl, rfl, hu⟩)
end
end
section
open PySem PySem.W PyProof.Rows PySem.Calls
set_option maxHeartbeats 8000000
section
variable (w : World) (mean : ExcName → Option Value) (mg mb : Str → Option Value) (t td r : Addr) (t1 t2 : Tok) (oR : Obj) (sy : List (Addr × Obj)) (kvs : List (Int × Value))
theorem tab_c : CtrKL w mean mg mb 3 16 231 [] (fun v A => ∃ t td r oR t1 t2, v = .ref t ∧ A = tabR w.params t td r t1 t2 oR [] ∧ oR.IsDictOf (intKind PySem.Challenge.pw_pq0347_02 w) [] ∧ (r == sysModules) = false ∧ @LT.lt Nat _ td t ∧ @LT.lt Nat _ t r) := by
  intro dp un gd cn cs a ccd cl outer A₀ base h₀ L m s Q E news B F X N T hk hd hu ret
  k_dflt (refine' call_cls ?k1 ?k2 ?k3 ?k4 ?k5 ?k6 ?_; (case k1 => k_asm); (case k2 => k_asm); (case k3 => k_asm); (case k4 => k_is); (case k5 => k_is); (case k6 => k_is))
  intro x dx h' F' N' l1 l2
  (replace l2 := ltN l2)
  k_dflt (refine' code_def ?k1 ?k2 ?k3 ?k4 ?k5 ?kA ?kF ?kK ?k6 ?k7 ?k8 ?k9 ?kB ?_ ?c2 ?c3 ?c4 ?c5; (case kA => exact rfl); (case kF => exact rfl); (case kK => assumption); (case k1 => k_asm); (case k2 => k_asm); (case k3 => k_asm); (case k4 => k_asm); (case k5 => k_asm); (case k6 => k_is); (case k7 => k_is); (case k8 => ktr_room); (case k9 => first | exact BindsTo.of_eq rfl | exact binds_K (by k_in) rfl (by k_is) rfl rfl rfl); (case c5 => decide); (case kB => exact locs rfl); (case c2 => exact rfl); (case c3 => exact rfl); (case c4 => exact rfl); k_whole; intro g' L' h' FG' F' N' B' X' T'; (try dsimp only); (try k_lift B'); (try k_fold))
  k_steps
  (rename (_ == sysModules) = false => lo9); (rename Obj.IsDictOf (PySem.intKind _ _) _ _ => hi9); (rename _ ∧ _ => l9)
  refine ret _ _ _ _ ⟨x, dx, _, _, _, _, rfl, rfl, hi9, lo9, l2, l9.1⟩ ?_ (by k_asm) (news_perm3 (news_perm3 (by k_asm)))
  intro q hq r hr
  rcases List.mem_cons.mp hq with rfl | hq
  · exact Nat.lt_trans (l1 r hr) l2
  · rcases List.mem_cons.mp hq with rfl | hq
    · exact l1 r hr
    · rw [List.mem_singleton.mp hq]; exact Nat.lt_trans (l1 r hr) l9.2.1

theorem ma_c (tx d k : Str) (u1 u2 : Tok) (hD : oR.IsDictOf (intKind PySem.Challenge.pw_pq0347_02 w) kvs) (lo : (r == sysModules) = false) (hok : TabOk w.params sy kvs) (hz : kvs.length + tx.length ≤ 1000) (hka : (k == Str.ofString "@") = false)
    (hrs : ∀ u, CtrL w mean mg mb 8 60 164 [.str d u] [] [] (fun v A => ∃ x dx mv t1 t2 t3 t4 t5, v = .ref x ∧ A = [(x, instObj 150 dx), (dx, synD w.params k mv t1 t2 t3 t4 t5)])) :
    CtrL w mean mg mb 12 80 193 [.ref t, .str tx u1, .str d u2] [(r, oR)] [(t, instObj 231 td), (td, tabD w.params t1 t2 r)] (fun v A => v = .none ∧ ∃ oR' kvs' sy', A = (r, oR') :: sy' ∧ oR'.IsDictOf (intKind PySem.Challenge.pw_pq0347_02 w) kvs' ∧ TabOk w.params (sy' ++ sy) kvs' ∧ kvs'.length ≤ kvs.length + tx.length ∧ ∀ q ∈ sy', q.1 ≠ r) := by
  k_dflt (refine' ctr_enter [(Str.ofString "self", .ref t), (Str.ofString "text", .str tx u1), (Str.ofString "description", .str d u2)] [(Str.ofString "description", .str d u2), (Str.ofString "text", .str tx u1), (Str.ofString "self", .ref t)] ?k1 ?k2 ?k3 ?kr ?k4 ?_ ?c2 ?c3 ?c4 ?c5; (case k1 => k_is); (case k2 => k_is); (case k3 => exact rfl); (case kr => exact rfl); (case k4 => exact locs rfl); (case c2 => exact rfl); (case c3 => exact rfl); (case c4 => exact rfl); (case c5 => decide))
  intro dp un gd cn cs a ccd cl outer base g L' L₀ s₁ F N B X T hR hd hu A9 e9
  (try dsimp only); (try k_fold)
  have HI : InstAt g t (instObj 231 td) 231 (some (tabD w.params t1 t2 r)) := inst_of (hR _ (.head _)) (hR _ (.tail _ (.head _)))
  have hSC := stopC
  k_steps
  k_dflt (refine' Stop.go (Ctr.use0 (hrs _) ?B ?F ?X ?N ?T ?hk ?hR ?hd ?hu ?_); (case B => k_asm); (case F => k_asm); (case X => k_asm); (case N => k_asm); (case T => k_asm); (case hk => first | exact rfl | assumption); (case hd => ktr_room); (case hu => ktr_units); (case hR => exact fun _ h => (nomatch h))); rintro v9 A9 h9 tk9 ⟨x, dx, mv, v1, v2, v3, v4, v5, rfl, rfl⟩ F9 N9 D9; (try dsimp only [List.nil_append, List.cons_append] at N9); (try dsimp only)
  k_steps
  refine Stop.go (For_invVF (by k_asm) (by rfl) (by rfl) ?_ (by intro _; rfl) (fun _ _ h => h.elim))
  k_steps
  refine Stop.go (KStt.kst_text (σ := Obj × List (Int × Value)) (fun c => [(r, c.1), (x, instObj 150 dx), (dx, synD w.params k mv v1 v2 v3 v4 v5)]) (fun _ => []) (fun c => c.1.IsDictOf (intKind PySem.Challenge.pw_pq0347_02 w) c.2) [] (fun pre c => TabOk w.params ((x, instObj 150 dx) :: (dx, synD w.params k mv v1 v2 v3 v4 v5) :: sy) c.2 ∧ c.2.length ≤ kvs.length + pre.length) (oR, kvs) (by rfl) (by k_asm) (news_perm3 (by k_asm)) hD (fun _ hp => (nomatch hp)) ⟨hok.mono (fun _ hq => .tail _ (.tail _ hq)), by simp⟩ ?_ ?_)
  · rintro ⟨o, kv⟩ pre post n tn u h tk own e hoff hDo ⟨hok', hl'⟩ F N
    dsimp only [List.cons_append, List.nil_append] at N
    (try k_fold)
    k_steps
    refine Stop.go (kda_set (knd := intKind _ _) (by k_asm) (by k_asm) (UpdF.head ?_) hDo (intKind_is _ _ _ _) (by rw [PySem.sizeLine_eq]; have := KStt.codes_length tx; have h3 := congrArg List.length e; simp only [List.length_append, List.length_cons] at h3; dsimp only at hl' ⊢; omega) ?_)
    · intro p hp e
      rcases List.mem_cons.mp hp with rfl | hp
      · exact D9 _ (.head _) _ (.head _) e.symm
      · rcases List.mem_cons.mp hp with rfl | hp
        · exact D9 _ (.tail _ (.head _)) _ (.head _) e.symm
        · exact hoff p hp r (.head _) e
    intro h' o' F' N' hd'
    k_steps
    refine Stop.go (InvEndN.intro (by k_asm) (by k_asm) ⟨(o', stored kv _ _), rfl, hd', fun _ hp => (nomatch hp), fun z h1 _ _ => if_neg h1, TabOk.put hok' ⟨x, dx, mv, v1, v2, v3, v4, v5, rfl, .head _, .tail _ (.head _), hka⟩, ?_⟩ rfl (fun _ hp => ?_) (fun p hp => .tail _ (.tail _ (.tail _ hp))))
    · rw [List.length_append, List.length_singleton]; exact Nat.le_trans (stored_len _ _ _) (by dsimp only at hl'; omega)
    · exact List.mem_of_mem_take (i := 3) hp
  · rintro ⟨o, kv⟩ u h tk hDo ⟨hok', hl'⟩ F N
    rw [KStt.codes_length] at hl'
    k_steps
    have hne : ∀ q ∈ [(x, instObj 150 dx), (dx, synD w.params k mv v1 v2 v3 v4 v5)], q.1 ≠ r := fun q hq e => by
      rcases List.mem_cons.mp hq with rfl | hq
      · exact D9 _ (.head _) _ (.head _) e.symm
      · rw [List.mem_singleton.mp hq] at e
        exact D9 _ (.tail _ (.head _)) _ (.head _) e.symm
    (refine Stop.go (CEnd.put (by k_asm) (by k_asm) (fun _ hq => hq) ?_); exact ⟨rfl, o, kv, [_, _], rfl, hDo, hok', hl', hne⟩)
end
end
section
open PySem PySem.W PyProof.Rows PySem.Calls
set_option maxHeartbeats 8000000
section
variable (w : World) (mean : ExcName → Option Value) (mg mb : Str → Option Value)
theorem let_c : CtrL w mean mg mb 2 20 242 [] [] [] (fun v A => A = [] ∧ ∃ t, v = .str (Str.ofString "abcdefghijklmnopqrstuvwxyzABCDEFGHIJKLMNOPQRSTUVWXYZ0123456789") t) := by
  k_dflt (refine' ctr_enter [] [] ?k1 ?k2 ?k3 ?kr ?k4 ?_ ?c2 ?c3 ?c4 ?c5; (case k1 => k_is); (case k2 => k_is); (case k3 => exact rfl); (case kr => exact rfl); (case k4 => exact locs rfl); (case c2 => exact rfl); (case c3 => exact rfl); (case c4 => exact rfl); (case c5 => decide))
  intro dp un gd cn cs a ccd cl outer base g L' L₀ s₁ F N B X T hR hd hu A9 e9
  (try dsimp only); (try k_fold)
  have hSC := stopC
  k_steps
  exact Stop.go (CEnd.put0 (by k_asm) ⟨_, rfl⟩)

/-- what is known of the table between two calls of modify_all -/
def TabSt (r : Addr) (oR : Obj) (sy : List (Addr × Obj)) (kvs : List (Int × Value)) (n : Nat) : Prop :=
  oR.IsDictOf (intKind PySem.Challenge.pw_pq0347_02 w) kvs ∧ TabOk w.params sy kvs ∧ kvs.length ≤ n ∧ ∀ q ∈ sy, q.1 ≠ r
theorem mem_tab {T0 T1 T2 T3 a b c : Addr × Obj} {sy own : List (Addr × Obj)} : ∀ q ∈ a :: b :: c :: (sy ++ (T0 :: T1 :: T2 :: T3 :: own)), q ∈ T0 :: T1 :: T2 :: T3 :: a :: b :: c :: (sy ++ own) := by
  intro q hq
  simp only [List.mem_cons, List.mem_append] at hq ⊢
  grind
theorem TabSt.le {r : Addr} {oR : Obj} {sy : List (Addr × Obj)} {kvs : List (Int × Value)} {n n' : Nat} (h : TabSt w r oR sy kvs n) (hn : n ≤ n') : TabSt w r oR sy kvs n' := ⟨h.1, h.2.1, Nat.le_trans h.2.2.1 hn, h.2.2.2⟩
theorem ma_use {dp un : Nat} {gd : Option (List Code)} {cn : Str} {cs : Scope} {a : Addr} {ccd : Value} {cl : List (Str × Addr)} {outer : List Env} {A₀ : Around} {base h₀ : Heap} {L : Addr} {m : Str → Option Value} {s : Shared} {Q E : Value → Shared → Prop}
    {t td r : Addr} {t1 t2 : Tok} {oR : Obj} {sy rest news : List (Addr × Obj)} {kvs : List (Int × Value)} {n : Nat} (tx d k : Str) (u1 u2 : Tok) (lo : (r == sysModules) = false) (n1 : t ≠ r) (n2 : td ≠ r) (S : TabSt w r oR sy kvs n) (hrest : ∀ q ∈ rest, q.1 ≠ r) (hz : n + tx.length ≤ 1000) (hka : (k == Str.ofString "@") = false)
    (hrs : ∀ u, CtrL w mean mg mb 8 60 164 [.str d u] [] [] (fun v A => ∃ x dx mv t1 t2 t3 t4 t5, v = .ref x ∧ A = [(x, instObj 150 dx), (dx, synD w.params k mv t1 t2 t3 t4 t5)]))
    (B : Below A₀ base outer h₀) (F : Fr h₀ L s.heap m) (X : (hd.heap_39 w.params).In h₀) (N : News h₀ L s.heap news) (T : Top vw (looseW vw []) mean mg mb h₀) (hke : cs.kind = .function)
    (hN : ∀ q ∈ (t, instObj 231 td) :: (td, tabD w.params t1 t2 r) :: (r, oR) :: (sy ++ rest), q ∈ news) (hd : dp + 12 < recursionLimit) (hu : un + 80 < cLine)
    (ret : ∀ oR' new kvs' h' tk', (∀ q ∈ new, ∀ p ∈ rest, p.1 ≠ q.1) → TabSt w r oR' (new ++ sy) kvs' (n + tx.length) → Fr h₀ L h' m → News h₀ L h' ((t, instObj 231 td) :: (td, tabD w.params t1 t2 r) :: (r, oR') :: ((new ++ sy) ++ rest)) → Q .none { s with heap := h', toks := tk' }) :
    wpAny (model PySem.Challenge.pw_pq0347_02 w) (ktrTop dp un gd cn cs L a ccd cl outer) (call (.ref 193) [.ref t, .str tx u1, .str d u2]) Q E s := by
  obtain ⟨hD, hok, hl, n3⟩ := S
  have N0 : News h₀ L s.heap ((t, instObj 231 td) :: (td, tabD w.params t1 t2 r) :: (r, oR) :: (sy ++ rest)) := fun q hq => N q (hN q hq)
  have hr : s.heap.get? r = some oR := (N0 _ (.tail _ (.tail _ (.head _)))).1
  refine Ctr.use (ma_c w mean mg mb t td r t1 t2 oR sy kvs tx d k u1 u2 hD lo hok (by omega) hka hrs) B F X (fun q hq => N0 q (by rw [List.mem_singleton.mp hq]; exact .tail _ (.tail _ (.head _)))) T hke ?_ ?_ hd hu ?_
  · intro q hq
    rcases List.mem_cons.mp hq with rfl | hq
    · exact (N0 _ (.head _)).1
    · rw [List.mem_singleton.mp hq]; exact (N0 _ (.tail _ (.head _))).1
  · intro q hq p hp e
    rw [List.mem_singleton.mp hp] at e
    rcases List.mem_cons.mp hq with rfl | hq
    · exact n1 e.symm
    · rw [List.mem_singleton.mp hq] at e; exact n2 e.symm
  · rintro v A' h' tk' ⟨rfl, oR', kvs', sy', rfl, hD', hok', hl', hne'⟩ G F' N' fr
    have kept : ∀ q ∈ ((t, instObj 231 td) :: (td, tabD w.params t1 t2 r) :: (r, oR) :: (sy ++ rest)), q.1 ≠ r → h'.get? q.1 = some q.2 ∧ q.1 ≠ L ∧ h₀.get? q.1 = none := fun q hq hn =>
      ⟨G _ _ (N0 q hq).1 (fun hm => hn (by simpa using hm)), (N0 q hq).2⟩
    refine ret oR' sy' kvs' h' tk' (fun q hq p hp e => ?_) ⟨hD', hok', Nat.le_trans hl' (by omega), fun q hq => (List.mem_append.mp hq).elim (hne' q) (n3 q)⟩ F' (fun q hq => ?_)
    · have h1 := fr q (.tail _ hq) (fun hm => hne' q hq (by simpa using hm))
      rw [← e, (N0 p (.tail _ (.tail _ (.tail _ (List.mem_append.mpr (.inr hp)))))).1] at h1
      cases h1
    rcases List.mem_cons.mp hq with rfl | hq
    · exact kept _ (.head _) n1
    rcases List.mem_cons.mp hq with rfl | hq
    · exact kept _ (.tail _ (.head _)) n2
    rcases List.mem_cons.mp hq with rfl | hq
    · exact N' _ (.head _)
    rcases List.mem_append.mp hq with hq | hq
    · rcases List.mem_append.mp hq with hq | hq
      · exact N' _ (.tail _ hq)
      · exact kept _ (.tail _ (.tail _ (.tail _ (List.mem_append.mpr (.inl hq))))) (n3 q hq)
    · exact kept _ (.tail _ (.tail _ (.tail _ (List.mem_append.mpr (.inr hq))))) (hrest q hq)

/-- the loop over the written pairs of brackets -/
theorem tab_turns {A : Around} {E : Value → Shared → Prop} {s : Shared} {env : Env} {h₀ : Heap} {target : Expr} {body : List Stmt} {Q : Flow → Shared → Prop} {m₀ : Str → Option Value}
    {t td r : Addr} {t1 t2 : Tok} {oR : Obj} {sy : List (Addr × Obj)} {kvs : List (Int × Value)} {n₀ n : Nat} {D0 : Addr} {o0 : Obj} {T1 T2 T3 : Addr × Obj} {vs : List Value} (stored : List Str)
    (hh : A.handled = none) (F : Fr h₀ env.locals s.heap m₀) (N : News h₀ env.locals s.heap ((D0, o0) :: T1 :: T2 :: T3 :: (t, instObj 231 td) :: (td, tabD w.params t1 t2 r) :: (r, oR) :: sy)) (hc : o0.cls = .type "tuple") (hd : o0.data = .seq vs.toArray n) (TS : TabSt w r oR sy kvs n₀)
    (l0 : @LT.lt Nat _ r D0) (l1 : @LT.lt Nat _ r T1.1) (l2 : @LT.lt Nat _ r T2.1) (l3 : @LT.lt Nat _ r T3.1)
    (turn : ∀ (i : Nat) (v : Value) (m₁ : Str → Option Value) (oR : Obj) (sy : List (Addr × Obj)) (kvs : List (Int × Value)) (h : Heap) (tk : Nat) (own : List (Addr × Obj)), vs[i]? = some v → TabSt w r oR sy kvs (n₀ + 4 * i) → (∀ q ∈ (D0, o0) :: T1 :: T2 :: T3 :: own, q.1 ≠ r) → Fr h₀ env.locals h (fun z => if stored.contains z then m₁ z else m₀ z) → News h₀ env.locals h ((D0, o0) :: T1 :: T2 :: T3 :: (t, instObj 231 td) :: (td, tabD w.params t1 t2 r) :: (r, oR) :: (sy ++ own)) →
      (∀ (h' : Heap) (tk' : Nat) (m' : Str → Option Value) (oR' : Obj) (new : List (Addr × Obj)) (kvs' : List (Int × Value)), (∀ q ∈ new, ∀ p ∈ own, p.1 ≠ q.1) → TabSt w r oR' (new ++ sy) kvs' (n₀ + 4 * (i + 1)) → (∀ z, stored.contains z = false → m' z = m₀ z) → Fr h₀ env.locals h' m' → News h₀ env.locals h' ((t, instObj 231 td) :: (td, tabD w.params t1 t2 r) :: (r, oR') :: ((new ++ sy) ++ ((D0, o0) :: T1 :: T2 :: T3 :: own))) →
        InvPostG h₀ env.locals (fun m nx => ∃ oR sy kvs, TabSt w r oR sy kvs (n₀ + 4 * (i + 1)) ∧ nx = ((D0, o0) :: T1 :: T2 :: T3 :: (t, instObj 231 td) :: (td, tabD w.params t1 t2 r) :: (r, oR) :: sy) ∧ ∀ z, stored.contains z = false → m z = m₀ z) own { s with heap := h, toks := tk } Q .next { s with heap := h', toks := tk' }) →
      wpAny (model PySem.Challenge.pw_pq0347_02 w) A (assign target env v) (fun _ s₃ => wpAny (model PySem.Challenge.pw_pq0347_02 w) A (execs body env) (InvPostG h₀ env.locals (fun m nx => ∃ oR sy kvs, TabSt w r oR sy kvs (n₀ + 4 * (i + 1)) ∧ nx = ((D0, o0) :: T1 :: T2 :: T3 :: (t, instObj 231 td) :: (td, tabD w.params t1 t2 r) :: (r, oR) :: sy) ∧ ∀ z, stored.contains z = false → m z = m₀ z) own { s with heap := h, toks := tk } Q) E s₃) E { s with heap := h, toks := tk })
    (done : ∀ (m₁ : Str → Option Value) (oR : Obj) (sy : List (Addr × Obj)) (kvs : List (Int × Value)) (h : Heap) (tk : Nat), TabSt w r oR sy kvs (n₀ + 4 * vs.length) → Fr h₀ env.locals h (fun z => if stored.contains z then m₁ z else m₀ z) → News h₀ env.locals h ((t, instObj 231 td) :: (td, tabD w.params t1 t2 r) :: (r, oR) :: sy) → Q .next { s with heap := h, toks := tk }) :
    wpAny (model PySem.Challenge.pw_pq0347_02 w) A (pyIter (.ref D0)) (fun it s₂ => TurnsAt PySem.Challenge.pw_pq0347_02 w A h₀ env target body Q E it s₂) E s := by
  have fr : ∀ {h : Heap} {m₁ : Str → Option Value}, (∀ z, stored.contains z = false → m₁ z = m₀ z) → Fr h₀ env.locals h m₁ → Fr h₀ env.locals h (fun z => if stored.contains z then m₁ z else m₀ z) := fun {h m₁} e F => by
    have : (fun z => if stored.contains z then m₁ z else m₀ z) = m₁ := by
      funext z
      cases hz : stored.contains z with
      | true => rw [if_pos rfl]
      | false => rw [if_neg Bool.false_ne_true]; exact (e z hz).symm
    rw [this]; exact F
  refine turns_tup (ax := D0) (lo := o0) (vs := vs) (fun i m nx => ∃ oR sy kvs, TabSt w r oR sy kvs (n₀ + 4 * i) ∧ nx = ((D0, o0) :: T1 :: T2 :: T3 :: (t, instObj 231 td) :: (td, tabD w.params t1 t2 r) :: (r, oR) :: sy) ∧ ∀ z, stored.contains z = false → m z = m₀ z) hh F N (.head _) ?_ hc hd ⟨oR, sy, kvs, TS, rfl, fun _ _ => rfl⟩ ?_ ?_
  · rintro i m nx ⟨_, _, _, _, rfl, _⟩
    exact .head _
  · rintro i v m₁ nx h tk own hv hoff ⟨oR, sy, kvs, TS, rfl, hm⟩ F₁ N₁
    have hor : ∀ q ∈ own, q.1 ≠ r := fun q hq e => hoff q hq r (List.mem_map.mpr ⟨(r, oR), .tail _ (.tail _ (.tail _ (.tail _ (.tail _ (.tail _ (.head _)))))), rfl⟩) e
    refine turn i v m₁ oR sy kvs h tk own hv TS ?_ (fr hm F₁) N₁ ?_
    · intro q hq
      rcases List.mem_cons.mp hq with rfl | hq
      · exact Nat.ne_of_gt l0
      rcases List.mem_cons.mp hq with rfl | hq
      · exact Nat.ne_of_gt l1
      rcases List.mem_cons.mp hq with rfl | hq
      · exact Nat.ne_of_gt l2
      rcases List.mem_cons.mp hq with rfl | hq
      · exact Nat.ne_of_gt l3
      · exact hor q hq
    · intro h' tk' m' oR' new kvs' hnew TS' hm' F' N'
      refine InvEndG.intro F' N' ⟨oR', new ++ sy, kvs', TS', rfl, hm'⟩ ?_ ?_ ?_
      · intro p hp b hb e
        obtain ⟨q, hq, rfl⟩ := List.mem_map.mp hb
        have hold : q ∈ new ∨ q ∈ ((D0, o0) :: T1 :: T2 :: T3 :: (t, instObj 231 td) :: (td, tabD w.params t1 t2 r) :: sy) ∨ q.1 = r := by
          simp only [List.mem_cons, List.mem_append] at hq ⊢
          grind
        rcases hold with h1 | h1 | h1
        · exact hnew q h1 p hp e
        · exact hoff p hp q.1 (List.mem_map.mpr ⟨q, by simp only [List.mem_cons] at h1 ⊢; grind, rfl⟩) e
        · exact hor p hp (e.trans h1)
      · intro q hq
        simp only [List.mem_cons, List.mem_append] at hq ⊢
        grind
      · intro q hq
        simp only [List.mem_cons, List.mem_append]
        grind
  · rintro m₁ nx h tk ⟨oR, sy, kvs, TS, rfl, hm⟩ F₁ N₁
    exact done m₁ oR sy kvs h tk TS (fr hm F₁) (fun q hq => N₁ q (.tail _ (.tail _ (.tail _ (.tail _ hq)))))

theorem std_c : CtrL w mean mg mb 16 120 249 [] [] [] (fun v A => ∃ t td r oR t1 t2 sy kvs, v = .ref t ∧ A = tabR w.params t td r t1 t2 oR sy ∧ TabSt w r oR sy kvs 400 ∧ (r == sysModules) = false ∧ t ≠ r ∧ td ≠ r) := by
  k_dflt (refine' ctr_enter [] [] ?k1 ?k2 ?k3 ?kr ?k4 ?_ ?c2 ?c3 ?c4 ?c5; (case k1 => k_is); (case k2 => k_is); (case k3 => exact rfl); (case kr => exact rfl); (case k4 => exact locs rfl); (case c2 => exact rfl); (case c3 => exact rfl); (case c4 => exact rfl); (case c5 => decide))
  intro dp un gd cn cs a ccd cl outer base g L' L₀ s₁ F N B X T hR hd hu A9 e9
  (try dsimp only); (try k_fold)
  have hSD := stopD
  k_steps
  k_dflt (refine' Stop.go (CtrK.use (tab_c w _ _ _) ?B ?F ?X ?N ?T ?hk ?hd ?hu ?_); (case B => k_asm); (case F => k_asm); (case X => k_asm); (case N => k_asm); (case T => k_asm); (case hk => first | exact rfl | assumption); (case hd => ktr_room); (case hu => ktr_units)); rintro v9 A9' h9 tk9 ⟨t, td, r, oR, t1, t2, rfl, rfl, hi, lo, lt1, lt2⟩ lt9 F9 N9; (try dsimp only [List.nil_append, List.cons_append] at N9); (try dsimp only)
  have TS : TabSt w r oR [] [] 0 := ⟨hi, fun _ h => (nomatch h), Nat.le_refl _, fun _ h => (nomatch h)⟩
  have n1 : t ≠ r := Nat.ne_of_lt lt2
  have n2 : td ≠ r := Nat.ne_of_lt (Nat.lt_trans lt1 lt2)
  k_steps
  k_dflt (refine' Stop.go (Ctr.useP (let_c w _ _ _) ?B ?F ?X ?N ?T ?hk ?hR ?hd ?hu ?_); (case B => k_asm); (case F => k_asm); (case X => k_asm); (case N => k_asm); (case T => k_asm); (case hk => first | exact rfl | assumption); (case hd => ktr_room); (case hu => ktr_units); (case hR => exact fun _ h => (nomatch h))); rintro v9 h9 tk9 ⟨t9, rfl⟩ F9 N9; (try dsimp only)
  k_steps
  refine Stop.go (ma_use (rest := []) w mean mg mb _ _ _ _ _ lo n1 n2 TS (fun _ h => (nomatch h)) (by decide) (by decide) (fun u => rs_c w mean mg mb u _ (by decide) (by decide) (by decide) (by decide +kernel) (by decide)) (by k_asm) (by k_asm) (by k_asm) (by k_asm) (by k_asm) (by first | exact rfl | assumption) (fun q hq => by rw [List.append_nil] at hq; exact hq) (by ktr_room) (by ktr_units) ?_); clear TS
  rintro oR new kvs h9 tk9 - TS F9 N9
  rw [List.append_nil] at N9
  generalize new ++ [] = sy at TS N9
  k_steps
  refine Stop.go (ma_use (rest := []) w mean mg mb _ _ _ _ _ lo n1 n2 TS (fun _ h => (nomatch h)) (by decide) (by decide) (fun u => rs_c w mean mg mb u _ (by decide) (by decide) (by decide) (by decide +kernel) (by decide)) (by k_asm) (by k_asm) (by k_asm) (by k_asm) (by k_asm) (by first | exact rfl | assumption) (fun q hq => by rw [List.append_nil] at hq; exact hq) (by ktr_room) (by ktr_units) ?_); clear TS
  rintro oR new kvs h9 tk9 - TS F9 N9
  rw [List.append_nil] at N9
  generalize new ++ sy = sy at TS N9
  k_steps
  refine Stop.go (ma_use (rest := []) w mean mg mb _ _ _ _ _ lo n1 n2 TS (fun _ h => (nomatch h)) (by decide) (by decide) (fun u => rs_c w mean mg mb u _ (by decide) (by decide) (by decide) (by decide +kernel) (by decide)) (by k_asm) (by k_asm) (by k_asm) (by k_asm) (by k_asm) (by first | exact rfl | assumption) (fun q hq => by rw [List.append_nil] at hq; exact hq) (by ktr_room) (by ktr_units) ?_); clear TS
  rintro oR new kvs h9 tk9 - TS F9 N9
  rw [List.append_nil] at N9
  generalize new ++ sy = sy at TS N9
  k_steps
  refine Stop.go (ma_use (rest := []) w mean mg mb _ _ _ _ _ lo n1 n2 TS (fun _ h => (nomatch h)) (by decide) (by decide) (fun u => rs_c w mean mg mb u _ (by decide) (by decide) (by decide) (by decide +kernel) (by decide)) (by k_asm) (by k_asm) (by k_asm) (by k_asm) (by k_asm) (by first | exact rfl | assumption) (fun q hq => by rw [List.append_nil] at hq; exact hq) (by ktr_room) (by ktr_units) ?_); clear TS
  rintro oR new kvs h9 tk9 - TS F9 N9
  rw [List.append_nil] at N9
  generalize new ++ sy = sy at TS N9
  k_steps
  refine Stop.go (tab_turns w [Str.ofString "opens", Str.ofString "closes"] (by rfl) (by k_asm) (by k_asm) (by rfl) (by rfl) (TS.le w (n' := 100) (by decide)) (by omega) (by omega) (by omega) (by omega) ?_ ?_)
  · intro i v m₁ oR sy kvs h tk own hv TS hr F N fin
    have hv' : (i = 0 ∨ i = 1 ∨ i = 2) := by
      have := (List.getElem?_eq_some_iff.mp hv).1
      simp only [List.length_cons, List.length_nil] at this
      omega
    rcases hv' with rfl | rfl | rfl
    all_goals
      obtain rfl := Option.some.inj hv
      k_steps
      refine Stop.go (ma_use w mean mg mb _ _ _ _ _ lo n1 n2 TS hr (by rw [show Str.length _ = 1 from by decide]; omega) (by decide) (fun u => rs2_c w mean mg mb u _ (by decide) (by decide) (by decide) (by decide) (by decide +kernel) (by decide)) (by k_asm) (by k_asm) (by k_asm) (by k_asm) (by k_asm) (by first | exact rfl | assumption) mem_tab (by ktr_room) (by ktr_units) ?_)
      rintro oR1 new1 kvs1 h9 tk9 hn1 TS1 F9 N9
      clear TS
      k_steps
      refine Stop.go (ma_use w mean mg mb _ _ _ _ _ lo n1 n2 TS1 hr (by rw [show Str.length _ = 1 from by decide]; rw [show Str.length _ = 1 from by decide]; omega) (by decide) (fun u => rs2_c w mean mg mb u _ (by decide) (by decide) (by decide) (by decide) (by decide +kernel) (by decide)) (by k_asm) (by k_asm) (by k_asm) (by k_asm) (by k_asm) (by first | exact rfl | assumption) (fun q hq => hq) (by ktr_room) (by ktr_units) ?_)
      rintro oR2 new2 kvs2 h9 tk9 hn2 TS2 F9 N9
      clear TS1
      k_steps
      refine Stop.go (fin _ _ _ oR2 (new2 ++ new1) kvs2 ?_ ?_ ?_ (by k_asm) (by rw [List.append_assoc new2 new1]; k_asm))
      · intro q hq p hp
        rcases List.mem_append.mp hq with hq | hq
        · exact hn2 q hq p (.tail _ (.tail _ (.tail _ (.tail _ hp))))
        · exact hn1 q hq p (.tail _ (.tail _ (.tail _ (.tail _ hp))))
      · rw [List.append_assoc]
        exact TS2.le w (by rw [show Str.length _ = 1 from by decide, show Str.length _ = 1 from by decide]; omega)
      · intro z hz
        have h1 : z ≠ Str.ofString "closes" := by rintro rfl; exact absurd hz (by decide)
        have h2 : z ≠ Str.ofString "opens" := by rintro rfl; exact absurd hz (by decide)
        rw [if_neg h1, if_neg h2, if_neg (by rw [hz]; exact Bool.false_ne_true)]
  · intro m₁ oR sy kvs h9 tk9 TS F9 N9
    replace TS := TS.le w (n' := 112) (Nat.le_refl _)
    k_steps
    refine Stop.go (ma_use (rest := []) w mean mg mb _ _ _ _ _ lo n1 n2 TS (fun _ h => (nomatch h)) (by decide) (by decide) (fun u => rs_c w mean mg mb u _ (by decide) (by decide) (by decide) (by decide +kernel) (by decide)) (by k_asm) (by k_asm) (by k_asm) (by k_asm) (by k_asm) (by first | exact rfl | assumption) (fun q hq => by rw [List.append_nil] at hq; exact hq) (by ktr_room) (by ktr_units) ?_); clear TS
    rintro oR new kvs h9 tk9 - TS F9 N9
    rw [List.append_nil] at N9
    generalize new ++ sy = sy at TS N9
    k_steps
    refine Stop.go (ma_use (rest := []) w mean mg mb _ _ _ _ _ lo n1 n2 TS (fun _ h => (nomatch h)) (by decide) (by decide) (fun u => rs_c w mean mg mb u _ (by decide) (by decide) (by decide) (by decide +kernel) (by decide)) (by k_asm) (by k_asm) (by k_asm) (by k_asm) (by k_asm) (by first | exact rfl | assumption) (fun q hq => by rw [List.append_nil] at hq; exact hq) (by ktr_room) (by ktr_units) ?_); clear TS
    rintro oR new kvs h9 tk9 - TS F9 N9
    rw [List.append_nil] at N9
    generalize new ++ sy = sy at TS N9
    k_steps
    (refine Stop.go (CEnd.put (by k_asm) (by k_asm) (fun _ hq => hq) ?_); exact ⟨_, _, _, _, _, _, _, _, rfl, rfl, TS.le w (by decide), lo, n1, n2⟩)
end
end
section
open PySem PySem.W PyProof.Rows PySem.Calls
set_option maxHeartbeats 4000000
section
variable (w : World) (mean : ExcName → Option Value) (mg mb : Str → Option Value)
theorem big_of {g : Heap} (X : (hd.heap_39 w.params).In g) : sysModules < g.objs.size := Nat.lt_trans (show sysModules < 28 by decide) (Heap.lt_size (X 28 _ rfl))
theorem deck_c (l : Addr) (o : Obj) (vs : List Value) (ns : List Int) (n : Nat) (hc : o.cls = .type "list") (hd' : o.data = .seq vs.toArray n) (hi : IntsAre vs ns) (hlen : ns.length ≤ 100) :
    CtrL w mean mg mb 4 60 254 [.ref l] [] [(l, o)] (fun v A => ∃ D ys us, v = .ref D ∧ A = [(D, LCg.lst ys)] ∧ IntsAre ys us ∧ us.length ≤ 16) := by
  k_dflt (refine' ctr_enter [(Str.ofString "script", .ref l)] [(Str.ofString "script", .ref l)] ?k1 ?k2 ?k3 ?kr ?k4 ?_ ?c2 ?c3 ?c4 ?c5; (case k1 => k_is); (case k2 => k_is); (case k3 => exact rfl); (case kr => exact rfl); (case k4 => exact locs rfl); (case c2 => exact rfl); (case c3 => exact rfl); (case c4 => exact rfl); (case c5 => decide))
  intro dp un gd cn cs a ccd cl outer base g L' L₀ s₁ F N B X T hR hd hu A9 e9
  (try dsimp only); (try k_fold)
  have hl : g.IsList l vs.toArray := ⟨_, hR _ (.head _), hc, n, hd'⟩
  have hSC := stopC
  k_steps
  refine Stop.go (LCg.ListComp_U (F₀ := by k_asm) (by with_unfolding_all rfl) (by decide) (by rfl) (by decide) (by rfl) ?_)
  k_steps
  (rename IntsAre _ (List.take 16 ns) => hI)
  have hIl : (List.take 16 ns).length ≤ 16 := by rw [List.length_take]; exact Nat.min_le_left _ _
  refine Stop.go (LCg.CompSrc.ledger (by rfl) (by k_asm) (by k_asm) (.head _) (by rw [List.size_toArray, hI.length, PySem.sizeLine_eq]; omega) fun g' => comp_ints (fun i ys nw => nw = [_] ∧ ∃ us, IntsAre ys us ∧ us.length = i) hI ⟨rfl, [], .nil, rfl⟩ ?_ ?_)
  · rintro i k t ys nw I oI C oC D m₂ h tk E' hk ⟨rfl, us, hus, hul⟩ hC hx F N off ne
    k_steps
    exact Stop.go (LCg.CompEnd.intro (by k_asm) (by k_asm) _ (fun _ h => h) off (.inr ⟨_, .head _, rfl, _, rfl⟩) ⟨rfl, us ++ [_], IntsAre.append hus (.cons _ _ .nil), by rw [List.length_append, hul]; rfl⟩)
  · rintro ys nw ⟨rfl, us, hus, hul⟩ D h tk F N off
    k_steps
    (refine Stop.go (CEnd.put (by k_asm) (by k_asm) (fun _ hq => List.mem_of_mem_take (i := 1) hq) ?_); exact ⟨D, ys, us, rfl, rfl, hus, by omega⟩)
theorem draw_c (d : Addr) (vs : List Value) (ns : List Int) (k0 : Nat) (tm : Tok) (many : Int) (hi : IntsAre vs ns) (hlen : ns.length ≤ 16) (hm : 0 < many) (hm' : many ≤ 1000) :
    CtrL w mean mg mb 4 120 261 [.ref d, .int many tm] [(d, listOf vs.toArray k0)] [] (fun v A => ∃ x t ys us k1, v = .int x t ∧ 0 ≤ x ∧ x < many ∧ A = [(d, listOf ys.toArray k1)] ∧ IntsAre ys us ∧ us.length ≤ 16) := by
  k_dflt (refine' ctr_enter [(Str.ofString "deck", .ref d), (Str.ofString "many", .int many tm)] [(Str.ofString "many", .int many tm), (Str.ofString "deck", .ref d)] ?k1 ?k2 ?k3 ?kr ?k4 ?_ ?c2 ?c3 ?c4 ?c5; (case k1 => k_is); (case k2 => k_is); (case k3 => exact rfl); (case kr => exact rfl); (case k4 => exact locs rfl); (case c2 => exact rfl); (case c3 => exact rfl); (case c4 => exact rfl); (case c5 => decide))
  intro dp un gd cn cs a ccd cl outer base g L' L₀ s₁ F N B X T hR hd hu A9 e9
  (try dsimp only); (try k_fold)
  have hSC := stopC
  k_steps
  refine Stop.go (While_inv (fun n m₁ nw => ∃ ys us k1, nw = [(d, listOf (List.toArray ys) k1)] ∧ IntsAre ys us ∧ us.length = n ∧ n ≤ 16 ∧ m₁ = _) (by k_asm) (by k_asm) ⟨vs, ns, k0, rfl, hi, rfl, hlen, rfl⟩ ?_ (fun _ _ h => h.elim))
  rintro n m₁ news₁ h₁ tk₁ F₁ N₁ ⟨ys, us, k1, rfl, hy, hul, hn16, rfl⟩
  clear F N
  have hnil : IntsAre [] [] := .nil
  have hSE := stopE
  cases hy with
  | nil =>
    k_steps
    refine Stop.go (ke_ne_ints (News.isList (by k_asm) (by k_mem)) (News.isList (by k_asm) (by k_mem)) hnil hnil (by simp only [A9, units_deeper]; ktr_units) ?_)
    rw [show (!decide (([] : List Int) = [])) = false from rfl]
    k_steps
    refine Stop.go (ke_eq_ints (News.isList (by k_asm) (by k_mem)) (News.isList (by k_asm) (by k_mem)) hnil hnil (by simp only [A9, units_deeper]; ktr_units) ?_)
    rw [show decide (([] : List Int) = []) = true from rfl]
    k_steps
    (refine Stop.go (CEnd.put (by k_asm) (by k_asm) (fun _ hq => .tail _ (.tail _ hq)) ?_); exact ⟨0, _, [], [], _, rfl, by decide, hm, rfl, .nil, by decide⟩)
  | cons k t r =>
    rename_i vs' ns'
    have hy := IntsAre.cons k t r
    k_steps
    refine Stop.go (ke_ne_ints (News.isList (by k_asm) (by k_mem)) (News.isList (by k_asm) (by k_mem)) hy hnil (by simp only [A9, units_deeper]; ktr_units) ?_)
    rw [show (!decide (k :: ns' = [])) = true from by simp]
    k_steps
    · refine kl_popAt (by k_asm) (by k_asm) (by rfl) (show seqIndex? 0 (List.toArray (Value.int k t :: vs')).size = some 0 from by simp [seqIndex?]) (p := []) (y := .int k t) (q := vs') rfl (by k_upd) (by rw [PySem.sizeLine_eq]; simp only [List.length_cons] at hul ⊢; have := r.length; omega) ?_
      intro h' F' N'
      k_steps
      exact WhileStep.intro F' (fun q hq => N' q (.tail _ hq)) (by rw [List.length_cons] at hul; omega) ⟨vs', ns', _, rfl, r, rfl, by rw [List.length_cons] at hul; omega, rfl⟩
    · refine Stop.go (ke_eq_ints (News.isList (by k_asm) (by k_mem)) (News.isList (by k_asm) (by k_mem)) hy hnil (by simp only [A9, units_deeper]; ktr_units) ?_)
      rw [show decide (k :: ns' = []) = false from by simp]
      k_steps
      (rename IntsAre (List.set _ _ _) _ => hi9)
      (refine Stop.go (CEnd.put (by k_asm) (by k_asm) (fun _ hq => .tail _ (.tail _ hq)) ?_); exact ⟨_, _, _, _, _, rfl, Int.fmod_nonneg_of_pos _ hm, Int.fmod_lt_of_pos _ hm, rfl, hi9, by rw [List.length_set]; omega⟩)
end
end
section
open PySem PySem.W PyProof.Rows PySem.Calls
set_option maxHeartbeats 4000000
def firstP (i : Nat) : List (Int × Int) := (List.range i).map fun (j : Nat) => (65 + (0 + (j : Int)), 97 + (0 + (j : Int)))
def nextP (i : Nat) : List (Int × Int) := ((List.range i).filter fun (j : Nat) => j != 23).map fun (j : Nat) => (192 + (0 + (j : Int)), 224 + (0 + (j : Int)))
theorem firstP_next (i : Nat) : firstP (i + 1) = firstP i ++ [(65 + (0 + (i : Int)), 97 + (0 + (i : Int)))] := by
  unfold firstP; rw [List.range_succ, List.map_append]; rfl
theorem nextP_next {i : Nat} (h : (i != 23) = true) : nextP (i + 1) = nextP i ++ [(192 + (0 + (i : Int)), 224 + (0 + (i : Int)))] := by
  unfold nextP; rw [List.range_succ, List.filter_append, List.map_append]; simp [h]
theorem nextP_skip {i : Nat} (h : (i != 23) = false) : nextP (i + 1) = nextP i := by
  unfold nextP; rw [List.range_succ, List.filter_append, List.map_append]; simp [h]
def pairsL : List (Int × Int) := firstP 26 ++ nextP 31
section
variable (w : World) (mean : ExcName → Option Value) (mg mb : Str → Option Value)
theorem pairs_c : CtrL w mean mg mb 4 60 266 [] [] [] (fun v A => ∃ D ys k ts ps, v = .ref D ∧ A = (D, listOf (List.toArray ys) k) :: ts ∧ PairsIn ts ys ps ∧ PA ps pairsL) := by
  k_dflt (refine' ctr_enter [] [] ?k1 ?k2 ?k3 ?kr ?k4 ?_ ?c2 ?c3 ?c4 ?c5; (case k1 => k_is); (case k2 => k_is); (case k3 => exact rfl); (case kr => exact rfl); (case k4 => exact locs rfl); (case c2 => exact rfl); (case c3 => exact rfl); (case c4 => exact rfl); (case c5 => decide))
  intro dp un gd cn cs a ccd cl outer base g L' L₀ s₁ F N B X T hR hd hu A9 e9
  (try dsimp only); (try k_fold)
  have hSC := stopC
  have hSA := stopA
  k_steps
  refine Stop.go (LCg.Assign_ListComp_U (F₀ := by k_asm) (by rfl) (by with_unfolding_all rfl) (by with_unfolding_all rfl) (by decide) (by rfl) (by decide) (by rfl) (by rfl) (by rfl) ?_)
  k_steps
  refine Stop.go (LCg.CompSrc.range (n := 26) (by rfl) (by k_asm) (by k_asm) (by assumption) (by decide) (by decide) (by decide) fun g' => comp_rest (MkJ firstP _) (MkJ.zero rfl) ?_ ?_)
  · rintro i v ys nw I oI C oC D m₂ h tk E' hin ⟨t2, rfl⟩ hJ hC hx F N off ne
    k_steps
    exact Stop.go (comp_end_new (by k_asm) (by k_asm) ⟨by omega, by omega, by omega⟩ off trivial (hJ.next (firstP_next i) rfl rfl))
  · rintro ys nw ⟨ts, ps, rfl, hp, hm⟩ D h tk F N off
    rw [List.append_nil] at N off
    k_steps
    refine Stop.go (LCt.ListComp_T (F₀ := by k_asm) (by with_unfolding_all rfl) (by decide) (by rfl) (by decide) (by rfl) ?_)
    k_steps
    refine Stop.go (LCt.CompSrcT.range (n := 31) (by rfl) (by k_asm) (by k_asm) (by assumption) (by decide) (by decide) (by decide) fun g' => comp_restT (MkJ nextP ((D, LCg.lst ys) :: ts)) (MkJ.zero rfl) ?_ ?_)
    · rintro i v us nw I oI C oC D' m₂ h tk E' hin ⟨t2, rfl⟩ hJ hC hx F N off ne
      k_steps
      · exact Stop.go (comp_end_new (by k_asm) (by k_asm) ⟨by omega, by omega, by omega⟩ off trivial (hJ.next (nextP_next (by rw [bne_iff_ne]; omega)) rfl rfl))
      · exact Stop.go (LCg.CompEnd.intro (by k_asm) (by k_asm) _ (fun _ h => h) off trivial (hJ.skip (nextP_skip (by rw [bne_eq_false_iff_eq]; omega))))
    · rintro us nw ⟨ts2, ps2, rfl, hp2, hm2⟩ D2 h tk F N off2
      k_steps
      refine Stop.go (kmk_add_lit (its := List.toArray ys) (its2 := List.toArray us) (zs := ys ++ us) (by k_asm) (by k_asm) ⟨_, (N _ (.tail _ (List.mem_append.mpr (.inr (.head _))))).1, rfl, _, rfl⟩ ⟨_, (N _ (.head _)).1, rfl, _, rfl⟩ (by simp) ?_ ?_)
      rotate_left
      · have h1 := hp.1
        have h2 := hp2.1
        have h3 : ps.length = 26 := hm.1
        have h4 : ps2.length = 30 := hm2.1
        rw [PySem.sizeLine_eq]
        simp only [List.toList_toArray]
        omega
      intro D3 h3 F3 N3 l3
      k_steps
      (refine Stop.go (CEnd.put (by k_asm) (by k_asm) (fun _ hq => (by rcases List.mem_cons.mp hq with rfl | hq; exact .head _; rcases List.mem_append.mp hq with hq | hq; exact .tail _ (.tail _ (List.mem_append.mpr (.inl hq))); exact .tail _ (.tail _ (List.mem_append.mpr (.inr (.tail _ hq)))))) ?_); exact ⟨D3, ys ++ us, 0, ts2 ++ ts, ps ++ ps2, rfl, rfl, hp.append hp2, hm.append hm2⟩)
end
end
section
open PySem PySem.W PyProof.Rows PySem.Calls
set_option maxHeartbeats 4000000
theorem take_next {α : Type} {l : List α} {i : Nat} {x : α} (h : l[i]? = some x) : l.take (i + 1) = l.take i ++ [x] := by rw [List.take_add_one, h]; rfl
def downs (pL : List (Int × Int)) (c : Int) : List Int := (pL.filter fun q => q.1 == c).map (·.2)
def ups (pL : List (Int × Int)) (c : Int) : List Int := (pL.filter fun q => q.2 == c).map (·.1)
theorem downs_yes {l : List (Int × Int)} {p k c : Int} (h : p = c) : downs (l ++ [(p, k)]) c = downs l c ++ [k] := by
  unfold downs; rw [List.filter_append, List.map_append]; simp [h]
theorem downs_no {l : List (Int × Int)} {p k c : Int} (h : p ≠ c) : downs (l ++ [(p, k)]) c = downs l c := by
  unfold downs; rw [List.filter_append, List.map_append]; simp [h]
theorem ups_yes {l : List (Int × Int)} {p k c : Int} (h : k = c) : ups (l ++ [(p, k)]) c = ups l c ++ [p] := by
  unfold ups; rw [List.filter_append, List.map_append]; simp [h]
theorem ups_no {l : List (Int × Int)} {p k c : Int} (h : k ≠ c) : ups (l ++ [(p, k)]) c = ups l c := by
  unfold ups; rw [List.filter_append, List.map_append]; simp [h]
theorem mixed_eq2 {prog : Program} {w : World} {A : Around} {E : Value → Shared → Prop} {s : Shared} {l1 l2 : Addr} {a b a' b' : Int} {p q p' q' : Bool} {t1 t2 u1 u2 : Tok} {Q : Value → Shared → Prop} (h1 : s.heap.IsList l1 #[.int a t1, .int b t2, .bool p, .bool q]) (h2 : s.heap.IsList l2 #[.int a' u1, .int b' u2, .bool p', .bool q']) (e1 : a = a') (e2 : b = b') (e3 : p = p') (e4 : q = q') (hu : A.units + 64 < cLine) (h : Q (.bool true) s) :
    wpAny (model prog w) A (compareOp .Eq (.ref l1) (.ref l2)) Q E s := by
  subst e1 e2 e3 e4
  exact mixed_eq h1 h2 hu h
theorem dn_up (c : Int) : dn (up c) = dn c := by unfold dn up; (repeat' split) <;> omega
theorem up_dn (c : Int) : up (dn c) = up c := by unfold dn up; (repeat' split) <;> omega
theorem dn_dn (c : Int) : dn (dn c) = dn c := by unfold dn; (repeat' split) <;> omega
def keysL : List Int := rangeInts 65 1 26 ++ rangeInts 192 1 23 ++ rangeInts 216 1 7
theorem mem_keys {c : Int} : c ∈ keysL ↔ (65 ≤ c ∧ c ≤ 90) ∨ (192 ≤ c ∧ c ≤ 222 ∧ c ≠ 215) := by
  have h : ∀ a (n : Nat), c ∈ rangeInts a 1 n ↔ a ≤ c ∧ c < a + n := fun a n => by
    unfold rangeInts
    rw [List.mem_map]
    constructor
    · rintro ⟨i, hi, rfl⟩
      rw [List.mem_range] at hi
      omega
    · rintro ⟨h1, h2⟩
      exact ⟨(c - a).toNat, List.mem_range.mpr (by omega), by omega⟩
  unfold keysL
  rw [List.mem_append, List.mem_append, h, h, h]
  omega
theorem pairsL_keys : pairsL = keysL.map fun c => (c, c + 32) := by decide
theorem keys_nodup : keysL.Nodup := by decide
theorem filter_key : ∀ {l : List Int} (c : Int), l.Nodup → (l.filter fun g => g == c) = if c ∈ l then [c] else []
  | [], c, _ => by simp
  | a :: r, c, h => by
    have hr := filter_key (l := r) c (List.nodup_cons.mp h).2
    rw [List.filter_cons]
    by_cases e : a = c
    · subst e
      rw [if_pos (by simp), hr, if_neg (List.nodup_cons.mp h).1, if_pos (.head _)]
    · rw [if_neg (by simpa using e), hr]
      by_cases m : c ∈ r
      · rw [if_pos m, if_pos (.tail _ m)]
      · rw [if_neg m, if_neg fun q => (List.mem_cons.mp q).elim (fun q => e q.symm) m]
theorem downs_is (c : Int) : downs pairsL c = if c ∈ keysL then [c + 32] else [] := by
  unfold downs
  rw [pairsL_keys, List.filter_map, List.map_map]
  rw [show ((fun q : Int × Int => q.1 == c) ∘ fun c : Int => (c, c + 32)) = fun g => g == c from rfl, filter_key c keys_nodup]
  by_cases h : c ∈ keysL
  · rw [if_pos h, if_pos h]; rfl
  · rw [if_neg h, if_neg h]; rfl
theorem ups_is (c : Int) : ups pairsL c = if c - 32 ∈ keysL then [c - 32] else [] := by
  unfold ups
  rw [pairsL_keys, List.filter_map, List.map_map]
  rw [show ((fun q : Int × Int => q.2 == c) ∘ fun c : Int => (c, c + 32)) = fun g => g == c - 32 from funext fun g => by
    show (g + 32 == c) = (g == c - 32)
    rw [Bool.eq_iff_iff, beq_iff_eq, beq_iff_eq]; omega, filter_key (c - 32) keys_nodup]
  by_cases h : c - 32 ∈ keysL
  · rw [if_pos h]; rfl
  · rw [if_neg h]; rfl
theorem down_val (c : Int) : (downs pairsL c ++ [c]).getD (Int.toNat 0) 0 = dn c := by
  rw [downs_is]; unfold dn
  by_cases h : c ∈ keysL
  · rw [if_pos h, if_pos (mem_keys.mp h)]; rfl
  · rw [if_neg h, if_neg fun q => h (mem_keys.mpr q)]; rfl
theorem up_val (c : Int) : (ups pairsL c ++ [c]).getD (Int.toNat 0) 0 = up c := by
  have e : c - 32 ∈ keysL ↔ (97 ≤ c ∧ c ≤ 122) ∨ (224 ≤ c ∧ c ≤ 254 ∧ c ≠ 247) := by rw [mem_keys]; omega
  rw [ups_is]; unfold up
  by_cases h : c - 32 ∈ keysL
  · rw [if_pos h, if_pos (e.mp h)]; rfl
  · rw [if_neg h, if_neg fun q => h (e.mpr q)]; rfl
theorem down_any (c : Int) : (!decide (downs pairsL c = [])) = (dn c != c) := by
  rw [downs_is]; unfold dn
  by_cases h : c ∈ keysL
  · rw [if_pos h, if_pos (mem_keys.mp h)]
    rw [show (c + 32 != c) = true from bne_iff_ne.mpr (by omega)]; rfl
  · rw [if_neg h, if_neg fun q => h (mem_keys.mpr q), bne_self_eq_false]; rfl
theorem up_any (c : Int) : (!decide (ups pairsL c = [])) = (up c != c) := by
  have e : c - 32 ∈ keysL ↔ (97 ≤ c ∧ c ≤ 122) ∨ (224 ≤ c ∧ c ≤ 254 ∧ c ≠ 247) := by rw [mem_keys]; omega
  rw [ups_is]; unfold up
  by_cases h : c - 32 ∈ keysL
  · rw [if_pos h, if_pos (e.mp h)]
    rw [show (c - 32 != c) = true from bne_iff_ne.mpr (by omega)]; rfl
  · rw [if_neg h, if_neg fun q => h (e.mpr q), bne_self_eq_false]; rfl
section
variable (w : World) (mean : ExcName → Option Value) (mg mb : Str → Option Value)
variable (l : Addr) (ys : List Value) (k : Nat) (ts : List (Addr × Obj)) (ps : List (Int × Value)) (pL : List (Int × Int))
theorem right_c (c : Int) (tc : Tok) (hp : PairsIn ts ys ps) (hm : PA ps pL) (hpl : pL.length ≤ 100) (hdn : ∀ c, (downs pL c ++ [c]).getD (Int.toNat 0) 0 = dn c) (hup : ∀ c, (ups pL c ++ [c]).getD (Int.toNat 0) 0 = up c) (hdb : ∀ c, (!decide (downs pL c = [])) = (dn c != c)) (hub : ∀ c, (!decide (ups pL c = [])) = (up c != c)) :
    CtrL w mean mg mb 4 120 271 [.int c tc, .ref l] [] ((l, listOf (List.toArray ys) k) :: ts) (fun v A => A = [] ∧ v = .bool true) := by
  k_dflt (refine' ctr_enterC (fun y => if y = Str.ofString "pairs" then some (.ref l) else none) ?k1 ?k2 ?k3 ?k4 ?kD ?km ?_ ?c2 ?c3 ?c4; (case k1 => k_is); (case k2 => k_is); (case k3 => exact rfl); (case k4 => exact rfl); (case kD => decide +kernel); (case km => exact fun _ => rfl); (case c2 => exact rfl); (case c3 => exact rfl); (case c4 => exact rfl))
  intro dp un gd cn cs a ccd cl outer base g L' L₀ s₁ cells F N Y B X T hR hd hu l1
  (try k_lt l1); k_cells Y; (try simp only [List.cons_append, List.nil_append] at N)
  (try dsimp only); (try k_fold)
  have hSC := stopC
  have hSE := stopE
  (rename (Obj.data _ = Data.cell (bindC _ _ _ (Str.ofString "code"))) => d2)
  replace d2 : _ = Data.cell (some (.int c tc)) := d2
  have HL : g.IsList l (List.toArray ys) := ⟨_, hR _ (.head _), rfl, k, rfl⟩
  have hsz : ys.length ≤ sizeLine := by rw [hp.1, hm.1, PySem.sizeLine_eq]; omega
  k_steps
  refine Stop.go (Assign_ListComp_PT (by k_asm) (by rfl) (by with_unfolding_all rfl) (by with_unfolding_all rfl) (by decide) (by rfl) (by decide) (by rfl) (by rfl) (by decide) (by rfl) (by rfl) ?_)
  k_steps
  refine ⟨l, ys, _, fun i us nw => nw = _ ∧ IntsAre us (downs (pL.take i) c), rfl, by rfl, by k_asm, by k_asm, .inl HL, hsz, ⟨rfl, .nil⟩, ?_, ?_⟩
  · rintro g' i v us nw hv ⟨rfl, hus⟩
    obtain ⟨T, oT, p, kk, t, u, n, rfl, hT, hcl, hdt, hpi⟩ := hp.pair hm hv
    have e := take_next hpi
    refine ⟨T, oT, .int p t, .int kk u, n, rfl, .inl (hR _ (.tail _ hT)), hcl, hdt, ?_⟩
    intro I oI C oC D m₂ h tk E' hC hx hx₂ F N off ne
    k_steps
    · exact Stop.go (LCg.CompEnd.intro (by k_asm) (by k_asm) _ (fun _ h => h) off (.inl HL) ⟨rfl, by rw [e, downs_yes (by assumption)]; exact IntsAre.append hus (.cons _ _ .nil)⟩)
    · exact Stop.go (LCg.CompEnd.intro (by k_asm) (by k_asm) _ (fun _ h => h) off (.inl HL) ⟨rfl, by rw [e, downs_no (by assumption)]; exact hus⟩)
  rintro g' ds nw ⟨rfl, hds⟩
  rw [hp.1, hm.1, List.take_length] at hds
  intro D1 h tk F N off
  clear off
  k_steps
  refine Stop.go (Assign_ListComp_PT (by k_asm) (by rfl) (by with_unfolding_all rfl) (by with_unfolding_all rfl) (by decide) (by rfl) (by decide) (by rfl) (by rfl) (by decide) (by rfl) (by rfl) ?_)
  k_steps
  refine ⟨l, ys, _, fun i us nw => nw = _ ∧ IntsAre us (ups (pL.take i) c), rfl, by rfl, by k_asm, by k_asm, .inl HL, hsz, ⟨rfl, .nil⟩, ?_, ?_⟩
  · rintro g' i v us nw hv ⟨rfl, hus⟩
    obtain ⟨T, oT, p, kk, t, u, n, rfl, hT, hcl, hdt, hpi⟩ := hp.pair hm hv
    have e := take_next hpi
    refine ⟨T, oT, .int p t, .int kk u, n, rfl, .inl (hR _ (.tail _ hT)), hcl, hdt, ?_⟩
    intro I oI C oC D m₂ h tk E' hC hx hx₂ F N off ne
    k_steps
    · exact Stop.go (LCg.CompEnd.intro (by k_asm) (by k_asm) _ (fun _ h => h) off (.inl HL) ⟨rfl, by rw [e, ups_yes (by assumption)]; exact IntsAre.append hus (.cons _ _ .nil)⟩)
    · exact Stop.go (LCg.CompEnd.intro (by k_asm) (by k_asm) _ (fun _ h => h) off (.inl HL) ⟨rfl, by rw [e, ups_no (by assumption)]; exact hus⟩)
  rintro g' us nw ⟨rfl, hus⟩
  rw [hp.1, hm.1, List.take_length] at hus
  intro D2 h tk F N off
  clear off
  have hd1 : (downs pL c).length ≤ 100 := by unfold downs; rw [List.length_map]; exact Nat.le_trans (List.length_filter_le _ _) hpl
  have hu1 : (ups pL c).length ≤ 100 := by unfold ups; rw [List.length_map]; exact Nat.le_trans (List.length_filter_le _ _) hpl
  have hone : ∀ t : Tok, IntsAre [Value.int c t] [c] := fun t => .cons _ _ .nil
  k_steps
  k_dflt (refine' Stop.go (Ctr.useP (dn_c _ _ _ _ _ _) ?B ?F ?X ?N ?T ?hk ?hR ?hd ?hu ?_); (case B => k_asm); (case F => k_asm); (case X => k_asm); (case N => k_asm); (case T => k_asm); (case hk => first | exact rfl | assumption); (case hd => ktr_room); (case hu => ktr_units); (case hR => exact fun _ h => (nomatch h))); rintro v9 h9 tk9 ⟨t1, rfl⟩ F9 N9; (try dsimp only)
  k_steps
  k_dflt (refine' Stop.go (Ctr.useP (up_c _ _ _ _ _ _) ?B ?F ?X ?N ?T ?hk ?hR ?hd ?hu ?_); (case B => k_asm); (case F => k_asm); (case X => k_asm); (case N => k_asm); (case T => k_asm); (case hk => first | exact rfl | assumption); (case hd => ktr_room); (case hu => ktr_units); (case hR => exact fun _ h => (nomatch h))); rintro v9 h9 tk9 ⟨t2, rfl⟩ F9 N9; (try dsimp only)
  k_steps
  k_dflt (refine' Stop.go (Ctr.useP (isup_c _ _ _ _ _ _) ?B ?F ?X ?N ?T ?hk ?hR ?hd ?hu ?_); (case B => k_asm); (case F => k_asm); (case X => k_asm); (case N => k_asm); (case T => k_asm); (case hk => first | exact rfl | assumption); (case hd => ktr_room); (case hu => ktr_units); (case hR => exact fun _ h => (nomatch h))); rintro v9 h9 tk9 rfl F9 N9; (try dsimp only)
  k_steps
  k_dflt (refine' Stop.go (Ctr.useP (islo_c _ _ _ _ _ _) ?B ?F ?X ?N ?T ?hk ?hR ?hd ?hu ?_); (case B => k_asm); (case F => k_asm); (case X => k_asm); (case N => k_asm); (case T => k_asm); (case hk => first | exact rfl | assumption); (case hd => ktr_room); (case hu => ktr_units); (case hR => exact fun _ h => (nomatch h))); rintro v9 h9 tk9 rfl F9 N9; (try dsimp only)
  k_steps
  refine Stop.go (ke_ne_ints ⟨LCg.lst ds, (by (rename News _ _ _ _ => N7); exact (N7 (D1, LCg.lst ds) (by k_mem)).1), rfl, _, rfl⟩ (News.isList (by k_asm) (by k_mem)) hds .nil (by simp only [units_deeper]; ktr_units) ?_)
  k_steps
  refine Stop.go (ke_ne_ints ⟨LCg.lst us, (by (rename News _ _ _ _ => N7); exact (N7 (D2, LCg.lst us) (by k_mem)).1), rfl, _, rfl⟩ (News.isList (by k_asm) (by k_mem)) hus .nil (by simp only [units_deeper]; ktr_units) ?_)
  k_steps
  refine Stop.go (mixed_eq2 (News.isList (by k_asm) (by k_mem)) (News.isList (by k_asm) (by k_mem)) (hdn c).symm (hup c).symm (hdb c).symm (hub c).symm (by simp only [units_deeper]; ktr_units) ?_)
  k_steps
  k_dflt (refine' Stop.go (Ctr.useP (fold_c _ _ _ _ _ _) ?B ?F ?X ?N ?T ?hk ?hR ?hd ?hu ?_); (case B => k_asm); (case F => k_asm); (case X => k_asm); (case N => k_asm); (case T => k_asm); (case hk => first | exact rfl | assumption); (case hd => ktr_room); (case hu => ktr_units); (case hR => exact fun _ h => (nomatch h))); rintro v9 h9 tk9 ⟨t3, rfl⟩ F9 N9; (try dsimp only)
  k_steps
  k_dflt (refine' Stop.go (Ctr.useP (up_c _ _ _ _ _ _) ?B ?F ?X ?N ?T ?hk ?hR ?hd ?hu ?_); (case B => k_asm); (case F => k_asm); (case X => k_asm); (case N => k_asm); (case T => k_asm); (case hk => first | exact rfl | assumption); (case hd => ktr_room); (case hu => ktr_units); (case hR => exact fun _ h => (nomatch h))); rintro v9 h9 tk9 ⟨t4, rfl⟩ F9 N9; (try dsimp only)
  k_steps
  k_dflt (refine' Stop.go (Ctr.useP (fold_c _ _ _ _ _ _) ?B ?F ?X ?N ?T ?hk ?hR ?hd ?hu ?_); (case B => k_asm); (case F => k_asm); (case X => k_asm); (case N => k_asm); (case T => k_asm); (case hk => first | exact rfl | assumption); (case hd => ktr_room); (case hu => ktr_units); (case hR => exact fun _ h => (nomatch h))); rintro v9 h9 tk9 ⟨t5, rfl⟩ F9 N9; (try dsimp only)
  rw [dn_up]
  k_steps
  k_dflt (refine' Stop.go (Ctr.useP (dn_c _ _ _ _ _ _) ?B ?F ?X ?N ?T ?hk ?hR ?hd ?hu ?_); (case B => k_asm); (case F => k_asm); (case X => k_asm); (case N => k_asm); (case T => k_asm); (case hk => first | exact rfl | assumption); (case hd => ktr_room); (case hu => ktr_units); (case hR => exact fun _ h => (nomatch h))); rintro v9 h9 tk9 ⟨t6, rfl⟩ F9 N9; (try dsimp only)
  k_steps
  k_dflt (refine' Stop.go (Ctr.useP (fold_c _ _ _ _ _ _) ?B ?F ?X ?N ?T ?hk ?hR ?hd ?hu ?_); (case B => k_asm); (case F => k_asm); (case X => k_asm); (case N => k_asm); (case T => k_asm); (case hk => first | exact rfl | assumption); (case hd => ktr_room); (case hu => ktr_units); (case hR => exact fun _ h => (nomatch h))); rintro v9 h9 tk9 ⟨t7, rfl⟩ F9 N9; (try dsimp only)
  rw [dn_dn]
  k_steps
  all_goals exact Stop.go (CEnd.put0 (by k_asm) (by rw [beq_self_eq_true]))
end
end
section
open PySem PySem.W PyProof.Rows PySem.Calls
set_option maxHeartbeats 4000000

def lawDef : List Stmt × Scope := match (PySem.Challenge.pw_pq0347_02.main.body[32]? : Option PySem.Stmt) with
  | some (PySem.Stmt.FunctionDef _ _ b _ _ _ sc _ _ _) => (b, sc)
  | _ => ([], { kind := .function, names := [], isGenerator := false, isCoroutine := false })
abbrev lawEnv (L fa : Addr) (cdv : Value) : Env := envOfC (Str.ofString "law") lawDef.2 L fa cdv
def endMap (b : Bool) (ov : Option Value) (sA gA cD t : Addr) (u0 : Str → Option Value) : Str → Option Value := fun y => if y = Str.ofString "starting" then some (.bool b) else if y = Str.ofString "own" then ov else if y = Str.ofString "small" then some (.ref sA) else if y = Str.ofString "great" then some (.ref gA) else if y = Str.ofString "codes" then some (.ref cD) else if y = Str.ofString "table" then some (.ref t) else u0 y
theorem allLt_mem {d : Addr} : ∀ {l : List (Addr × Obj)}, AllLt d l → ∀ q ∈ l, @LT.lt Nat _ q.1 d
  | [], _, _, h => nomatch h
  | _ :: _, h, q, hq => by
    rcases List.mem_cons.mp hq with rfl | hq
    · exact h.1
    · exact allLt_mem h.2 q hq
theorem capS_snd (f f' : Int → Int) (isw : Int → Bool) (ns : List Int) : (capS f isw ns).2 = (capS f' isw ns).2 := by
  rw [← List.reverse_reverse ns]
  cases ns.reverse with
  | nil => rfl
  | cons c r => rw [List.reverse_cons, capS_snoc, capS_snoc]
theorem end_map0 {sA gA cD t : Addr} {u0 : Str → Option Value} : (fun y => if y = Str.ofString "starting" then some (Value.bool true) else if y = Str.ofString "great" then some (.ref gA) else if y = Str.ofString "small" then some (.ref sA) else if y = Str.ofString "codes" then some (.ref cD) else if y = Str.ofString "table" then some (.ref t) else u0 y) = endMap true (u0 (Str.ofString "own")) sA gA cD t u0 := by
  funext y
  unfold endMap
  by_cases h1 : y = Str.ofString "starting"
  · rw [if_pos h1, if_pos h1]
  rw [if_neg h1, if_neg h1]
  by_cases h2 : y = Str.ofString "own"
  · subst h2; rfl
  rw [if_neg h2]
  by_cases h3 : y = Str.ofString "great"
  · subst h3; rfl
  rw [if_neg h3, if_neg h3]
theorem end_map1 {b b' : Bool} {ov ov' : Option Value} {sA gA cD t : Addr} {u0 : Str → Option Value} : (fun y => if y = Str.ofString "starting" then some (Value.bool b') else if y = Str.ofString "own" then ov' else if y = Str.ofString "starting" then some (Value.bool b) else if y = Str.ofString "own" then ov else if y = Str.ofString "small" then some (.ref sA) else if y = Str.ofString "great" then some (.ref gA) else if y = Str.ofString "codes" then some (.ref cD) else if y = Str.ofString "table" then some (.ref t) else u0 y) = endMap b' ov' sA gA cD t u0 := by
  funext y
  unfold endMap
  by_cases h1 : y = Str.ofString "starting"
  · rw [if_pos h1, if_pos h1]
  rw [if_neg h1, if_neg h1]
  by_cases h2 : y = Str.ofString "own"
  · simp only [if_pos h2, if_neg h1]
  simp only [if_neg h1, if_neg h2]
section
variable (w : World) (mean : ExcName → Option Value) (mg mb : Str → Option Value)
variable (t td r cD dD dU : Addr) (t1 t2 : Tok) (oR oD oU oc3 oc4 : Obj) (sy : List (Addr × Obj)) (kvs kvD kvU : List (Int × Value)) (kf : Int → Str) (vs : List Value) (n : Nat) (ns : List Int)
theorem law_end {g h : Heap} {L fa : Addr} {cdv : Value} {sh : Shared} {tk : Nat} {Q : Flow → Shared → Prop} {u0 : Str → Option Value}
    (B : Below callerA g [] g) (X : (hd.heap_39 w.params).In g) (T : Top vw (looseW vw []) mean mg mb g)
    (hD : oR.IsDictOf (intKind PySem.Challenge.pw_pq0347_02 w) kvs) (lo : (r == sysModules) = false) (hk : ∀ c, KindIs w.params sy kvs c (kf c))
    (hdD : oD.IsDictOf (intKind PySem.Challenge.pw_pq0347_02 w) kvD) (loD : (dD == sysModules) = false) (hDv : ∀ c t, ∃ u, (valueAt kvD c).getD (.int c t) = .int (dn c) u)
    (hdU : oU.IsDictOf (intKind PySem.Challenge.pw_pq0347_02 w) kvU) (loU : (dU == sysModules) = false) (hUv : ∀ c t, ∃ u, (valueAt kvU c).getD (.int c t) = .int (up c) u)
    (hi : IntsAre vs ns) (hlen : ns.length ≤ 50) (c3 : oc3.data = .cell (some (.ref dD))) (c4 : oc4.data = .cell (some (.ref dU)))
    (F : Fr g L h (fun y => if y = Str.ofString "codes" then some (.ref cD) else if y = Str.ofString "table" then some (.ref t) else u0 y))
    (N : News g L h ((cD, listOf vs.toArray n) :: (L + 1 + 1 + 1 + 1, oc4) :: (L + 1 + 1 + 1, oc3) :: (dU, oU) :: (dD, oD) :: tabR w.params t td r t1 t2 oR sy))
    (hret : ∀ h' tk' m', Fr g L h' m' → Q (.ret (.bool true)) { sh with heap := h', toks := tk' }) :
    wpAny (model PySem.Challenge.pw_pq0347_02 w) (Around.deeper callerA (lawEnv L fa cdv)) (execs (lawDef.1.drop 8) (lawEnv L fa cdv)) Q (fun _ _ => False) { sh with heap := h, toks := tk } := by
  have hSC := stopC
  show wpAny _ _ (execs (_ :: _) _) _ _ _
  k_steps
  rename_i gA _ l1 sA _ l2 _ _ _ _ _ _ _ F8 N8
  have lg : ∀ q ∈ sy, @LT.lt Nat _ q.1 gA := allLt_mem l1.2.2.2.2.2.2.2.2
  have ls : ∀ q ∈ sy, @LT.lt Nat _ q.1 sA := allLt_mem l2.2.2.2.2.2.2.2.2.2
  refine Stop.go (For_turns (by k_asm) ?_)
  k_steps
  refine Stop.go (turns_list (lo := listOf vs.toArray n) (vs := vs) (n := n) (news := (gA, listOf (List.toArray []) 0) :: (sA, listOf (List.toArray []) 0) :: (cD, listOf vs.toArray n) :: (L + 1 + 1 + 1 + 1, oc4) :: (L + 1 + 1 + 1, oc3) :: (dU, oU) :: (dD, oD) :: tabR w.params t td r t1 t2 oR sy)
    (fun i m nx => ∃ us ws k1 k2 ov, nx = (gA, listOf (List.toArray us) k1) :: (sA, listOf (List.toArray ws) k2) :: (cD, listOf vs.toArray n) :: (L + 1 + 1 + 1 + 1, oc4) :: (L + 1 + 1 + 1, oc3) :: (dU, oU) :: (dD, oD) :: tabR w.params t td r t1 t2 oR sy ∧ IntsAre us (capS (fun c => c) (isW kf) (ns.take i)).1 ∧ IntsAre ws (capS dn (isW kf) (ns.take i)).1 ∧ m = endMap (!(capS dn (isW kf) (ns.take i)).2) ov sA gA cD t u0)
    (by rfl) (by k_asm) ?_ (.tail _ (.tail _ (.head _))) ?_ rfl rfl ⟨[], [], 0, 0, u0 (Str.ofString "own"), rfl, .nil, .nil, ?_⟩ ?_ ?_)
  · intro q hq
    refine N8 q ?_
    refine (List.mem_cons.mp hq).elim (fun e => by subst e; k_mem) (fun hq => ?_)
    refine (List.mem_cons.mp hq).elim (fun e => by subst e; k_mem) (fun hq => ?_)
    exact .tail _ (.tail _ (.tail _ hq))
  · rintro i m nx ⟨us, ws, k1, k2, ov, rfl, -⟩
    exact .tail _ (.tail _ (.head _))
  · exact end_map0
  · rintro i v m₁ nx h tk own hv hoff ⟨us, ws, k1, k2, ov, rfl, hus, hws, rfl⟩ F N
    obtain ⟨c, tc, rfl, hc⟩ := IntsAre.at hi i v hv
    have hil : i < ns.length := (List.getElem?_eq_some_iff.mp hc).1
    have hul : us.length = i := by rw [hus.length, capS_len, List.length_take]; omega
    have hwl : ws.length = i := by rw [hws.length, capS_len, List.length_take]; omega
    have hsn : (capS (fun c => c) (isW kf) (ns.take i)).2 = (capS dn (isW kf) (ns.take i)).2 := capS_snd _ _ _ _
    obtain ⟨sz, hsz⟩ : ∃ sz, sz = sy ++ own := ⟨_, rfl⟩
    have hoff2 : OwnOff sz [gA, sA] := by
      rw [hsz]
      intro q hq z hz
      simp only [List.mem_cons, List.not_mem_nil, or_false] at hz
      rcases List.mem_append.mp hq with hq | hq
      · rcases hz with rfl | rfl
        · exact Nat.ne_of_lt (lg q hq)
        · exact Nat.ne_of_lt (ls q hq)
      · rcases hz with rfl | rfl
        · exact hoff q hq _ (.head _)
        · exact hoff q hq _ (.tail _ (.head _))
    have hsub : ∀ q ∈ sy, q ∈ sz := fun q hq => by rw [hsz]; exact List.mem_append.mpr (.inl hq)
    have N1 : News g L h ((gA, listOf (List.toArray us) k1) :: (sA, listOf (List.toArray ws) k2) :: (cD, listOf vs.toArray n) :: (L + 1 + 1 + 1 + 1, oc4) :: (L + 1 + 1 + 1, oc3) :: (dU, oU) :: (dD, oD) :: (t, instObj 231 td) :: (td, tabD w.params t1 t2 r) :: (r, oR) :: sz) := hsz ▸ N
    clear N N8
    unfold endMap at F
    generalize hb : (!(capS dn (isW kf) (ns.take i)).2) = b at F
    k_steps
    refine Stop.go (cut_use (fun t => .int (if b then up c else c) t) (by k_asm) (by k_asm) ?_ ?_)
    · refine IfExp_ ?_
      k_steps
      · skip
        refine Stop.go (dmeth (knd := intKind _ _) (by (rename News _ _ _ _ => N7); exact dict_of (N7 (dU, oU) (by k_mem)).1 hdU) ?_)
        k_steps
        refine Stop.go (dget2 (knd := intKind _ _) (by (rename News _ _ _ _ => N7); exact dict_of (N7 (dU, oU) (by k_mem)).1 hdU) loU (intKind_is _ _ _ _) ?_)
        obtain ⟨u9, hu9⟩ := hUv c tc
        rw [hu9]
        k_steps
        exact Stop.go (cut_put (by k_asm) (by k_asm) ⟨u9, congrArg (fun x => Value.int x _) (if_pos (by assumption)).symm⟩)
      · exact Stop.go (cut_put (by k_asm) (by k_asm) ⟨tc, congrArg (fun x => Value.int x _) (if_neg (by simp only [Bool.not_eq_true]; assumption)).symm⟩)
    intro t9 h9 tk9 F9 N9
    k_steps
    refine Stop.go (cut_use (fun t => .int (if b then up c else dn c) t) (by k_asm) (by k_asm) ?_ ?_)
    · refine IfExp_ ?_
      k_steps
      · skip
        refine Stop.go (dmeth (knd := intKind _ _) (by (rename News _ _ _ _ => N7); exact dict_of (N7 (dU, oU) (by k_mem)).1 hdU) ?_)
        k_steps
        refine Stop.go (dget2 (knd := intKind _ _) (by (rename News _ _ _ _ => N7); exact dict_of (N7 (dU, oU) (by k_mem)).1 hdU) loU (intKind_is _ _ _ _) ?_)
        obtain ⟨u9, hu9⟩ := hUv c tc
        rw [hu9]
        k_steps
        exact Stop.go (cut_put (by k_asm) (by k_asm) ⟨u9, congrArg (fun x => Value.int x _) (if_pos (by assumption)).symm⟩)
      · skip
        refine Stop.go (dmeth (knd := intKind _ _) (by (rename News _ _ _ _ => N7); exact dict_of (N7 (dD, oD) (by k_mem)).1 hdD) ?_)
        k_steps
        refine Stop.go (dget2 (knd := intKind _ _) (by (rename News _ _ _ _ => N7); exact dict_of (N7 (dD, oD) (by k_mem)).1 hdD) loD (intKind_is _ _ _ _) ?_)
        obtain ⟨u9, hu9⟩ := hDv c tc
        rw [hu9]
        k_steps
        exact Stop.go (cut_put (by k_asm) (by k_asm) ⟨u9, congrArg (fun x => Value.int x _) (if_neg (by simp only [Bool.not_eq_true]; assumption)).symm⟩)
    intro t8 h8 tk8 F8 N8
    k_steps
    have hR9 : ∀ q ∈ tabR w.params t td r t1 t2 oR sy, q ∈ (t, instObj 231 td) :: (td, tabD w.params t1 t2 r) :: (r, oR) :: sz := fun q hq => by
      rcases List.mem_cons.mp hq with rfl | hq
      · exact .head _
      rcases List.mem_cons.mp hq with rfl | hq
      · exact .tail _ (.head _)
      rcases List.mem_cons.mp hq with rfl | hq
      · exact .tail _ (.tail _ (.head _))
      · exact .tail _ (.tail _ (.tail _ (hsub q hq)))
    k_dflt (refine' Stop.go (Ctr.useP (kind_c w _ _ _ t td r t1 t2 oR sy kvs c _ (kf c) hD lo (hk c)) ?B ?F ?X ?N ?T ?hk ?hR ?hd ?hu ?_); (case B => k_asm); (case F => k_asm); (case X => k_asm); (case N => k_asm); (case T => k_asm); (case hk => first | exact rfl | assumption); (case hd => ktr_room); (case hu => ktr_units); (case hR => exact fun q hq => ((by (rename News _ _ _ _ => N7); exact (N7 q (.tail _ (.tail _ (.tail _ (.tail _ (.tail _ (.tail _ (.tail _ (hR9 q hq))))))))).1)))); rintro v9 h9 tk9 ⟨u9, rfl⟩ F9 N9; (try dsimp only)
    k_steps
    (rename News _ _ _ _ => N7)
    rw [List.push_toArray, List.push_toArray, hsz] at N7
    have et := take_next hc
    refine Stop.go (InvEndG.intro (nx := (gA, listOf (List.toArray (us ++ [_])) _) :: (sA, listOf (List.toArray (ws ++ [_])) _) :: (cD, listOf vs.toArray n) :: (L + 1 + 1 + 1 + 1, oc4) :: (L + 1 + 1 + 1, oc3) :: (dU, oU) :: (dD, oD) :: tabR w.params t td r t1 t2 oR sy) (by k_asm) N7 ⟨us ++ [_], ws ++ [_], _, _, some (.int c tc), rfl, ?_, ?_, ?_⟩ hoff (fun q hq => List.mem_append.mpr (.inl hq)) (fun q hq => .tail _ (.tail _ (.tail _ (.tail _ (.tail _ (.tail _ (.tail _ (.tail _ (.tail _ (.tail _ (List.mem_append.mpr (.inr hq)))))))))))))
    · rw [et, capS_snoc]
      refine IntsAre.append hus ?_
      rw [hsn]
      cases hx : (capS dn (isW kf) (ns.take i)).2 with
      | true =>
        rw [hx] at hb
        subst hb
        exact .cons _ _ .nil
      | false =>
        rw [hx] at hb
        subst hb
        exact .cons _ _ .nil
    · rw [et, capS_snoc]
      refine IntsAre.append hws ?_
      cases hx : (capS dn (isW kf) (ns.take i)).2 with
      | true =>
        rw [hx] at hb
        subst hb
        exact .cons _ _ .nil
      | false =>
        rw [hx] at hb
        subst hb
        exact .cons _ _ .nil
    · rw [et, capS_snoc]
      exact end_map1
  · rintro m₁ nx h tk ⟨us, ws, k1, k2, ov, rfl, hus, hws, rfl⟩ F N
    unfold endMap at F
    rw [hi.length, List.take_length] at hus hws
    k_steps
    k_dflt (refine' Stop.go (Ctr.use0 (ini_c w mean mg mb t td r t1 t2 oR sy kvs kf cD vs n ns hD lo hk hi (by omega)) ?B ?F ?X ?N ?T ?hk ?hR ?hd ?hu ?_); (case B => k_asm); (case F => k_asm); (case X => k_asm); (case N => k_asm); (case T => k_asm); (case hk => first | exact rfl | assumption); (case hd => ktr_room); (case hu => ktr_units); (case hR => exact fun q hq => (N q (.tail _ (.tail _ ((List.mem_cons.mp hq).elim (fun e => by rw [e]; exact .head _) fun hq => .tail _ (.tail _ (.tail _ (.tail _ (.tail _ hq)))))))).1)); rintro v9 A9 h9 tk9 ⟨f9, f9s, k9, rfl, rfl, hf9⟩ F9 N9 D9; (try dsimp only [List.nil_append, List.cons_append] at N9); (try dsimp only)
    k_steps
    k_dflt (refine' Stop.go (Ctr.use0 (cap_c w mean mg mb t td r t1 t2 oR sy kvs kf cD vs n ns hD lo hk hi (by omega)) ?B ?F ?X ?N ?T ?hk ?hR ?hd ?hu ?_); (case B => k_asm); (case F => k_asm); (case X => k_asm); (case N => k_asm); (case T => k_asm); (case hk => first | exact rfl | assumption); (case hd => ktr_room); (case hu => ktr_units); (case hR => exact fun q hq => (by (rename News _ _ _ _ => N7); exact (N7 q (.tail _ (.tail _ (.tail _ ((List.mem_cons.mp hq).elim (fun e => by rw [e]; exact .head _) fun hq => .tail _ (.tail _ (.tail _ (.tail _ (.tail _ hq))))))))).1))); rintro v9 A9 h9 tk9 ⟨g9, g9s, k8, rfl, rfl, hg9⟩ F9 N9 D9; (try dsimp only [List.nil_append, List.cons_append] at N9); (try dsimp only)
    k_steps
    exact hret _ _ _ (by k_asm)
end
end
section
open PySem PySem.W PyProof.Rows PySem.Calls
set_option maxHeartbeats 4000000
theorem execs_split {M : Model} {A : Around} {env : Env} {a : Stmt} {b : List Stmt} {Q : Flow → Shared → Prop} {E : Value → Shared → Prop} {s : Shared}
    (h : wpAny M A (exec a env) (fun f s' => match f with | .next => Stop (wpAny M A (execs b env) Q E s') | f => Q f s') E s) : wpAny M A (execs (a :: b) env) Q E s :=
  wpAny_execs_cons (wpAny_mono h (fun f _ h => by cases f <;> exact h) (fun _ _ h => h))
section
variable (w : World) (mean : ExcName → Option Value) (mg mb : Str → Option Value)
variable (t td r cD dD dU : Addr) (t1 t2 : Tok) (oR oD oU oc3 oc4 : Obj) (sy : List (Addr × Obj)) (kvs kvD kvU : List (Int × Value)) (kf : Int → Str) (vs : List Value) (n : Nat) (ns : List Int)
theorem law_seven {g h : Heap} {L fa : Addr} {cdv : Value} {sh : Shared} {tk : Nat} {Q : Flow → Shared → Prop} {u0 : Str → Option Value}
    (B : Below callerA g [] g) (X : (hd.heap_39 w.params).In g) (T : Top vw (looseW vw []) mean mg mb g)
    (hD : oR.IsDictOf (intKind PySem.Challenge.pw_pq0347_02 w) kvs) (lo : (r == sysModules) = false) (hk : ∀ c, KindIs w.params sy kvs c (kf c))
    (hdD : oD.IsDictOf (intKind PySem.Challenge.pw_pq0347_02 w) kvD) (loD : (dD == sysModules) = false) (hDv : ∀ c t, ∃ u, (valueAt kvD c).getD (.int c t) = .int (dn c) u) (hDs : ∀ c, (valueAt kvD c).isSome = (dn c != c))
    (hdU : oU.IsDictOf (intKind PySem.Challenge.pw_pq0347_02 w) kvU) (loU : (dU == sysModules) = false) (hUv : ∀ c t, ∃ u, (valueAt kvU c).getD (.int c t) = .int (up c) u)
    (hi : IntsAre vs ns) (hlen : ns.length ≤ 50) (c3 : oc3.data = .cell (some (.ref dD))) (c4 : oc4.data = .cell (some (.ref dU)))
    (F : Fr g L h (fun y => if y = Str.ofString "codes" then some (.ref cD) else if y = Str.ofString "table" then some (.ref t) else u0 y))
    (N : News g L h ((cD, listOf vs.toArray n) :: (L + 1 + 1 + 1 + 1, oc4) :: (L + 1 + 1 + 1, oc3) :: (dU, oU) :: (dD, oD) :: tabR w.params t td r t1 t2 oR sy))
    (hret : ∀ h' tk' m', Fr g L h' m' → Q (.ret (.bool true)) { sh with heap := h', toks := tk' }) :
    wpAny (model PySem.Challenge.pw_pq0347_02 w) (Around.deeper callerA (lawEnv L fa cdv)) (execs (lawDef.1.drop 7) (lawEnv L fa cdv)) Q (fun _ _ => False) { sh with heap := h, toks := tk } := by
  have hSC := stopC
  have hSR := stopR
  show wpAny _ _ (execs (_ :: _) _) _ _ _
  refine execs_split ?_
  k_steps
  k_dflt (refine' Stop.go (Ctr.useP (hasup_c w _ _ _ _ _ _ ns hi (by omega)) ?B ?F ?X ?N ?T ?hk ?hR ?hd ?hu ?_); (case B => k_asm); (case F => k_asm); (case X => k_asm); (case N => k_asm); (case T => k_asm); (case hk => first | exact rfl | assumption); (case hd => ktr_room); (case hu => ktr_units); (case hR => exact fun q hq => by rw [List.mem_singleton.mp hq]; (rename News _ _ _ _ => N7); exact (N7 _ (by k_mem)).1)); rintro v9 h9 tk9 rfl F9 N9; (try dsimp only)
  k_steps
  refine Stop.go (LCt.ListComp_T (F₀ := by k_asm) (by with_unfolding_all rfl) (by decide) (by rfl) (by decide) (by rfl) ?_)
  k_steps
  refine Stop.go (LCt.CompSrcT.ledger (by rfl) (by k_asm) (by k_asm) (by k_mem) (by rw [List.size_toArray, hi.length, PySem.sizeLine_eq]; omega) fun g' => comp_baseT (fun k => dn k != k) hi ?_ ?_)
  · intro k9 t9 ys9 I oI C oC D9 m₂ h9 tk9 E' hk9 hC hx F N off ne
    k_steps
    refine Stop.go (din (knd := intKind _ _) (by (rename News _ _ _ _ => N7); exact dict_of (N7 (dD, oD) (by k_mem)).1 hdD) loD (intKind_is _ _ _ _) ?_)
    rw [hDs]
    generalize hb9 : (dn k9 != k9) = b9
    k_steps
    · exact Stop.go (LCg.CompEnd.intro (by k_asm) (by k_asm) _ (fun _ h => h) off (.inr ⟨_, by k_mem, rfl, _, rfl⟩) ⟨rfl, by assumption, _, rfl⟩)
    · exact Stop.go (LCg.CompEnd.intro (by k_asm) (by k_asm) _ (fun _ h => h) off (.inr ⟨_, by k_mem, rfl, _, rfl⟩) ⟨rfl, by assumption⟩)
  intro ys9 hf9 D9 h9 tk9 F9 N9 off9
  have hSE := stopE
  k_steps
  refine Stop.go (ke_ne_ints (News.isList (by k_asm) (by k_mem)) (News.isList (by k_asm) (by k_mem)) hf9 .nil (by ke_room) ?_)
  rw [any_filter]
  generalize List.any ns _ = bb
  clear hSE hf9
  k_steps
  · exfalso
    simp_all
  exact Stop.go (law_end w mean mg mb t td r cD dD dU t1 t2 oR oD oU oc3 oc4 sy kvs kvD kvU kf vs n ns (sh := sh) B X T hD lo hk hdD loD hDv hdU loU hUv hi hlen c3 c4 (by k_asm) (fun q hq => by (rename News _ _ _ _ => N7); exact N7 q (by (repeat (first | exact hq | refine List.Mem.tail _ ?_)))) hret)
theorem law_six {g h : Heap} {L fa : Addr} {cdv : Value} {sh : Shared} {tk : Nat} {Q : Flow → Shared → Prop} {u0 : Str → Option Value}
    (B : Below callerA g [] g) (X : (hd.heap_39 w.params).In g) (T : Top vw (looseW vw []) mean mg mb g)
    (hD : oR.IsDictOf (intKind PySem.Challenge.pw_pq0347_02 w) kvs) (lo : (r == sysModules) = false) (hk : ∀ c, KindIs w.params sy kvs c (kf c))
    (hdD : oD.IsDictOf (intKind PySem.Challenge.pw_pq0347_02 w) kvD) (loD : (dD == sysModules) = false) (hDv : ∀ c t, ∃ u, (valueAt kvD c).getD (.int c t) = .int (dn c) u) (hDs : ∀ c, (valueAt kvD c).isSome = (dn c != c))
    (hdU : oU.IsDictOf (intKind PySem.Challenge.pw_pq0347_02 w) kvU) (loU : (dU == sysModules) = false) (hUv : ∀ c t, ∃ u, (valueAt kvU c).getD (.int c t) = .int (up c) u)
    (hi : IntsAre vs ns) (hlen : ns.length ≤ 50) (c3 : oc3.data = .cell (some (.ref dD))) (c4 : oc4.data = .cell (some (.ref dU)))
    (F : Fr g L h (fun y => if y = Str.ofString "codes" then some (.ref cD) else if y = Str.ofString "table" then some (.ref t) else u0 y))
    (N : News g L h ((cD, listOf vs.toArray n) :: (L + 1 + 1 + 1 + 1, oc4) :: (L + 1 + 1 + 1, oc3) :: (dU, oU) :: (dD, oD) :: tabR w.params t td r t1 t2 oR sy))
    (hret : ∀ h' tk' m', Fr g L h' m' → Q (.ret (.bool true)) { sh with heap := h', toks := tk' }) :
    wpAny (model PySem.Challenge.pw_pq0347_02 w) (Around.deeper callerA (lawEnv L fa cdv)) (execs (lawDef.1.drop 6) (lawEnv L fa cdv)) Q (fun _ _ => False) { sh with heap := h, toks := tk } := by
  have hSC := stopC
  have hSR := stopR
  show wpAny _ _ (execs (_ :: _) _) _ _ _
  refine execs_split ?_
  k_steps
  k_dflt (refine' Stop.go (Ctr.use0 (upd_c w _ _ _ _ _ _ ns hi (by omega)) ?B ?F ?X ?N ?T ?hk ?hR ?hd ?hu ?_); (case B => k_asm); (case F => k_asm); (case X => k_asm); (case N => k_asm); (case T => k_asm); (case hk => first | exact rfl | assumption); (case hd => ktr_room); (case hu => ktr_units); (case hR => exact fun q hq => by rw [List.mem_singleton.mp hq]; (rename News _ _ _ _ => N7); exact (N7 _ (by k_mem)).1)); rintro v9 A9 h9 tk9 ⟨g9, g9s, rfl, rfl, hg9⟩ F9 N9 D9; (try dsimp only [List.nil_append, List.cons_append] at N9); (try dsimp only)
  k_steps
  refine Stop.go (LCg.ListComp_U (F₀ := by k_asm) (by with_unfolding_all rfl) (by decide) (by rfl) (by decide) (by rfl) ?_)
  k_steps
  refine Stop.go (LCg.CompSrc.ledger (by rfl) (by k_asm) (by k_asm) (by k_mem) (by rw [List.size_toArray, hi.length, PySem.sizeLine_eq]; omega) fun g' => comp_base (fun k y => ∃ t, y = .int (up k) t) hi ?_ ?_)
  · intro k9 t9 ys9 I oI C oC D9 m₂ h9 tk9 E' hk9 hC hx F N off ne
    k_steps
    refine Stop.go (dmeth (knd := intKind _ _) (by (rename News _ _ _ _ => N7); exact dict_of (N7 (dU, oU) (by k_mem)).1 hdU) ?_)
    k_steps
    refine Stop.go (dget2 (knd := intKind _ _) (by (rename News _ _ _ _ => N7); exact dict_of (N7 (dU, oU) (by k_mem)).1 hdU) loU (intKind_is _ _ _ _) ?_)
    obtain ⟨u9, hu9⟩ := hUv k9 t9
    rw [hu9]
    k_steps
    exact Stop.go (LCg.CompEnd.intro (by k_asm) (by k_asm) _ (fun _ h => h) off (.inr ⟨_, by k_mem, rfl, _, rfl⟩) ⟨rfl, u9, rfl⟩)
  intro ys9 hy9 D9 h9 tk9 F9 N9 off9
  have hc1 := all2_ints hy9
  k_steps
  k_dflt (refine' Stop.go (Ctr.use0 (dnd_c w _ _ _ _ _ _ ns hi (by omega)) ?B ?F ?X ?N ?T ?hk ?hR ?hd ?hu ?_); (case B => k_asm); (case F => k_asm); (case X => k_asm); (case N => k_asm); (case T => k_asm); (case hk => first | exact rfl | assumption); (case hd => ktr_room); (case hu => ktr_units); (case hR => exact fun q hq => by rw [List.mem_singleton.mp hq]; (rename News _ _ _ _ => N7); exact (N7 _ (by k_mem)).1)); rintro v9 A9 h9 tk9 ⟨l9, l9s, rfl, rfl, hl9⟩ F9 N9 D9; (try dsimp only [List.nil_append, List.cons_append] at N9); (try dsimp only)
  k_steps
  refine Stop.go (LCg.ListComp_U (F₀ := by k_asm) (by with_unfolding_all rfl) (by decide) (by rfl) (by decide) (by rfl) ?_)
  k_steps
  refine Stop.go (LCg.CompSrc.ledger (by rfl) (by k_asm) (by k_asm) (by k_mem) (by rw [List.size_toArray, hi.length, PySem.sizeLine_eq]; omega) fun g' => comp_base (fun k y => ∃ t, y = .int (dn k) t) hi ?_ ?_)
  · intro k9 t9 ys9 I oI C oC D9 m₂ h9 tk9 E' hk9 hC hx F N off ne
    k_steps
    refine Stop.go (dmeth (knd := intKind _ _) (by (rename News _ _ _ _ => N7); exact dict_of (N7 (dD, oD) (by k_mem)).1 hdD) ?_)
    k_steps
    refine Stop.go (dget2 (knd := intKind _ _) (by (rename News _ _ _ _ => N7); exact dict_of (N7 (dD, oD) (by k_mem)).1 hdD) loD (intKind_is _ _ _ _) ?_)
    obtain ⟨u9, hu9⟩ := hDv k9 t9
    rw [hu9]
    k_steps
    exact Stop.go (LCg.CompEnd.intro (by k_asm) (by k_asm) _ (fun _ h => h) off (.inr ⟨_, by k_mem, rfl, _, rfl⟩) ⟨rfl, u9, rfl⟩)
  intro ys9 hy9 D9 h9 tk9 F9 N9 off9
  have hc2 := all2_ints hy9
  k_steps
  exact Stop.go (law_seven w mean mg mb t td r cD dD dU t1 t2 oR oD oU oc3 oc4 sy kvs kvD kvU kf vs n ns (sh := sh) B X T hD lo hk hdD loD hDv hDs hdU loU hUv hi hlen c3 c4 (by k_asm) (fun q hq => by (rename News _ _ _ _ => N7); exact N7 q (by (repeat (first | exact hq | refine List.Mem.tail _ ?_)))) hret)
end
end
section
open PySem PySem.W PyProof.Rows PySem.Calls
set_option maxHeartbeats 4000000
theorem keys_dn (c : Int) : (if c ∈ keysL then c + 32 else c) = dn c := by
  unfold dn
  by_cases h : c ∈ keysL
  · rw [if_pos h, if_pos (mem_keys.mp h)]
  · rw [if_neg h, if_neg fun q => h (mem_keys.mpr q)]
def lowsL : List Int := keysL.map fun c => c + 32
theorem mem_lows {c : Int} : c ∈ lowsL ↔ (97 ≤ c ∧ c ≤ 122) ∨ (224 ≤ c ∧ c ≤ 254 ∧ c ≠ 247) := by
  have h : c ∈ lowsL ↔ c - 32 ∈ keysL := by
    unfold lowsL
    rw [List.mem_map]
    constructor
    · rintro ⟨x, hx, rfl⟩; rw [show x + 32 - 32 = x from by omega]; exact hx
    · intro hx; exact ⟨c - 32, hx, by omega⟩
  rw [h, mem_keys]
  omega
theorem keys_up (c : Int) : (if c ∈ lowsL then c - 32 else c) = up c := by
  unfold up
  by_cases h : c ∈ lowsL
  · rw [if_pos h, if_pos (mem_lows.mp h)]
  · rw [if_neg h, if_neg fun q => h (mem_lows.mpr q)]
theorem keys_any (c : Int) : decide (c ∈ keysL) = (dn c != c) := by
  by_cases h : c ∈ keysL
  · rw [decide_eq_true h, ← keys_dn, if_pos h]
    exact (bne_iff_ne.mpr (by omega)).symm
  · rw [decide_eq_false h, ← keys_dn, if_neg h]
    exact (bne_self_eq_false c).symm
theorem news_dropG {h₀ : Heap} {L : Addr} {h : Heap} {X Y : Addr × Obj} {ts rest : List (Addr × Obj)} (N : News h₀ L h (X :: Y :: (ts ++ rest))) : News h₀ L h (X :: rest) := fun q hq => N q (by
  rcases List.mem_cons.mp hq with rfl | hq
  · exact .head _
  · exact .tail _ (.tail _ (List.mem_append.mpr (.inr hq))))
theorem five_ledger {h₀ h : Heap} {L : Addr} {X1 DU DD C P L4 L3 : Addr × Obj} {sy : List (Addr × Obj)} (N : News h₀ L h (X1 :: DU :: DD :: C :: P :: L4 :: L3 :: sy)) : News h₀ L h (C :: L4 :: L3 :: DU :: DD :: sy) := fun q hq => N q (by
  simp only [List.mem_cons] at hq ⊢
  grind)
section
variable (w : World) (mean : ExcName → Option Value) (mg mb : Str → Option Value)
variable (t td r cD pD : Addr) (t1 t2 : Tok) (oR oc3 oc4 : Obj) (sy ts : List (Addr × Obj)) (kvs : List (Int × Value)) (kf : Int → Str) (vs pys : List Value) (n pk : Nat) (ns : List Int) (ps : List (Int × Value)) (pL : List (Int × Int))
theorem law_five {g h : Heap} {L fa : Addr} {cdv : Value} {sh : Shared} {tk : Nat} {Q : Flow → Shared → Prop} {u0 : Str → Option Value}
    (B : Below callerA g [] g) (X : (hd.heap_39 w.params).In g) (T : Top vw (looseW vw []) mean mg mb g)
    (hD : oR.IsDictOf (intKind PySem.Challenge.pw_pq0347_02 w) kvs) (lo : (r == sysModules) = false) (hk : ∀ c, KindIs w.params sy kvs c (kf c))
    (hp : PairsIn ts pys ps) (hm : PA ps pL) (hpL : pL = pairsL) (hts : ∀ q ∈ ts, q ∈ sy)
    (hi : IntsAre vs ns) (hlen : ns.length ≤ 50) (c3 : oc3.data = .cell none) (c4 : oc4.data = .cell none)
    (F : Fr g L h (fun y => if y = Str.ofString "codes" then some (.ref cD) else if y = Str.ofString "table" then some (.ref t) else if y = Str.ofString "pairs" then some (.ref pD) else u0 y))
    (N : News g L h ((cD, listOf vs.toArray n) :: (pD, listOf pys.toArray pk) :: (L + 1 + 1 + 1 + 1, oc4) :: (L + 1 + 1 + 1, oc3) :: tabR w.params t td r t1 t2 oR sy))
    (hx4 : @Ne Nat cD (L + 1 + 1 + 1 + 1) ∧ @Ne Nat pD (L + 1 + 1 + 1 + 1) ∧ @Ne Nat t (L + 1 + 1 + 1 + 1) ∧ @Ne Nat td (L + 1 + 1 + 1 + 1) ∧ @Ne Nat r (L + 1 + 1 + 1 + 1))
    (hx3 : @Ne Nat cD (L + 1 + 1 + 1) ∧ @Ne Nat pD (L + 1 + 1 + 1) ∧ @Ne Nat t (L + 1 + 1 + 1) ∧ @Ne Nat td (L + 1 + 1 + 1) ∧ @Ne Nat r (L + 1 + 1 + 1))
    (hoff : OwnOff sy [L + 1 + 1 + 1 + 1, L + 1 + 1 + 1])
    (hret : ∀ h' tk' m', Fr g L h' m' → Q (.ret (.bool true)) { sh with heap := h', toks := tk' }) :
    wpAny (model PySem.Challenge.pw_pq0347_02 w) (Around.deeper callerA (lawEnv L fa cdv)) (execs (lawDef.1.drop 5) (lawEnv L fa cdv)) Q (fun _ _ => False) { sh with heap := h, toks := tk } := by
  have hSC := stopC
  obtain ⟨e1, e2, e3, e4, e5⟩ := hx4
  obtain ⟨f1, f2, f3, f4, f5⟩ := hx3
  have hpl : pL.length = 56 := by rw [hpL]; decide
  have hpy : pys.length = 56 := by rw [hp.1, hm.1]; exact hpl
  show wpAny _ _ (execs (_ :: _) _) _ _ _
  refine execs_split ?_
  k_steps
  refine Stop.go (dict_pairs (ps := ps) (by rfl) (by k_asm) (by k_asm) (big_of w X) (N _ (.tail _ (.head _))).1 (hp.at N fun q hq => .tail _ (.tail _ (.tail _ (.tail _ (.tail _ (.tail _ (.tail _ (hts q hq)))))))) (by omega) ?_)
  intro dD oD h9 tk9 hdD loD lD F9 N9
  have hkD : KvF (fun c => c + 32) keysL _ := PA.kv hm (by rw [hpL]; decide) keys_nodup (G := fun c => c + 32) (by rw [hpL]; decide)
  generalize List.foldl _ [] ps = kvD at hdD hkD
  k_lt lD
  clear N F
  k_steps
  refine Stop.go (LCp.ListComp_P (by k_asm) (by with_unfolding_all rfl) (by decide) (by rfl) (by decide) (by rfl) (by rfl) (by decide) ?_)
  k_steps
  refine LCp.SrcLP.ledger (its := pys.toArray) (k := pk) (by rfl) (by k_asm) (by k_asm) (.tail _ (.tail _ (.head _))) (by rw [List.size_toArray, hpy, PySem.sizeLine_eq]; decide) fun g' => comp_restP (MkJ (fun i => (pL.take i).map fun q => (q.2, q.1)) _) (MkJ.zero rfl) ?_ ?_
  · rintro i v us nw hv hJ
    obtain ⟨T1, oT, p, kk, t', u, n', rfl, hT, hcl, hdt, hpi⟩ := hp.pair hm (show pys[i]? = some v by simpa using hv)
    refine ⟨T1, oT, .int p t', .int kk u, n', rfl, hJ.mem (.tail _ (.tail _ (.tail _ (.tail _ (.tail _ (.tail _ (.tail _ (.tail _ (hts _ hT))))))))), hcl, hdt, ?_⟩
    intro I oI C oC D m₂ h tk E' hC hx hx₂ F N off ne
    have hmp := hJ.mem (q := (pD, listOf pys.toArray pk)) (.tail _ (.tail _ (.head _)))
    k_steps
    exact Stop.go (comp_end_new (by k_asm) (by k_asm) ⟨Nat.ne_of_gt (by omega), Nat.ne_of_gt (by omega), Nat.ne_of_gt (by omega)⟩ off (.inr ⟨_, .tail _ hmp, rfl, _, rfl⟩) (hJ.next (by show List.map _ (List.take (i + 1) pL) = _; rw [take_next hpi, List.map_append]; rfl) rfl rfl))
  rintro us nw ⟨ts2, ps2, rfl, hp2, hm2⟩ D h tk F N off
  dsimp only at hm2
  rw [show List.take pys.toArray.size pL = pL from List.take_of_length_le (by rw [List.size_toArray]; omega)] at hm2
  k_steps
  refine Stop.go (dict_pairs (ps := ps2) (by rfl) (by k_asm) (by k_asm) (big_of w X) (N _ (.head _)).1 (hp2.at N fun q hq => .tail _ (List.mem_append.mpr (.inl hq))) (by rw [hp2.1, hm2.1, List.length_map]; omega) ?_)
  intro dU oU h9 tk9 hdU loU lU F9 N9
  have hkU : KvF (fun c => c - 32) lowsL _ := PA.kv hm2 (by rw [hpL]; decide) (by decide) (G := fun c => c - 32) (by rw [hpL]; decide)
  generalize List.foldl _ [] ps2 = kvU at hdU hkU
  have N8 := news_dropG N9
  have hlt := allLt_of fun q hq => lU q (.tail _ (List.mem_append.mpr (.inr hq)))
  simp only [AllLt, and_true] at hlt
  clear N9 N F hp2 hm2 lU off
  k_steps
  (rename News _ _ _ _ => N7)
  (rename Obj.data _ = Data.cell (some (Value.ref dD)) => c3')
  (rename Obj.data _ = Data.cell (some (Value.ref dU)) => c4')
  exact Stop.go (law_six w mean mg mb t td r cD dD dU t1 t2 oR oD oU _ _ sy kvs kvD kvU kf vs n ns (sh := sh) B X T hD lo hk hdD loD (fun c t => (hkD.getD c c t).imp fun u e => by rw [e, keys_dn]) (fun c => by rw [hkD.isSome, keys_any]) hdU loU (fun c t => (hkU.getD c c t).imp fun u e => by rw [e, keys_up]) hi hlen c3' c4' (by k_asm) (five_ledger N7) hret)
end
end
section
open PySem PySem.W PyProof.Rows PySem.Calls
set_option maxHeartbeats 4000000
theorem map_codes {D t p : Addr} {m : Str → Option Value} (h1 : m (Str.ofString "table") = some (.ref t)) (h2 : m (Str.ofString "pairs") = some (.ref p)) : (fun y => if y = Str.ofString "codes" then some (Value.ref D) else m y) = fun y => if y = Str.ofString "codes" then some (Value.ref D) else if y = Str.ofString "table" then some (.ref t) else if y = Str.ofString "pairs" then some (.ref p) else m y := by
  funext y
  by_cases e0 : y = Str.ofString "codes"
  · rw [if_pos e0, if_pos e0]
  rw [if_neg e0, if_neg e0]
  by_cases e1 : y = Str.ofString "table"
  · rw [if_pos e1, e1, h1]
  rw [if_neg e1]
  by_cases e2 : y = Str.ofString "pairs"
  · rw [if_pos e2, e2, h2]
  rw [if_neg e2]
theorem map_two {t p : Addr} {m : Str → Option Value} (h1 : m (Str.ofString "table") = some (.ref t)) (h2 : m (Str.ofString "pairs") = some (.ref p)) : m = fun y => if y = Str.ofString "table" then some (.ref t) else if y = Str.ofString "pairs" then some (.ref p) else m y := by
  funext y
  by_cases e1 : y = Str.ofString "table"
  · rw [if_pos e1, e1, h1]
  rw [if_neg e1]
  by_cases e2 : y = Str.ofString "pairs"
  · rw [if_pos e2, e2, h2]
  rw [if_neg e2]
theorem three_ledger {h₀ h : Heap} {L : Addr} {C D M P L4 L3 L2 L1 : Addr × Obj} {sy : List (Addr × Obj)} (N : News h₀ L h (C :: D :: M :: P :: L4 :: L3 :: L2 :: L1 :: sy)) : News h₀ L h (C :: P :: L4 :: L3 :: sy) := fun q hq => N q (by
  simp only [List.mem_cons] at hq ⊢
  grind)
theorem swap2 {h₀ h : Heap} {L : Addr} {M D : Addr × Obj} {sy : List (Addr × Obj)} (N : News h₀ L h (M :: D :: sy)) : News h₀ L h (D :: M :: sy) := fun q hq => N q (by
  simp only [List.mem_cons] at hq ⊢
  grind)
def menuL : List Int := [97, 122, 65, 90, 224, 192, 48, 32, 46, 95, 10]
def MenuJ (d : Addr) (rest : List (Addr × Obj)) (i : Nat) (ys : List Value) (nw : List (Addr × Obj)) : Prop :=
  ∃ us ds dus k1, IntsAre ys us ∧ us.length = i ∧ nw = (d, listOf (List.toArray ds) k1) :: rest ∧ IntsAre ds dus ∧ dus.length ≤ 16
section
variable (w : World) (mean : ExcName → Option Value) (mg mb : Str → Option Value)
variable (t td r d pD : Addr) (t1 t2 : Tok) (oR oc1 oc2 oc3 oc4 : Obj) (sy ts : List (Addr × Obj)) (kvs : List (Int × Value)) (kf : Int → Str) (ds pys : List Value) (k1 pk : Nat) (dus : List Int) (ps : List (Int × Value)) (pL : List (Int × Int))
theorem law_three {g h : Heap} {L fa : Addr} {cdv : Value} {sh : Shared} {tk : Nat} {Q : Flow → Shared → Prop} {u0 : Str → Option Value}
    (B : Below callerA g [] g) (X : (hd.heap_39 w.params).In g) (T : Top vw (looseW vw []) mean mg mb g)
    (hD : oR.IsDictOf (intKind PySem.Challenge.pw_pq0347_02 w) kvs) (lo : (r == sysModules) = false) (hk : ∀ c, KindIs w.params sy kvs c (kf c))
    (hp : PairsIn ts pys ps) (hm : PA ps pL) (hpL : pL = pairsL) (hts : ∀ q ∈ ts, q ∈ sy)
    (hi : IntsAre ds dus) (hlen : dus.length ≤ 16) (c1 : oc1.data = .cell (some (.ref d))) (c2 : oc2.data = .cell none) (c3 : oc3.data = .cell none) (c4 : oc4.data = .cell none)
    (F : Fr g L h (fun y => if y = Str.ofString "table" then some (.ref t) else if y = Str.ofString "pairs" then some (.ref pD) else u0 y))
    (N : News g L h ((d, listOf ds.toArray k1) :: (pD, listOf pys.toArray pk) :: (L + 1 + 1 + 1 + 1, oc4) :: (L + 1 + 1 + 1, oc3) :: (L + 1 + 1, oc2) :: (L + 1, oc1) :: tabR w.params t td r t1 t2 oR sy))
    (hxd : @Ne Nat pD d ∧ @Ne Nat (L + 1 + 1 + 1 + 1) d ∧ @Ne Nat (L + 1 + 1 + 1) d ∧ @Ne Nat (L + 1 + 1) d ∧ @Ne Nat (L + 1) d ∧ @Ne Nat t d ∧ @Ne Nat td d ∧ @Ne Nat r d)
    (hx4 : @Ne Nat pD (L + 1 + 1 + 1 + 1) ∧ @Ne Nat t (L + 1 + 1 + 1 + 1) ∧ @Ne Nat td (L + 1 + 1 + 1 + 1) ∧ @Ne Nat r (L + 1 + 1 + 1 + 1))
    (hx3 : @Ne Nat pD (L + 1 + 1 + 1) ∧ @Ne Nat t (L + 1 + 1 + 1) ∧ @Ne Nat td (L + 1 + 1 + 1) ∧ @Ne Nat r (L + 1 + 1 + 1))
    (hx2 : @Ne Nat pD (L + 1 + 1) ∧ @Ne Nat t (L + 1 + 1) ∧ @Ne Nat td (L + 1 + 1) ∧ @Ne Nat r (L + 1 + 1))
    (hoff : OwnOff sy [d, L + 1 + 1 + 1 + 1, L + 1 + 1 + 1, L + 1 + 1])
    (hret : ∀ h' tk' m', Fr g L h' m' → Q (.ret (.bool true)) { sh with heap := h', toks := tk' }) :
    wpAny (model PySem.Challenge.pw_pq0347_02 w) (Around.deeper callerA (lawEnv L fa cdv)) (execs (lawDef.1.drop 3) (lawEnv L fa cdv)) Q (fun _ _ => False) { sh with heap := h, toks := tk } := by
  have hSC := stopC
  have hSR := stopR
  obtain ⟨a1, a2, a3, a4, a5, a6, a7, a8⟩ := hxd
  obtain ⟨e1, e2, e3, e4⟩ := hx4
  obtain ⟨f1, f2, f3, f4⟩ := hx3
  obtain ⟨g1, g2, g3, g4⟩ := hx2
  show wpAny _ _ (execs (_ :: _) _) _ _ _
  refine execs_split ?_
  k_steps
  refine Stop.go ?_
  show wpAny _ _ (execs (_ :: _) _) _ _ _
  refine execs_split ?_
  k_steps
  rename_i mD _ lm _ oM _ N7 c2'
  replace N7 := swap2 N7
  generalize hmn : (Value.int 97 _ :: _ : List Value) = its at N7
  have hIs : IntsAre its menuL := by rw [← hmn]; unfold menuL; repeat constructor
  have hIl : menuL.length = 11 := rfl
  clear hmn
  have hne : ∀ q ∈ (mD, listOf its.toArray 0) :: (pD, listOf pys.toArray pk) :: (L + 1 + 1 + 1 + 1, oc4) :: (L + 1 + 1 + 1, oc3) :: (L + 1 + 1, oM) :: (L + 1, oc1) :: tabR w.params t td r t1 t2 oR sy, q.1 ≠ d := fun q hq => by
    refine (List.mem_cons.mp hq).elim (fun e => by subst e; exact Nat.ne_of_gt lm.1) (fun hq => ?_)
    refine (List.mem_cons.mp hq).elim (fun e => by subst e; exact a1) (fun hq => ?_)
    refine (List.mem_cons.mp hq).elim (fun e => by subst e; exact a2) (fun hq => ?_)
    refine (List.mem_cons.mp hq).elim (fun e => by subst e; exact a3) (fun hq => ?_)
    refine (List.mem_cons.mp hq).elim (fun e => by subst e; exact a4) (fun hq => ?_)
    refine (List.mem_cons.mp hq).elim (fun e => by subst e; exact a5) (fun hq => ?_)
    refine (List.mem_cons.mp hq).elim (fun e => by subst e; exact a6) (fun hq => ?_)
    refine (List.mem_cons.mp hq).elim (fun e => by subst e; exact a7) (fun hq => ?_)
    refine (List.mem_cons.mp hq).elim (fun e => by subst e; exact a8) (fun hq => ?_)
    exact hoff q hq d (.head _)
  refine Stop.go (LCg.Assign_ListComp_U (F₀ := by k_asm) (by rfl) (by with_unfolding_all rfl) (by with_unfolding_all rfl) (by decide) (by rfl) (by decide) (by rfl) (by rfl) (by rfl) ?_)
  k_steps
  refine Stop.go (Ctr.use1_0 (draw_c w mean mg mb d ds dus k1 _ 10 hi hlen (by decide) (by decide)) (by k_asm) (by k_asm) (by k_asm) N7 (by k_asm) (by first | exact rfl | assumption) (by ktr_room) (by ktr_units) hne (fun _ h => (nomatch h)) ?_)
  rintro v A' h9 tk9 ⟨x, tx, es, eus, k2, rfl, hx0, hx1, rfl, hes, hel⟩ - - F9 N9
  dsimp only [List.nil_append, List.cons_append] at N9
  clear N7
  k_steps
  refine Stop.go (LCg.CompSrc.range (n := (x - 0).toNat) (by rfl) (by k_asm) (by k_asm) (by assumption) (small_one (by decide) (by decide) (by omega) (by omega)) (rangeSize_nat 0 x) (by rw [PySem.sizeLine_eq]; omega) fun g' => comp_rest (MenuJ d _) ⟨[], es, eus, k2, .nil, rfl, rfl, hes, hel⟩ ?_ ?_)
  · rintro i v ys nw I oI C oC D m₂ h tk E' hin ⟨t3, rfl⟩ ⟨us, es', eus', k3, hus, hul, rfl, hes', hel'⟩ hC hx F N off ne
    k_steps
    refine Stop.go (Ctr.use1_3 (draw_c w mean mg mb d es' eus' k3 _ 11 hes' hel' (by decide) (by decide)) (by k_asm) (by k_asm) (by k_asm) (by k_asm) (by k_asm) (by first | exact rfl | assumption) (by ktr_room) (by ktr_units) ?_ (fun _ h => (nomatch h)) ?_)
    · intro q hq
      rcases List.mem_cons.mp hq with rfl | hq
      · exact Ne.symm off.1.1
      rcases List.mem_cons.mp hq with rfl | hq
      · exact Ne.symm off.1.2.1
      rcases List.mem_cons.mp hq with rfl | hq
      · exact Ne.symm off.1.2.2
      · exact hne q hq
    · rintro v A' h9 tk9 ⟨x', tx', es2, eus2, k4, rfl, hx0', hx1', rfl, hes2, hel2⟩ - - F9 N9
      dsimp only [List.nil_append, List.cons_append] at N9
      have hip : x'.toNat < menuL.length := by omega
      obtain ⟨pt, hpv⟩ := hIs.get x'.toNat (menuL[x'.toNat]'hip) (List.getElem?_eq_getElem hip)
      generalize menuL[x'.toNat]'hip = pc at hpv
      k_steps
      refine Stop.go (item_list (v := .int pc pt) (items := its.toArray) (by (rename News _ _ _ _ => N6); exact ⟨_, (N6 (mD, listOf its.toArray 0) (by k_mem)).1, rfl, _, rfl⟩) hx0' (by omega) (by simpa using hpv) ?_)
      k_steps
      exact Stop.go (comp_end_new (by k_asm) (by k_asm) off.1 off.2 trivial ⟨us ++ [pc], es2, eus2, k4, IntsAre.append hus (.cons _ _ .nil), by rw [List.length_append, hul]; rfl, rfl, hes2, hel2⟩)
  · rintro ys nw ⟨us, es', eus', k3, hus, hul, rfl, -, -⟩ D h tk F N off
    simp only [LCg.Off1] at off
    obtain ⟨o1, o2, o3, o4, o5, o6, o7, o8, o9, o10, -⟩ := off
    k_steps
    refine Stop.go (law_five w mean mg mb t td r D pD t1 t2 oR oc3 oc4 sy ts kvs kf ys pys ys.length pk us ps pL (sh := sh) B X T hD lo hk hp hm hpL hts hus (by omega) c3 c4 (cast (congrArg (Fr g L h) (map_codes (by rfl) (by rfl))) F) (three_ledger N) ⟨Ne.symm o4, e1, e2, e3, e4⟩ ⟨Ne.symm o5, f1, f2, f3, f4⟩ (fun q hq z hz => hoff q hq z ?_) hret)
    rcases List.mem_cons.mp hz with rfl | hz
    · exact .tail _ (.head _)
    · rw [List.mem_singleton.mp hz]; exact .tail _ (.tail _ (.head _))
end
end
section
open PySem PySem.W PyProof.Rows PySem.Calls
set_option maxHeartbeats 4000000
theorem map_own {ov cv : Option Value} {t p : Addr} {u0 : Str → Option Value} : (fun y => if y = Str.ofString "own" then ov else if y = Str.ofString "code" then cv else if y = Str.ofString "table" then some (.ref t) else if y = Str.ofString "pairs" then some (.ref p) else u0 y) = fun y => if y = Str.ofString "table" then some (Value.ref t) else if y = Str.ofString "pairs" then some (.ref p) else if y = Str.ofString "own" then ov else if y = Str.ofString "code" then cv else u0 y := by
  funext y
  by_cases h1 : y = Str.ofString "table"
  · subst h1; rfl
  by_cases h2 : y = Str.ofString "pairs"
  · subst h2; rfl
  simp only [if_neg h1, if_neg h2]
section
variable (w : World) (mean : ExcName → Option Value) (mg mb : Str → Option Value)
variable (t td r d pD : Addr) (t1 t2 : Tok) (oR oc1 oc2 oc3 oc4 : Obj) (sy ts : List (Addr × Obj)) (kvs : List (Int × Value)) (kf : Int → Str) (ds pys : List Value) (k1 pk : Nat) (dus : List Int) (ps : List (Int × Value)) (pL : List (Int × Int))
theorem law_one {g h : Heap} {L fa : Addr} {cdv : Value} {sh : Shared} {tk : Nat} {Q : Flow → Shared → Prop} {u0 : Str → Option Value}
    (B : Below callerA g [] g) (X : (hd.heap_39 w.params).In g) (T : Top vw (looseW vw []) mean mg mb g)
    (hD : oR.IsDictOf (intKind PySem.Challenge.pw_pq0347_02 w) kvs) (lo : (r == sysModules) = false) (hk : ∀ c, KindIs w.params sy kvs c (kf c))
    (hp : PairsIn ts pys ps) (hm : PA ps pL) (hpL : pL = pairsL) (hts : ∀ q ∈ ts, q ∈ sy)
    (hi : IntsAre ds dus) (hlen : dus.length ≤ 16) (c1 : oc1.data = .cell (some (.ref d))) (c2 : oc2.data = .cell none) (c3 : oc3.data = .cell none) (c4 : oc4.data = .cell none)
    (F : Fr g L h (fun y => if y = Str.ofString "table" then some (.ref t) else if y = Str.ofString "pairs" then some (.ref pD) else u0 y))
    (N : News g L h ((d, listOf ds.toArray k1) :: (pD, listOf pys.toArray pk) :: (L + 1 + 1 + 1 + 1, oc4) :: (L + 1 + 1 + 1, oc3) :: (L + 1 + 1, oc2) :: (L + 1, oc1) :: tabR w.params t td r t1 t2 oR sy))
    (hxd : @Ne Nat pD d ∧ @Ne Nat (L + 1 + 1 + 1 + 1) d ∧ @Ne Nat (L + 1 + 1 + 1) d ∧ @Ne Nat (L + 1 + 1) d ∧ @Ne Nat (L + 1) d ∧ @Ne Nat t d ∧ @Ne Nat td d ∧ @Ne Nat r d)
    (hx4 : @Ne Nat pD (L + 1 + 1 + 1 + 1) ∧ @Ne Nat t (L + 1 + 1 + 1 + 1) ∧ @Ne Nat td (L + 1 + 1 + 1 + 1) ∧ @Ne Nat r (L + 1 + 1 + 1 + 1))
    (hx3 : @Ne Nat pD (L + 1 + 1 + 1) ∧ @Ne Nat t (L + 1 + 1 + 1) ∧ @Ne Nat td (L + 1 + 1 + 1) ∧ @Ne Nat r (L + 1 + 1 + 1))
    (hx2 : @Ne Nat pD (L + 1 + 1) ∧ @Ne Nat t (L + 1 + 1) ∧ @Ne Nat td (L + 1 + 1) ∧ @Ne Nat r (L + 1 + 1))
    (hoff : OwnOff sy [d, L + 1 + 1 + 1 + 1, L + 1 + 1 + 1, L + 1 + 1])
    (hret : ∀ h' tk' m', Fr g L h' m' → Q (.ret (.bool true)) { sh with heap := h', toks := tk' }) :
    wpAny (model PySem.Challenge.pw_pq0347_02 w) (Around.deeper callerA (lawEnv L fa cdv)) (execs (lawDef.1.drop 1) (lawEnv L fa cdv)) Q (fun _ _ => False) { sh with heap := h, toks := tk } := by
  have hSC := stopC
  have hxd' := hxd
  obtain ⟨a1, a2, a3, a4, a5, a6, a7, a8⟩ := hxd'
  have hpl : pL.length ≤ 100 := by rw [hpL]; decide
  have hne : ∀ q ∈ (pD, listOf pys.toArray pk) :: (L + 1 + 1 + 1 + 1, oc4) :: (L + 1 + 1 + 1, oc3) :: (L + 1 + 1, oc2) :: (L + 1, oc1) :: tabR w.params t td r t1 t2 oR sy, q.1 ≠ d := fun q hq => by
    refine (List.mem_cons.mp hq).elim (fun e => by subst e; exact a1) (fun hq => ?_)
    refine (List.mem_cons.mp hq).elim (fun e => by subst e; exact a2) (fun hq => ?_)
    refine (List.mem_cons.mp hq).elim (fun e => by subst e; exact a3) (fun hq => ?_)
    refine (List.mem_cons.mp hq).elim (fun e => by subst e; exact a4) (fun hq => ?_)
    refine (List.mem_cons.mp hq).elim (fun e => by subst e; exact a5) (fun hq => ?_)
    refine (List.mem_cons.mp hq).elim (fun e => by subst e; exact a6) (fun hq => ?_)
    refine (List.mem_cons.mp hq).elim (fun e => by subst e; exact a7) (fun hq => ?_)
    refine (List.mem_cons.mp hq).elim (fun e => by subst e; exact a8) (fun hq => ?_)
    exact hoff q hq d (.head _)
  show wpAny _ _ (execs (_ :: _) _) _ _ _
  refine execs_split ?_
  k_steps
  refine Stop.go (Ctr.use1_0 (draw_c w mean mg mb d ds dus k1 _ 600 hi hlen (by decide) (by decide)) (by k_asm) (by k_asm) (by k_asm) N (by k_asm) (by first | exact rfl | assumption) (by ktr_room) (by ktr_units) hne (fun _ h => (nomatch h)) ?_)
  rintro v A' h9 tk9 ⟨x, tx, es, eus, k2, rfl, hx0, hx1, rfl, hes, hel⟩ - - F9 N9
  dsimp only [List.nil_append, List.cons_append] at N9
  k_steps

  refine Stop.go ?_
  show wpAny _ _ (execs (_ :: _) _) _ _ _
  refine execs_split ?_
  k_steps
  refine Stop.go (For_turns (by k_asm) ?_)
  k_steps
  refine Stop.go (Ctr.use1_0 (draw_c w mean mg mb d es eus k2 _ 64 hes hel (by decide) (by decide)) (by k_asm) (by k_asm) (by k_asm) (by k_asm) (by k_asm) (by first | exact rfl | assumption) (by ktr_room) (by ktr_units) hne (fun _ h => (nomatch h)) ?_)
  rintro v A' h9 tk9 ⟨x2, tx2, es2, eus2, k3, rfl, hy2, hy3, rfl, hes2, hel2⟩ - - F9 N9
  dsimp only [List.nil_append, List.cons_append] at N9
  k_steps
  refine Stop.go (Ctr.use1_0 (draw_c w mean mg mb d es2 eus2 k3 _ 68 hes2 hel2 (by decide) (by decide)) (by k_asm) (by k_asm) (by k_asm) (by k_asm) (by k_asm) (by first | exact rfl | assumption) (by ktr_room) (by ktr_units) hne (fun _ h => (nomatch h)) ?_)
  rintro v A' h9 tk9 ⟨x3, tx3, es3, eus3, k4, rfl, hy4, hy5, rfl, hes3, hel3⟩ - - F9 N9
  dsimp only [List.nil_append, List.cons_append] at N9
  k_steps
  rename_i l8 _ _ N6 _
  generalize hmn : (Value.int x _ :: _ : List Value) = its at N6
  obtain ⟨ns8, hI8⟩ : ∃ l, IntsAre its l := by rw [← hmn]; exact ⟨_, .cons _ _ (.cons _ _ (.cons _ _ (.cons _ _ (.cons _ _ (.cons _ _ (.cons _ _ (.cons _ _ .nil)))))))⟩
  clear hmn
  refine Stop.go (turns_list (lo := listOf its.toArray 0) (vs := its) (n := 0) (fun i m nx => nx = _ ∧ ∃ ov, m = fun y => if y = Str.ofString "own" then ov else if y = Str.ofString "code" then some (.int x tx) else if y = Str.ofString "table" then some (.ref t) else if y = Str.ofString "pairs" then some (.ref pD) else u0 y) (by rfl) (by k_asm) N6 (.head _) ?_ rfl rfl ⟨rfl, u0 (Str.ofString "own"), ?_⟩ ?_ ?_)
  · rintro i m nx ⟨rfl, -⟩
    exact .head _
  · funext y
    by_cases h1 : y = Str.ofString "own"
    · subst h1; rfl
    · rw [if_neg h1]
  · rintro i v m₁ nx h tk own hv hoff2 ⟨rfl, ov, rfl⟩ F N
    obtain ⟨c, tc, rfl, hc⟩ := IntsAre.at hI8 i v hv
    k_steps
    k_dflt (refine' Stop.go (Ctr.useP (right_c w mean mg mb pD pys pk ts ps pL c tc hp hm hpl (fun c => by rw [hpL]; exact down_val c) (fun c => by rw [hpL]; exact up_val c) (fun c => by rw [hpL]; exact down_any c) (fun c => by rw [hpL]; exact up_any c)) ?B ?F ?X ?N ?T ?hk ?hR ?hd ?hu ?_); (case B => k_asm); (case F => k_asm); (case X => k_asm); (case N => k_asm); (case T => k_asm); (case hk => first | exact rfl | assumption); (case hd => ktr_room); (case hu => ktr_units); (case hR => exact fun q hq => (by (rename News _ _ _ _ => N7); exact (N7 q (List.mem_append.mpr (.inl (.tail _ (.tail _ ((List.mem_cons.mp hq).elim (fun e => by rw [e]; exact .head _) fun hq => .tail _ (.tail _ (.tail _ (.tail _ (.tail _ (.tail _ (.tail _ (.tail _ (hts q hq)))))))))))))).1))); rintro v9 h9 tk9 rfl F9 N9; (try dsimp only)
    k_steps
    (rename News _ _ _ _ => N7)
    refine Stop.go (InvEndG.intro (by k_asm) N7 ⟨rfl, some (.int c tc), ?_⟩ hoff2 (fun q hq => List.mem_append.mpr (.inl hq)) (fun q hq => List.mem_append.mpr (.inr hq)))
    funext y
    by_cases h1 : y = Str.ofString "own"
    · simp only [if_pos h1]
    · simp only [if_neg h1]
  · rintro m₁ nx h tk ⟨rfl, ov, rfl⟩ F N
    k_steps
    have F8 : Fr g L h (fun y => if y = Str.ofString "own" then ov else if y = Str.ofString "code" then some (.int x tx) else if y = Str.ofString "table" then some (.ref t) else if y = Str.ofString "pairs" then some (.ref pD) else u0 y) := F
    have N8 : News g L h ((d, listOf es3.toArray k4) :: (pD, listOf pys.toArray pk) :: (L + 1 + 1 + 1 + 1, oc4) :: (L + 1 + 1 + 1, oc3) :: (L + 1 + 1, oc2) :: (L + 1, oc1) :: tabR w.params t td r t1 t2 oR sy) := fun q hq => N q (.tail _ hq)
    rw [map_own] at F8
    show Stop _
    refine Stop.go ?_
    show wpAny _ _ (execs (lawDef.1.drop 3) (lawEnv L fa cdv)) _ _ _
    with_reducible exact (law_three w mean mg mb t td r d pD t1 t2 oR oc1 oc2 oc3 oc4 sy ts kvs kf es3 pys k4 pk eus3 ps pL (sh := sh) B X T hD lo hk hp hm hpL hts hes3 hel3 c1 c2 c3 c4 F8 N8 hxd hx4 hx3 hx2 hoff hret)
end
end
section
open PySem PySem.W PyProof.Rows PySem.Calls
set_option maxHeartbeats 4000000
theorem prog_eq : RowW.prog (OpenRow.toRowW (OpenLaw.row PySem.Challenge.rw_pq0347_02)) = PySem.Challenge.pw_pq0347_02 := rfl
def NeL (d : Nat) : List (Addr × Obj) → Prop
  | [] => True
  | p :: r => @Ne Nat p.1 d ∧ NeL d r
theorem neL_of {d : Addr} {l : List (Addr × Obj)} (h : ∀ r ∈ l, r.1 ≠ d) : NeL d l := by
  induction l with
  | nil => trivial
  | cons p r ih => exact ⟨h p (.head _), ih fun q hq => h q (.tail _ hq)⟩
theorem pairs_ledger {h₀ h : Heap} {L : Addr} {P D C4 C3 C2 C1 : Addr × Obj} {ts : List (Addr × Obj)} (N : News h₀ L h (P :: (ts ++ [D, C4, C3, C2, C1]))) : News h₀ L h (D :: P :: C4 :: C3 :: C2 :: C1 :: ts) := fun q hq => N q (by
  simp only [List.mem_cons, List.mem_append, List.not_mem_nil, or_false] at hq ⊢
  grind)
theorem std_ledger {h₀ h : Heap} {L : Addr} {P D C4 C3 C2 C1 a b c : Addr × Obj} {sy ts : List (Addr × Obj)} (N : News h₀ L h (a :: b :: c :: (sy ++ (D :: P :: C4 :: C3 :: C2 :: C1 :: ts)))) : News h₀ L h (D :: P :: C4 :: C3 :: C2 :: C1 :: a :: b :: c :: (sy ++ ts)) := fun q hq => N q (by
  simp only [List.mem_cons, List.mem_append] at hq ⊢
  grind)
theorem pairs_facts {P D C4 C3 C2 C1 : Addr × Obj} {ts : List (Addr × Obj)} (h : ∀ q ∈ P :: ts, ∀ r ∈ [D, C4, C3, C2, C1], r.1 ≠ q.1) : OwnOff ts [D.1, C4.1, C3.1, C2.1, C1.1] ∧ @Ne Nat D.1 P.1 ∧ @Ne Nat C4.1 P.1 ∧ @Ne Nat C3.1 P.1 ∧ @Ne Nat C2.1 P.1 ∧ @Ne Nat C1.1 P.1 := by
  refine ⟨fun q hq z hz => ?_, ?_, ?_, ?_, ?_, ?_⟩
  · obtain ⟨r, hr, rfl⟩ : ∃ r ∈ [D, C4, C3, C2, C1], r.1 = z := by
      simp only [List.mem_cons, List.not_mem_nil, or_false] at hz
      rcases hz with rfl | rfl | rfl | rfl | rfl <;> exact ⟨_, by simp, rfl⟩
    exact Ne.symm (h q (.tail _ hq) r hr)
  all_goals refine h P (.head _) _ ?_; simp
theorem std_facts {a b c P D C4 C3 C2 C1 : Addr × Obj} {sy ts : List (Addr × Obj)} (h : ∀ q ∈ a :: b :: c :: sy, ∀ r ∈ D :: P :: C4 :: C3 :: C2 :: C1 :: ts, r.1 ≠ q.1) : OwnOff sy [D.1, C4.1, C3.1, C2.1, C1.1] ∧ (@Ne Nat D.1 a.1 ∧ @Ne Nat C4.1 a.1 ∧ @Ne Nat C3.1 a.1 ∧ @Ne Nat C2.1 a.1 ∧ @Ne Nat C1.1 a.1) ∧ (@Ne Nat D.1 b.1 ∧ @Ne Nat C4.1 b.1 ∧ @Ne Nat C3.1 b.1 ∧ @Ne Nat C2.1 b.1 ∧ @Ne Nat C1.1 b.1) ∧ @Ne Nat D.1 c.1 ∧ @Ne Nat C4.1 c.1 ∧ @Ne Nat C3.1 c.1 ∧ @Ne Nat C2.1 c.1 ∧ @Ne Nat C1.1 c.1 := by
  have hm : ∀ r ∈ [D, C4, C3, C2, C1], r ∈ D :: P :: C4 :: C3 :: C2 :: C1 :: ts := fun r hr => by
    simp only [List.mem_cons, List.not_mem_nil, or_false] at hr ⊢
    grind
  refine ⟨fun q hq z hz => ?_, ⟨?_, ?_, ?_, ?_, ?_⟩, ⟨?_, ?_, ?_, ?_, ?_⟩, ?_, ?_, ?_, ?_, ?_⟩
  · obtain ⟨r, hr, rfl⟩ : ∃ r ∈ [D, C4, C3, C2, C1], r.1 = z := by
      simp only [List.mem_cons, List.not_mem_nil, or_false] at hz
      rcases hz with rfl | rfl | rfl | rfl | rfl <;> exact ⟨_, by simp, rfl⟩
    exact Ne.symm (h q (.tail _ (.tail _ (.tail _ hq))) r (hm r hr))
  all_goals refine h _ ?_ _ (hm _ ?_) <;> simp
theorem hold : PySem.Challenge.rw_pq0347_02.Holds := hd (by
  clear hold
  k_go0
  all_goals try k_fold
  rw [prog_eq]
  all_goals (have hSC := stopC)
  (rename Heap.IsList _ _ _ => hLs)
  obtain ⟨oS, hoS, hcS, nS, hdS⟩ := hLs
  (rename IntsAre _ _ => hIs)
  show wpAny _ _ (execs (_ :: _) _) _ _ _
  refine execs_split ?_
  k_steps
  k_dflt (refine' Stop.go (Ctr.use0 (deck_c _ _ _ _ _ oS _ _ nS hcS hdS hIs (by omega)) ?B ?F ?X ?N ?T ?hk ?hR ?hd ?hu ?_); (case B => k_asm); (case F => k_asm); (case X => k_asm); (case N => k_asm); (case T => k_asm); (case hk => first | exact rfl | assumption); (case hd => ktr_room); (case hu => ktr_units); (case hR => exact fun q hq => by rw [List.mem_singleton.mp hq]; exact Fr.keep (by k_asm) _ _ hoS)); rintro v9 A9 h9 tk9 ⟨d, ds, dus, rfl, rfl, hds, hdl⟩ F9 N9 D9; (try dsimp only [List.nil_append, List.cons_append] at N9); (try dsimp only)
  have hx7 := neL_of (D9 _ (.head _))
  clear D9
  dsimp only [NeL] at hx7
  k_steps
  k_dflt (refine' Stop.go (Ctr.use0 (pairs_c _ _ _ _) ?B ?F ?X ?N ?T ?hk ?hR ?hd ?hu ?_); (case B => k_asm); (case F => k_asm); (case X => k_asm); (case N => k_asm); (case T => k_asm); (case hk => first | exact rfl | assumption); (case hd => ktr_room); (case hu => ktr_units); (case hR => exact fun _ h => (nomatch h))); rintro v9 A9 h9 tk9 ⟨pD, pys, pk, ts, ps, rfl, rfl, hp, hm⟩ F9 N9 D9; (try dsimp only [List.nil_append, List.cons_append] at N9); (try dsimp only)
  obtain ⟨hts, hx8⟩ := pairs_facts D9
  clear D9
  dsimp only at hts hx8
  have N8 := pairs_ledger N9
  clear N9
  k_steps
  k_dflt (refine' Stop.go (Ctr.use0 (std_c _ _ _ _) ?B ?F ?X ?N ?T ?hk ?hR ?hd ?hu ?_); (case B => k_asm); (case F => k_asm); (case X => k_asm); (case N => k_asm); (case T => k_asm); (case hk => first | exact rfl | assumption); (case hd => ktr_room); (case hu => ktr_units); (case hR => exact fun _ h => (nomatch h))); rintro v9 A9 h9 tk9 ⟨t, td, r, oR, t1, t2, sy, kvs, rfl, rfl, TS, lo, n1, n2⟩ F9 N9 D9; (try dsimp only [List.nil_append, List.cons_append] at N9); (try dsimp only)
  obtain ⟨hsy, hx9⟩ := std_facts D9
  clear D9
  dsimp only at hsy hx9
  replace N9 := std_ledger N9
  clear N8
  obtain ⟨hD, hok, hkl, hsr⟩ := TS
  have hok2 : TabOk _ (sy ++ ts) kvs := hok.mono fun q hq => List.mem_append.mpr (.inl hq)
  obtain ⟨kf, hk⟩ := hok2.kinds
  have hoff : OwnOff (sy ++ ts) [d, _, _, _, _] := fun q hq => (List.mem_append.mp hq).elim (hsy q) (hts q)
  clear hsy hts hok hok2
  have hsub : ∀ q ∈ ts, q ∈ sy ++ ts := fun q hq => List.mem_append.mpr (.inr hq)
  generalize sy ++ ts = sz at N9 hk hoff hsub
  k_steps
  (rename Fr _ _ _ _ => Ff)
  (rename News _ _ _ _ => Nf)
  (rename Obj.data _ = Data.cell (some (Value.ref d)) => dc1)
  (rename Obj.data _ = Data.cell (bindC _ _ _ (Str.ofString "menu")) => dc2)
  (rename Obj.data _ = Data.cell (bindC _ _ _ (Str.ofString "down")) => dc3)
  (rename Obj.data _ = Data.cell (bindC _ _ _ (Str.ofString "up")) => dc4)
  (rename Below callerA _ _ _ => Bw)
  (rename Frag.In (hd.heap_39 _) _ => Xw)
  (rename Top _ _ _ _ _ _ => Tw)
  refine Stop.go (wpAny_mono (law_one _ _ _ _ t td r d pD t1 t2 oR _ _ _ _ sz ts kvs kf ds pys ds.length pk dus ps pairsL (Q := qk) Bw Xw Tw hD lo hk hp hm rfl hsub hds hdl dc1 dc2 dc3 dc4 Ff (fun q hq => Nf q (.tail _ hq)) ?hd ?h4 ?h3 ?h2 ?ho ?ht) (fun _ _ h => h) (fun _ _ h => h.elim))
  case hd => refine ⟨?_, ?_, ?_, ?_, ?_, ?_, ?_, ?_⟩ <;> omega
  case h4 => refine ⟨?_, ?_, ?_, ?_⟩ <;> omega
  case h3 => refine ⟨?_, ?_, ?_, ?_⟩ <;> omega
  case h2 => refine ⟨?_, ?_, ?_, ?_⟩ <;> omega
  case ho =>
    intro q hq z hz
    refine hoff q hq z ?_
    simp only [List.mem_cons, List.not_mem_nil, or_false] at hz ⊢
    rcases hz with h | h | h | h
    · exact .inl h
    · exact .inr (.inl h)
    · exact .inr (.inr (.inl h))
    · exact .inr (.inr (.inr (.inl h)))
  case ht =>
    intro h' tk' m' F'
    dsimp only [qk]
    k_steps)
end
end Mine
theorem PySem.Challenge.cw_pq0347_02_holds : PySem.Challenge.rw_pq0347_02.Holds :=
  Mine.hold
