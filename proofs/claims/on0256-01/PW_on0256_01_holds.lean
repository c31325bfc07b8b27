import PyProof.Rows.All
import Wide.All
import OpenK.AllK
import Wide.FinOn
import PySem.Challenge.RW_on0256_01
set_option Elab.async false
set_option maxRecDepth 100000

section
open PySem PySem.W PyProof.Rows
namespace Mine
set_option maxRecDepth 100000 in
set_option maxHeartbeats 8000000 in
open_top hd for PySem.Challenge.rw_on0256_01
end Mine
end

section
open PySem PySem.W PySem.Calls PyProof.Rows
theorem Mine.fresh_top : True := by
  w_top off
  trivial
end

section
open PySem PySem.W PySem.Calls PyProof.Rows
namespace Mine

/-- the world around a call of a helper: at most so deep -/
def ctr (D : Nat) (gd : Option (List Code)) (outer : List Env) : Around := { handled := none, depth := D, frames := some outer, guards := gd, units := 9 * D }
theorem ctr_depth (D : Nat) (gd : Option (List Code)) (outer : List Env) : (ctr D gd outer).depth = D := rfl

theorem loosen {α : Type} {M : Model} {A : Around} {t : Sem α} {Q : α → Shared → Prop} {E : Value → Shared → Prop} {s : Shared} {D : Nat} {outer : List Env} {env : Env}
    (hh : A.handled = none) (hf : A.frames = some (env :: outer)) (hd : A.depth ≤ D + 1) (hu : A.units ≤ 9 * D + 3)
    (h : wpAny M ((ctr D A.guards outer).deeper env) t Q E s) : wpAny M A t Q E s := by
  intro Γ p hΓ
  refine h Γ p ⟨hΓ.1.trans hh, Nat.le_trans hΓ.2.1 hd, fun l hl => ?_, fun g hg => hΓ.2.2.2.1 g hg, Nat.le_trans hΓ.2.2.2.2 hu⟩
  exact hΓ.2.2.1 l (hf.trans hl)

/-- a way out of a helper's body: the ledger it leaves, over the base g -/
def EndS (s : Shared) (g : Heap) (P : Value → List (Addr × Obj) → Prop) (v : Value) (s' : Shared) : Prop :=
  ∃ L' m' news' h' tk', s' = { s with heap := h', toks := tk' } ∧ Fr g L' h' m' ∧ News g L' h' news' ∧ P v news'

/-- what a caller gets of a helper that answered -/
def BackS (h₀ : Heap) (L : Addr) (m : Str → Option Value) (news sub : List (Addr × Obj)) (s : Shared) (P : Value → List (Addr × Obj) → Prop) (Q : Value → Shared → Prop) : Prop :=
  ∀ v sub' h' tk', P v sub' → Fr h₀ L h' m →
    (∀ rest, (∀ q ∈ rest, q ∈ news) → (∀ q ∈ rest, ∀ r ∈ sub, q.1 ≠ r.1) → News h₀ L h' (sub' ++ rest) ∧ ∀ q ∈ sub', ∀ r ∈ rest, q.1 ≠ r.1) → Q v { s with heap := h', toks := tk' }

section
variable {prog : Program} {w : World} {A₀ A : Around} {s : Shared} {base h₀ : Heap} {outer : List Env} {L : Addr} {m : Str → Option Value} {env : Env} {news sub : List (Addr × Obj)} {K : Frag}
  {p : Program} {loose : List Str} {mean : ExcName → Option Value} {mg mb : Str → Option Value}
  {Q E : Value → Shared → Prop} {name qual : Str} {params : Arguments} {body : List Stmt} {scope : Scope} {dV kV doc pm cdv ct oc : Value} {an od : Option Addr} {osl : Array (Option Value)} {f : Addr} {args : Args} {binds : List (Str × Value)}
  {P : Value → List (Addr × Obj) → Prop} {cq : Bool}

theorem back_of (F : Fr h₀ L s.heap m) (N : News h₀ L s.heap news) (hsub : ∀ q ∈ sub, q ∈ news)
    (lv : ∀ v s', LeaveK h₀ L m (hideAll s.heap (sub.map (·.1))) (fun r s' => match r with | .ok (.ret v) => Q v s' | .ok _ => False | .error e => E e s') v s' → (match (Except.ok (.ret v) : Result) with | .ok (.ret v) => Q v s' | .ok _ => False | .error e => E e s'))
    (k : BackS h₀ L m news sub s P Q) {v : Value} {s' : Shared} (h : EndS s (hideAll s.heap (sub.map (·.1))) P v s') : Q v s' := by
  obtain ⟨L', m', news', h', tk', rfl, F', N', hP⟩ := h
  refine lv v _ ⟨L', m', news', F', N', fun F₁ N₁ => ?_⟩
  refine k v news' h' tk' hP F₁ fun rest hr hn => ?_
  have st : ∀ q ∈ rest, (hideAll s.heap (sub.map (·.1))).get? q.1 = some q.2 := fun q hq => hideAll_get _ (N q (hr q hq)).1 fun hm => by
    obtain ⟨r, hr', e⟩ := List.mem_map.mp hm
    exact hn q hq r hr' e.symm
  refine ⟨fun q hq => ?_, fun q hq r hr' e => ?_⟩
  · rcases List.mem_append.mp hq with hq | hq
    · exact N₁ q hq
    · exact ⟨F'.keep q.1 q.2 (st q hq), (N q (hr q hq)).2⟩
  · have h1 := (N' q hq).2.2
    rw [e, st r hr'] at h1
    cases h1

theorem callS (B : Below A₀ base outer h₀) (F : Fr h₀ L s.heap m) (X₀ : K.In h₀) (N : News h₀ L s.heap news) (T : Top p loose mean mg mb h₀)
    (hA : A.frames = some (env :: outer)) (hf : env.frame = some L) (hke : env.scope.kind = .function) (hsub : ∀ q ∈ sub, q ∈ news) (C : cq = true → CodeHd h₀ 163 159) (k : BackS h₀ L m news sub s P Q)
    (ho : K.lookup f = some ⟨oc, od, .func (fnOf name qual params body scope dV kV doc pm an cdv ct), osl⟩) (hcd : codeIn K cdv qual = true) (hroom : A.depth < recursionLimit)
    (hbind : BindsTo s (fnOf name qual params body scope dV kV doc pm an cdv ct) args binds) (hloc : ∀ y ∈ binds, scope.names.lookup y.1 = some .local)
    (h : ∀ g L' h₁, Fr g L' h₁ (fun y => binds.reverse.lookup y) → News g L' h₁ sub → Below A base (env :: outer) g → K.In g → Top p loose mean mg mb g → (cq = true → CodeHd g 163 159) → (∀ q ∈ sub, q.1 < L') →
      wpAny (model prog w) (A.deeper (envOf qual scope L' f cdv)) (execs body (envOf qual scope L' f cdv))
        (fun fl s' => EndS s g P (match fl with | .ret v => v | _ => .none) s') (fun _ _ => False) { s with heap := h₁, toks := s.toks + binds.length })
    (hco : scope.isCoroutine = false) (hgen : scope.isGenerator = false) (hk : scope.kind = .function)
    (hcell : ∀ x ∈ scope.names, x.2 ≠ .cell) : wpAny (model prog w) A (call (.ref f) args.pos args.kw) Q E s := by
  have Ns : News h₀ L s.heap sub := fun q hq => N q (hsub q hq)
  obtain ⟨FG, BG, st, lv⟩ := groundX (R := fun r s' => match r with | .ok (.ret v) => Q v s' | .ok _ => False | .error e => E e s') B F Ns hA hf hke
  refine wpAny_call (codeAny_call_def (fd := fnOf name qual params body scope dV kV doc pm an cdv ct) (body := body) (binds := binds) hroom ((X₀.keeps F.keep) _ _ ho) rfl (T.nolimit.keeps F.keep) (codeRec_of (X₀.keeps F.keep) hcd) rfl hbind hcell hloc (fun h₁ hns hk₁ => ?_) hco hgen hk)
  exact wpAny_mono (h _ s.heap.objs.size h₁ ⟨hns, fun b o e => hk₁ b o (of_hideAll _ e), Nat.le_of_eq (hideAll_size _ _)⟩
    (fun q hq => ⟨hk₁ _ _ (Ns q hq).1, Nat.ne_of_lt (Heap.lt_size (Ns q hq).1), hideAll_none _ (List.mem_map_of_mem hq)⟩) BG (X₀.keeps st) (T.keeps st) (fun e => (C e).keeps st) (fun q hq => Heap.lt_size (Ns q hq).1))
    (fun fl s' hl => back_of F N hsub lv k hl) fun _ _ y => y.elim

theorem callSC (B : Below A₀ base outer h₀) (F : Fr h₀ L s.heap m) (X₀ : K.In h₀) (N : News h₀ L s.heap news) (T : Top p loose mean mg mb h₀)
    (hA : A.frames = some (env :: outer)) (hf : env.frame = some L) (hke : env.scope.kind = .function) (hsub : ∀ q ∈ sub, q ∈ news) (C : cq = true → CodeHd h₀ 163 159) (k : BackS h₀ L m news sub s P Q)
    (ho : K.lookup f = some ⟨oc, od, .func (fnOf name qual params body scope dV kV doc pm an cdv ct), osl⟩) (hcd : codeIn K cdv qual = true) (hroom : A.depth < recursionLimit)
    (hbind : BindsTo s (fnOf name qual params body scope dV kV doc pm an cdv ct) args binds)
    (hkind : (binds.all fun y => scope.names.lookup y.1 == some .local || scope.names.lookup y.1 == some .cell) = true)
    (hnd : ((cellsFrom 0 scope.names []).map (·.1)).Nodup)
    (h : ∀ g L' h₁ tk cells, Fr g L' h₁ (bindL (envOfC qual scope L' f cdv).kindOf binds fun _ => none) → News g L' h₁ (cells ++ sub) →
      CellsAre (bindC (envOfC qual scope L' f cdv).kindOf binds fun _ => none) (cellsFrom (L' + 1) scope.names []) cells → Below A base (env :: outer) g → K.In g → Top p loose mean mg mb g → (cq = true → CodeHd g 163 159) → (∀ q ∈ sub, q.1 < L') →
      wpAny (model prog w) (A.deeper (envOfC qual scope L' f cdv)) (execs body (envOfC qual scope L' f cdv))
        (fun fl s' => EndS s g P (match fl with | .ret v => v | _ => .none) s') (fun _ _ => False) { s with heap := h₁, toks := tk })
    (hco : scope.isCoroutine = false) (hgen : scope.isGenerator = false) (hk : scope.kind = .function) : wpAny (model prog w) A (call (.ref f) args.pos args.kw) Q E s := by
  have Ns : News h₀ L s.heap sub := fun q hq => N q (hsub q hq)
  obtain ⟨FG, BG, st, lv⟩ := groundX (R := fun r s' => match r with | .ok (.ret v) => Q v s' | .ok _ => False | .error e => E e s') B F Ns hA hf hke
  refine wpAny_call (codeAny_call_function hroom ((X₀.keeps F.keep) _ _ ho) rfl hco hgen rfl (codeRec_of (X₀.keeps F.keep) hcd) (hbind _ _ _ _ ?_))
  refine wpAny_newFunctionEnv_cells hk (kindsX hkind _) fun env' he s' x => ?_
  subst he
  refine ⟨(T.nolimit.keeps F.keep).keeps x.toInCall.keep, codeAny_func ?_⟩
  obtain ⟨h₁, tk, rfl, _⟩ := x.done
  have hk₁ := x.toInCall.keep
  obtain ⟨cells, NC, Y⟩ := Cl.news (h₀ := s.heap) (Nat.le_refl _) fun n c hm => ⟨x.cell n c (lookup_of_mem_nodup (cellsFrom_names scope.names 0 (s.heap.objs.size + 1) [] [] rfl ▸ hnd) hm), x.above n c hm⟩
  refine wpAny_mono (h _ s.heap.objs.size h₁ tk cells ⟨x.toInCall.ns, fun b o e => hk₁ b o (of_hideAll _ e), Nat.le_of_eq (hideAll_size _ _)⟩ (fun q hq => ?_) Y BG (X₀.keeps st) (T.keeps st) (fun e => (C e).keeps st) (fun q hq => Heap.lt_size (Ns q hq).1))
    (fun fl s' hl => back_of F N hsub lv k hl) fun _ _ y => y.elim
  rcases List.mem_append.mp hq with hq | hq
  · refine ⟨(NC q hq).1, (NC q hq).2.1, ?_⟩
    cases e : (hideAll s.heap (sub.map (·.1))).get? q.1 with
    | none => rfl
    | some o => have := of_hideAll _ e; rw [(NC q hq).2.2] at this; cases this
  · exact ⟨hk₁ _ _ (Ns q hq).1, Nat.ne_of_lt (Heap.lt_size (Ns q hq).1), hideAll_none _ (List.mem_map_of_mem hq)⟩
end

/-- A CONTRACT: def f, upon these arguments, over a part of the caller's ledger, answers v and leaves that part so that P v holds; all else stands -/
def Spec (w : World) (D : Nat) (cq : Bool) (f : Addr) (args : List Value) (sub : List (Addr × Obj)) (P : Value → List (Addr × Obj) → Prop) : Prop :=
  ∀ (gd : Option (List Code)) (cn : Str) (cs : Scope) (a : Addr) (ccd : Value) (cl : List (Str × Addr)) (outer : List Env) (A₀ : Around) (base h₀ : Heap) (L : Addr) (m : Str → Option Value) (s : Shared) (news : List (Addr × Obj))
    (loose : List Str) (mean : ExcName → Option Value) (mg mb : Str → Option Value) (Q E : Value → Shared → Prop),
    Below A₀ base outer h₀ → Fr h₀ L s.heap m → (hd.heap_39 w.params).In h₀ → News h₀ L s.heap news → Top topProg loose mean mg mb h₀ → cs.kind = .function → (∀ q ∈ sub, q ∈ news) → (cq = true → CodeHd h₀ 163 159) →
    BackS h₀ L m news sub s P Q →
    wpAny (model PySem.Challenge.rw_on0256_01.row.prog w) ((ctr D gd outer).deeper (envX cn cs L a ccd cl)) (call (.ref f) args) Q E s


theorem pick {h₀ h : Heap} {L a : Addr} {o : Obj} {news rest : List (Addr × Obj)} (N : News h₀ L h news) (hm : (a, o) ∈ news) (r : News h₀ L h rest) : News h₀ L h ((a, o) :: rest) := by
  intro p hp
  rcases List.mem_cons.mp hp with rfl | hp
  · exact N _ hm
  · exact r p hp
theorem fmod_lo (a : Int) {b : Int} (hb : 0 < b) : 0 ≤ a.fmod b := Int.fmod_nonneg_of_pos a hb
theorem fmod_hi (a : Int) {b : Int} (hb : 0 < b) : a.fmod b < b := Int.fmod_lt_of_pos a hb
theorem fits16 {k : Nat} (h : k ≤ 17) : k ≤ sizeLine := by rw [sizeLine_eq]; omega

/-- what stands of a ledger when the entries of some addresses are taken out -/
inductive Rest (as : List Addr) : List (Addr × Obj) → List (Addr × Obj) → Prop where
  | nil : Rest as [] []
  | skip {p : Addr × Obj} {r r' : List (Addr × Obj)} : Rest as r r' → Rest as (p :: r) r'
  | keep {p : Addr × Obj} {r r' : List (Addr × Obj)} : (∀ a ∈ as, p.1 ≠ a) → Rest as r r' → Rest as (p :: r) (p :: r')
theorem Rest.mem {as : List Addr} {r r' : List (Addr × Obj)} (h : Rest as r r') : ∀ q ∈ r', q ∈ r ∧ ∀ a ∈ as, q.1 ≠ a := by
  induction h with
  | nil => exact fun _ hq => nomatch hq
  | skip _ ih => exact fun q hq => ⟨.tail _ (ih q hq).1, (ih q hq).2⟩
  | keep ha _ ih =>
    intro q hq
    rcases List.mem_cons.mp hq with rfl | hq
    · exact ⟨.head _, ha⟩
    · exact ⟨.tail _ (ih q hq).1, (ih q hq).2⟩

section
variable {w : World} {D : Nat} {cq : Bool} {f : Addr} {args : List Value} {sub : List (Addr × Obj)} {P : Value → List (Addr × Obj) → Prop}
  {cn : Str} {cs : Scope} {a : Addr} {ccd : Value} {cl : List (Str × Addr)} {outer : List Env} {A A₀ : Around} {base h₀ : Heap} {L : Addr} {m : Str → Option Value} {s : Shared} {news rest : List (Addr × Obj)}
  {loose : List Str} {mean : ExcName → Option Value} {mg mb : Str → Option Value} {Q E : Value → Shared → Prop}
/-- a contract in use -/
theorem Spec.use (S : Spec w D cq f args sub P) (B : Below A₀ base outer h₀) (F : Fr h₀ L s.heap m) (X : (hd.heap_39 w.params).In h₀) (N : News h₀ L s.heap news) (T : Top topProg loose mean mg mb h₀) (C : cq = true → CodeHd h₀ 163 159)
    (hf : A.frames = some (envX cn cs L a ccd cl :: outer)) (hh : A.handled = none) (hk : cs.kind = .function) (hd : A.depth ≤ D + 1) (hu : A.units ≤ 9 * D + 3) (hsub : ∀ q ∈ sub, q ∈ news)
    (hr : Rest (sub.map (·.1)) news rest)
    (k : ∀ v sub' h' tk', P v sub' → Fr h₀ L h' m → News h₀ L h' (sub' ++ rest) → Q v { s with heap := h', toks := tk' }) :
    wpAny (model PySem.Challenge.rw_on0256_01.row.prog w) A (call (.ref f) args) Q E s := by
  refine loosen hh hf hd hu (S _ _ _ _ _ _ _ _ _ _ _ _ _ _ _ _ _ _ _ _ B F X N T hk hsub C fun v sub' h' tk' hP F' R => k v sub' h' tk' hP F' (R rest (fun q hq => (hr.mem q hq).1) fun q hq r hr' => (hr.mem q hq).2 r.1 (List.mem_map_of_mem hr')).1)

theorem Rest.all : ∀ {r : List (Addr × Obj)}, Rest [] r r
  | [] => .nil
  | _ :: _ => .keep (fun _ h => nomatch h) Rest.all

/-- a contract of a def that answers an int and leaves all as it was -/
theorem Spec.useI {hp : Heap} {gs : Array GenState} {dr : Drawn} {tk : Nat} {os : OsState} {x : Int} (S : Spec w D cq f args [] (fun v sub' => sub' = [] ∧ ∃ t, v = .int x t)) (B : Below A₀ base outer h₀) (F : Fr h₀ L hp m) (X : (hd.heap_39 w.params).In h₀) (N : News h₀ L hp news) (T : Top topProg loose mean mg mb h₀) (C : cq = true → CodeHd h₀ 163 159)
    (hf : A.frames = some (envX cn cs L a ccd cl :: outer)) (hh : A.handled = none) (hk : cs.kind = .function) (hd : A.depth ≤ D + 1) (hu : A.units ≤ 9 * D + 3)
    (k : ∀ t h' tk', Fr h₀ L h' m → News h₀ L h' news → Q (.int x t) ⟨h', gs, dr, tk', os⟩) :
    wpAny (model PySem.Challenge.rw_on0256_01.row.prog w) A (call (.ref f) args) Q E ⟨hp, gs, dr, tk, os⟩ := by
  refine S.use B F X N T C hf hh hk hd hu (fun _ h => nomatch h) Rest.all fun v sub' h' tk' hP F' N' => ?_
  obtain ⟨rfl, t, rfl⟩ := hP
  exact k t h' tk' F' N'
end

/-! apart and in order, kept as functions over the ledger: found by assumption and membership, no arithmetic -/
def LtAll (d : Nat) (l : List (Addr × Obj)) : Prop := ∀ p ∈ l, @LT.lt Nat _ p.1 d
theorem LtAll.of {d : Addr} {l : List (Addr × Obj)} (h : ∀ p ∈ l, p.1 < d) : LtAll d l := h
theorem LtAll.ne {a d : Nat} {o : Obj} {l : List (Addr × Obj)} (h : LtAll d l) (m : ((a : Addr), o) ∈ l) : a ≠ d := Nat.ne_of_lt (h _ m)
theorem LtAll.en {a d : Nat} {o : Obj} {l : List (Addr × Obj)} (h : LtAll d l) (m : ((a : Addr), o) ∈ l) : d ≠ a := Nat.ne_of_gt (h _ m)
theorem lt_ne1 {a d : Nat} {o : Obj} {l : List (Addr × Obj)} (h : LtAll d l) (m : ((a : Addr), o) ∈ l) : a ≠ d + 1 := Nat.ne_of_lt (Nat.lt_succ_of_lt (h _ m))
theorem lt_en1 {a d : Nat} {o : Obj} {l : List (Addr × Obj)} (h : LtAll d l) (m : ((a : Addr), o) ∈ l) : d + 1 ≠ a := Nat.ne_of_gt (Nat.lt_succ_of_lt (h _ m))
theorem o1_ne {a D : Nat} {o : Obj} {l : List (Addr × Obj)} (h : LCg.Off1 D l) (m : ((a : Addr), o) ∈ l) : a ≠ D := by
  induction l with
  | nil => exact nomatch m
  | cons p r ih =>
    rcases List.mem_cons.mp m with rfl | m
    · exact h.1
    · exact ih h.2 m
theorem o1_en {a D : Nat} {o : Obj} {l : List (Addr × Obj)} (h : LCg.Off1 D l) (m : ((a : Addr), o) ∈ l) : D ≠ a := Ne.symm (o1_ne h m)
theorem o3_1 {a I C D : Nat} {o : Obj} {l : List (Addr × Obj)} (h : LCg.Off3 I C D l) (m : ((a : Addr), o) ∈ l) : a ≠ I := (h.mem _ m).1
theorem o3_2 {a I C D : Nat} {o : Obj} {l : List (Addr × Obj)} (h : LCg.Off3 I C D l) (m : ((a : Addr), o) ∈ l) : a ≠ C := (h.mem _ m).2.1
theorem o3_3 {a I C D : Nat} {o : Obj} {l : List (Addr × Obj)} (h : LCg.Off3 I C D l) (m : ((a : Addr), o) ∈ l) : a ≠ D := (h.mem _ m).2.2
theorem o3_4 {a I C D : Nat} {o : Obj} {l : List (Addr × Obj)} (h : LCg.Off3 I C D l) (m : ((a : Addr), o) ∈ l) : I ≠ a := Ne.symm (h.mem _ m).1
theorem o3_5 {a I C D : Nat} {o : Obj} {l : List (Addr × Obj)} (h : LCg.Off3 I C D l) (m : ((a : Addr), o) ∈ l) : C ≠ a := Ne.symm (h.mem _ m).2.1
theorem o3_6 {a I C D : Nat} {o : Obj} {l : List (Addr × Obj)} (h : LCg.Off3 I C D l) (m : ((a : Addr), o) ∈ l) : D ≠ a := Ne.symm (h.mem _ m).2.2
def NeT (I C D : Nat) : Prop := (@Ne Nat I C) ∧ (@Ne Nat I D) ∧ (@Ne Nat C D)
theorem NeT.of {I C D : Nat} (h : (@Ne Nat I C) ∧ (@Ne Nat I D) ∧ (@Ne Nat C D)) : NeT I C D := h
theorem NeT.a {I C D : Nat} (h : NeT I C D) : I ≠ C := h.1
theorem NeT.b {I C D : Nat} (h : NeT I C D) : I ≠ D := h.2.1
theorem NeT.c {I C D : Nat} (h : NeT I C D) : C ≠ D := h.2.2
theorem NeT.d {I C D : Nat} (h : NeT I C D) : C ≠ I := Ne.symm h.1
theorem NeT.e {I C D : Nat} (h : NeT I C D) : D ≠ I := Ne.symm h.2.1
theorem NeT.f {I C D : Nat} (h : NeT I C D) : D ≠ C := Ne.symm h.2.2
/-- two addresses apart, said so that arithmetic does not look at it -/
def NeQ (a b : Nat) : Prop := a ≠ b
theorem NeQ.l {a b : Nat} (h : NeQ a b) : a ≠ b := h
theorem NeQ.r {a b : Nat} (h : NeQ b a) : a ≠ b := Ne.symm h

/-! the commonest steps, over a state that is written out: what they leave is written out too -/
section
variable {prog : Program} {M : Model} {w : World} {A : Around} {E : Value → Shared → Prop} {Q : Value → Shared → Prop} {hp : Heap} {gs : Array GenState} {dr : Drawn} {tk : Nat} {os : OsState}
theorem constL {i : Int} {k : Nat} {pos : Pos} {env : Env} (h : Q (.int i tk) ⟨hp, gs, dr, tk + 1, os⟩) : wpAny M A (eval (.Constant (.int i) k pos) env) Q E ⟨hp, gs, dr, tk, os⟩ := wpAny_Constant_int h
theorem addL {a b : Int} {t u : Tok} (h : Q (.int (a + b) tk) ⟨hp, gs, dr, tk + 1, os⟩) : wpAny (model prog w) A (binaryOp .Add (.int a t) (.int b u)) Q E ⟨hp, gs, dr, tk, os⟩ := PyProof.Rows.add_int h
theorem subL {a b : Int} {t u : Tok} (h : Q (.int (a - b) tk) ⟨hp, gs, dr, tk + 1, os⟩) : wpAny (model prog w) A (binaryOp .Sub (.int a t) (.int b u)) Q E ⟨hp, gs, dr, tk, os⟩ := PyProof.Rows.sub_int h
theorem mulL {a b : Int} {t u : Tok} (h : Q (.int (a * b) tk) ⟨hp, gs, dr, tk + 1, os⟩) (hm : IntMulOk a b) : wpAny (model prog w) A (binaryOp .Mult (.int a t) (.int b u)) Q E ⟨hp, gs, dr, tk, os⟩ := PyProof.Rows.mul_int h hm
end
section
variable {M : Model} {A : Around} {E : Value → Shared → Prop} {Q : Value → Shared → Prop} {hp : Heap} {gs : Array GenState} {dr : Drawn} {tk : Nat} {os : OsState} {h₀ : Heap} {L : Addr} {m : Str → Option Value} {news : List (Addr × Obj)} {vs : List Value}
theorem newTupleL (F : Fr h₀ L hp m) (N : News h₀ L hp news)
    (h : ∀ D h', Fr h₀ L h' m → News h₀ L h' ((D, ({ cls := .type "tuple", data := .seq vs.toArray } : Obj)) :: news) → (∀ p ∈ news, p.1 < D) → Q (.ref D) ⟨h', gs, dr, tk, os⟩) (hz : vs.length ≤ sizeLine) : wpAny M A (newTuple vs) Q E ⟨hp, gs, dr, tk, os⟩ :=
  kup_newTuple F N h hz
end
theorem ok_l {a b : Int} (h : -1000000000 ≤ a ∧ a ≤ 1000000000) : IntMulOk a b := IntMulOk.of_left (intBits_le_64 (by omega) (by omega))
theorem ok_r {a b : Int} (h : -1000000000 ≤ b ∧ b ≤ 1000000000) : IntMulOk a b := IntMulOk.of_right (intBits_le_64 (by omega) (by omega))
theorem ok_fmod {a b n : Int} (h : 0 < n ∧ n ≤ 1000000000000) : IntMulOk (a.fmod n) b :=
  IntMulOk.of_left (intBits_le_64 (by have := fmod_lo a h.1; omega) (by have := fmod_hi a h.1; omega))
theorem ok_f1 {a b : Int} : IntMulOk (a.fmod 2147483629) b := ok_fmod (by decide)
theorem ok_f2 {a b : Int} : IntMulOk (a.fmod 2147483647) b := ok_fmod (by decide)
theorem ok_f3 {a b : Int} : IntMulOk (a.fmod 2147483587) b := ok_fmod (by decide)

end Mine
end

section
open PySem PySem.W PySem.Calls PyProof.Rows PySem.SeqAt
namespace Mine
section
variable {prog : Program} {w : World} {A : Around} {E : Value → Shared → Prop} {s : Shared} {h₀ : Heap} {L : Addr} {news : List (Addr × Obj)} {Q : Value → Shared → Prop}
theorem eqAt_bytes (b : Array UInt8) (t u : Tok) : EqAt A s (.bytes b t) (.bytes b u) true := fun prog w E Q h => eqBool_bytes (by simpa using h)
theorem eqAt_int (a : Int) (t u : Tok) : EqAt A s (.int a t) (.int a u) true := by
  have := EqAt.int_int (A := A) (s := s) a t a u
  simpa using this
theorem eqAt_pair {p q : Addr} {a b : Int} {t u t' u' : Tok} (hp : s.heap.IsTuple p #[.int a t, .int b u]) (hq : s.heap.IsTuple q #[.int a t', .int b u']) (hu : A.units < cLine) : EqAt A s (.ref p) (.ref q) true := by
  by_cases e : p = q
  · subst e; exact EqAt.same _
  · refine EqAt.of_refs e ?_
    have := RcAt.tuples (A := A) (s := s) (e := fun _ => true) hp hq hu fun j h1 h2 => by
      have h1' : j < 2 := h1
      rcases j with _ | _ | j
      · exact eqAt_int _ _ _
      · exact eqAt_int _ _ _
      · omega
    exact this
theorem eq_two {l r : Addr} {v v' x x' : Value} {n k : Nat} (N : News h₀ L s.heap news) (hl : (l, W.listOf #[v, v'] n) ∈ news) (hr : (r, W.listOf #[x, x'] k) ∈ news) (hu : A.units < cLine)
    (h1 : EqAt A.in1 s v x true) (h2 : EqAt A.in1 s v' x' true) (h : Q (.bool true) s) : wpAny (model prog w) A (compareOp .Eq (.ref l) (.ref r)) Q E s := by
  refine eq_listAt (e := fun _ => true) ⟨_, N.get hl, rfl, n, rfl⟩ ⟨_, N.get hr, rfl, k, rfl⟩ rfl hu (fun j g1 g2 => ?_) h
  have g1' : j < 2 := g1
  rcases j with _ | _ | j
  · exact h1
  · exact h2
  · omega
end
end Mine
end

section
open PySem PySem.W PySem.Calls PyProof.Rows
namespace Mine

theorem among_other {pos : Pos} {a b : Int} {c : Value} (l : List Value) (h : TriplesOk l) (hne : a ≠ (pos.line : Int)) :
    codeAmong pos (l ++ [rawInt a, rawInt b, c]) = codeAmong pos l := by
  fun_induction TriplesOk l with
  | case1 =>
    simp [codeAmong, rawInt, hne]
  | case2 a' t b' u x rest ih =>
    simp only [List.cons_append, codeAmong]
    rw [ih h]
  | case3 l h1 h2 => exact h.elim

/-- what a table of nested codes holds for the lambda at one line -/
def SlotAt (ln : Nat) (q : Str) (ps : Array Value) (c : Addr) (oc : Obj) : Prop :=
  ∀ pos : Pos, pos.line = ln → pos.col = 0 → codeAmong pos ps.toList = none ∨ (codeAmong pos ps.toList = some (.ref c) ∧ ∃ vs t, oc.data = .fields vs ∧ vs[1]? = some (.str q t))

structure Lams (q : Str) (ps : Array Value) (c1 : Addr) (o1 : Obj) (c2 : Addr) (o2 : Obj) : Prop where
  ok : TriplesOk ps.toList
  s1 : SlotAt 86 q ps c1 o1
  s2 : SlotAt 87 q ps c2 o2
  n1 : c1 ≠ 159
  n2 : c2 ≠ 159

section
variable {M : Model} {A : Around} {E : Value → Shared → Prop} {s : Shared} {h₀ : Heap} {L a c P : Addr} {m mg mb : Str → Option Value} {cn : Str} {cs : Scope} {ccd : Value} {cl : List (Str × Addr)} {news : List (Addr × Obj)} {g : Obj → List (Addr × Obj)}
  {p : Program} {loose : List Str} {mean : ExcName → Option Value} {name qual : Str} {params : Arguments} {body : Expr} {scope : Scope} {ps : Array Value} {pos : Pos} {firstLine : Nat} {clos : List (Str × Addr)}

theorem lam_any {Q : Value → Shared → Prop} {c1 : Addr} {o1 : Obj} (F : Fr h₀ L s.heap m) (N : News h₀ L s.heap news) (T : Top p loose mean mg mb h₀) (C : CodeHd h₀ c P) (hcd : ccd = .ref c) (U : UpdF P (tabObj ps) news g) (ht : TriplesOk ps.toList)
    (hs : codeAmong pos ps.toList = none ∨ (codeAmong pos ps.toList = some (.ref c1) ∧ ∃ vs t, o1.data = .fields vs ∧ vs[1]? = some (.str qual t))) (hm : (c1, o1) ∈ news) (hP : c1 ≠ P)
    (hcl : closureFor scope (envX cn cs L a ccd cl) = pure clos)
    (h : ∀ f c' oc vs t ctv ps' h' tk, Fr h₀ L h' m →
      News h₀ L h' ((f, kla_obj name qual params body scope clos ((mg "__name__").getD .none) c' ctv) :: (c', oc) :: g (tabObj ps')) →
      oc.data = .fields vs → vs[1]? = some (.str qual t) → TriplesOk ps'.toList → codeAmong pos ps'.toList = some (.ref c') → (∀ pos' : Pos, pos.line ≠ pos'.line → codeAmong pos' ps'.toList = codeAmong pos' ps.toList) →
      c' ≠ P → (∀ q ∈ news, q.1 < f) → Q (.ref f) { s with heap := h', toks := tk }) :
    wpAny M A (makeFunction name qual params (.expr body) scope (envX cn cs L a ccd cl) [] [] [] pos firstLine) Q E s := by
  obtain ⟨own, rest, hn, hgr, h1, h2⟩ := U.split
  rcases hs with hs | ⟨hs, vs, t, d1, d2⟩
  · refine kla_nest F N T C hcd U ht hs hcl fun f c' oc vs t ctv h' tk F' N' d1 d2 l1 l2 => ?_
    have hP' : P < c' := l1 (P, tabObj ps) (by rw [hn]; exact List.mem_append_right _ (.head _))
    refine h f c' oc vs t ctv _ h' tk F' N' d1 d2 ?_ ?_ (fun pos' hne => ?_) (Nat.ne_of_gt hP') fun q hq => Nat.lt_trans (l1 q hq) l2
    · rw [Array.toList_append]; exact TriplesOk_snoc _ _ _ _ ht
    · rw [Array.toList_append]; exact codeAmong_snoc _ ht hs
    · rw [Array.toList_append]; exact among_other _ ht (by omega)
  · refine kla_hit F N T C hcd (by rw [hn]; exact List.mem_append_right _ (.head _)) ht hs hcl fun f ctv h' tk F' N' l1 => ?_
    refine h f c1 o1 vs t ctv ps h' tk F' (fun q hq => ?_) d1 d2 ht hs (fun _ _ => rfl) hP l1
    rw [hgr, ← hn] at hq
    rcases List.mem_cons.mp hq with rfl | hq
    · exact N' _ (.head _)
    · rcases List.mem_cons.mp hq with rfl | hq
      · exact N' _ (.tail _ hm)
      · exact N' _ (.tail _ hq)

theorem lam_one {Q : Value → Shared → Prop} {c1 c2 : Addr} {o1 o2 : Obj} (F : Fr h₀ L s.heap m) (N : News h₀ L s.heap news) (T : Top p loose mean mg mb h₀) (C : CodeHd h₀ c 159) (hcd : ccd = .ref c) (U : UpdF 159 (tabObj ps) news g)
    (hl : pos.line = 86) (hc : pos.col = 0) (H : Lams qual ps c1 o1 c2 o2) (hm : (c1, o1) ∈ news) (hcl : closureFor scope (envX cn cs L a ccd cl) = pure clos)
    (h : ∀ f c' oc vs t ctv ps' h' tk, Fr h₀ L h' m →
      News h₀ L h' ((f, kla_obj name qual params body scope clos ((mg "__name__").getD .none) c' ctv) :: (c', oc) :: g (tabObj ps')) →
      oc.data = .fields vs → vs[1]? = some (.str qual t) → Lams qual ps' c' oc c2 o2 → c' ≠ 159 → (∀ q ∈ news, q.1 < f) → Q (.ref f) { s with heap := h', toks := tk }) :
    wpAny M A (makeFunction name qual params (.expr body) scope (envX cn cs L a ccd cl) [] [] [] pos firstLine) Q E s := by
  refine lam_any F N T C hcd U H.ok (H.s1 pos hl hc) hm H.n1 hcl fun f c' oc vs t ctv ps' h' tk F' N' d1 d2 ht hs hf hP l => h f c' oc vs t ctv ps' h' tk F' N' d1 d2 ⟨ht, fun pos' e1 e2 => .inr ⟨?_, vs, t, d1, d2⟩, fun pos' e1 e2 => ?_, hP, H.n2⟩ hP l
  · rw [← hs]
    have : ∀ l : List Value, codeAmong pos' l = codeAmong pos l := fun l => by
      fun_induction codeAmong pos l <;> simp_all [codeAmong]
    exact this _
  · rw [hf pos' (by omega)]
    exact H.s2 pos' e1 e2

theorem lam_two {Q : Value → Shared → Prop} {c1 c2 : Addr} {o1 o2 : Obj} (F : Fr h₀ L s.heap m) (N : News h₀ L s.heap news) (T : Top p loose mean mg mb h₀) (C : CodeHd h₀ c 159) (hcd : ccd = .ref c) (U : UpdF 159 (tabObj ps) news g)
    (hl : pos.line = 87) (hc : pos.col = 0) (H : Lams qual ps c1 o1 c2 o2) (hm : (c2, o2) ∈ news) (hcl : closureFor scope (envX cn cs L a ccd cl) = pure clos)
    (h : ∀ f c' oc vs t ctv ps' h' tk, Fr h₀ L h' m →
      News h₀ L h' ((f, kla_obj name qual params body scope clos ((mg "__name__").getD .none) c' ctv) :: (c', oc) :: g (tabObj ps')) →
      oc.data = .fields vs → vs[1]? = some (.str qual t) → Lams qual ps' c1 o1 c' oc → c' ≠ 159 → (∀ q ∈ news, q.1 < f) → Q (.ref f) { s with heap := h', toks := tk }) :
    wpAny M A (makeFunction name qual params (.expr body) scope (envX cn cs L a ccd cl) [] [] [] pos firstLine) Q E s := by
  refine lam_any F N T C hcd U H.ok (H.s2 pos hl hc) hm H.n2 hcl fun f c' oc vs t ctv ps' h' tk F' N' d1 d2 ht hs hf hP l => h f c' oc vs t ctv ps' h' tk F' N' d1 d2 ⟨ht, fun pos' e1 e2 => ?_, fun pos' e1 e2 => .inr ⟨?_, vs, t, d1, d2⟩, H.n1, hP⟩ hP l
  · rw [hf pos' (by omega)]
    exact H.s1 pos' e1 e2
  · rw [← hs]
    have : ∀ l : List Value, codeAmong pos' l = codeAmong pos l := fun l => by
      fun_induction codeAmong pos l <;> simp_all [codeAmong]
    exact this _
end
theorem lams_nil (q : Str) (c1 : Addr) (o1 : Obj) (c2 : Addr) (o2 : Obj) (n1 : c1 ≠ 159) (n2 : c2 ≠ 159) : Lams q #[] c1 o1 c2 o2 :=
  ⟨trivial, fun _ _ _ => .inl rfl, fun _ _ _ => .inl rfl, n1, n2⟩
end Mine
end

section
open PySem PySem.W PySem.Calls PyProof.Rows
namespace Mine
open PyProof.Rows.LCg
section
variable {prog : Program} {w : World} {A : Around} {E : Value → Shared → Prop} {s : Shared} {h₀ : Heap} {L : Addr} {m : Str → Option Value} {env : Env}

/-- the tuple that a comprehension goes over still stands in the ledger -/
def SrcTup (ax : Addr) (its : Array Value) (news : List (Addr × Obj)) : Prop := False ∨ ∃ o, (ax, o) ∈ news ∧ o.cls = .type "tuple" ∧ ∃ n, o.data = .seq its n
theorem SrcTup.tup {h : Heap} {ax : Addr} {its : Array Value} {news : List (Addr × Obj)} (x : SrcTup ax its news) (N : News h₀ L h news) : h.IsTuple ax its := by
  rcases x with x | ⟨o, hm, r⟩
  · exact x.elim
  · exact ⟨o, (N _ hm).1, r⟩

def CompTup (prog : Program) (w : World) (A : Around) (h₀ : Heap) (L : Addr) (m : Str → Option Value) (env : Env) (elt : Expr) (x : Str) (scope : Scope) (cl : List (Str × Addr)) (Fin : Shared → List Value → List (Addr × Obj) → Prop) (xv : Value) (s₁ : Shared) : Prop :=
  ∃ ax its news, xv = .ref ax ∧ A.handled = none ∧ Fr h₀ L s₁.heap m ∧ News h₀ L s₁.heap news ∧ SrcTup ax its news ∧ its.size ≤ sizeLine ∧
    ∀ s₂ : Shared, (∃ h, s₂ = { s₁ with heap := h }) → CompRest prog w A h₀ L m env elt x scope cl s₂ (SrcTup ax its) (fun i v => its[i]? = some v) (Fin s₂) its.size 0 [] news
theorem CompTup.intro {elt : Expr} {x : Str} {scope : Scope} {cl : List (Str × Addr)} {Fin : Shared → List Value → List (Addr × Obj) → Prop} {ax : Addr} {its : Array Value} {k : Nat} {news : List (Addr × Obj)} {s₁ : Shared}
    (hh : A.handled = none) (F : Fr h₀ L s₁.heap m) (N : News h₀ L s₁.heap news) (hm : (ax, ({ cls := .type "tuple", data := .seq its k } : Obj)) ∈ news) (hsz : its.size ≤ sizeLine)
    (h : ∀ g, CompRest prog w A h₀ L m env elt x scope cl { s₁ with heap := g } (SrcTup ax its) (fun i v => its[i]? = some v) (Fin { s₁ with heap := g }) its.size 0 [] news) :
    CompTup prog w A h₀ L m env elt x scope cl Fin (.ref ax) s₁ := ⟨ax, its, news, rfl, hh, F, N, .inr ⟨_, hm, rfl, _, rfl⟩, hsz, fun _ ⟨g, e⟩ => e ▸ h g⟩

theorem tup_st {ax I : Addr} {its : Array Value} : ∀ i (h h' : Heap) (o : Obj) (nw : List (Addr × Obj)), (h.IsTupleIter I ax i ∧ h.IsTuple ax its) → h.get? I = some o → h'.get? I = some o → (∀ b o, h₀.get? b = some o → h'.get? b = some o) → News h₀ L h' nw → SrcTup ax its nw → (h'.IsTupleIter I ax i ∧ h'.IsTuple ax its) :=
  fun i h h' o nw st e e' _ N S => ⟨by obtain ⟨o', q, r⟩ := st.1; rw [e] at q; cases q; exact ⟨o, e', r⟩, S.tup N⟩

theorem ListComp_Tup {elt iter : Expr} {x : Str} {px : Pos} {scope : Scope} {cl : List (Str × Addr)} {pos : Pos} {Q : Value → Shared → Prop} (F₀ : Fr h₀ L s.heap m)
    (hclos : closureFor scope env = pure cl) (hcell : ∀ y ∈ scope.names, y.2 ≠ .cell) (hkind : scope.kind = .function)
    (hnames : ∀ y ∈ scope.names, y.2 = .local → scope.names.lookup y.1 = some .local) (hx : scope.names.lookup x = some .local)
    (h : wpAny (model prog w) A (eval iter env) (CompTup prog w A h₀ L m env elt x scope cl (fun s₂ => FinE h₀ L m s₂ Q)) E s)
    (hs : ∀ x, foldedSetIterable iter env x = pure x := by intro _; rfl) :
    wpAny (model prog w) A (eval (.ListComp elt [⟨.Name x px, iter, [], 0⟩] scope pos) env) Q E s := by
  rw [eval_ListComp]
  refine wpAny_comprehension_free (use := none) rfl hs hclos hkind hnames (wpAny_mono h (fun xv s₁ h₁ => ?_) fun _ _ e => e)
  obtain ⟨ax, its, news, rfl, hh, F, N, S, hsz, R⟩ := h₁
  have hl := S.tup N
  have hlt : ax < s₁.heap.objs.size := by obtain ⟨_, e, _⟩ := hl; exact Heap.lt_size e
  refine wpAny_pyIter_tuple hl ?_
  have up : ∀ b o, s₁.heap.get? b = some o → (s₁.heap.push { cls := .type "tuple_iterator", data := .fields #[.ref ax, .int 0 0] }).get? b = some o := fun b o e => Heap.get?_push_of_some _ e
  refine block_U (Walks.tuple hh s₁.heap.objs.size ax (Nat.ne_of_lt hlt) its) hsz (fun i h st => by obtain ⟨o, e, _⟩ := st.1; exact ⟨o, e⟩) tup_st hcell hkind hx ⟨⟨_, Heap.get?_push_size _ rfl, rfl, rfl⟩, hl.push _⟩ (fun b hb => ?_)
    (F.keeps up) (N.grown up) (Nat.ne_of_lt F.ns.lt) (next_is_new F) (fun p hp => Nat.ne_of_lt (Heap.lt_size (N p hp).1)) S (R _ ⟨_, rfl⟩) ?_
  · show b < (s₁.heap.push _).objs.size
    rw [Heap.size_push]
    rcases List.mem_cons.mp hb with rfl | hb
    · exact Nat.lt_succ_self _
    · rw [List.mem_singleton.mp hb]; exact Nat.lt_succ_of_lt hlt
  · intro D C h tk m' ys news' F' N' o1 hn hC₀ hD₀ hCL hDL hCD offC fin
    refine ⟨m', hn, fun h'' hs'' => fin D h'' tk (F'.change hs'' hCL hC₀) (fun p hp => ?_) o1⟩
    refine ⟨hs''.extBut _ _ ?_ (N' p hp).1, (N' p hp).2⟩
    rcases List.mem_cons.mp hp with rfl | hp
    · exact Ne.symm hCD
    · exact offC p hp
end
end Mine
end

section
open PySem PySem.W PySem.Calls PyProof.Rows
namespace Mine

section
variable {prog : Program} {w : World} {M : Model} {A : Around} {E : Value → Shared → Prop} {h : Heap} {g : Array GenState} {d : Drawn} {t : Nat} {os : OsState}
variable {nm q : Str} {C N : Addr} {bs bm bmB : List Value} {hdct : Bool} {sn : List Str} {sub : List Value} {ab : Bool} {col : Option Bool} {dd : Option Addr} {k0 k1 k2 k3 k5 : Option Value} {B newId initId : String}

/-- the maker's check, for a class below a class of the text's own -/
theorem chk_new (F : ExcBaseFacts B newId initId bmB) (hB : bm.contains (.type B) = true) {rest : List Value} {Q : Unit → Shared → Prop}
    (hC : h.get? C = some (excClassObj nm q C N bs bm hdct sn sub ab col dd k0 k1 k2 k3 k5 newId)) (hq : Q () ⟨h, g, d, t, os⟩) :
    wpAny M A (checkBuiltinCall newId ⟨.ref C :: rest, []⟩) Q E ⟨h, g, d, t, os⟩ := by
  have hcB : (Value.ref C :: bm).contains (.type B) = true := by rw [List.contains_cons, hB, Bool.or_true]
  have hns := F.noStar
  simp only [checkBuiltinCall, F.newKind, F.newSplit, F.newRow]
  repeat (first | refine wpAny_loadPart_at hC ?_ | (refine wpAny_isSubtype_exc hC ?_; rw [hcB]) | refine wpAny_staticBase_exc hC ?_ | refine wpAny_madeBy_exc hC ?_ | simp only [bne_self_eq_false, Bool.false_eq_true, if_false] | wp_step)
  exact hq

theorem made_new (F : ExcBaseFacts B newId initId bmB) (hB : bm.contains (.type B) = true) (hAt : bm.contains (.type "AttributeError") = false) (hNm : bm.contains (.type "NameError") = false)
    {rest : List Value} {R : Result → Shared → Prop} (hC : h.get? C = some (excClassObj nm q C N bs bm hdct sn sub ab col dd k0 k1 k2 k3 k5 newId))
    (hq : R (.ok (.ret (.ref (h.objs.size + 1)))) ⟨(h.push { cls := .type "tuple", data := .seq rest.toArray }).push
      { cls := .ref C, data := .fields #[.ref h.objs.size, .none, .none, .none, .bool false, .none] }, g, d, t, os⟩) (hrest : rest.length ≤ sizeLine := by size_fits) :
    codeAny (model prog w) A (.builtin newId ⟨.ref C :: rest, []⟩) R ⟨h, g, d, t, os⟩ := by
  have hends := F.ends
  have c1 : (Value.ref C :: bm).contains (.type B) = true := by rw [List.contains_cons, hB, Bool.or_true]
  have c2 : (Value.ref C :: bm).contains (.type "AttributeError") = false := by rw [List.contains_cons, hAt]; rfl
  have c3 : (Value.ref C :: bm).contains (.type "NameError") = false := by rw [List.contains_cons, hNm]; rfl
  refine codeAny_builtinAt F.entry ?_
  unfold Builtin.«BaseException.__new__»
  refine PySem.wpAt_bind ?_
  show PySem.wpAt _ _ _ (stack >>= _) _ _ _
  refine PySem.wpAt_bind (PySem.wpAt_stack fun p below => PySem.wpAt_of_wpAny ?_)
  wp_walk
  refine PySem.wpAt_of_wpAny ?_
  rw [F.owner]
  repeat (first | with_reducible refine wpAny_madeHere_exc F.canon hC ?_ | with_reducible refine wpAny_loadPart_at hC ?_ | (with_reducible refine wpAny_isSubtype_exc hC ?_; first | rw [c1] | rw [c2] | rw [c3]) | wp_step)
  show R _ _
  rw [Heap.size_push]
  exact hq

/-- an own exception made, its __init__ found on a class of the text's own -/
theorem type_made (F : ExcBaseFacts B newId initId bmB) (hB : bm.contains (.type B) = true) (hAt : bm.contains (.type "AttributeError") = false) (hNm : bm.contains (.type "NameError") = false)
    {rest : List Value} {fI : Addr} {Q : PySem.Fin → Shared → Prop} (hC : h.get? C = some (excClassObj nm q C N bs bm hdct sn sub ab col dd k0 k1 k2 k3 k5 newId))
    (lk : ∀ h', (∀ b o, h.get? b = some o → h'.get? b = some o) → Looks (model prog w) h' (typeLookup (.ref C) "__init__") (some (.ref fI)))
    (bd : ∀ h' x, (∀ b o, h.get? b = some o → h'.get? b = some o) → Looks (model prog w) h' (bindSpecial (.ref fI) x) (.ref fI, [x]))
    (hq : ∀ h' e, Heap.MadeExcOf h h' e (.ref C) rest →
      wpAny (model prog w) A (call (.ref fI) (.ref e :: rest)) (fun r s' => r = .none ∧ Q (.done (.ret (.ref e))) s') E ⟨h', g, d, t, os⟩) (hrest : rest.length ≤ sizeLine := by size_fits) :
    wpAny (model prog w) A (Builtin.«type.__call__» ⟨.ref C :: rest, []⟩) Q E ⟨h, g, d, t, os⟩ := by
  repeat (first | with_reducible refine wpAny_loadPart_at hC ?_ | with_reducible refine wpAny_madeBy_exc hC ?_ | wp_step)
  refine codeAny_call_builtin_code (Code.quiet_builtin _ F.quiet) (chk_new F hB hC ?_)
  refine made_new F hB hAt hNm hC ?_ hrest
  show wpAny _ _ _ _ _ _
  have up : ∀ b o, h.get? b = some o → ((h.push { cls := .type "tuple", data := .seq rest.toArray }).push
      { cls := .ref C, data := .fields #[.ref h.objs.size, .none, .none, .none, .bool false, .none] }).get? b = some o := fun b o e => Heap.get?_push_of_some _ (Heap.get?_push_of_some _ e)
  have hC₁ := up _ _ hC
  have hget : ((h.push { cls := .type "tuple", data := .seq rest.toArray }).push
      { cls := .ref C, data := .fields #[.ref h.objs.size, .none, .none, .none, .bool false, .none] }).get? (h.objs.size + 1) = some
      { cls := .ref C, data := .fields #[.ref h.objs.size, .none, .none, .none, .bool false, .none] } := by heap_get
  have hcC : (Value.ref C :: bm).contains (.ref C) = true := by simp
  unfold isInstance
  repeat (first | with_reducible refine wpAny_loadPart_at hget ?_ | (with_reducible refine wpAny_isSubtype_exc hC₁ ?_; rw [hcC]) | wp_step)
  show wpAny _ _ (typeLookup (.ref C) _) _ _ _
  refine (lk _ up).at ?_
  refine wpAny_holding (wpAny_bind ((bd _ _ up).at ?_))
  refine wpAny_bind (wpAny_mono (hq _ (h.objs.size + 1) ⟨up, Heap.get?_none_of_le (Nat.le_succ _), h.objs.size, hget, Heap.get?_none_of_le (Nat.le_refl _), Heap.get?_push_of_some _ (Heap.get?_push_at rfl rfl)⟩) (fun r s' hr => ?_) fun _ _ x => x)
  obtain ⟨rfl, hQ⟩ := hr
  wp_walk
  exact hQ

theorem call_made (F : ExcBaseFacts B newId initId bmB) (hB : bm.contains (.type B) = true) (hAt : bm.contains (.type "AttributeError") = false) (hNm : bm.contains (.type "NameError") = false)
    {rest : List Value} {fI : Addr} {Q : Value → Shared → Prop} (hC : h.get? C = some (excClassObj nm q C N bs bm hdct sn sub ab col dd k0 k1 k2 k3 k5 newId))
    (lk : ∀ h', (∀ b o, h.get? b = some o → h'.get? b = some o) → Looks (model prog w) h' (typeLookup (.ref C) "__init__") (some (.ref fI)))
    (bd : ∀ h' x, (∀ b o, h.get? b = some o → h'.get? b = some o) → Looks (model prog w) h' (bindSpecial (.ref fI) x) (.ref fI, [x]))
    (hq : ∀ h' e, Heap.MadeExcOf h h' e (.ref C) rest →
      wpAny (model prog w) (A.under (.builtin "type.__call__" ⟨.ref C :: rest, []⟩)) (call (.ref fI) (.ref e :: rest)) (fun r s' => r = .none ∧ Q (.ref e) s') E ⟨h', g, d, t, os⟩) (hrest : rest.length ≤ sizeLine := by size_fits) :
    wpAny (model prog w) A (call (.ref C) rest) Q E ⟨h, g, d, t, os⟩ := by
  have f1 := tc_lookup
  have f2 := tc_bind (.ref C)
  have hT : (⟨h, g, d, t, os⟩ : Shared).TypeIs (.ref C) "type" := ⟨_, hC, rfl⟩
  refine wpAny_call (codeAny_of_tree ?_)
  show wpAny _ _ (callAny (.ref C) _) _ _ _
  repeat (any_goals (first | assumption | with_reducible refine wpAny_loadPart_at hC ?_ | wp_step))
  refine ⟨rfl, ?_⟩
  refine codeAny_call_builtin_at (Code.quiet_builtin _ (by decide +kernel)) entry_typeCall (wpAny_check_type_call_sub hC (type_made (hrest := hrest) F hB hAt hNm hC lk bd fun h' e hm => ?_))
  exact hq h' e hm
end
end Mine
end

section
open PySem PySem.W PySem.Calls PyProof.Rows Mine
local macro_rules | `(tactic| k_room) => `(tactic| ((simp only [depth_under_make, depth_under_kw, depth_in1, depth_deeper, ctr_depth]); decide))

section
open PySem PySem.W PySem.Calls PyProof.Rows
namespace Mine
open PySem.Builtin PySem.Builtin.ObjectAttr

/-- a PsError as it is made: its words, and its own dict once it has one -/
abbrev eObj (t : Addr) (od : Option Addr) : Obj := { cls := .ref 45, dict := od, data := .fields #[.ref t, .none, .none, .none, .bool false, .none] }

abbrev psTail : List Value := [.ref 32, .type "Exception", .type "BaseException", .type "object"]
theorem ps_obj (w : World) {h : Heap} (X : (hd.heap_39 w.params).In h) : PySem.Challenge.rw_on0256_01.foot = 10 → ∃ nm qn bs sn sub ab col dd k0 k1 k2 k3 k5,
    h.get? 45 = some (excClassObj nm qn 45 44 bs psTail true sn sub ab col dd k0 k1 k2 k3 k5 "Exception.__new__") := by
  revert X
  k_fill
  intro X _
  exact ⟨_, _, _, _, _, _, _, _, _, _, _, _, _, X _ _ (by k_is)⟩
theorem looks_psData (w : World) {M : Model} {h : Heap} (X : (hd.heap_39 w.params).In h) (hf : PySem.Challenge.rw_on0256_01.foot = 10) : ∃ cd, Looks M h (classData 45) cd ∧ cd.mro = .ref 45 :: psTail ∧ cd.hasDict = true := by
  obtain ⟨nm, qn, bs, sn, sub, ab, col, dd, k0, k1, k2, k3, k5, hC⟩ := ps_obj w X hf
  exact ⟨_, (Looks.ld (part := none) hC).andThen .now, rfl, rfl⟩
set_option maxHeartbeats 2000000 in
theorem set_told (w : World) {A : Around} {E : Value → Shared → Prop} {s : Shared} {e t : Addr} {v : Value} {Q : Unit → Shared → Prop}
    (X : (hd.heap_39 w.params).In s.heap) (hx : s.heap.get? e = some (eObj t none))
    (hq : ∀ h' tk' dx m, h'.get? e = some (eObj t (some dx)) → h'.Ns dx m → m (Str.ofString "told") = some v → dx ≠ e → s.heap.get? dx = none → (∀ b o, b ≠ e → s.heap.get? b = some o → h'.get? b = some o) →
      Q () { s with heap := h', toks := tk' }) :
    wpAny (model PySem.Challenge.rw_on0256_01.row.prog w) A (setAttr (.ref e) (Str.ofString "told") v) Q E s := by
  revert X; k_fill; intro X
  have hs : findIn (hd.heap_39 w.params) (.ref 45) "__setattr__" = some (some (.builtin "object.__setattr__")) := by k_is
  have hfa : findIn (hd.heap_39 w.params) (.ref 45) (Str.ofString "told") = some none := by k_is
  have hmo : mroIn (hd.heap_39 w.params) 45 (.type "object") = some true := by k_is
  have I : InstAt s.heap e (eObj t none) 45 none := ⟨hx, rfl, rfl, trivial⟩
  refine set_plain X I hs ?_
  obtain ⟨h, g, d, tk, os⟩ := s
  have SF := PySem.F.store_object
  have sub : Looks (model PySem.Challenge.rw_on0256_01.row.prog w) h (isInstance (.ref e) (.type "object")) true := I.type.andThen (looks_mroIn X hmo)
  refine codeAny_call_builtin SF.slot.plain SF.entry (@check_slot (model PySem.Challenge.rw_on0256_01.row.prog w) _ _ _ "object.__setattr__" "object" "__setattr__" (.ref e) [.str (Str.ofString "told") tk, v] [] _ SF.kind SF.split sub (SF.args (.ref e) (.str (Str.ofString "told") tk) v) ?_)
  obtain ⟨cd, hc, hmro, hhd⟩ := looks_psData w (M := model PySem.Challenge.rw_on0256_01.row.prog w) X rfl
  have hm : Looks (model PySem.Challenge.rw_on0256_01.row.prog w) h (mroOf (.ref 45)) cd.mro := hc.andThen .now
  rw [osa_eq, refuse_eq]
  refine wpAny_bind (wpAny_bind (I.type.at (wpAny_bind (hm.at ?_))))
  rw [hmro, refuseLoop_ref, refuseLoop_ref, PySem.F.store_Exception.passes]
  refine wpAny_pure (wpAny_bind (I.type.at (wpAny_bind ((looks_findIn X hfa).at ?_))))
  refine wpAny_bind (wpAny_pure ?_)
  show wpAny _ _ (storeInOwnDict _ _ _ _ _ _) _ _ _
  unfold storeInOwnDict
  refine wpAny_bind (wpAny_pure ?_)
  show wpAny _ _ (ownDictForStores (.ref e) >>= _) _ _ _
  refine wpAny_bind ?_
  show wpAny _ _ (instanceDict e true) _ _ _
  unfold instanceDict
  refine wpAny_bind (wpAny_loadPart hx ?_)
  dsimp only
  refine wpAny_bind (hc.at ?_)
  rw [hhd]
  have hxs : e ≠ h.objs.size := Nat.ne_of_lt (Heap.lt_size hx)
  have hx₁ : (h.push { cls := .type "dict", data := .dict #[] }).get? e = some (eObj t none) := Heap.get?_push_of_some _ hx
  show wpAny _ _ (alloc _ >>= _) _ _ _
  refine wpAny_bind (wpAny_alloc' ?_)
  refine wpAny_bind (wpAny_update' hx₁ ?_)
  refine wpAny_pure ?_
  have hgd : ((h.push { cls := .type "dict", data := .dict #[] }).update e fun o => { cls := o.cls, dict := some h.objs.size, data := o.data, slots := o.slots }).get? h.objs.size
      = some { cls := .type "dict", data := .dict #[] } :=
    (Heap.get?_update_ne _ _ _ _ hxs.symm).trans (Heap.get?_push_at rfl rfl)
  have hge : ((h.push { cls := .type "dict", data := .dict #[] }).update e fun o => { cls := o.cls, dict := some h.objs.size, data := o.data, slots := o.slots }).get? e
      = some (eObj t (some h.objs.size)) := Heap.get?_update_self _ hx₁ rfl
  have hnd : ((h.push { cls := .type "dict", data := .dict #[] }).update e fun o => { cls := o.cls, dict := some h.objs.size, data := o.data, slots := o.slots }).Ns h.objs.size (fun _ => none) :=
    ⟨_, #[], _, hgd, rfl, fun e he => absurd he (by simp), fun _ => rfl⟩
  show wpAny _ _ (storeInDict h.objs.size _ _ _) _ _ _
  unfold storeInDict newKeyGuard
  refine wpAny_bind (wpAny_pure (wpAny_bind (wpAny_nsSet1 (Heap.Ns1.of_empty hnd) fun h' hn' hs => ?_)))
  obtain ⟨oD, esD, epD, hoD, hdD, hcD⟩ := hn'.count (Within.cons (Str.ofString "told") v Within.nil)
  refine wpAny_bind (wpAny_lookBehind hoD (by rw [hdD]; exact pastItsLine_dict (Nat.le_trans hcD (by rw [List.length_cons, List.length_nil, sizeLine_eq]; omega))) ?_)
  show wpAny _ _ (ret _) _ _ _
  refine wpAny_pure ?_
  refine hq h' _ h.objs.size _ ((hs.2 e hxs).trans hge) hn'.ns (by simp) hxs.symm (Heap.get?_none_of_le (Nat.le_refl _)) fun b o hb ho => ?_
  exact (hs.2 b (Nat.ne_of_lt (Heap.lt_size ho))).trans ((Heap.get?_update_ne _ _ _ _ hb).trans (Heap.get?_push_of_some _ ho))

/-- a dict that says: told is v -/
def ToldIs (od : Obj) (v : Value) : Prop := ∃ es ep, od.data = .dict es ep ∧ StrKeys es ∧ nsFind es (Str.ofString "told") = some v

theorem set_toldN (w : World) {A : Around} {E : Value → Shared → Prop} {s : Shared} {e t L : Addr} {h₀ : Heap} {m : Str → Option Value} {v : Value} {Q : Unit → Shared → Prop}
    (F : Fr h₀ L s.heap m) (X : (hd.heap_39 w.params).In h₀) (N : News h₀ L s.heap [(e, eObj t none)])
    (hq : ∀ h' tk' dx od, Fr h₀ L h' m → News h₀ L h' [(e, eObj t (some dx)), (dx, od)] → ToldIs od v → Q () { s with heap := h', toks := tk' }) :
    wpAny (model PySem.Challenge.rw_on0256_01.row.prog w) A (setAttr (.ref e) (Str.ofString "told") v) Q E s := by
  have he := N (e, eObj t none) (.head _)
  refine set_told w (X.keeps F.keep) he.1 fun h' tk' dx md h1 h2 h3 h4 h5 h6 => ?_
  obtain ⟨od, es, ep, g1, g2, g3, g4⟩ := h2
  have hL : L ≠ e := Ne.symm he.2.1
  obtain ⟨oL, fs, fp, hl, hr⟩ := F.ns
  refine hq h' tk' dx od ⟨⟨oL, fs, fp, h6 L oL hL hl, hr⟩, fun b o q => h6 b o (fun z => ?_) (F.keep b o q), F.above⟩ ?_ ⟨es, ep, g2, g3, (g4 _).trans h3⟩
  · rw [z, he.2.2] at q; cases q
  · intro p hp
    rcases List.mem_cons.mp hp with rfl | hp
    · exact ⟨h1, he.2.1, he.2.2⟩
    · obtain rfl := List.mem_singleton.mp hp
      refine ⟨g1, fun z => ?_, fresh_of_stays F.keep h5⟩
      have z' : dx = L := z
      rw [z', hl] at h5; cases h5


set_option maxHeartbeats 8000000 in
theorem init_spec (w : World) (e t : Addr) (b : Array UInt8) (ub : Tok) : Spec w 600 false 29 [.ref e, .bytes b ub] [(e, eObj t none)] (fun v sub' => v = .none ∧ ∃ dx od, sub' = [(e, eObj t (some dx)), (dx, od)] ∧ ToldIs od (.bytes b ub)) := by
  unfold Spec
  k_fill
  intro gd cn cs a ccd cl outer A₀ base h₀ L m s news loose mean mg mb Q E B F X N T hk hsub C k
  k_dflt (refine' callS ?k1 ?k2 ?k3 ?k4 ?k5 ?kA ?kF ?kK ?kS ?kC ?kk ?k6 ?k7 ?k8 ?k9 ?kB ?_ ?c2 ?c3 ?c4 ?c5 (args := ⟨_, []⟩); (case kA => exact rfl); (case kF => exact rfl); (case kK => assumption); (case k1 => k_asm); (case k2 => k_asm); (case k3 => k_asm); (case k4 => k_asm); (case k5 => k_asm); (case kS => assumption); (case kC => assumption); (case kk => assumption); (case k6 => k_is); (case k7 => k_is); (case k8 => k_room); (case k9 => first | exact BindsTo.of_eq rfl | exact binds_K (X.keeps F.keep) rfl (by k_is) rfl rfl rfl); (case c5 => decide); (case kB => exact locs rfl); (case c2 => exact rfl); (case c3 => exact rfl); (case c4 => exact rfl); k_whole)
  clear B F X N T hk hsub C k
  intro g L' h' F' N' B' X' T' C' l1
  (try dsimp only)
  (with_reducible show wpAny _ _ _ _ _ _)
  k_fold
  repeat' (first | (k_unfold; (try dsimp only)) | (k_end; wrow_close) | ((with_reducible show wpAny _ _ (eval (Expr.Constant (Const.int _) _ _) _) _ _ _); (with_reducible refine constL ?_)) | ((with_reducible show wpAny _ _ (binaryOp Operator.Add (Value.int _ _) (Value.int _ _)) _ _ _); (with_reducible refine addL ?_)) | ((with_reducible show wpAny _ _ (binaryOp Operator.Sub (Value.int _ _) (Value.int _ _)) _ _ _); (with_reducible refine subL ?_)) | ((with_reducible show wpAny _ _ (binaryOp Operator.Mult (Value.int _ _) (Value.int _ _)) _ _ _); (with_reducible refine' mulL ?_ ?zqs1); (case zqs1 => (first | with_reducible exact ok_f1 | with_reducible exact ok_f2 | with_reducible exact ok_f3 | exact IntMulOk.of_left (by decide) | with_reducible exact ok_l (by assumption) | with_reducible exact ok_r (by assumption) | with_reducible mul_fits))) | ((with_reducible show wpAny _ _ (newTuple _) _ _ _); k_here; kup_bare; k_dflt (refine' newTupleL ?zqs2 ?zqs3 ?_ ?zqs4; (case zqs2 => k_asm); (case zqs3 => k_asm); (case zqs4 => kmk_size)); intro D' h' F' N' l1; (try k_lt l1); (try k_sweep)) | (first | ((k_here; k_dflt (refine' set_toldN _ ?zq0k1 ?zq0k2 ?zq0k3 ?_; (case zq0k1 => k_asm); (case zq0k2 => k_asm); (case zq0k3 => k_asm); k_whole); intro h' tk' dx' od' F' N' hTold'))) | walk1 | (dsimp only; (first | ((with_reducible show wpAny _ _ (eval (Expr.Constant (Const.int _) _ _) _) _ _ _); (with_reducible refine constL ?_)) | ((with_reducible show wpAny _ _ (binaryOp Operator.Add (Value.int _ _) (Value.int _ _)) _ _ _); (with_reducible refine addL ?_)) | ((with_reducible show wpAny _ _ (binaryOp Operator.Sub (Value.int _ _) (Value.int _ _)) _ _ _); (with_reducible refine subL ?_)) | ((with_reducible show wpAny _ _ (binaryOp Operator.Mult (Value.int _ _) (Value.int _ _)) _ _ _); (with_reducible refine' mulL ?_ ?zqs1); (case zqs1 => (first | with_reducible exact ok_f1 | with_reducible exact ok_f2 | with_reducible exact ok_f3 | exact IntMulOk.of_left (by decide) | with_reducible exact ok_l (by assumption) | with_reducible exact ok_r (by assumption) | with_reducible mul_fits))) | ((with_reducible show wpAny _ _ (newTuple _) _ _ _); k_here; kup_bare; k_dflt (refine' newTupleL ?zqs2 ?zqs3 ?_ ?zqs4; (case zqs2 => k_asm); (case zqs3 => k_asm); (case zqs4 => kmk_size)); intro D' h' F' N' l1; (try k_lt l1); (try k_sweep)) | (first | ((k_here; k_dflt (refine' set_toldN _ ?zq0k1 ?zq0k2 ?zq0k3 ?_; (case zq0k1 => k_asm); (case zq0k2 => k_asm); (case zq0k3 => k_asm); k_whole); intro h' tk' dx' od' F' N' hTold'))) | walk1)) | (leave1; walk_say "STEP leave1"; try dsimp only) | fail "no step")
  exact ⟨_, _, _, _, _, rfl, by assumption, by assumption, rfl, _, _, rfl, by assumption⟩

theorem Rest.whole {as : List Addr} : ∀ {r : List (Addr × Obj)}, (∀ q ∈ r, ∀ a ∈ as, q.1 ≠ a) → Rest as r r
  | [], _ => .nil
  | p :: _, h => .keep (h p (.head _)) (Rest.whole fun q hq => h q (.tail _ hq))

/-- PsError(words), from a frame of the text's own -/
theorem call_ps (w : World) {A A₀ : Around} {E : Value → Shared → Prop} {s : Shared} {cn : Str} {cs : Scope} {a : Addr} {ccd : Value} {cl : List (Str × Addr)} {outer : List Env} {base h₀ : Heap} {L : Addr} {m : Str → Option Value} {news : List (Addr × Obj)}
    {loose : List Str} {mean : ExcName → Option Value} {mg mb : Str → Option Value} {b : Array UInt8} {u : Tok} {Q : Value → Shared → Prop}
    (B : Below A₀ base outer h₀) (F : Fr h₀ L s.heap m) (X : (hd.heap_39 w.params).In h₀) (N : News h₀ L s.heap news) (T : Top topProg loose mean mg mb h₀)
    (hf : A.frames = some (envX cn cs L a ccd cl :: outer)) (hh : A.handled = none) (hk : cs.kind = .function) (hdp : A.depth ≤ 600) (hu : A.units ≤ 5000)
    (k : ∀ h' tk' e t dx od, Fr h₀ L h' m → News h₀ L h' ((e, eObj t (some dx)) :: (dx, od) :: news) → ToldIs od (.bytes b u) → (∀ q ∈ (dx, od) :: news, q.1 ≠ e) → Q (.ref e) { s with heap := h', toks := tk' }) :
    wpAny (model PySem.Challenge.rw_on0256_01.row.prog w) A (call (.ref 45) [.bytes b u]) Q E s := by
  revert X; k_fill; intro X
  have Xs := X.keeps F.keep
  obtain ⟨nm, qn, bs, sn, sub, ab, col, dd, k0, k1, k2, k3, k5, hC⟩ := ps_obj w Xs rfl
  have hfi : findIn (hd.heap_39 w.params) (.ref 45) "__init__" = some (some (.ref 29)) := by
    k_is
  have hti : typeIn (hd.heap_39 w.params) (.ref 29) = some (.type "function") := by
    k_is
  obtain ⟨hp, g, d, tk, os⟩ := s
  refine call_made PySem.F.excBase_Exception (by decide +kernel) (by decide +kernel) (by decide +kernel) hC (fun h' up => looks_findIn (Xs.keeps up) hfi) (fun h' x up => bind_fn (Xs.keeps up) x hti) fun h' e hm => ?_
  obtain ⟨t, he, ht, htt⟩ := hm.there
  have hne : ∀ q ∈ news, q.1 ≠ e := fun q hq z => by
    have := (N q hq).1
    rw [z, hm.new] at this; cases this
  have F1 : Fr h₀ L h' m := by
    obtain ⟨oL, fs, fp, hl, hr⟩ := F.ns
    exact ⟨⟨oL, fs, fp, hm.keeps _ _ hl, hr⟩, fun b o q => hm.keeps _ _ (F.keep b o q), F.above⟩
  have N1 : News h₀ L h' ((e, eObj t none) :: news) := News.more F1 (fun q hq => ⟨hm.keeps _ _ (N q hq).1, (N q hq).2⟩) he (fun es n z => by cases z) (fresh_of_stays F.keep hm.new)
  refine (init_spec w e t b u).use (rest := news) B F1 X N1 T (fun z => nomatch z) (cn := cn) (cs := cs) (a := a) (ccd := ccd) (cl := cl) ?_ hh hk ?_ ?_ (fun q hq => ?_) (.skip (Rest.whole fun q hq a ha => ?_)) fun v sub' h2 tk2 hP F2 N2 => ?_
  · exact hf
  · rw [depth_under_make]; omega
  · show A.units + 1 ≤ _; omega
  · obtain rfl := List.mem_singleton.mp hq; exact .head _
  · obtain rfl := List.mem_singleton.mp ha; exact hne q hq
  · obtain ⟨rfl, dx, od, rfl, hT⟩ := hP
    refine ⟨rfl, k h2 tk2 e t dx od F2 N2 hT fun q hq => ?_⟩
    rcases List.mem_cons.mp hq with rfl | hq
    · intro z
      have z' : dx = e := z
      have h1 := (N2 (e, eObj t (some dx)) (.head _)).1
      have h2 := (N2 (dx, od) (.tail _ (.head _))).1
      obtain ⟨es, ep, h3, _⟩ := hT
      dsimp only at h1 h2
      rw [z', h1] at h2
      cases h2
      cases h3
    · exact hne q hq
end Mine
end

section
open PySem PySem.W PySem.Calls PyProof.Rows
namespace Mine

/-- what a raise wants of the value it raises -/
def RaiseBack (w : World) (E : Value → Shared → Prop) (v : Value) (s : Shared) : Prop :=
  ∃ e t dx, v = .ref e ∧ (hd.heap_39 w.params).In s.heap ∧ s.heap.get? e = some (eObj t (some dx)) ∧ E (.ref e) s

theorem raise_ps (w : World) {prog : Program} {A : Around} {E : Value → Shared → Prop} {s : Shared} {env : Env} {x : PySem.Expr} {pos : Pos} {Q : Flow → Shared → Prop} (hh : A.handled = none)
    (h : wpAny (model prog w) A (eval x env) (RaiseBack w E) E s) : wpAny (model prog w) A (exec (.Raise (some x) none pos) env) Q E s := by
  rw [arm_exec_Raise]
  refine wpAny_bind (wpAny_standAt ?_)
  show wpAny (model prog w) A (raiseStmt env (some (eval x env >>= fun v => standAt pos >>= fun _ => pure v)) none) Q E s
  unfold raiseStmt
  refine wpAny_bind (wpAny_bind (wpAny_mono h (fun v s₁ h₁ => wpAny_bind (wpAny_standAt (wpAny_pure ?_))) fun _ _ y => y))
  obtain ⟨e, t, dx, rfl, X, he, hE⟩ := h₁
  obtain ⟨nm, qn, bs, sn, sub, ab, col, dd, k0, k1, k2, k3, k5, hC⟩ := ps_obj w X rfl
  obtain ⟨hp, g, d, tk, os⟩ := s₁
  have hcB : (Value.ref 45 :: psTail).contains (.type "BaseException") = true := by decide +kernel
  repeat (first | with_reducible refine wpAny_loadPart_at he ?_ | with_reducible refine wpAny_loadPart_at hC ?_ | (with_reducible refine wpAny_isSubtype_exc hC ?_; rw [hcB]) | wp_step)
  exact wpAny_raiseNew_none hh hE

/-! what stands of an object's own dict, whatever a tree does that lays no dict anew -/
def DK (h h' : Heap) : Prop := ∀ b o, h.get? b = some o → ∃ o', h'.get? b = some o' ∧ o'.dict = o.dict
theorem DK.refl (h : Heap) : DK h h := fun _ o e => ⟨o, e, rfl⟩
theorem DK.trans {h₁ h₂ h₃ : Heap} (x : DK h₁ h₂) (y : DK h₂ h₃) : DK h₁ h₃ := fun b o e => by
  obtain ⟨o₁, e₁, q₁⟩ := x b o e
  obtain ⟨o₂, e₂, q₂⟩ := y b o₁ e₁
  exact ⟨o₂, e₂, q₂.trans q₁⟩
theorem DK.push (h : Heap) (o : Obj) : DK h (h.push o) := fun _ o' e => ⟨o', Heap.get?_push_of_some _ e, rfl⟩
theorem DK.update (h : Heap) (a : Addr) (f : Obj → Obj) (hf : ∀ o, (f o).dict = o.dict ∧ (o.isFreed = false → (f o).isFreed = false)) : DK h (h.update a f) := fun b o e => by
  by_cases q : a = b
  · subst q
    exact ⟨f o, Heap.get?_update_self f e ((hf o).2 (Heap.get?_some_iff.mp e).2), (hf o).1⟩
  · exact ⟨o, (Heap.get?_update_other _ _ q).trans e, rfl⟩

inductive KD {α : Type} : Sem α → Prop where
  | pure (a : α) : KD (.pure a)
  | raise (e : Value) : KD (.raise e)
  | no (x : String) : KD (.unsupported x)
  | rule {x : String} {k : Unit → Sem α} : (∀ u, KD (k u)) → KD (.rule x k)
  | load {a : Addr} {p : Option Value} {k : Obj → Sem α} : (∀ o, KD (k o)) → KD (.load a p k)
  | update {a : Addr} {p : Option Value} {f : Obj → Obj} {k : Unit → Sem α} : (∀ o, (f o).dict = o.dict ∧ (o.isFreed = false → (f o).isFreed = false)) → (∀ u, KD (k u)) → KD (.update a p f k)
  | alloc {o : Obj} {k : Addr → Sem α} : (∀ a, KD (k a)) → KD (.alloc o k)
  | fresh {k : Tok → Sem α} : (∀ a, KD (k a)) → KD (.fresh k)
  | ask {k : Setting → Sem α} : (∀ a, KD (k a)) → KD (.ask k)
  | stack {k : List (Code × Pos) → Sem α} : (∀ a, KD (k a)) → KD (.stack k)

theorem KD.bind {α β : Type} {t : Sem α} {f : α → Sem β} (x : KD t) (y : ∀ a, KD (f a)) : KD (t >>= f) := by
  show KD (t.bind f)
  induction x with
  | pure a => exact y a
  | raise e => exact .raise e
  | no x => exact .no x
  | rule _ ih => exact .rule ih
  | load _ ih => exact .load ih
  | update hf _ ih => exact .update hf ih
  | alloc _ ih => exact .alloc ih
  | fresh _ ih => exact .fresh ih
  | ask _ ih => exact .ask ih
  | stack _ ih => exact .stack ih

theorem KD.wp {α : Type} {M : Model} {Γ : Ctx} {t : Sem α} (x : KD t) : ∀ {Q : α → Pos → Shared → Prop} {E : Value → Pos → Shared → Prop} {p : Pos} {s : Shared}, Sem.wp M Γ t Q E p s →
    Sem.wp M Γ t (fun a p' s' => Q a p' s' ∧ DK s.heap s'.heap) E p s := by
  induction x with
  | pure a => intro Q E p s h; exact ⟨h, DK.refl _⟩
  | raise e => intro Q E p s h; exact h
  | no x => intro Q E p s h; exact h
  | rule _ ih => intro Q E p s h; exact ih () h
  | load _ ih => intro Q E p s h; obtain ⟨o, ho, h⟩ := h; exact ⟨o, ho, ih o h⟩
  | update hf _ ih =>
    intro Q E p s h
    refine ⟨h.1, ?_⟩
    exact Sem.wp_mono M Γ _ (fun a p' s' q => ⟨q.1, (DK.update _ _ _ hf).trans q.2⟩) (fun _ _ _ q => q) p _ (ih () h.2)
  | alloc _ ih =>
    intro Q E p s h
    exact Sem.wp_mono M Γ _ (fun a p' s' q => ⟨q.1, (DK.push _ _).trans q.2⟩) (fun _ _ _ q => q) p _ (ih _ h)
  | fresh _ ih => intro Q E p s h; exact ih _ h
  | ask _ ih => intro Q E p s h; exact ih _ h
  | stack _ ih => intro Q E p s h; exact ih _ h

theorem KD.any {α : Type} {M : Model} {A : Around} {t : Sem α} (x : KD t) {Q : α → Shared → Prop} {E : Value → Shared → Prop} {s : Shared} (h : wpAny M A t Q E s) :
    wpAny M A t (fun a s' => Q a s' ∧ DK s.heap s'.heap) E s := fun Γ p hΓ => x.wp (h Γ p hΓ)

section
variable {α β : Type}
theorem kd_pure (a : α) : KD (Pure.pure a : Sem α) := .pure a
theorem kd_no (x : String) : KD (unsupported x : Sem α) := .no x
theorem kd_load (a : Addr) : KD (load a) := .load fun o => .pure o
theorem kd_alloc (o : Obj) : KD (alloc o) := .alloc fun a => .pure a
theorem kd_stack : KD stack := .stack fun a => .pure a
theorem kd_update (a : Addr) {f : Obj → Obj} (hf : ∀ o, (f o).dict = o.dict ∧ (o.isFreed = false → (f o).isFreed = false)) : KD (update a f) := .update hf fun u => .pure u
theorem kd_map {t : Sem α} {f : α → β} (x : KD t) : KD (f <$> t) := KD.bind x fun a => .pure (f a)
end
theorem kd_mapFields (f : Array Value → Array Value) (o : Obj) : (Obj.mapFields f o).dict = o.dict ∧ (o.isFreed = false → (Obj.mapFields f o).isFreed = false) := by
  obtain ⟨c, d, dt, sl⟩ := o
  cases dt <;> first | exact ⟨rfl, fun h => h⟩ | exact ⟨rfl, fun _ => rfl⟩
theorem kd_fieldsOf (v : Value) : KD (fieldsOf v) := by
  unfold fieldsOf
  split
  · refine KD.bind (kd_load _) fun o => ?_
    split
    · exact kd_pure _
    · exact kd_no _
  · exact kd_no _
theorem kd_field (v : Value) (i : Nat) : KD (field v i) := by
  unfold field
  refine KD.bind (kd_fieldsOf _) fun vs => ?_
  split
  · exact kd_pure _
  · exact kd_no _
theorem kd_setField (v : Value) (i : Nat) (x : Value) : KD (setField v i x) := by
  unfold setField
  split
  · unfold updateField
    refine KD.bind (kd_load _) fun o => ?_
    split
    · split
      · exact kd_update _ (kd_mapFields _)
      · exact kd_no _
    · exact kd_no _
  · exact kd_no _
theorem kd_claims : KD underTheClaimsCaller := KD.bind kd_stack fun _ => .pure _
theorem kd_imp (env : Env) (l : List Env) : KD (behindIsImport env l) := by
  unfold behindIsImport
  split
  · exact kd_pure _
  · split
    · exact kd_pure _
    · exact KD.bind (kd_field _ _) fun _ => kd_pure _
theorem kd_back (env : Env) (i : Bool) (l : List Env) : KD (keptBack env i l) := by
  unfold keptBack
  split
  · split
    · exact kd_pure _
    · exact KD.bind kd_claims fun _ => kd_pure _
  · exact kd_pure _
theorem kd_slots (sl' : Array (Option Value)) (o : Obj) : ({ o with slots := sl' } : Obj).dict = o.dict ∧ (o.isFreed = false → ({ o with slots := sl' } : Obj).isFreed = false) := by
  obtain ⟨c, d, dt, sl⟩ := o
  cases dt <;> exact ⟨rfl, fun h => h⟩
theorem kd_ready : ∀ l : List Env, KD (readyFrames l)
  | [] => kd_pure _
  | env :: outer => by
    unfold readyFrames
    split
    · refine KD.bind (kd_load _) fun o => ?_
      split
      · exact kd_pure _
      · refine KD.bind (kd_imp _ _) fun i => KD.bind (kd_back _ _ _) fun b => KD.bind (kd_update _ (fun o => kd_slots _ o)) fun _ => kd_ready outer
    · exact kd_no _
theorem kd_frameObject (l : List Env) : KD (frameObject l) := by
  unfold frameObject
  split
  · exact kd_pure _
  · exact KD.bind (kd_ready _) fun _ => kd_pure _
theorem kd_frameOf (env : Env) : KD (PySem.frameOf env) := by
  unfold PySem.frameOf
  refine KD.bind (KD.bind kd_stack fun _ => kd_pure _) fun l => KD.bind (kd_frameObject _) fun o => ?_
  split
  · exact kd_pure _
  · exact kd_no _
theorem kd_place (f : Addr) (b : Bool) : KD (entryPlaceOf f b) := by
  unfold entryPlaceOf
  refine KD.bind kd_stack fun l => ?_
  split <;> exact kd_pure _
theorem kd_newAsIs (n : String) (dt : Data) (od : Option Addr) : KD (newObjAsIs (.type n) dt od) := by
  unfold newObjAsIs
  exact KD.bind (kd_alloc _) fun _ => kd_pure _
theorem kd_newFields (n : String) (l : List Value) : KD (newFields n l) := by
  unfold newFields newObj
  dsimp only
  split
  · exact KD.bind (kd_no _) fun _ => kd_newAsIs _ _ _
  · exact kd_newAsIs _ _ _
theorem kd_newEntry (a b c d e : Value) (l : List Value) : KD (EntryCells.newEntry a b c d e l) := by
  unfold EntryCells.newEntry
  exact kd_newFields _ _
theorem kd_setFlight (e : Value) (f : Option Addr) : KD (setFlight e f) := by
  unfold setFlight
  refine KD.bind (kd_field _ _) fun v => ?_
  split
  · exact kd_setField _ _ _
  · exact kd_pure _
theorem kd_noteFrame (e : Value) (env : Env) : KD (noteFrame e env) := by
  unfold noteFrame
  split
  · refine KD.bind (kd_field _ _) fun head => ?_
    have tail : KD (do setField e 1 (← EntryCells.newEntry head (← PySem.frameOf env) .none (rawInt (env.frame.getD 0)) .none (← entryPlaceOf (env.frame.getD 0) (head != .none)))) :=
      KD.bind (kd_frameOf _) fun _ => KD.bind (kd_place _ _) fun _ => KD.bind (kd_newEntry _ _ _ _ _ _) fun _ => kd_setField _ _ _
    rename_i f hf
    rw [hf] at tail
    dsimp only
    split
    · refine KD.bind (kd_field _ _) fun v => ?_
      split
      · exact kd_pure _
      · exact KD.bind (kd_setField _ _ _) fun _ => tail
    · exact tail
  · exact kd_no _
theorem kd_leaving (env : Env) (e : Value) : KD (leaving env e) := KD.bind (kd_noteFrame _ _) fun _ => kd_setFlight _ _
end Mine
end

section
open PySem PySem.W PySem.Calls PyProof.Rows
namespace Mine

abbrev frs (l : List Env) : List Addr := l.filterMap (·.frame)
theorem frs_cons {env : Env} {l : List Env} {L b : Addr} (hf : env.frame = some L) : b ∈ frs (env :: l) ↔ b = L ∨ b ∈ frs l := by
  unfold frs
  rw [List.filterMap_cons_some hf, List.mem_cons]

/-- a PsError in flight: what stands, where its words lie -/
def RD (base G : Heap) (l : List Env) (e t dx : Addr) (news : List (Addr × Obj)) (h : Heap) : Prop :=
  ∃ B, base.StaysIn B ∧ (∀ b o, G.get? b = some o → b ∉ frs l → B.get? b = some o) ∧ (∀ q ∈ news, B.get? q.1 = some q.2 ∧ G.get? q.1 = none) ∧
    Heap.FlyingW B l e (.ref 45) (.ref t) h ∧ (∃ oe, h.get? e = some oe ∧ oe.dict = some dx) ∧ G.get? e = none

section
variable {M : Model} {A : Around} {E : Value → Shared → Prop} {s' : Shared} {base g g₂ h : Heap} {env : Env} {outer : List Env} {L e t dx : Addr} {m : Str → Option Value} {Q : Unit → Shared → Prop} {news : List (Addr × Obj)}

theorem leave_first (K : Below A base outer g) (F : Fr g L s'.heap m) (N : News g L s'.heap ((e, eObj t (some dx)) :: news)) (hne : ∀ q ∈ news, q.1 ≠ e) (hf : env.frame = some L) (hke : env.scope.kind = .function)
    (hQ : ∀ h', RD base g outer e t dx news h' → g.UpToSlots h' → Q () { s' with heap := h' }) : wpAny M (A.deeper env) (leaving env (.ref e)) Q E s' := by
  have K' := pushX K F hf hke
  have he := N _ (.head _)
  have nf : ∀ b ∈ frs outer, ∃ o, g.get? b = some o := fun b hb => let ⟨_, o, ho, _⟩ := K.frames.mem hb; ⟨o, ho⟩
  have hin : ∀ env' ∈ (env :: outer), ∀ b, env'.frame = some b → b ∈ e :: frs (env :: outer) := fun env' h1 b hb => .tail _ (List.mem_filterMap.mpr ⟨env', h1, hb⟩)
  have hen : e ∉ frs (env :: outer) := fun q => by
    rcases (frs_cons hf).mp q with q | q
    · exact he.2.1 q
    · obtain ⟨o, ho⟩ := nf e q
      rw [he.2.2] at ho; cases ho
  have D := kd_leaving env (.ref e)
  have st : base.StaysIn (hideAll s'.heap (e :: frs (env :: outer))) := fun b o q => hideAll_get _ (K'.stays b o q) fun hb => by
    rcases List.mem_cons.mp hb with rfl | hb
    · have := K.stays _ _ q
      rw [he.2.2] at this; cases this
    · rw [(K'.frames.mem hb).1] at q; cases q
  refine wpAny_mono (D.any (wpAny_leaving_firstW (base := hideAll s'.heap (e :: frs (env :: outer))) (a0 := .ref t) K'.stack (funFrames_hide K'.frames hin) hf he.1 (fun b o q => of_hideAll _ q) (hideAll_none _ (.head _)) rfl rfl rfl (Q := fun _ s => ∃ h', s = { s' with heap := h' } ∧ Heap.LeftW (hideAll s'.heap (e :: frs (env :: outer))) (env :: outer) e (.ref 45) (.ref t) s'.heap h') fun h' hL => ⟨h', rfl, hL⟩)) (fun _ s ⟨⟨h', hs, hL⟩, hD⟩ => ?_) fun _ _ x => x
  subst hs
  obtain ⟨x1, ⟨_, _, x2⟩, x3, x4⟩ := hL
  obtain ⟨oe, hoe, hod⟩ := hD e _ he.1
  refine hQ h' ⟨_, st, fun b o q hb => hideAll_get _ (F.keep b o q) fun hm' => ?_, fun q hq => ⟨hideAll_get _ (N q (.tail _ hq)).1 fun hm' => ?_, (N q (.tail _ hq)).2.2⟩, ⟨x1, hideAll_none _ (.head _), x2, x3⟩, ⟨oe, hoe, hod⟩, he.2.2⟩ ?_
  · rcases List.mem_cons.mp hm' with rfl | hm'
    · rw [he.2.2] at q; cases q
    · rcases (frs_cons hf).mp hm' with z | z
      · rw [z, kts_self F] at q; cases q
      · exact hb z
  · rcases List.mem_cons.mp hm' with z | hm'
    · exact hne q hq z
    · rcases (frs_cons hf).mp hm' with z | z
      · exact (N q (.tail _ hq)).2.1 z
      · obtain ⟨o, ho⟩ := nf _ z
        rw [(N q (.tail _ hq)).2.2] at ho; cases ho
  · exact (Heap.UpToSlots.of_keeps F.keep).trans x4

theorem leave_next (K : Below A base outer g) (F : Fr g L g₂ m) (R : RD base g₂ (env :: outer) e t dx news s'.heap) (hsm : g₂.UpToSlots s'.heap) (hf : env.frame = some L)
    (hQ : ∀ h', RD base g outer e t dx news h' → g.UpToSlots h' → Q () { s' with heap := h' }) : wpAny M (A.deeper env) (leaving env (.ref e)) Q E s' := by
  obtain ⟨B, st, hBG, hl, hfl, ⟨oe, hoe, hod⟩, hge⟩ := R
  have D := kd_leaving env (.ref e)
  refine wpAny_mono (D.any (wpAny_leaves_onW (Around.frames_deeper K.stack) hf hfl (Q := fun _ s => ∃ h', s = { s' with heap := h' } ∧ Heap.FlyingW B outer e (.ref 45) (.ref t) h' ∧ s'.heap.UpToSlots h') fun h' x1 x2 => ⟨h', rfl, x1, x2⟩)) (fun _ s ⟨⟨h', hs, x1, x2⟩, hD⟩ => ?_) fun _ _ x => x
  subst hs
  obtain ⟨oe', hoe', hod'⟩ := hD e _ hoe
  refine hQ h' ⟨B, st, fun b o q hb => hBG b o (F.keep b o q) fun hm' => ?_, fun q hq => ⟨(hl q hq).1, fresh_of_stays F.keep (hl q hq).2⟩, x1, ⟨oe', hoe', hod'.trans hod⟩, fresh_of_stays F.keep hge⟩ ((Heap.UpToSlots.of_keeps F.keep).trans (hsm.trans x2))
  rcases (frs_cons hf).mp hm' with z | z
  · rw [z, kts_self F] at q; cases q
  · exact hb z
end

section
variable {M : Model} {A : Around} {E : Value → Shared → Prop} {s : Shared} {B : Heap} {env : Env} {outer l : List Env} {L e t : Addr} {Q : Unit → Shared → Prop}
theorem looks_D (hfr : A.frames = some (env :: outer)) (hf : env.frame = some L) (hfl : Heap.FlyingW B (env :: outer) e (.ref 45) (.ref t) s.heap)
    (hQ : ∀ h', Heap.HeldW B (env :: outer) e (.ref 45) (.ref t) L h' → s.heap.UpToSlots h' → DK s.heap h' → Q () { s with heap := h' }) : wpAny M A (noteFrame (.ref e) env) Q E s := by
  refine wpAny_mono ((kd_noteFrame (.ref e) env).any (wpAny_looks_onW hfr hf hfl (Q := fun _ s' => ∃ h', s' = { s with heap := h' } ∧ Heap.HeldW B (env :: outer) e (.ref 45) (.ref t) L h' ∧ s.heap.UpToSlots h') fun h' x1 x2 => ⟨h', rfl, x1, x2⟩)) (fun _ s' ⟨⟨h', hs, x1, x2⟩, hD⟩ => ?_) fun _ _ x => x
  subst hs
  exact hQ h' x1 x2 hD
theorem lands_D (hh : Heap.HeldW B l e (.ref 45) (.ref t) L s.heap) (hQ : ∀ h', Heap.FlyingW B l e (.ref 45) (.ref t) h' → s.heap.UpToSlots h' → DK s.heap h' → Q () { s with heap := h' }) : wpAny M A (setFlight (.ref e) none) Q E s := by
  refine wpAny_mono ((kd_setFlight (.ref e) none).any (wpAny_landsW hh (Q := fun _ s' => ∃ h', s' = { s with heap := h' } ∧ Heap.FlyingW B l e (.ref 45) (.ref t) h' ∧ s.heap.UpToSlots h') fun h' x1 x2 => ⟨h', rfl, x1, x2⟩)) (fun _ s' ⟨⟨h', hs, x1, x2⟩, hD⟩ => ?_) fun _ _ x => x
  subst hs
  exact hQ h' x1 x2 hD
theorem again_D (hh : Heap.FlyingW B l e (.ref 45) (.ref t) s.heap) (hQ : ∀ h', Heap.FlyingW B l e (.ref 45) (.ref t) h' → s.heap.UpToSlots h' → DK s.heap h' → Q () { s with heap := h' }) : wpAny M A (setFlight (.ref e) none) Q E s := by
  refine wpAny_mono ((kd_setFlight (.ref e) none).any (lands_againW hh (Q := fun _ s' => ∃ h', s' = { s with heap := h' } ∧ Heap.FlyingW B l e (.ref 45) (.ref t) h' ∧ s.heap.UpToSlots h') fun h' x1 x2 => ⟨h', rfl, x1, x2⟩)) (fun _ s' ⟨⟨h', hs, x1, x2⟩, hD⟩ => ?_) fun _ _ x => x
  subst hs
  exact hQ h' x1 x2 hD
end

section
variable {prog : Program} {w : World} {A₀ : Around} {E : Value → Shared → Prop} {s' : Shared} {base g g₀ G : Heap} {outer : List Env} {L a e t dx : Addr} {m : Str → Option Value} {name : Str} {scope : Scope} {cd : Value}
  {n : Str} {b₀ : Stmt} {suite : List Stmt} {pos np : Pos} {rest : List ExceptHandler} {Q : Flow → Shared → Prop} {news : List (Addr × Obj)}
  {p : Program} {loose : List Str} {mean : ExcName → Option Value} {mg mb : Str → Option Value}

theorem caught_ps (R : RD base G (envOf name scope L a cd :: outer) e t dx news s'.heap) (F : Fr g L G m) (K : Below A₀ base outer g) (hsm : G.UpToSlots s'.heap) (XB : (hd.heap_39 w.params).In base) (TB : Top p loose mean mg mb base)
    (D : KtsDicts (frs outer) g) (T0 : KtsTurn (frs outer) g₀ g) (ex : nsIn (hd.heap_39 w.params) mainGlobals (Str.ofString "PsError") = some (some (.ref 45)))
    (k : ∀ h' g' oe ws tk, KtsTurn (frs outer) g₀ g' → Fr g' L h' (fun y => if y = n then some (.ref e) else m y) → News g' L h' ((e, oe) :: news) → oe.cls = .ref 45 → oe.dict = some dx → oe.data = .fields ws →
      Below A₀ base outer g' → (hd.heap_39 w.params).In g' → Top p loose mean mg mb g' → KtsDicts (frs outer) g' →
      wpAny (model prog w) ((A₀.deeper (envOf name scope L a cd)).mark (some (.ref e))) (execs (b₀ :: suite) (envOf name scope L a cd))
        (fun f s₄ => wpAny (model prog w) (A₀.deeper (envOf name scope L a cd)) (do bindName (envOf name scope L a cd) n .none; unbindBehindTheSuite (envOf name scope L a cd) n pos) (fun _ s₅ => Q f s₅) E s₄)
        (AsSuiteRaised (model prog w) ((A₀.deeper (envOf name scope L a cd)).mark (some (.ref e))) (envOf name scope L a cd) n pos (notedBy (model prog w) ((A₀.deeper (envOf name scope L a cd)).mark (some (.ref e))) (envOf name scope L a cd) (cameBackBy (model prog w) (A₀.deeper (envOf name scope L a cd)) (envOf name scope L a cd) E)))
        { s' with heap := h', toks := tk })
    (hk : scope.kind = .function := by rfl) (hlo : (envOf name scope L a cd).kindOf n = some .local := by rfl) (hx : (envOf name scope L a cd).kindOf (Str.ofString "PsError") = some .globalImplicit := by rfl) :
    wpAny (model prog w) (A₀.deeper (envOf name scope L a cd)) (noteFrame (.ref e) (envOf name scope L a cd))
      (fun _ s₂ => wpAny (model prog w) (A₀.deeper (envOf name scope L a cd)) (setFlight (.ref e) none) (fun _ s₃ =>
        wpAny (model prog w) (A₀.deeper (envOf name scope L a cd)) (handleBy (.ref e) (envOf name scope L a cd) (.ExceptHandler (some (.Name (Str.ofString "PsError") np)) (some n) (b₀ :: suite) pos :: rest)) Q E s₃) E s₂) E s' := by
  obtain ⟨B, hB, hBG, hl, hfl, ⟨o0, ho0, hod0⟩, hge⟩ := R
  have hL : B.get? L = none := by
    obtain ⟨_, ⟨L', _, hf, hn', _⟩, _⟩ := hfl.2.2.1
    obtain rfl : L = L' := Option.some.inj hf
    exact hn'
  refine looks_D (Around.frames_deeper K.stack) rfl hfl fun h₄ held₄ sm₄ d₄ => ?_
  refine lands_D held₄ fun h₅ held sm₅' d₅ => ?_
  have sm₅ := hsm.trans (sm₄.trans sm₅')
  obtain ⟨g₅, T₅, F₅, K₅⟩ := kts_ground K F hBG held.1 sm₅
  have X₅ : (hd.heap_39 w.params).In g₅ := XB.keeps K₅.stays
  have P₅ : TopRead p loose mg mb g₅ := topRead_of (TB.keeps K₅.stays)
  obtain ⟨ob, hob, hobc⟩ := held.there
  obtain ⟨nm, qn, bs, sn, sub, ab, col, dd, k0, k1, k2, k3, k5, hC⟩ := ps_obj w (X₅.keeps F₅.keep) rfl
  refine wpAny_handleBy_cons (codeAny_handlers_test (name_K F₅ X₅ P₅ ex ?_ hk hx (by decide))) (by intro q; cases q)
  refine wpAny_excMatches_sub_self hC hob hobc (by decide +kernel) (codeAny_handlers_suite_as ?_)
  refine again_D held fun h₆ fl₆ sm₆' d₆ => ?_
  have sm₆ := sm₅.trans sm₆'
  obtain ⟨g₆, T₆, F₆, K₆⟩ := kts_ground K F hBG fl₆.1 sm₆
  obtain ⟨oe, ws, hoe, hoec, hoed, hoe0⟩ := fl₆.first
  obtain ⟨o', ho', hod'⟩ := ((d₄.trans d₅).trans d₆) e o0 ho0
  obtain rfl : oe = o' := Option.some.inj (hoe.symm.trans ho')
  have ne₆ : g₆.get? e = none := T₆.none_ _ (fresh_of_stays F.keep hge)
  have Ne : News g₆ L h₆ ((e, oe) :: []) := News.more F₆ News.nil hoe (fun es n q => by rw [hoed] at q; cases q) ne₆
  have Nl : News g₆ L h₆ ((e, oe) :: news) := fun q hq => by
    rcases List.mem_cons.mp hq with rfl | hq
    · exact Ne _ (.head _)
    · exact ⟨fl₆.1 _ _ (hl q hq).1, (fun z => by have := (hl q hq).1; rw [z, hL] at this; cases this), T₆.none_ _ (kts_none F.keep (hl q hq).2)⟩
  refine stN F₆ Nl (fun h₇ F₇ N₇ => ?_) hk hlo
  exact k h₇ g₆ oe ws _ (T0.trans T₆) F₇ N₇ hoec (hod'.trans hod0) hoed K₆ (XB.keeps K₆.stays) (TB.keeps K₆.stays) (D.turn T₆)
end
end Mine
end

section
open PySem PySem.W PySem.Calls PyProof.Rows
namespace Mine
open PySem.Builtin PySem.Builtin.ObjectAttr

theorem looks_told {M : Model} {h : Heap} {dx : Addr} {od : Obj} {v : Value} (hd : h.get? dx = some od) (hT : ToldIs od v) : Looks M h (nsGet dx (Str.ofString "told")) (some v) := by
  obtain ⟨es, ep, h1, h2, h3⟩ := hT
  intro A Q E s k q
  have hns : s.heap.Ns dx (fun y => nsFind es y) := ⟨od, es, ep, k _ _ hd, h1, h2, fun _ => rfl⟩
  refine wpAny_nsGet hns ?_
  show Q (nsFind es (Str.ofString "told")) s
  rw [h3]
  exact q

set_option maxHeartbeats 2000000 in
theorem get_told (w : World) {A : Around} {E : Value → Shared → Prop} {s : Shared} {e dx : Addr} {oe od : Obj} {ws : Array Value} {b : Array UInt8} {u : Tok} {expr : Bool} {Q : Value → Shared → Prop}
    (X : (hd.heap_39 w.params).In s.heap) (he : s.heap.get? e = some oe) (hc : oe.cls = .ref 45) (hdi : oe.dict = some dx) (hda : oe.data = .fields ws) (hdx : s.heap.get? dx = some od) (hT : ToldIs od (.bytes b u))
    (hq : Q (.bytes b u) { s with toks := s.toks + 1 }) : wpAny (model PySem.Challenge.rw_on0256_01.row.prog w) A (getAttr (.ref e) (Str.ofString "told") expr) Q E s := by
  revert X; k_fill; intro X
  have hga : findIn (hd.heap_39 w.params) (.ref 45) "__getattribute__" = some (some (.builtin "BaseException.__getattribute__")) := by k_is
  have hgh : findIn (hd.heap_39 w.params) (.ref 45) "__getattr__" = some none := by k_is
  have hfa : findIn (hd.heap_39 w.params) (.ref 45) (Str.ofString "told") = some none := by k_is
  have hmo : mroIn (hd.heap_39 w.params) 45 (.type "BaseException") = some true := by k_is
  obtain ⟨cd, hcd, hmro, hhd⟩ := looks_psData w (M := model PySem.Challenge.rw_on0256_01.row.prog w) X rfl
  obtain ⟨h, g, d, tk, os⟩ := s
  obtain ⟨oc, odi, oda, osl⟩ := oe
  dsimp only at hc hdi hda he hdx X hcd hq
  subst hc hdi hda
  have L0 : Looks (model PySem.Challenge.rw_on0256_01.row.prog w) h (typeOf (.ref e)) (.ref 45) := (Looks.ld (part := none) he).andThen .now
  have L1 := looks_findIn (M := model PySem.Challenge.rw_on0256_01.row.prog w) X hga
  have L2 := looks_findIn (M := model PySem.Challenge.rw_on0256_01.row.prog w) X hgh
  have L3 := looks_findIn (M := model PySem.Challenge.rw_on0256_01.row.prog w) X hfa
  have L4 : Looks (model PySem.Challenge.rw_on0256_01.row.prog w) h (isInstance (.ref e) (.type "BaseException")) true := L0.andThen (looks_mroIn X hmo)
  have L5 := looks_told (M := model PySem.Challenge.rw_on0256_01.row.prog w) hdx hT
  have FB := PySem.F.attr_Exception
  unfold getAttr getAttrBy
  refine wpAny_bind (wpAny_mkText (wpAny_holding (wpAny_bind (L0.at (wpAny_bind (L1.at ?_))))))
  show wpAny _ _ (getAttrByItsOwn (.ref e) (.str (Str.ofString "told") tk) (.ref 45) (.builtin "BaseException.__getattribute__") true expr) _ _ _
  unfold getAttrByItsOwn
  refine wpAny_bind (L2.at ?_)
  have hx0 : (expr && onTheHeap (Value.builtin "BaseException.__getattribute__")) = false := by cases expr <;> rfl
  unfold callGetattribute
  rw [hx0]
  refine wpAny_bind (wpAny_attempt (wpAny_holding ?_))
  show wpAny _ _ (boundAndCalled _ _ _) _ _ _
  unfold boundAndCalled
  rw [FB.ga.bind]
  have hk : builtinKind "BaseException.__getattribute__" = some .slot := by decide +kernel
  have hsplit : splitId "BaseException.__getattribute__" = some ("BaseException", "__getattribute__") := by decide +kernel
  refine wpAny_bind (wpAny_pure (wpAny_call (codeAny_call_builtin FB.ga.plain PySem.F.entry_bexc_ga (@check_slot (model PySem.Challenge.rw_on0256_01.row.prog w) _ _ _ "BaseException.__getattribute__" "BaseException" "__getattribute__" (.ref e) [.str (Str.ofString "told") tk] [] _ hk hsplit L4 (PySem.F.args_bexc_ga (.ref e) (.str (Str.ofString "told") tk)) ?_))))
  have L6 : Looks (model PySem.Challenge.rw_on0256_01.row.prog w) h (inOwnDict (Str.ofString "told") (.ref e)) (some (.bytes b u)) := by
    intro A Q E s k q
    refine wpAny_bind (wpAny_bind (wpAny_loadPart (k _ _ he) ?_))
    show wpAny _ _ (instanceDict e false) _ _ _
    unfold instanceDict
    refine wpAny_bind (wpAny_loadPart (k _ _ he) ?_)
    dsimp only
    refine wpAny_bind (hcd A _ E s k ?_)
    rw [hhd]
    refine wpAny_pure (a := some dx) ?_
    exact L5 A _ E s k q
  have L7 : Looks (model PySem.Challenge.rw_on0256_01.row.prog w) h (find (.ref e) (.ref 45) (Str.ofString "told")) (.value (.bytes b u)) := by
    unfold find
    refine L3.andThen (Looks.now.andThen ?_)
    show Looks _ _ (ownThenClass _ _ _ _) _
    unfold ownThenClass
    exact L6.andThen (Looks.tag .now)
  refine wpAny_bind (wpAny_pure (wpAny_bind (wpAny_pure (wpAny_bind (L0.at (wpAny_bind (L7.at ?_)))))))
  refine wpAny_pure ?_
  exact wpAny_pure hq
end Mine
end

section
open PySem PySem.W PySem.Calls PyProof.Rows
namespace Mine

section
variable {prog : Program} {w : World} {A₀ A : Around} {s : Shared} {base h₀ g₀ : Heap} {outer : List Env} {L : Addr} {m : Str → Option Value} {env : Env} {news : List (Addr × Obj)} {K : Frag}
  {p : Program} {loose : List Str} {mean : ExcName → Option Value} {mg mb : Str → Option Value}
  {R : Result → Shared → Prop} {name qual : Str} {params : Arguments} {body : List Stmt} {scope : Scope} {dV kV doc pm cdv ct oc : Value} {an od : Option Addr} {osl : Array (Option Value)} {f : Addr} {args : Args} {binds : List (Str × Value)}

/-- a def that catches, called from any frame: the frames below may be turned in their slots -/
theorem code_defT (B : Below A₀ base outer h₀) (F : Fr h₀ L s.heap m) (X₀ : K.In h₀) (N : News h₀ L s.heap news) (T : Top p loose mean mg mb h₀) (XB : K.In base) (TB : Top p loose mean mg mb base) (D : KtsDicts (frs outer) h₀)
    (T0 : KtsTurn (frs outer) g₀ h₀) (hA : A.frames = some (env :: outer)) (hf : env.frame = some L) (hke : env.scope.kind = .function)
    (ho : K.lookup f = some ⟨oc, od, .func (fnOf name qual params body scope dV kV doc pm an cdv ct), osl⟩) (hcd : codeIn K cdv qual = true) (hroom : A.depth < recursionLimit)
    (hbind : BindsTo s (fnOf name qual params body scope dV kV doc pm an cdv ct) args binds) (hloc : ∀ y ∈ binds, scope.names.lookup y.1 = some .local)
    (h : ∀ g L' h₁, Fr h₀ L g m → Fr g L' h₁ (fun y => binds.reverse.lookup y) → News g L' h₁ news → Below A base (env :: outer) g → K.In g → Top p loose mean mg mb g → KtsDicts (frs (env :: outer)) g →
      wpAny (model prog w) (A.deeper (envOf qual scope L' f cdv)) (execs body (envOf qual scope L' f cdv))
        (fun fl s' => LeaveS (frs (env :: outer)) A₀ base outer K p loose mean mg mb g₀ h₀ L m g R (match fl with | .ret v => v | _ => .none) s')
        (fun e s' => wpAny (model prog w) (A.deeper (envOf qual scope L' f cdv)) (leaving (envOf qual scope L' f cdv) e) (fun _ s'' => R (.error e) s'') (fun e' s'' => R (.error e') s'') s')
        { s with heap := h₁, toks := s.toks + binds.length })
    (hco : scope.isCoroutine = false) (hgen : scope.isGenerator = false) (hk : scope.kind = .function)
    (hcell : ∀ x ∈ scope.names, x.2 ≠ .cell) : codeAny (model prog w) A (.call (.ref f) args) R s := by
  obtain ⟨FG, BG, st, lv⟩ := groundX (R := R) B F N hA hf hke
  refine codeAny_call_def (fd := fnOf name qual params body scope dV kV doc pm an cdv ct) (body := body) (binds := binds) hroom ((X₀.keeps F.keep) _ _ ho) rfl (T.nolimit.keeps F.keep) (codeRec_of (X₀.keeps F.keep) hcd) rfl hbind hcell hloc (fun h₁ hns hk₁ => ?_) hco hgen hk
  obtain ⟨oL, es, ep, hLg, hLd, hLk, hLf⟩ := FG.ns
  refine wpAny_mono (h _ s.heap.objs.size h₁ FG ⟨hns, fun b o e => hk₁ b o (of_hideAll _ e), Nat.le_of_eq (hideAll_size _ _)⟩
    (fun q hq => ⟨hk₁ _ _ (N q hq).1, Nat.ne_of_lt (Heap.lt_size (N q hq).1), hideAll_none _ (List.mem_map_of_mem hq)⟩) BG (X₀.keeps st) (T.keeps st) (fun b hb => ?_)) (fun fl s' hl => ?_) fun _ _ y => y
  · rcases (frs_cons hf).mp hb with rfl | hb
    · exact ⟨oL, es, ep, hLg, hLd⟩
    · obtain ⟨o, es', n', ho', hd'⟩ := D b hb
      exact ⟨o, es', n', st b o ho', hd'⟩
  have nL₀ : h₀.get? L = none := kts_self F
  rcases hl with hl | ⟨g', L', m', news', T', F', N', k⟩
  · exact lv _ _ hl
  obtain ⟨sl, hs⟩ := T'.up hLg
  obtain ⟨T₁, S₁⟩ := kts_turn_at (h := s'.heap) (fs := frs outer) (g := h₀)
    (fun b hb => let ⟨_, o, ho', _⟩ := B.frames.mem hb; ⟨o, ho'⟩)
    (fun b o e nmem => F'.keep b o (T'.other b o (st b o e) fun q => by
      rcases (frs_cons hf).mp q with z | z
      · rw [z, nL₀] at e; cases e
      · exact nmem z))
    (fun b o e hm => by
      obtain ⟨sl', hs'⟩ := T'.up (st b o e)
      exact ⟨sl', F'.keep _ _ hs'⟩)
  have B₃ : Below A₀ base outer (ktsHeap s'.heap (frs outer) h₀) := ⟨B.stack, fun b o e => T₁.other b o (B.stays b o e) (fun hm => by rw [(B.frames.mem hm).1] at e; cases e), B.frames.of_keeps fun b o e _ => by
    obtain ⟨sl', hs'⟩ := T₁.up e
    exact ⟨_, hs', rfl⟩⟩
  refine k _ (T0.trans T₁) ⟨⟨_, es, ep, F'.keep _ _ hs, hLd, hLk, hLf⟩, S₁, by rw [T₁.size]; exact F.above⟩ (fun q hq => ⟨(N' q hq).1, fun z => ?_, ?_⟩) B₃ (XB.keeps B₃.stays) (TB.keeps B₃.stays) (D.turn T₁)
  · have := (N' q hq).2.2; rw [z, hs] at this; cases this
  · refine T₁.none_ _ ?_
    cases e : h₀.get? q.1 with
    | none => rfl
    | some o =>
      obtain ⟨sl', hs'⟩ := T'.up (st _ _ e)
      have := (N' q hq).2.2
      rw [hs'] at this
      cases this
end

/-- a way out of a def's body that has caught: the frames below are turned in their slots -/
def EndT (fs : List Addr) (s : Shared) (g : Heap) (P : Value → List (Addr × Obj) → Prop) (v : Value) (s' : Shared) : Prop :=
  ∃ g' L' m' news' h' tk', s' = { s with heap := h', toks := tk' } ∧ KtsTurn fs g g' ∧ Fr g' L' h' m' ∧ News g' L' h' news' ∧ P v news'

section
variable {prog : Program} {w : World} {A₀ A : Around} {s : Shared} {base h₀ : Heap} {L : Addr} {m : Str → Option Value} {env : Env} {news sub : List (Addr × Obj)} {K : Frag}
  {p : Program} {loose : List Str} {mean : ExcName → Option Value} {mg mb : Str → Option Value}
  {Q E : Value → Shared → Prop} {name qual : Str} {params : Arguments} {body : List Stmt} {scope : Scope} {dV kV doc pm cdv ct oc : Value} {an od : Option Addr} {osl : Array (Option Value)} {f : Addr} {args : Args} {binds : List (Str × Value)}
  {P : Value → List (Addr × Obj) → Prop}

theorem callSCT (B : Below A₀ base [] h₀) (F : Fr h₀ L s.heap m) (X₀ : K.In h₀) (N : News h₀ L s.heap news) (T : Top p loose mean mg mb h₀)
    (hA : A.frames = some [env]) (hf : env.frame = some L) (hke : env.scope.kind = .function) (hsub : ∀ q ∈ sub, q ∈ news) (k : BackS h₀ L m news sub s P Q)
    (ho : K.lookup f = some ⟨oc, od, .func (fnOf name qual params body scope dV kV doc pm an cdv ct), osl⟩) (hcd : codeIn K cdv qual = true) (hroom : A.depth < recursionLimit)
    (hbind : BindsTo s (fnOf name qual params body scope dV kV doc pm an cdv ct) args binds)
    (hkind : (binds.all fun y => scope.names.lookup y.1 == some .local || scope.names.lookup y.1 == some .cell) = true)
    (hnd : ((cellsFrom 0 scope.names []).map (·.1)).Nodup)
    (h : ∀ g L' h₁ tk cells, Fr g L' h₁ (bindL (envOfC qual scope L' f cdv).kindOf binds fun _ => none) → News g L' h₁ (cells ++ sub) →
      CellsAre (bindC (envOfC qual scope L' f cdv).kindOf binds fun _ => none) (cellsFrom (L' + 1) scope.names []) cells → Below A base [env] g → K.In g → Top p loose mean mg mb g → KtsDicts (frs [env]) g → (∀ q ∈ sub, q.1 < L') →
      wpAny (model prog w) (A.deeper (envOfC qual scope L' f cdv)) (execs body (envOfC qual scope L' f cdv))
        (fun fl s' => EndT (frs [env]) s g P (match fl with | .ret v => v | _ => .none) s') (fun _ _ => False) { s with heap := h₁, toks := tk })
    (hco : scope.isCoroutine = false) (hgen : scope.isGenerator = false) (hk : scope.kind = .function) : wpAny (model prog w) A (call (.ref f) args.pos args.kw) Q E s := by
  have Ns : News h₀ L s.heap sub := fun q hq => N q (hsub q hq)
  obtain ⟨FG, BG, st, lv⟩ := groundX (R := fun r s' => match r with | .ok (.ret v) => Q v s' | .ok _ => False | .error e => E e s') B F Ns hA hf hke
  refine wpAny_call (codeAny_call_function hroom ((X₀.keeps F.keep) _ _ ho) rfl hco hgen rfl (codeRec_of (X₀.keeps F.keep) hcd) (hbind _ _ _ _ ?_))
  refine wpAny_newFunctionEnv_cells hk (kindsX hkind _) fun env' he s' x => ?_
  subst he
  refine ⟨(T.nolimit.keeps F.keep).keeps x.toInCall.keep, codeAny_func ?_⟩
  obtain ⟨h₁, tk, rfl, _⟩ := x.done
  have hk₁ := x.toInCall.keep
  obtain ⟨oL, es, ep, hLg, hLd, hLk, hLf⟩ := FG.ns
  obtain ⟨cells, NC, Y⟩ := Cl.news (h₀ := s.heap) (Nat.le_refl _) fun n c hm => ⟨x.cell n c (lookup_of_mem_nodup (cellsFrom_names scope.names 0 (s.heap.objs.size + 1) [] [] rfl ▸ hnd) hm), x.above n c hm⟩
  refine wpAny_mono (h _ s.heap.objs.size h₁ tk cells ⟨x.toInCall.ns, fun b o e => hk₁ b o (of_hideAll _ e), Nat.le_of_eq (hideAll_size _ _)⟩ (fun q hq => ?_) Y BG (X₀.keeps st) (T.keeps st) (fun b hb => ?_) (fun q hq => Heap.lt_size (Ns q hq).1))
    (fun fl s' hl => ?_) fun _ _ y => y.elim
  · rcases List.mem_append.mp hq with hq | hq
    · refine ⟨(NC q hq).1, (NC q hq).2.1, ?_⟩
      cases e : (hideAll s.heap (sub.map (·.1))).get? q.1 with
      | none => rfl
      | some o => have := of_hideAll _ e; rw [(NC q hq).2.2] at this; cases this
    · exact ⟨hk₁ _ _ (Ns q hq).1, Nat.ne_of_lt (Heap.lt_size (Ns q hq).1), hideAll_none _ (List.mem_map_of_mem hq)⟩
  · rcases (frs_cons hf).mp hb with rfl | hb
    · exact ⟨oL, es, ep, hLg, hLd⟩
    · exact nomatch hb
  obtain ⟨g', L', m', news', h', tk', rfl, T', F', N', hP⟩ := hl
  have nL₀ : h₀.get? L = none := kts_self F
  obtain ⟨sl, hs⟩ := T'.up hLg
  have hoff : ∀ b, b ≠ L → b ∉ frs [env] := fun b hb hm => by
    rcases (frs_cons hf).mp hm with z | z
    · exact hb z
    · exact nomatch z
  have keep : ∀ b o, h₀.get? b = some o → g'.get? b = some o := fun b o e => T'.other b o (st b o e) (hoff b fun z => by rw [z, nL₀] at e; cases e)
  refine k _ news' h' tk' hP ⟨⟨_, es, ep, F'.keep _ _ hs, hLd, hLk, hLf⟩, fun b o e => F'.keep b o (keep b o e), F.above⟩ fun rest hr hn => ?_
  have st' : ∀ q ∈ rest, g'.get? q.1 = some q.2 := fun q hq => T'.other _ _ (hideAll_get _ (N q (hr q hq)).1 fun hm => by
    obtain ⟨r, hr', e⟩ := List.mem_map.mp hm
    exact hn q hq r hr' e.symm) (hoff _ (N q (hr q hq)).2.1)
  refine ⟨fun q hq => ?_, fun q hq r hr' e => ?_⟩
  · rcases List.mem_append.mp hq with hq | hq
    · refine ⟨(N' q hq).1, fun z => ?_, ?_⟩
      · have := (N' q hq).2.2; rw [z, hs] at this; cases this
      · cases e : h₀.get? q.1 with
        | none => rfl
        | some o => have := (N' q hq).2.2; rw [keep _ _ e] at this; cases this
    · exact ⟨F'.keep q.1 q.2 (st' q hq), (N q (hr q hq)).2⟩
  · have h1 := (N' q hq).2.2
    rw [e, st' r hr'] at h1
    cases h1
end

/-- a contract of a def that catches, called from the law's own frame -/
def SpecL (w : World) (D : Nat) (f : Addr) (args : List Value) (sub : List (Addr × Obj)) (P : Value → List (Addr × Obj) → Prop) : Prop :=
  ∀ (gd : Option (List Code)) (cn : Str) (cs : Scope) (a : Addr) (ccd : Value) (cl : List (Str × Addr)) (A₀ : Around) (base h₀ : Heap) (L : Addr) (m : Str → Option Value) (s : Shared) (news : List (Addr × Obj))
    (loose : List Str) (mean : ExcName → Option Value) (mg mb : Str → Option Value) (Q E : Value → Shared → Prop),
    Below A₀ base [] h₀ → Fr h₀ L s.heap m → (hd.heap_39 w.params).In h₀ → News h₀ L s.heap news → Top topProg loose mean mg mb h₀ → cs.kind = .function → (∀ q ∈ sub, q ∈ news) →
    (hd.heap_39 w.params).In base → Top topProg loose mean mg mb base → CodeHd base 163 159 → BackS h₀ L m news sub s P Q →
    wpAny (model PySem.Challenge.rw_on0256_01.row.prog w) ((ctr D gd []).deeper (envX cn cs L a ccd cl)) (call (.ref f) args) Q E s

theorem SpecL.use {w : World} {D : Nat} {f : Addr} {args : List Value} {sub : List (Addr × Obj)} {P : Value → List (Addr × Obj) → Prop}
    {cn : Str} {cs : Scope} {a : Addr} {ccd : Value} {cl : List (Str × Addr)} {A A₀ : Around} {base h₀ : Heap} {L : Addr} {m : Str → Option Value} {s : Shared} {news rest : List (Addr × Obj)}
    {loose : List Str} {mean : ExcName → Option Value} {mg mb : Str → Option Value} {Q E : Value → Shared → Prop}
    (S : SpecL w D f args sub P) (B : Below A₀ base [] h₀) (F : Fr h₀ L s.heap m) (X : (hd.heap_39 w.params).In h₀) (N : News h₀ L s.heap news) (T : Top topProg loose mean mg mb h₀)
    (XB : (hd.heap_39 w.params).In base) (TB : Top topProg loose mean mg mb base) (C : CodeHd base 163 159)
    (hf : A.frames = some [envX cn cs L a ccd cl]) (hh : A.handled = none) (hk : cs.kind = .function) (hdp : A.depth ≤ D + 1) (hu : A.units ≤ 9 * D + 3) (hsub : ∀ q ∈ sub, q ∈ news)
    (hr : Rest (sub.map (·.1)) news rest)
    (k : ∀ v sub' h' tk', P v sub' → Fr h₀ L h' m → News h₀ L h' (sub' ++ rest) → (∀ q ∈ sub', ∀ r ∈ rest, q.1 ≠ r.1) → Q v { s with heap := h', toks := tk' }) :
    wpAny (model PySem.Challenge.rw_on0256_01.row.prog w) A (call (.ref f) args) Q E s :=
  loosen hh hf hdp hu (S _ _ _ _ _ _ _ _ _ _ _ _ _ _ _ _ _ _ _ B F X N T hk hsub XB TB C fun v sub' h' tk' hP F' R => have z := R rest (fun q hq => (hr.mem q hq).1) fun q hq r hr' => (hr.mem q hq).2 r.1 (List.mem_map_of_mem hr'); k v sub' h' tk' hP F' z.1 z.2)
end Mine
end

section
open PySem PySem.W PySem.Calls PyProof.Rows
namespace Mine


theorem two_abs_ne {b : Int} (hb : b ≠ 0) : 2 * (if b < 0 then -b else b) ≠ 0 := by split <;> omega
theorem log2_lt {y : Int} (h : y.natAbs < 1267650600228229401496703205376) : y.natAbs.log2 < 9000 := by
  by_cases h0 : y.natAbs = 0
  · rw [h0]; decide
  · refine Nat.lt_trans ((Nat.log2_lt (k := 100) h0).mpr ?_) (by decide)
    exact Nat.lt_of_lt_of_le h (by decide)
theorem two_abs_py {a b : Int} (hb : b.natAbs < 100000000000000000000) : Builtin.divisionGoesByPylong a (2 * (if b < 0 then -b else b)) = false :=
  PyProof.noPylong_of_log2 (log2_lt (by split <;> omega))

/-- the nearest whole number to n / b (b above nought), halves away from nought -/
def rnd (n b : Int) : Int := if 0 ≤ n then (2 * n + b) / (2 * b) else -((-2 * n + b) / (2 * b))
/-- and of any b but nought -/
def rq (n b : Int) : Int := if 0 < b then rnd n b else rnd (-n) (-b)
theorem half_nil {b : Int} (hb : 0 < b) : b / (2 * b) = 0 := Int.ediv_eq_zero_of_lt (by omega) (by omega)
theorem fdiv_pos {a b : Int} (hb : 0 < b) : a.fdiv b = a / b := Int.fdiv_eq_ediv_of_nonneg a (by omega)
theorem divided_same {n b : Int} (hb : b ≠ 0) (h : (decide (n < 0) == decide (b < 0)) = true) : (2 * (if n < 0 then -n else n) + (if b < 0 then -b else b)).fdiv (2 * (if b < 0 then -b else b)) = rq n b := by
  rw [fdiv_pos (by split <;> omega)]
  unfold rq rnd
  by_cases h1 : n < 0 <;> by_cases h2 : b < 0 <;> simp [h1, h2] at h ⊢
  · rw [if_neg (by omega), if_pos (by omega)]
  · rw [if_pos (by omega), if_pos (by omega)]
theorem divided_other {n b : Int} (hb : b ≠ 0) (h : (decide (n < 0) == decide (b < 0)) = false) : -((2 * (if n < 0 then -n else n) + (if b < 0 then -b else b)).fdiv (2 * (if b < 0 then -b else b))) = rq n b := by
  rw [fdiv_pos (by split <;> omega)]
  unfold rq rnd
  by_cases h1 : n < 0 <;> by_cases h2 : b < 0 <;> simp [h1, h2] at h ⊢
  · rw [if_pos (by omega), if_neg (by omega)]; simp only [Int.mul_neg, Int.neg_mul]
  · rw [if_neg (by omega)]
    by_cases h3 : n = 0
    · subst h3; simp [half_nil (b := -b) (by omega)]
    · rw [if_neg (by omega), show -2 * -n = 2 * n by omega]

set_option maxHeartbeats 8000000 in
theorem divided_spec (w : World) (n b : Int) (t u : Tok) (hb : b ≠ 0) (hs : b.natAbs < 100000000000000000000) : Spec w 500 false 54 [.int n t, .int b u] [] (fun v sub' => sub' = [] ∧ ∃ t, v = .int (rq n b) t) := by
  unfold Spec
  k_fill
  intro gd cn cs a ccd cl outer A₀ base h₀ L m s news loose mean mg mb Q E B F X N T hk hsub C k
  ((k_dflt (refine' callS ?k1 ?k2 ?k3 ?k4 ?k5 ?kA ?kF ?kK ?kS ?kC ?kk ?k6 ?k7 ?k8 ?k9 ?kB ?_ ?c2 ?c3 ?c4 ?c5 (args := ⟨_, []⟩); (case kA => exact rfl); (case kF => exact rfl); (case kK => assumption); (case k1 => k_asm); (case k2 => k_asm); (case k3 => k_asm); (case k4 => k_asm); (case k5 => k_asm); (case kS => assumption); (case kC => assumption); (case kk => assumption); (case k6 => k_is); (case k7 => k_is); (case k8 => k_room); (case k9 => exact BindsTo.of_eq rfl); (case c5 => decide); (case kB => exact locs rfl); (case c2 => exact rfl); (case c3 => exact rfl); (case c4 => exact rfl); k_whole)))
  clear B F X N T hk hsub C k
  intro g L' h' F' N' B' X' T' C' l1
  have F9 : Fr g L' h' (fun y9 => List.lookup y9 [(Str.ofString "by", .int b u), (Str.ofString "number", .int n t)]) := F'
  clear F'
  (try dsimp only)
  (with_reducible show wpAny _ _ _ _ _ _)
  k_fold
  repeat' (first | (k_unfold; (try dsimp only)) | (k_end; wrow_close) | ((with_reducible show wpAny _ _ (eval (Expr.Constant (Const.int _) _ _) _) _ _ _); (with_reducible refine constL ?_)) | ((with_reducible show wpAny _ _ (binaryOp Operator.Add (Value.int _ _) (Value.int _ _)) _ _ _); (with_reducible refine addL ?_)) | ((with_reducible show wpAny _ _ (binaryOp Operator.Sub (Value.int _ _) (Value.int _ _)) _ _ _); (with_reducible refine subL ?_)) | ((with_reducible show wpAny _ _ (binaryOp Operator.Mult (Value.int _ _) (Value.int _ _)) _ _ _); (with_reducible refine' mulL ?_ ?zqs1); (case zqs1 => (first | with_reducible exact ok_f1 | with_reducible exact ok_f2 | with_reducible exact ok_f3 | exact IntMulOk.of_left (by decide) | with_reducible exact ok_l (by assumption) | with_reducible exact ok_r (by assumption) | with_reducible mul_fits))) | ((with_reducible show wpAny _ _ (newTuple _) _ _ _); k_here; kup_bare; k_dflt (refine' newTupleL ?zqs2 ?zqs3 ?_ ?zqs4; (case zqs2 => k_asm); (case zqs3 => k_asm); (case zqs4 => kmk_size)); intro D' h' F' N' l1; (try k_lt l1); (try k_sweep)) | ((with_reducible show wpAny _ _ (binaryOp ..) _ _ _); (first | (with_reducible ((k_here; (with_reducible refine floordiv_int ?zq0hz ?_ (Or.inl ?zq0hp)); (case zq0hz => first | exact two_abs_ne (by assumption) | omega); (case zq0hp => first | exact two_abs_py (by assumption) | exact PyProof.noPylong_of_log2 (log2_lt (by omega)))))) | ((k_here; (with_reducible refine floordiv_int ?zq0hz ?_ (Or.inl ?zq0hp)); (case zq0hz => first | exact two_abs_ne (by assumption) | omega); (case zq0hp => first | exact two_abs_py (by assumption) | exact PyProof.noPylong_of_log2 (log2_lt (by omega))))))) | walk1 | (dsimp only; (first | ((with_reducible show wpAny _ _ (eval (Expr.Constant (Const.int _) _ _) _) _ _ _); (with_reducible refine constL ?_)) | ((with_reducible show wpAny _ _ (binaryOp Operator.Add (Value.int _ _) (Value.int _ _)) _ _ _); (with_reducible refine addL ?_)) | ((with_reducible show wpAny _ _ (binaryOp Operator.Sub (Value.int _ _) (Value.int _ _)) _ _ _); (with_reducible refine subL ?_)) | ((with_reducible show wpAny _ _ (binaryOp Operator.Mult (Value.int _ _) (Value.int _ _)) _ _ _); (with_reducible refine' mulL ?_ ?zqs1); (case zqs1 => (first | with_reducible exact ok_f1 | with_reducible exact ok_f2 | with_reducible exact ok_f3 | exact IntMulOk.of_left (by decide) | with_reducible exact ok_l (by assumption) | with_reducible exact ok_r (by assumption) | with_reducible mul_fits))) | ((with_reducible show wpAny _ _ (newTuple _) _ _ _); k_here; kup_bare; k_dflt (refine' newTupleL ?zqs2 ?zqs3 ?_ ?zqs4; (case zqs2 => k_asm); (case zqs3 => k_asm); (case zqs4 => kmk_size)); intro D' h' F' N' l1; (try k_lt l1); (try k_sweep)) | ((with_reducible show wpAny _ _ (binaryOp ..) _ _ _); (first | (with_reducible ((k_here; (with_reducible refine floordiv_int ?zq0hz ?_ (Or.inl ?zq0hp)); (case zq0hz => first | exact two_abs_ne (by assumption) | omega); (case zq0hp => first | exact two_abs_py (by assumption) | exact PyProof.noPylong_of_log2 (log2_lt (by omega)))))) | ((k_here; (with_reducible refine floordiv_int ?zq0hz ?_ (Or.inl ?zq0hp)); (case zq0hz => first | exact two_abs_ne (by assumption) | omega); (case zq0hp => first | exact two_abs_py (by assumption) | exact PyProof.noPylong_of_log2 (log2_lt (by omega))))))) | walk1)) | (leave1; walk_say "STEP leave1"; try dsimp only) | fail "no step")
  all_goals (
    show EndS _ _ _ _ _
    refine ⟨_, _, [], _, _, rfl, by assumption, News.nil, rfl, ?_⟩)
  · exact ⟨_, congrArg (fun x => Value.int x _) (divided_same hb (by assumption))⟩
  · exact ⟨_, congrArg (fun x => Value.int x _) (divided_other hb (by assumption))⟩

theorem near_up {n b : Int} (hb : 0 < b) (hn : 0 ≤ n) : (2 * (if n < 0 then -n else n) + b).fdiv (2 * b) = rnd n b := by
  rw [fdiv_pos (by omega), if_neg (by omega)]; unfold rnd; rw [if_pos hn]
theorem near_down {n b : Int} (hb : 0 < b) (hn : ¬ 0 ≤ n) : -((2 * (if n < 0 then -n else n) + b).fdiv (2 * b)) = rnd n b := by
  rw [fdiv_pos (by omega), if_pos (by omega)]; unfold rnd; rw [if_neg hn]; simp only [Int.mul_neg, Int.neg_mul]
theorem rq_pos {n b : Int} (hb : 0 < b) : rq n b = rnd n b := by unfold rq; rw [if_pos hb]
theorem rq_neg {n b : Int} (hb : ¬ 0 < b) : rq n b = rnd (-n) (-b) := by unfold rq; rw [if_neg hb]
set_option maxHeartbeats 8000000 in
theorem near_spec (w : World) (n b : Int) (t u : Tok) (hb : b ≠ 0) (hs : b.natAbs < 100000000000000000000) : Spec w 500 false 143 [.int n t, .int b u] [] (fun v sub' => sub' = [] ∧ ∃ t, v = .int (rq n b) t) := by
  unfold Spec
  k_fill
  intro gd cn cs a ccd cl outer A₀ base h₀ L m s news loose mean mg mb Q E B F X N T hk hsub C k
  ((k_dflt (refine' callS ?k1 ?k2 ?k3 ?k4 ?k5 ?kA ?kF ?kK ?kS ?kC ?kk ?k6 ?k7 ?k8 ?k9 ?kB ?_ ?c2 ?c3 ?c4 ?c5 (args := ⟨_, []⟩); (case kA => exact rfl); (case kF => exact rfl); (case kK => assumption); (case k1 => k_asm); (case k2 => k_asm); (case k3 => k_asm); (case k4 => k_asm); (case k5 => k_asm); (case kS => assumption); (case kC => assumption); (case kk => assumption); (case k6 => k_is); (case k7 => k_is); (case k8 => k_room); (case k9 => exact BindsTo.of_eq rfl); (case c5 => decide); (case kB => exact locs rfl); (case c2 => exact rfl); (case c3 => exact rfl); (case c4 => exact rfl); k_whole)))
  clear B F X N T hk hsub C k
  intro g L' h' F' N' B' X' T' C' l1
  have F9 : Fr g L' h' (fun y9 => List.lookup y9 [(Str.ofString "by", .int b u), (Str.ofString "number", .int n t)]) := F'
  clear F'
  (try dsimp only)
  (with_reducible show wpAny _ _ _ _ _ _)
  k_fold
  repeat' (first | (k_unfold; (try dsimp only)) | (k_end; wrow_close) | ((with_reducible show wpAny _ _ (eval (Expr.Constant (Const.int _) _ _) _) _ _ _); (with_reducible refine constL ?_)) | ((with_reducible show wpAny _ _ (binaryOp Operator.Add (Value.int _ _) (Value.int _ _)) _ _ _); (with_reducible refine addL ?_)) | ((with_reducible show wpAny _ _ (binaryOp Operator.Sub (Value.int _ _) (Value.int _ _)) _ _ _); (with_reducible refine subL ?_)) | ((with_reducible show wpAny _ _ (binaryOp Operator.Mult (Value.int _ _) (Value.int _ _)) _ _ _); (with_reducible refine' mulL ?_ ?zqs1); (case zqs1 => (first | with_reducible exact ok_f1 | with_reducible exact ok_f2 | with_reducible exact ok_f3 | exact IntMulOk.of_left (by decide) | with_reducible exact ok_l (by assumption) | with_reducible exact ok_r (by assumption) | with_reducible mul_fits))) | ((with_reducible show wpAny _ _ (newTuple _) _ _ _); k_here; kup_bare; k_dflt (refine' newTupleL ?zqs2 ?zqs3 ?_ ?zqs4; (case zqs2 => k_asm); (case zqs3 => k_asm); (case zqs4 => kmk_size)); intro D' h' F' N' l1; (try k_lt l1); (try k_sweep)) | ((with_reducible show wpAny _ _ (binaryOp ..) _ _ _); (first | (with_reducible ((k_here; (with_reducible refine floordiv_int ?zq0hz ?_ (Or.inl ?zq0hp)); (case zq0hz => first | exact two_abs_ne (by assumption) | omega); (case zq0hp => first | exact two_abs_py (by assumption) | exact PyProof.noPylong_of_log2 (log2_lt (by omega)))))) | ((k_here; (with_reducible refine floordiv_int ?zq0hz ?_ (Or.inl ?zq0hp)); (case zq0hz => first | exact two_abs_ne (by assumption) | omega); (case zq0hp => first | exact two_abs_py (by assumption) | exact PyProof.noPylong_of_log2 (log2_lt (by omega))))))) | walk1 | (dsimp only; (first | ((with_reducible show wpAny _ _ (eval (Expr.Constant (Const.int _) _ _) _) _ _ _); (with_reducible refine constL ?_)) | ((with_reducible show wpAny _ _ (binaryOp Operator.Add (Value.int _ _) (Value.int _ _)) _ _ _); (with_reducible refine addL ?_)) | ((with_reducible show wpAny _ _ (binaryOp Operator.Sub (Value.int _ _) (Value.int _ _)) _ _ _); (with_reducible refine subL ?_)) | ((with_reducible show wpAny _ _ (binaryOp Operator.Mult (Value.int _ _) (Value.int _ _)) _ _ _); (with_reducible refine' mulL ?_ ?zqs1); (case zqs1 => (first | with_reducible exact ok_f1 | with_reducible exact ok_f2 | with_reducible exact ok_f3 | exact IntMulOk.of_left (by decide) | with_reducible exact ok_l (by assumption) | with_reducible exact ok_r (by assumption) | with_reducible mul_fits))) | ((with_reducible show wpAny _ _ (newTuple _) _ _ _); k_here; kup_bare; k_dflt (refine' newTupleL ?zqs2 ?zqs3 ?_ ?zqs4; (case zqs2 => k_asm); (case zqs3 => k_asm); (case zqs4 => kmk_size)); intro D' h' F' N' l1; (try k_lt l1); (try k_sweep)) | ((with_reducible show wpAny _ _ (binaryOp ..) _ _ _); (first | (with_reducible ((k_here; (with_reducible refine floordiv_int ?zq0hz ?_ (Or.inl ?zq0hp)); (case zq0hz => first | exact two_abs_ne (by assumption) | omega); (case zq0hp => first | exact two_abs_py (by assumption) | exact PyProof.noPylong_of_log2 (log2_lt (by omega)))))) | ((k_here; (with_reducible refine floordiv_int ?zq0hz ?_ (Or.inl ?zq0hp)); (case zq0hz => first | exact two_abs_ne (by assumption) | omega); (case zq0hp => first | exact two_abs_py (by assumption) | exact PyProof.noPylong_of_log2 (log2_lt (by omega))))))) | walk1)) | (leave1; walk_say "STEP leave1"; try dsimp only) | fail "no step")
  all_goals (
    show EndS _ _ _ _ _
    refine ⟨_, _, [], _, _, rfl, by assumption, News.nil, rfl, ?_⟩)
  · exact ⟨_, congrArg (fun x => Value.int x _) ((near_up (by assumption) (by assumption)).trans (rq_pos (by assumption)).symm)⟩
  · exact ⟨_, congrArg (fun x => Value.int x _) ((near_down (by assumption) (by assumption)).trans (rq_pos (by assumption)).symm)⟩
  · exact ⟨_, congrArg (fun x => Value.int x _) ((near_up (by omega) (by assumption)).trans (rq_neg (by assumption)).symm)⟩
  · exact ⟨_, congrArg (fun x => Value.int x _) ((near_down (by omega) (by assumption)).trans (rq_neg (by assumption)).symm)⟩
end Mine
end

section
open PySem PySem.W PySem.Calls PyProof.Rows
namespace Mine
-- the walk keeps its lines by their number alone: another number than the text ahead of this one

abbrev DeckIs (w : World) (o : Obj) (l : Addr) (M T : Int) (t u : Tok) : Prop :=
  o.IsDictOf (PySem.strKind PySem.Challenge.rw_on0256_01.row.prog w) [(Str.ofString "cells", Value.ref l), (Str.ofString "mixed", Value.int M t), (Str.ofString "turn", Value.int T u)]

theorem ints_pos {vs : List Value} {ns : List Int} (hI : IntsAre vs ns) (h : decide (ns = []) = false) : 0 < vs.length := by
  have := hI.length
  cases ns with
  | nil => simp at h
  | cons a r => simp at this; omega
/-- a deck that draws have turned: its ledger, for the caller -/
def Deck (w : World) (d l : Addr) (M T : Int) (sub : List (Addr × Obj)) : Prop :=
  ∃ o vs n ns t1 t2, sub = [(d, o), (l, W.listOf vs.toArray n)] ∧ DeckIs w o l M T t1 t2 ∧ IntsAre vs ns ∧ ns.length ≤ 16

theorem ints_push {vs : List Value} {ns : List Int} (h : IntsAre vs ns) (k : Int) (t : Tok) : IntsAre (vs ++ [Value.int k t]) (ns ++ [k]) := by
  induction h with
  | nil => exact .cons k t .nil
  | cons a u _ ih => exact .cons a u ih
set_option maxHeartbeats 8000000 in
theorem draw_spec (w : World) (d l : Addr) (o : Obj) (vs : List Value) (n : Nat) (ns : List Int) (M T : Int) (t1 t2 : Tok) (b : Int) (u : Tok)
    (hD : DeckIs w o l M T t1 t2) (hI : IntsAre vs ns) (hl : ns.length ≤ 16) (hne : d ≠ l) (hb : 0 < b) (hb2 : b < 100000) (hT : 0 ≤ T) (hT2 : T < 1000000) :
    Spec w 500 false 129 [.ref d, .int b u] [(d, o), (l, W.listOf vs.toArray n)] (fun v sub' => (∃ r t, v = .int r t ∧ 0 ≤ r ∧ r < b) ∧ Deck w d l M (T + 1) sub') := by
  unfold Spec
  k_fill
  intro gd cn cs a ccd cl outer A₀ base h₀ L m s news loose mean mg mb Q E B F X N T hk hsub C k
  k_dflt (refine' callS ?k1 ?k2 ?k3 ?k4 ?k5 ?kA ?kF ?kK ?kS ?kC ?kk ?k6 ?k7 ?k8 ?k9 ?kB ?_ ?c2 ?c3 ?c4 ?c5 (args := ⟨_, []⟩); (case kA => exact rfl); (case kF => exact rfl); (case kK => assumption); (case k1 => k_asm); (case k2 => k_asm); (case k3 => k_asm); (case k4 => k_asm); (case k5 => k_asm); (case kS => assumption); (case kC => assumption); (case kk => assumption); (case k6 => k_is); (case k7 => k_is); (case k8 => k_room); (case k9 => exact BindsTo.of_eq rfl); (case c5 => decide); (case kB => exact locs rfl); (case c2 => exact rfl); (case c3 => exact rfl); (case c4 => exact rfl); k_whole)
  clear B F X N T hk hsub C k
  intro g L' h' F' N' B' X' T' C' l1
  have F9 : Fr g L' h' (fun y9 => List.lookup y9 [(Str.ofString "below", .int b u), (Str.ofString "deck", .ref d)]) := F'
  clear F'
  k_lt l1
  replace hne := neN hne
  dsimp only [DeckIs] at hD
  have hvl : vs.length ≤ 16 := by have := hI.length; omega
  have hvd : vs.dropLast.length ≤ 16 := by simp only [List.length_dropLast]; omega
  have hnd : ns.length = vs.length := by have := hI.length; omega
  (try dsimp only)
  (with_reducible show wpAny _ _ _ _ _ _)
  k_fold
  repeat' (first | (k_unfold; (try dsimp only)) | (k_end; wrow_close) | ((with_reducible show wpAny _ _ (eval (Expr.Constant (Const.int _) _ _) _) _ _ _); (with_reducible refine constL ?_)) | ((with_reducible show wpAny _ _ (binaryOp Operator.Add (Value.int _ _) (Value.int _ _)) _ _ _); (with_reducible refine addL ?_)) | ((with_reducible show wpAny _ _ (binaryOp Operator.Sub (Value.int _ _) (Value.int _ _)) _ _ _); (with_reducible refine subL ?_)) | ((with_reducible show wpAny _ _ (binaryOp Operator.Mult (Value.int _ _) (Value.int _ _)) _ _ _); (with_reducible refine' mulL ?_ ?zqs1); (case zqs1 => (first | with_reducible exact ok_f1 | with_reducible exact ok_f2 | with_reducible exact ok_f3 | exact IntMulOk.of_left (by decide) | with_reducible exact ok_l (by assumption) | with_reducible exact ok_r (by assumption) | with_reducible mul_fits))) | ((with_reducible show wpAny _ _ (newTuple _) _ _ _); k_here; kup_bare; k_dflt (refine' newTupleL ?zqs2 ?zqs3 ?_ ?zqs4; (case zqs2 => k_asm); (case zqs3 => k_asm); (case zqs4 => kmk_size)); intro D' h' F' N' l1; (try k_lt l1); (try k_sweep)) | ((with_reducible show wpAny _ _ (call _ _ _) _ _ _); (first | ((k_here; (with_reducible show wpAny _ _ (call (Value.builtin _) [Value.ref _, _]) _ _ _); k_dflt (refine' append_K ?zq1k1 ?zq1k2 ?zq1k3 ?_ ?zq1z; (case zq1k1 => k_asm); (case zq1k2 => k_asm); (case zq1k3 => k_upd); (case zq1z => (simp only [List.size_toArray]; exact fits16 (by omega))); k_whole); intro h' F' N'; (simp only [List.push_toArray] at N'); (try k_sweep))) | ((k_here; (with_reducible show wpAny _ _ (call (Value.builtin _) [Value.ref _]) _ _ _); k_dflt (refine' kpa_pop ?zq0F ?zq0N ?zq0U ?zq0i ?zq0l ?zq0z ?_; (case zq0F => k_asm); (case zq0N => k_asm); (case zq0U => k_upd); (case zq0i => assumption); (case zq0l => exact ints_pos (by assumption) (by assumption)); (case zq0z => exact fits16 (by omega))); (intro h' t' F' N' hI'; (try dsimp only [List.nil_append, List.cons_append] at N')))))) | walk1 | (dsimp only; (first | ((with_reducible show wpAny _ _ (eval (Expr.Constant (Const.int _) _ _) _) _ _ _); (with_reducible refine constL ?_)) | ((with_reducible show wpAny _ _ (binaryOp Operator.Add (Value.int _ _) (Value.int _ _)) _ _ _); (with_reducible refine addL ?_)) | ((with_reducible show wpAny _ _ (binaryOp Operator.Sub (Value.int _ _) (Value.int _ _)) _ _ _); (with_reducible refine subL ?_)) | ((with_reducible show wpAny _ _ (binaryOp Operator.Mult (Value.int _ _) (Value.int _ _)) _ _ _); (with_reducible refine' mulL ?_ ?zqs1); (case zqs1 => (first | with_reducible exact ok_f1 | with_reducible exact ok_f2 | with_reducible exact ok_f3 | exact IntMulOk.of_left (by decide) | with_reducible exact ok_l (by assumption) | with_reducible exact ok_r (by assumption) | with_reducible mul_fits))) | ((with_reducible show wpAny _ _ (newTuple _) _ _ _); k_here; kup_bare; k_dflt (refine' newTupleL ?zqs2 ?zqs3 ?_ ?zqs4; (case zqs2 => k_asm); (case zqs3 => k_asm); (case zqs4 => kmk_size)); intro D' h' F' N' l1; (try k_lt l1); (try k_sweep)) | ((with_reducible show wpAny _ _ (call _ _ _) _ _ _); (first | ((k_here; (with_reducible show wpAny _ _ (call (Value.builtin _) [Value.ref _, _]) _ _ _); k_dflt (refine' append_K ?zq1k1 ?zq1k2 ?zq1k3 ?_ ?zq1z; (case zq1k1 => k_asm); (case zq1k2 => k_asm); (case zq1k3 => k_upd); (case zq1z => (simp only [List.size_toArray]; exact fits16 (by omega))); k_whole); intro h' F' N'; (simp only [List.push_toArray] at N'); (try k_sweep))) | ((k_here; (with_reducible show wpAny _ _ (call (Value.builtin _) [Value.ref _]) _ _ _); k_dflt (refine' kpa_pop ?zq0F ?zq0N ?zq0U ?zq0i ?zq0l ?zq0z ?_; (case zq0F => k_asm); (case zq0N => k_asm); (case zq0U => k_upd); (case zq0i => assumption); (case zq0l => exact ints_pos (by assumption) (by assumption)); (case zq0z => exact fits16 (by omega))); (intro h' t' F' N' hI'; (try dsimp only [List.nil_append, List.cons_append] at N')))))) | walk1)) | (leave1; walk_say "STEP leave1"; try dsimp only) | fail "no step")
  all_goals (
    show EndS _ _ _ _ _
    refine ⟨_, _, [(d, _), (l, W.listOf _ _)], _, _, rfl, by assumption, pick (by assumption) (by k_mem) (pick (by assumption) (by k_mem) News.nil), ⟨_, _, rfl, fmod_lo _ hb, fmod_hi _ hb⟩, ?_⟩)
  · exact ⟨_, _, _, _, _, _, rfl, by assumption, hI, hl⟩
  · exact ⟨_, _, _, _, _, _, rfl, by assumption, ints_push (by assumption) _ _, by have := ints_pos hI (by assumption); simp only [List.length_append, List.length_dropLast, List.length_cons, List.length_nil]; omega⟩
  · exact ⟨_, _, _, _, _, _, rfl, by assumption, by assumption, by simp only [List.length_dropLast]; omega⟩
end Mine
end

section
open PySem PySem.W PySem.Calls PyProof.Rows
namespace Mine

-- the sides of a contract in use

theorem rq_both {n b : Int} (hb : b ≠ 0) : rq (-n) (-b) = rq n b := by
  by_cases h : 0 < b
  · rw [rq_pos h, rq_neg (by omega), Int.neg_neg, Int.neg_neg]
  · rw [rq_neg h, rq_pos (by omega)]
set_option maxHeartbeats 8000000 in
theorem mq_spec (w : World) (n b : Int) (t u : Tok) (hb : b ≠ 0) (hs : b.natAbs < 100000000000000000000) : Spec w 400 false 61 [.int n t, .int b u] [] (fun v sub' => sub' = [] ∧ ∃ t, v = .int (rq n b) t) := by
  unfold Spec
  k_fill
  intro gd cn cs a ccd cl outer A₀ base h₀ L m s news loose mean mg mb Q E B F X N T hk hsub C k
  ((k_dflt (refine' callS ?k1 ?k2 ?k3 ?k4 ?k5 ?kA ?kF ?kK ?kS ?kC ?kk ?k6 ?k7 ?k8 ?k9 ?kB ?_ ?c2 ?c3 ?c4 ?c5 (args := ⟨_, []⟩); (case kA => exact rfl); (case kF => exact rfl); (case kK => assumption); (case k1 => k_asm); (case k2 => k_asm); (case k3 => k_asm); (case k4 => k_asm); (case k5 => k_asm); (case kS => assumption); (case kC => assumption); (case kk => assumption); (case k6 => k_is); (case k7 => k_is); (case k8 => k_room); (case k9 => exact BindsTo.of_eq rfl); (case c5 => decide); (case kB => exact locs rfl); (case c2 => exact rfl); (case c3 => exact rfl); (case c4 => exact rfl); k_whole)))
  clear B F X N T hk hsub C k
  intro g L' h' F' N' B' X' T' C' l1
  have F9 : Fr g L' h' (fun y9 => List.lookup y9 [(Str.ofString "by", .int b u), (Str.ofString "number", .int n t)]) := F'
  clear F'
  (try dsimp only)
  (with_reducible show wpAny _ _ _ _ _ _)
  k_fold
  repeat' (first | (k_unfold; (try dsimp only)) | (k_end; wrow_close) | ((with_reducible show wpAny _ _ (eval (Expr.Constant (Const.int _) _ _) _) _ _ _); (with_reducible refine constL ?_)) | ((with_reducible show wpAny _ _ (binaryOp Operator.Add (Value.int _ _) (Value.int _ _)) _ _ _); (with_reducible refine addL ?_)) | ((with_reducible show wpAny _ _ (binaryOp Operator.Sub (Value.int _ _) (Value.int _ _)) _ _ _); (with_reducible refine subL ?_)) | ((with_reducible show wpAny _ _ (binaryOp Operator.Mult (Value.int _ _) (Value.int _ _)) _ _ _); (with_reducible refine' mulL ?_ ?zqs1); (case zqs1 => (first | with_reducible exact ok_f1 | with_reducible exact ok_f2 | with_reducible exact ok_f3 | exact IntMulOk.of_left (by decide) | with_reducible exact ok_l (by assumption) | with_reducible exact ok_r (by assumption) | with_reducible mul_fits))) | ((with_reducible show wpAny _ _ (newTuple _) _ _ _); k_here; kup_bare; k_dflt (refine' newTupleL ?zqs2 ?zqs3 ?_ ?zqs4; (case zqs2 => k_asm); (case zqs3 => k_asm); (case zqs4 => kmk_size)); intro D' h' F' N' l1; (try k_lt l1); (try k_sweep)) | ((with_reducible show wpAny _ _ (call _ _ _) _ _ _); (first | ((k_here; (with_reducible show wpAny _ _ (call (Value.ref 54) [Value.int _ _, Value.int _ _]) _ _ _); k_dflt (refine' Spec.useI (divided_spec _ _ _ _ _ ?zq0hb ?zq0hs) ?zq0k1 ?zq0k2 ?zq0k3 ?zq0k4 ?zq0k5 ?zq0kC ?zq0kA ?zq0kH ?zq0kK ?zq0kD ?zq0kU ?_; (case zq0hb => omega); (case zq0hs => omega); (((case zq0kA => exact rfl); (case zq0k2 => k_asm); (case zq0k1 => k_asm); (case zq0k3 => k_asm); (case zq0k4 => k_asm); (case zq0k5 => k_asm); (case zq0kC => exact fun e => nomatch e); (case zq0kH => exact rfl); (case zq0kK => exact rfl); (case zq0kD => exact Nat.le_of_ble_eq_true rfl); (case zq0kU => exact Nat.le_of_ble_eq_true rfl))); k_whole); intro t' h' tk' F' N'; (try k_sweep))))) | walk1 | (dsimp only; (first | ((with_reducible show wpAny _ _ (eval (Expr.Constant (Const.int _) _ _) _) _ _ _); (with_reducible refine constL ?_)) | ((with_reducible show wpAny _ _ (binaryOp Operator.Add (Value.int _ _) (Value.int _ _)) _ _ _); (with_reducible refine addL ?_)) | ((with_reducible show wpAny _ _ (binaryOp Operator.Sub (Value.int _ _) (Value.int _ _)) _ _ _); (with_reducible refine subL ?_)) | ((with_reducible show wpAny _ _ (binaryOp Operator.Mult (Value.int _ _) (Value.int _ _)) _ _ _); (with_reducible refine' mulL ?_ ?zqs1); (case zqs1 => (first | with_reducible exact ok_f1 | with_reducible exact ok_f2 | with_reducible exact ok_f3 | exact IntMulOk.of_left (by decide) | with_reducible exact ok_l (by assumption) | with_reducible exact ok_r (by assumption) | with_reducible mul_fits))) | ((with_reducible show wpAny _ _ (newTuple _) _ _ _); k_here; kup_bare; k_dflt (refine' newTupleL ?zqs2 ?zqs3 ?_ ?zqs4; (case zqs2 => k_asm); (case zqs3 => k_asm); (case zqs4 => kmk_size)); intro D' h' F' N' l1; (try k_lt l1); (try k_sweep)) | ((with_reducible show wpAny _ _ (call _ _ _) _ _ _); (first | ((k_here; (with_reducible show wpAny _ _ (call (Value.ref 54) [Value.int _ _, Value.int _ _]) _ _ _); k_dflt (refine' Spec.useI (divided_spec _ _ _ _ _ ?zq0hb ?zq0hs) ?zq0k1 ?zq0k2 ?zq0k3 ?zq0k4 ?zq0k5 ?zq0kC ?zq0kA ?zq0kH ?zq0kK ?zq0kD ?zq0kU ?_; (case zq0hb => omega); (case zq0hs => omega); (((case zq0kA => exact rfl); (case zq0k2 => k_asm); (case zq0k1 => k_asm); (case zq0k3 => k_asm); (case zq0k4 => k_asm); (case zq0k5 => k_asm); (case zq0kC => exact fun e => nomatch e); (case zq0kH => exact rfl); (case zq0kK => exact rfl); (case zq0kD => exact Nat.le_of_ble_eq_true rfl); (case zq0kU => exact Nat.le_of_ble_eq_true rfl))); k_whole); intro t' h' tk' F' N'; (try k_sweep))))) | walk1)) | (leave1; walk_say "STEP leave1"; try dsimp only) | fail "no step")
  all_goals (
    show EndS _ _ _ _ _
    refine ⟨_, _, [], _, _, rfl, by assumption, News.nil, rfl, ?_⟩)
  · exact ⟨_, congrArg (fun x => Value.int x _) (rq_both hb)⟩
  · exact ⟨_, rfl⟩
end Mine
end

section
open PySem PySem.W PySem.Calls PyProof.Rows
namespace Mine

theorem Rest.two {as : Addr × Addr} {p : Addr × Obj} (h1 : p.1 ≠ as.1) (h2 : p.1 ≠ as.2) : ∀ a ∈ [as.1, as.2], p.1 ≠ a := by
  intro a ha
  rcases List.mem_cons.mp ha with rfl | ha
  · exact h1
  · rcases List.mem_cons.mp ha with rfl | ha
    · exact h2
    · exact nomatch ha

section
variable {w : World} {D : Nat} {cq : Bool} {f : Addr} {args : List Value} {sub : List (Addr × Obj)} {P : Value → List (Addr × Obj) → Prop}
  {cn : Str} {cs : Scope} {a : Addr} {ccd : Value} {cl : List (Str × Addr)} {outer : List Env} {A A₀ : Around} {base h₀ : Heap} {L : Addr} {m : Str → Option Value} {s : Shared} {news rest : List (Addr × Obj)}
  {loose : List Str} {mean : ExcName → Option Value} {mg mb : Str → Option Value} {Q E : Value → Shared → Prop}
  {d l : Addr} {o : Obj} {vs : List Value} {n : Nat} {ns : List Int} {M T : Int} {t1 t2 : Tok} {b : Int} {u : Tok}

/-- the draw in use -/
theorem draw_use {hp : Heap} {gs : Array GenState} {dr : Drawn} {tk : Nat} {os : OsState} (hm1 : (d, o) ∈ news) (hD : DeckIs w o l M T t1 t2) (hm2 : (l, W.listOf vs.toArray n) ∈ news) (hI : IntsAre vs ns) (hl : ns.length ≤ 16) (hne : d ≠ l)
    (hb : 0 < b) (hb2 : b < 100000) (hT : 0 ≤ T) (hT2 : T < 1000000)
    (B : Below A₀ base outer h₀) (F : Fr h₀ L hp m) (X : (hd.heap_39 w.params).In h₀) (N : News h₀ L hp news) (Tp : Top topProg loose mean mg mb h₀)
    (hf : A.frames = some (envX cn cs L a ccd cl :: outer)) (hh : A.handled = none) (hk : cs.kind = .function) (hd : A.depth ≤ 500 + 1) (hu : A.units ≤ 9 * 500 + 3)
    (hr : Rest [d, l] news rest)
    (k : ∀ r t o' vs' n' ns' t1' t2' h' tk', 0 ≤ r → r < b → DeckIs w o' l M (T + 1) t1' t2' → IntsAre vs' ns' → ns'.length ≤ 16 → Fr h₀ L h' m → News h₀ L h' ((d, o') :: (l, W.listOf vs'.toArray n') :: rest) → Q (.int r t) ⟨h', gs, dr, tk', os⟩) :
    wpAny (model PySem.Challenge.rw_on0256_01.row.prog w) A (call (.ref 129) [.ref d, .int b u]) Q E ⟨hp, gs, dr, tk, os⟩ := by
  refine Spec.use (draw_spec w d l o vs n ns M T t1 t2 b u hD hI hl hne hb hb2 hT hT2) B F X N Tp (fun e => nomatch e) hf hh hk hd hu (fun q hq => ?_) hr fun v sub' h' tk' hP F' N' => ?_
  · rcases List.mem_cons.mp hq with rfl | hq
    · exact hm1
    · rcases List.mem_cons.mp hq with rfl | hq
      · exact hm2
      · exact nomatch hq
  · obtain ⟨⟨r, t, rfl, r0, r1⟩, o', vs', n', ns', t1', t2', rfl, hD', hI', hl'⟩ := hP
    exact k r t o' vs' n' ns' t1' t2' h' tk' r0 r1 hD' hI' hl' F' N'
end

/-- an item of a list of small numbers -/
theorem item_some {prog : Program} {w : World} {A : Around} {E : Value → Shared → Prop} {s : Shared} {h₀ : Heap} {L l : Addr} {news : List (Addr × Obj)} {its : List Value} {n : Nat} {k : Int} {u : Tok} {value slice : Expr} {Q : Value → Shared → Prop}
    (N : News h₀ L s.heap news) (hm : (l, W.listOf its.toArray n) ∈ news) (hI : ∀ v ∈ its, ∃ y t, v = .int y t ∧ 0 ≤ y ∧ y ≤ 100000000) (h0 : 0 ≤ k) (h1 : k < its.length) (hfit : k < 2 ^ 63)
    (h : ∀ y t, 0 ≤ y → y ≤ 100000000 → Q (.int y t) s)
    (hs : subscripted slice false (.ref l) (.int k u) = operate [.ref l, .int k u] (getItem (.ref l) (.int k u)) := by with_unfolding_all rfl) :
    wpAny (model prog w) A (subscriptTail value slice (.ref l) (.int k u)) Q E s := by
  have hl : s.heap.IsList l its.toArray := ⟨_, N.get hm, rfl, n, rfl⟩
  have hk : k.toNat < its.length := by omega
  obtain ⟨y, t, e, y0, y1⟩ := hI (its[k.toNat]) (List.getElem_mem hk)
  exact tail_any hl.typeIs slot_list_getitem.lookup (wpAny_getItem_list hl h0 hfit (by simp [List.getElem?_eq_getElem hk, e]) (h y t y0 y1)) hs

theorem menu_ok {x : Int} {t1 t2 t3 t4 t5 t6 t7 t8 t9 : Tok} {c1 c2 c3 c4 c5 c6 c7 c8 : Int} (h : (0 ≤ c1 ∧ c1 ≤ 100000000) ∧ (0 ≤ c2 ∧ c2 ≤ 100000000) ∧ (0 ≤ c3 ∧ c3 ≤ 100000000) ∧ (0 ≤ c4 ∧ c4 ≤ 100000000) ∧ (0 ≤ c5 ∧ c5 ≤ 100000000) ∧ (0 ≤ c6 ∧ c6 ≤ 100000000) ∧ (0 ≤ c7 ∧ c7 ≤ 100000000) ∧ (0 ≤ c8 ∧ c8 ≤ 100000000)) (hx : 0 ≤ x ∧ x ≤ 100000000) :
    ∀ v ∈ [Value.int c1 t1, .int c2 t2, .int c3 t3, .int c4 t4, .int c5 t5, .int c6 t6, .int c7 t7, .int c8 t8, .int x t9], ∃ y t, v = .int y t ∧ 0 ≤ y ∧ y ≤ 100000000 := by
  intro v hv
  simp only [List.mem_cons, List.not_mem_nil, or_false] at hv
  rcases hv with rfl | rfl | rfl | rfl | rfl | rfl | rfl | rfl | rfl
  · exact ⟨_, _, rfl, h.1⟩
  · exact ⟨_, _, rfl, h.2.1⟩
  · exact ⟨_, _, rfl, h.2.2.1⟩
  · exact ⟨_, _, rfl, h.2.2.2.1⟩
  · exact ⟨_, _, rfl, h.2.2.2.2.1⟩
  · exact ⟨_, _, rfl, h.2.2.2.2.2.1⟩
  · exact ⟨_, _, rfl, h.2.2.2.2.2.2.1⟩
  · exact ⟨_, _, rfl, h.2.2.2.2.2.2.2⟩
  · exact ⟨_, _, rfl, hx⟩
theorem prod_small {p q : Int} (h0 : 0 ≤ p) (h1 : p < 9999) (g0 : 0 ≤ q) (g1 : q < 9973) : 0 ≤ 1 + p * q ∧ 1 + p * q ≤ 100000000 := by
  have a : 0 ≤ p * q := Int.mul_nonneg h0 g0
  have b : p * q ≤ 9999 * 9973 := Int.mul_le_mul (by omega) (by omega) g0 (by omega)
  omega


theorem deck_end {w : World} {d l : Addr} {M T T' : Int} {o : Obj} {vs : List Value} {n : Nat} {ns : List Int} {t1 t2 : Tok} (e : T' = T) (hD : DeckIs w o l M T' t1 t2) (hI : IntsAre vs ns) (hl : ns.length ≤ 16) : Deck w d l M T [(d, o), (l, W.listOf vs.toArray n)] :=
  e ▸ ⟨o, vs, n, ns, t1, t2, rfl, hD, hI, hl⟩

theorem end_num {w : World} {s : Shared} {g h' : Heap} {L' : Addr} {m' : Str → Option Value} {news : List (Addr × Obj)} {d l : Addr} {M T T' y : Int} {o : Obj} {vs : List Value} {n : Nat} {ns : List Int} {t1 t2 t tk' : Tok}
    (F : Fr g L' h' m') (N : News g L' h' news) (hD : DeckIs w o l M T' t1 t2) (m1 : (d, o) ∈ news) (m2 : (l, W.listOf vs.toArray n) ∈ news) (e : T' = T) (hI : IntsAre vs ns) (hl : ns.length ≤ 16) (hy : -100000000 ≤ y ∧ y ≤ 100000000) :
    EndS s g (fun v sub' => (∃ y t, v = .int y t ∧ -100000000 ≤ y ∧ y ≤ 100000000) ∧ Deck w d l M T sub') (.int y t) { s with heap := h', toks := tk' } :=
  ⟨L', m', [(d, o), (l, W.listOf vs.toArray n)], h', tk', rfl, F, pick N m1 (pick N m2 News.nil), ⟨y, t, rfl, hy⟩, deck_end e hD hI hl⟩

set_option maxHeartbeats 8000000 in
theorem num_spec (w : World) (d l : Addr) (o : Obj) (vs : List Value) (n : Nat) (ns : List Int) (M T : Int) (t1 t2 : Tok)
    (hD : DeckIs w o l M T t1 t2) (hI : IntsAre vs ns) (hl : ns.length ≤ 16) (hne : d ≠ l) (hT : 0 ≤ T) (hT2 : T < 900000) :
    Spec w 400 false 150 [.ref d] [(d, o), (l, W.listOf vs.toArray n)] (fun v sub' => (∃ y t, v = .int y t ∧ -100000000 ≤ y ∧ y ≤ 100000000) ∧ Deck w d l M (T + 4) sub') := by
  unfold Spec
  k_fill
  intro gd cn cs a ccd cl outer A₀ base h₀ L m s news loose mean mg mb Q E B F X N T hk hsub C k
  k_dflt (refine' callS ?k1 ?k2 ?k3 ?k4 ?k5 ?kA ?kF ?kK ?kS ?kC ?kk ?k6 ?k7 ?k8 ?k9 ?kB ?_ ?c2 ?c3 ?c4 ?c5 (args := ⟨_, []⟩); (case kA => exact rfl); (case kF => exact rfl); (case kK => assumption); (case k1 => k_asm); (case k2 => k_asm); (case k3 => k_asm); (case k4 => k_asm); (case k5 => k_asm); (case kS => assumption); (case kC => assumption); (case kk => assumption); (case k6 => k_is); (case k7 => k_is); (case k8 => k_room); (case k9 => exact BindsTo.of_eq rfl); (case c5 => decide); (case kB => exact locs rfl); (case c2 => exact rfl); (case c3 => exact rfl); (case c4 => exact rfl); k_whole)
  clear B F X N T hk hsub C k
  intro g L' h' F' N' B' X' T' C' l1
  have F9 : Fr g L' h' (fun y9 => List.lookup y9 [(Str.ofString "deck", .ref d)]) := F'
  clear F'
  k_lt l1
  have hneN := neN hne
  (try dsimp only)
  (with_reducible show wpAny _ _ _ _ _ _)
  k_fold
  repeat' (first | (k_unfold; (try dsimp only)) | (k_end; wrow_close) | ((with_reducible show wpAny _ _ (eval (Expr.Constant (Const.int _) _ _) _) _ _ _); (with_reducible refine constL ?_)) | ((with_reducible show wpAny _ _ (binaryOp Operator.Add (Value.int _ _) (Value.int _ _)) _ _ _); (with_reducible refine addL ?_)) | ((with_reducible show wpAny _ _ (binaryOp Operator.Sub (Value.int _ _) (Value.int _ _)) _ _ _); (with_reducible refine subL ?_)) | ((with_reducible show wpAny _ _ (binaryOp Operator.Mult (Value.int _ _) (Value.int _ _)) _ _ _); (with_reducible refine' mulL ?_ ?zqs1); (case zqs1 => (first | with_reducible exact ok_f1 | with_reducible exact ok_f2 | with_reducible exact ok_f3 | exact IntMulOk.of_left (by decide) | with_reducible exact ok_l (by assumption) | with_reducible exact ok_r (by assumption) | with_reducible mul_fits))) | ((with_reducible show wpAny _ _ (newTuple _) _ _ _); k_here; kup_bare; k_dflt (refine' newTupleL ?zqs2 ?zqs3 ?_ ?zqs4; (case zqs2 => k_asm); (case zqs3 => k_asm); (case zqs4 => kmk_size)); intro D' h' F' N' l1; (try k_lt l1); (try k_sweep)) | ((with_reducible show wpAny _ _ (call _ _ _) _ _ _); (first | ((k_here; (with_reducible show wpAny _ _ (call (Value.ref 129) [Value.ref _, Value.int _ _]) _ _ _); k_dflt (refine' draw_use ?zq0m1 ?zq0hD ?zq0m2 ?zq0hI ?zq0hl ?zq0ne ?zq0b1 ?zq0b2 ?zq0T1 ?zq0T2 ?zq0k1 ?zq0k2 ?zq0k3 ?zq0k4 ?zq0k5 ?zq0kA ?zq0kH ?zq0kK ?zq0kD ?zq0kU ?zq0hr ?_; (((case zq0kA => exact rfl); (case zq0k2 => k_asm); (case zq0k1 => k_asm); (case zq0k3 => k_asm); (case zq0k4 => k_asm); (case zq0k5 => k_asm); (case zq0kH => exact rfl); (case zq0kK => exact rfl); (case zq0kD => exact Nat.le_of_ble_eq_true rfl); (case zq0kU => exact Nat.le_of_ble_eq_true rfl))); (case zq0m1 => k_mem); (case zq0hD => assumption); (case zq0m2 => k_mem); (case zq0hI => assumption); (case zq0hl => assumption); (case zq0ne => assumption); (case zq0b1 => first | decide | omega); (case zq0b2 => first | decide | omega); (case zq0T1 => omega); (case zq0T2 => omega); (case zq0hr => ((repeat' (first | exact Rest.nil | (refine' Rest.keep (Rest.two (as := (_, _)) ?zq0ra ?zq0rb) ?_; (case zq0ra => k_ne); (case zq0rb => k_ne)) | refine' Rest.skip ?_)))); k_whole); intro r' t' o' vs' n' ns' t1' t2' h' tk' r0 r1 hD' hI' hl' F' N'; (try k_sweep))))) | ((with_reducible show EndS ..); (first | (with_reducible ((refine' end_num ?zq2F ?zq2N ?zq2hD ?zq2m1 ?zq2m2 ?zq2e ?zq2hI ?zq2hl ?zq2hy; (case zq2F => k_asm); (case zq2N => k_asm); (case zq2hD => assumption); (case zq2m1 => k_mem); (case zq2m2 => k_mem); (case zq2e => omega); (case zq2hI => assumption); (case zq2hl => assumption); (case zq2hy => omega)))) | ((refine' end_num ?zq2F ?zq2N ?zq2hD ?zq2m1 ?zq2m2 ?zq2e ?zq2hI ?zq2hl ?zq2hy; (case zq2F => k_asm); (case zq2N => k_asm); (case zq2hD => assumption); (case zq2m1 => k_mem); (case zq2m2 => k_mem); (case zq2e => omega); (case zq2hI => assumption); (case zq2hl => assumption); (case zq2hy => omega))))) | ((with_reducible show wpAny _ _ (subscriptTail ..) _ _ _); (first | ((k_here; (with_reducible show wpAny _ _ (subscriptTail _ _ (Value.ref _) (Value.int _ _)) _ _ _); k_dflt (refine' item_some ?zq1N ?zq1m ?zq1i ?zq1a ?zq1b ?zq1d ?_; (case zq1N => k_asm); (case zq1m => k_mem); (case zq1i => exact menu_ok (by decide) (prod_small (by assumption) (by assumption) (by assumption) (by assumption))); (case zq1a => assumption); (case zq1b => assumption); (case zq1d => omega); k_whole); intro y' t' y0 y1)))) | walk1 | (dsimp only; (first | ((with_reducible show wpAny _ _ (eval (Expr.Constant (Const.int _) _ _) _) _ _ _); (with_reducible refine constL ?_)) | ((with_reducible show wpAny _ _ (binaryOp Operator.Add (Value.int _ _) (Value.int _ _)) _ _ _); (with_reducible refine addL ?_)) | ((with_reducible show wpAny _ _ (binaryOp Operator.Sub (Value.int _ _) (Value.int _ _)) _ _ _); (with_reducible refine subL ?_)) | ((with_reducible show wpAny _ _ (binaryOp Operator.Mult (Value.int _ _) (Value.int _ _)) _ _ _); (with_reducible refine' mulL ?_ ?zqs1); (case zqs1 => (first | with_reducible exact ok_f1 | with_reducible exact ok_f2 | with_reducible exact ok_f3 | exact IntMulOk.of_left (by decide) | with_reducible exact ok_l (by assumption) | with_reducible exact ok_r (by assumption) | with_reducible mul_fits))) | ((with_reducible show wpAny _ _ (newTuple _) _ _ _); k_here; kup_bare; k_dflt (refine' newTupleL ?zqs2 ?zqs3 ?_ ?zqs4; (case zqs2 => k_asm); (case zqs3 => k_asm); (case zqs4 => kmk_size)); intro D' h' F' N' l1; (try k_lt l1); (try k_sweep)) | ((with_reducible show wpAny _ _ (call _ _ _) _ _ _); (first | ((k_here; (with_reducible show wpAny _ _ (call (Value.ref 129) [Value.ref _, Value.int _ _]) _ _ _); k_dflt (refine' draw_use ?zq0m1 ?zq0hD ?zq0m2 ?zq0hI ?zq0hl ?zq0ne ?zq0b1 ?zq0b2 ?zq0T1 ?zq0T2 ?zq0k1 ?zq0k2 ?zq0k3 ?zq0k4 ?zq0k5 ?zq0kA ?zq0kH ?zq0kK ?zq0kD ?zq0kU ?zq0hr ?_; (((case zq0kA => exact rfl); (case zq0k2 => k_asm); (case zq0k1 => k_asm); (case zq0k3 => k_asm); (case zq0k4 => k_asm); (case zq0k5 => k_asm); (case zq0kH => exact rfl); (case zq0kK => exact rfl); (case zq0kD => exact Nat.le_of_ble_eq_true rfl); (case zq0kU => exact Nat.le_of_ble_eq_true rfl))); (case zq0m1 => k_mem); (case zq0hD => assumption); (case zq0m2 => k_mem); (case zq0hI => assumption); (case zq0hl => assumption); (case zq0ne => assumption); (case zq0b1 => first | decide | omega); (case zq0b2 => first | decide | omega); (case zq0T1 => omega); (case zq0T2 => omega); (case zq0hr => ((repeat' (first | exact Rest.nil | (refine' Rest.keep (Rest.two (as := (_, _)) ?zq0ra ?zq0rb) ?_; (case zq0ra => k_ne); (case zq0rb => k_ne)) | refine' Rest.skip ?_)))); k_whole); intro r' t' o' vs' n' ns' t1' t2' h' tk' r0 r1 hD' hI' hl' F' N'; (try k_sweep))))) | ((with_reducible show EndS ..); (first | (with_reducible ((refine' end_num ?zq2F ?zq2N ?zq2hD ?zq2m1 ?zq2m2 ?zq2e ?zq2hI ?zq2hl ?zq2hy; (case zq2F => k_asm); (case zq2N => k_asm); (case zq2hD => assumption); (case zq2m1 => k_mem); (case zq2m2 => k_mem); (case zq2e => omega); (case zq2hI => assumption); (case zq2hl => assumption); (case zq2hy => omega)))) | ((refine' end_num ?zq2F ?zq2N ?zq2hD ?zq2m1 ?zq2m2 ?zq2e ?zq2hI ?zq2hl ?zq2hy; (case zq2F => k_asm); (case zq2N => k_asm); (case zq2hD => assumption); (case zq2m1 => k_mem); (case zq2m2 => k_mem); (case zq2e => omega); (case zq2hI => assumption); (case zq2hl => assumption); (case zq2hy => omega))))) | ((with_reducible show wpAny _ _ (subscriptTail ..) _ _ _); (first | ((k_here; (with_reducible show wpAny _ _ (subscriptTail _ _ (Value.ref _) (Value.int _ _)) _ _ _); k_dflt (refine' item_some ?zq1N ?zq1m ?zq1i ?zq1a ?zq1b ?zq1d ?_; (case zq1N => k_asm); (case zq1m => k_mem); (case zq1i => exact menu_ok (by decide) (prod_small (by assumption) (by assumption) (by assumption) (by assumption))); (case zq1a => assumption); (case zq1b => assumption); (case zq1d => omega); k_whole); intro y' t' y0 y1)))) | walk1)) | (leave1; walk_say "STEP leave1"; try dsimp only) | fail "no step")
end Mine
end

section
open PySem PySem.W PySem.Calls PyProof.Rows Mine
local macro_rules | `(tactic| k_ne) => `(tactic| (refine neN ?_; first
  | with_reducible assumption | (with_reducible refine Ne.symm ?_; with_reducible assumption)
  | with_reducible exact NeQ.l (by assumption) | with_reducible exact NeQ.r (by assumption)
  | with_reducible exact LtAll.ne (by assumption) (by k_dflt k_mem) | with_reducible exact LtAll.en (by assumption) (by k_dflt k_mem)
  | with_reducible exact lt_ne1 (by assumption) (by k_dflt k_mem) | with_reducible exact lt_en1 (by assumption) (by k_dflt k_mem)
  | with_reducible exact o1_ne (by assumption) (by k_dflt k_mem) | with_reducible exact o1_en (by assumption) (by k_dflt k_mem)
  | with_reducible exact o3_1 (by assumption) (by k_dflt k_mem) | with_reducible exact o3_2 (by assumption) (by k_dflt k_mem) | with_reducible exact o3_3 (by assumption) (by k_dflt k_mem)
  | with_reducible exact o3_4 (by assumption) (by k_dflt k_mem) | with_reducible exact o3_5 (by assumption) (by k_dflt k_mem) | with_reducible exact o3_6 (by assumption) (by k_dflt k_mem)
  | with_reducible exact NeT.a (by assumption) | with_reducible exact NeT.b (by assumption) | with_reducible exact NeT.c (by assumption)
  | with_reducible exact NeT.d (by assumption) | with_reducible exact NeT.e (by assumption) | with_reducible exact NeT.f (by assumption)
  | ((try dsimp only); omega)))
local macro_rules | `(tactic| k_lt $h) => `(tactic| (replace $h := LtAll.of $h))

section
open PySem PySem.W PySem.Calls PyProof.Rows
namespace Mine

/-- a CONTRACT of a def that leaves the whole ledger as it is, reads the objects pre, and hands back v with new objects of its own -/
def SpecG (w : World) (D : Nat) (f : Addr) (args : List Value) (pre : List (Addr × Obj)) (P : Value → List (Addr × Obj) → Prop) : Prop :=
  ∀ (gd : Option (List Code)) (env : Env) (outer : List Env) (A₀ : Around) (base h₀ : Heap) (L : Addr) (m : Str → Option Value) (s : Shared) (news : List (Addr × Obj))
    (loose : List Str) (mean : ExcName → Option Value) (mg mb : Str → Option Value) (Q E : Value → Shared → Prop),
    Below A₀ base outer h₀ → Fr h₀ L s.heap m → (hd.heap_39 w.params).In h₀ → News h₀ L s.heap news → Top topProg loose mean mg mb h₀ → env.frame = some L → env.scope.kind = .function →
    (∀ q ∈ pre, s.heap.get? q.1 = some q.2) → BackS h₀ L m news [] s P Q →
    wpAny (model PySem.Challenge.rw_on0256_01.row.prog w) ((ctr D gd outer).deeper env) (call (.ref f) args) Q E s

section
variable {prog : Program} {w : World} {A₀ A : Around} {s : Shared} {base h₀ : Heap} {outer : List Env} {L : Addr} {m : Str → Option Value} {env : Env} {news : List (Addr × Obj)} {K : Frag}
  {p : Program} {loose : List Str} {mean : ExcName → Option Value} {mg mb : Str → Option Value}
  {Q E : Value → Shared → Prop} {name qual : Str} {params : Arguments} {body : List Stmt} {scope : Scope} {dV kV doc pm cdv ct oc : Value} {an od : Option Addr} {osl : Array (Option Value)} {f : Addr} {args : Args} {binds : List (Str × Value)}
  {P : Value → List (Addr × Obj) → Prop}
/-- into the def's body, nothing of the ledger handed over: all that stands may be read -/
theorem callG (B : Below A₀ base outer h₀) (F : Fr h₀ L s.heap m) (X₀ : K.In h₀) (N : News h₀ L s.heap news) (T : Top p loose mean mg mb h₀)
    (hA : A.frames = some (env :: outer)) (hf : env.frame = some L) (hke : env.scope.kind = .function) (k : BackS h₀ L m news [] s P Q)
    (ho : K.lookup f = some ⟨oc, od, .func (fnOf name qual params body scope dV kV doc pm an cdv ct), osl⟩) (hcd : codeIn K cdv qual = true) (hroom : A.depth < recursionLimit)
    (hbind : BindsTo s (fnOf name qual params body scope dV kV doc pm an cdv ct) args binds) (hloc : ∀ y ∈ binds, scope.names.lookup y.1 = some .local)
    (h : ∀ g L' h₁, (∀ b o, s.heap.get? b = some o → g.get? b = some o) → Fr g L' h₁ (fun y => binds.reverse.lookup y) → News g L' h₁ [] → Below A base (env :: outer) g → K.In g → Top p loose mean mg mb g →
      wpAny (model prog w) (A.deeper (envOf qual scope L' f cdv)) (execs body (envOf qual scope L' f cdv))
        (fun fl s' => EndS s g P (match fl with | .ret v => v | _ => .none) s') (fun _ _ => False) { s with heap := h₁, toks := s.toks + binds.length })
    (hco : scope.isCoroutine = false) (hgen : scope.isGenerator = false) (hk : scope.kind = .function)
    (hcell : ∀ x ∈ scope.names, x.2 ≠ .cell) : wpAny (model prog w) A (call (.ref f) args.pos args.kw) Q E s := by
  obtain ⟨FG, BG, st, lv⟩ := groundX (news := []) (R := fun r s' => match r with | .ok (.ret v) => Q v s' | .ok _ => False | .error e => E e s') B F (News.nil) hA hf hke
  refine wpAny_call (codeAny_call_def (fd := fnOf name qual params body scope dV kV doc pm an cdv ct) (body := body) (binds := binds) hroom ((X₀.keeps F.keep) _ _ ho) rfl (T.nolimit.keeps F.keep) (codeRec_of (X₀.keeps F.keep) hcd) rfl hbind hcell hloc (fun h₁ hns hk₁ => ?_) hco hgen hk)
  exact wpAny_mono (h _ s.heap.objs.size h₁ (fun b o e => hideAll_get ([] : List Addr) e List.not_mem_nil) ⟨hns, fun b o e => hk₁ b o (of_hideAll _ e), Nat.le_of_eq (hideAll_size _ _)⟩
    (fun q hq => nomatch hq) BG (X₀.keeps st) (T.keeps st))
    (fun fl s' hl => back_of (sub := []) F N (fun _ h => nomatch h) lv k hl) fun _ _ y => y.elim
end

section
variable {w : World} {D : Nat} {cn : Str} {cs : Scope} {a : Addr} {ccd : Value} {cl : List (Str × Addr)} {outer : List Env} {A A₀ : Around} {base h₀ : Heap} {L : Addr} {m : Str → Option Value} {s : Shared} {news pre : List (Addr × Obj)} {f : Addr} {args : List Value}
  {loose : List Str} {mean : ExcName → Option Value} {mg mb : Str → Option Value} {Q E : Value → Shared → Prop} {p q : Int}
theorem SpecG.use {P : Value → List (Addr × Obj) → Prop} (S : SpecG w D f args pre P) (hpre : ∀ q ∈ pre, q ∈ news) (B : Below A₀ base outer h₀) (F : Fr h₀ L s.heap m) (X : (hd.heap_39 w.params).In h₀) (N : News h₀ L s.heap news) (T : Top topProg loose mean mg mb h₀)
    (hf : A.frames = some (envX cn cs L a ccd cl :: outer)) (hh : A.handled = none) (hk : cs.kind = .function) (hdp : A.depth ≤ D + 1) (hu : A.units ≤ 9 * D + 3)
    (k : ∀ v sub' h' tk', P v sub' → (∀ q ∈ sub', ∀ r ∈ news, q.1 ≠ r.1) → Fr h₀ L h' m → News h₀ L h' (sub' ++ news) → Q v { s with heap := h', toks := tk' }) :
    wpAny (model PySem.Challenge.rw_on0256_01.row.prog w) A (call (.ref f) args) Q E s := by
  refine loosen hh hf hdp hu (S _ _ _ _ _ _ _ _ _ _ _ _ _ _ _ _ B F X N T rfl hk (fun q hq => (N q (hpre q hq)).1) fun v sub' h' tk' hP F' R => ?_)
  obtain ⟨N', off⟩ := R news (fun q hq => hq) fun q hq r hr' => nomatch hr'
  exact k v sub' h' tk' hP off F' N'

abbrev six (a0 a1 a2 a3 a4 a5 : Int) (t0 t1 t2 t3 t4 t5 : Tok) (n : Nat) : Obj := W.listOf #[.int a0 t0, .int a1 t1, .int a2 t2, .int a3 t3, .int a4 t4, .int a5 t5] n
abbrev two (a b : Int) (t u : Tok) : Obj := { cls := .type "tuple", data := .seq #[.int a t, .int b u] }
/-- a new pair of numbers -/
def PairP (a b : Int) (v : Value) (sub' : List (Addr × Obj)) : Prop := ∃ t u1 u2, v = .ref t ∧ sub' = [(t, two a b u1 u2)]
/-- a new matrix -/
def SixP (a0 a1 a2 a3 a4 a5 : Int) (v : Value) (sub' : List (Addr × Obj)) : Prop := ∃ t t0 t1 t2 t3 t4 t5 n, v = .ref t ∧ sub' = [(t, six a0 a1 a2 a3 a4 a5 t0 t1 t2 t3 t4 t5 n)]
theorem off1_all {t : Addr} : ∀ {l : List (Addr × Obj)}, (∀ r ∈ l, t ≠ r.1) → LCg.Off1 t l
  | [], _ => trivial
  | _ :: _, h => ⟨Ne.symm (h _ (.head _)), off1_all fun q hq => h q (.tail _ hq)⟩
theorem pair_use {hp : Heap} {gs : Array GenState} {dr : Drawn} {tk : Nat} {os : OsState} {o : Obj} {ml : Addr} (S : SpecG w D f args [(ml, o)] (PairP p q)) (hm : (ml, o) ∈ news) (B : Below A₀ base outer h₀) (F : Fr h₀ L hp m) (X : (hd.heap_39 w.params).In h₀) (N : News h₀ L hp news) (T : Top topProg loose mean mg mb h₀)
    (hf : A.frames = some (envX cn cs L a ccd cl :: outer)) (hh : A.handled = none) (hk : cs.kind = .function) (hdp : A.depth ≤ D + 1) (hu : A.units ≤ 9 * D + 3)
    (k : ∀ t u1 u2 h' tk', LCg.Off1 t news → Fr h₀ L h' m → News h₀ L h' ((t, two p q u1 u2) :: news) → Q (.ref t) ⟨h', gs, dr, tk', os⟩) :
    wpAny (model PySem.Challenge.rw_on0256_01.row.prog w) A (call (.ref f) args) Q E ⟨hp, gs, dr, tk, os⟩ := by
  refine S.use (fun q hq => ?_) B F X N T hf hh hk hdp hu fun v sub' h' tk' hP off F' N' => ?_
  · obtain rfl := List.mem_singleton.mp hq; exact hm
  obtain ⟨t, u1, u2, rfl, rfl⟩ := hP
  exact k t u1 u2 h' tk' (off1_all fun r hr => off _ (.head _) r hr) F' N'
theorem six_use {hp : Heap} {gs : Array GenState} {dr : Drawn} {tk : Nat} {os : OsState} {o o2 : Obj} {ml nl : Addr} {a0 a1 a2 a3 a4 a5 : Int} (S : SpecG w D f args [(ml, o), (nl, o2)] (SixP a0 a1 a2 a3 a4 a5)) (hm : (ml, o) ∈ news) (hn : (nl, o2) ∈ news) (B : Below A₀ base outer h₀) (F : Fr h₀ L hp m) (X : (hd.heap_39 w.params).In h₀) (N : News h₀ L hp news) (T : Top topProg loose mean mg mb h₀)
    (hf : A.frames = some (envX cn cs L a ccd cl :: outer)) (hh : A.handled = none) (hk : cs.kind = .function) (hdp : A.depth ≤ D + 1) (hu : A.units ≤ 9 * D + 3)
    (k : ∀ t t0 t1 t2 t3 t4 t5 n h' tk', LCg.Off1 t news → Fr h₀ L h' m → News h₀ L h' ((t, six a0 a1 a2 a3 a4 a5 t0 t1 t2 t3 t4 t5 n) :: news) → Q (.ref t) ⟨h', gs, dr, tk', os⟩) :
    wpAny (model PySem.Challenge.rw_on0256_01.row.prog w) A (call (.ref f) args) Q E ⟨hp, gs, dr, tk, os⟩ := by
  refine S.use (fun q hq => ?_) B F X N T hf hh hk hdp hu fun v sub' h' tk' hP off F' N' => ?_
  · rcases List.mem_cons.mp hq with rfl | hq
    · exact hm
    · obtain rfl := List.mem_singleton.mp hq; exact hn
  obtain ⟨t, t0, t1, t2, t3, t4, t5, n, rfl, rfl⟩ := hP
  exact k t t0 t1 t2 t3 t4 t5 n h' tk' (off1_all fun r hr => off _ (.head _) r hr) F' N'
end
theorem item_base {prog : Program} {w : World} {A : Around} {E : Value → Shared → Prop} {s : Shared} {g : Heap} {L l : Addr} {m : Str → Option Value} {its : List Value} {n : Nat} {k : Int} {u : Tok} {v : Value} {value slice : Expr} {Q : Value → Shared → Prop}
    (M : g.get? l = some (W.listOf its.toArray n)) (F : Fr g L s.heap m) (h0 : 0 ≤ k) (hhi : k < 2 ^ 63) (hx : its[k.toNat]? = some v) (h : Q v s)
    (hs : subscripted slice false (.ref l) (.int k u) = operate [.ref l, .int k u] (getItem (.ref l) (.int k u)) := by with_unfolding_all rfl) :
    wpAny (model prog w) A (subscriptTail value slice (.ref l) (.int k u)) Q E s :=
  have hl : s.heap.IsList l its.toArray := ⟨_, F.keep _ _ M, rfl, n, rfl⟩
  tail_any hl.typeIs slot_list_getitem.lookup (wpAny_getItem_list hl h0 hhi (by simpa using hx) h) hs
theorem end_pair {s : Shared} {g : Heap} {L' : Addr} {h' : Heap} {m' : Str → Option Value} {news : List (Addr × Obj)} {t : Addr} {a b : Int} {u1 u2 : Tok} {tk' : Tok}
    (F : Fr g L' h' m') (N : News g L' h' news) (m1 : (t, two a b u1 u2) ∈ news) : EndS s g (PairP a b) (.ref t) { s with heap := h', toks := tk' } :=
  ⟨L', m', [(t, two a b u1 u2)], h', tk', rfl, F, pick N m1 News.nil, t, u1, u2, rfl, rfl⟩
theorem end_six {s : Shared} {g : Heap} {L' : Addr} {h' : Heap} {m' : Str → Option Value} {news : List (Addr × Obj)} {t : Addr} {a0 a1 a2 a3 a4 a5 : Int} {t0 t1 t2 t3 t4 t5 : Tok} {n : Nat} {tk' : Tok}
    (F : Fr g L' h' m') (N : News g L' h' news) (m1 : (t, six a0 a1 a2 a3 a4 a5 t0 t1 t2 t3 t4 t5 n) ∈ news) : EndS s g (SixP a0 a1 a2 a3 a4 a5) (.ref t) { s with heap := h', toks := tk' } :=
  ⟨L', m', [(t, six a0 a1 a2 a3 a4 a5 t0 t1 t2 t3 t4 t5 n)], h', tk', rfl, F, pick N m1 News.nil, t, t0, t1, t2, t3, t4, t5, n, rfl, rfl⟩


set_option maxHeartbeats 8000000 in
theorem delta_spec (w : World) (ml : Addr) (a0 a1 a2 a3 a4 a5 x y : Int) (t0 t1 t2 t3 t4 t5 tx ty : Tok) (n : Nat)
    (c0 : -1000000000 ≤ a0 ∧ a0 ≤ 1000000000) (c1 : -1000000000 ≤ a1 ∧ a1 ≤ 1000000000) (c2 : -1000000000 ≤ a2 ∧ a2 ≤ 1000000000) (c3 : -1000000000 ≤ a3 ∧ a3 ≤ 1000000000) :
    SpecG w 450 103 [.ref ml, .int x tx, .int y ty] [(ml, six a0 a1 a2 a3 a4 a5 t0 t1 t2 t3 t4 t5 n)] (PairP (rq (a0 * x + a2 * y) 1000000) (rq (a1 * x + a3 * y) 1000000)) := by
  unfold SpecG
  k_fill
  intro gd env outer A₀ base h₀ L m s news loose mean mg mb Q E B F X N T hf hk hp k
  ((k_dflt (refine' callG ?k1 ?k2 ?k3 ?k4 ?k5 ?kA ?kF ?kK ?kk ?k6 ?k7 ?k8 ?k9 ?kB ?_ ?c2 ?c3 ?c4 ?c5 (args := ⟨_, []⟩); (case kA => exact rfl); (case kF => assumption); (case kK => assumption); (case k1 => k_asm); (case k2 => k_asm); (case k3 => k_asm); (case k4 => k_asm); (case k5 => k_asm); (case kk => assumption); (case k6 => k_is); (case k7 => k_is); (case k8 => k_room); (case k9 => exact BindsTo.of_eq rfl); (case c5 => decide); (case kB => exact locs rfl); (case c2 => exact rfl); (case c3 => exact rfl); (case c4 => exact rfl); k_whole)))
  intro g L' h' st F' N' B' X' T'
  have F9 : Fr g L' h' (fun y9 => List.lookup y9 [(Str.ofString "y", .int y ty), (Str.ofString "x", .int x tx), (Str.ofString "m", .ref ml)]) := F'
  clear F'
  have hM := st _ _ (hp _ (.head _))
  clear B F X N T hf hk hp k st
  (try dsimp only)
  (with_reducible show wpAny _ _ _ _ _ _)
  k_fold
  repeat' (first | (k_unfold; (try dsimp only)) | (k_end; wrow_close) | ((with_reducible show wpAny _ _ (eval (Expr.Constant (Const.int _) _ _) _) _ _ _); (with_reducible refine constL ?_)) | ((with_reducible show wpAny _ _ (binaryOp Operator.Add (Value.int _ _) (Value.int _ _)) _ _ _); (with_reducible refine addL ?_)) | ((with_reducible show wpAny _ _ (binaryOp Operator.Sub (Value.int _ _) (Value.int _ _)) _ _ _); (with_reducible refine subL ?_)) | ((with_reducible show wpAny _ _ (binaryOp Operator.Mult (Value.int _ _) (Value.int _ _)) _ _ _); (with_reducible refine' mulL ?_ ?zqs1); (case zqs1 => (first | with_reducible exact ok_f1 | with_reducible exact ok_f2 | with_reducible exact ok_f3 | exact IntMulOk.of_left (by decide) | with_reducible exact ok_l (by assumption) | with_reducible exact ok_r (by assumption) | with_reducible mul_fits))) | ((with_reducible show wpAny _ _ (newTuple _) _ _ _); k_here; kup_bare; k_dflt (refine' newTupleL ?zqs2 ?zqs3 ?_ ?zqs4; (case zqs2 => k_asm); (case zqs3 => k_asm); (case zqs4 => kmk_size)); intro D' h' F' N' l1; (try k_lt l1); (try k_sweep)) | ((with_reducible show wpAny _ _ (subscriptTail ..) _ _ _); (first | ((k_here; (with_reducible show wpAny _ _ (subscriptTail _ _ (Value.ref _) (Value.int _ _)) _ _ _); k_dflt (refine' item_base ?zq1M ?zq1F ?zq1a ?zq1b ?zq1d ?_; (case zq1M => with_reducible assumption); (case zq1F => k_asm); (case zq1a => decide); (case zq1b => decide); (case zq1d => exact rfl); k_whole))))) | ((with_reducible show wpAny _ _ (call _ _ _) _ _ _); (first | ((k_here; (with_reducible show wpAny _ _ (call (Value.ref 54) [Value.int _ _, Value.int _ _]) _ _ _); k_dflt (refine' Spec.useI (divided_spec _ _ _ _ _ ?zq0hb ?zq0hs) ?zq0k1 ?zq0k2 ?zq0k3 ?zq0k4 ?zq0k5 ?zq0kC ?zq0kA ?zq0kH ?zq0kK ?zq0kD ?zq0kU ?_; (case zq0hb => first | assumption | omega); (case zq0hs => first | assumption | omega); (((case zq0kA => exact rfl); (case zq0k2 => k_asm); (case zq0k1 => k_asm); (case zq0k3 => k_asm); (case zq0k4 => k_asm); (case zq0k5 => k_asm); (case zq0kC => exact fun e => nomatch e); (case zq0kH => exact rfl); (case zq0kK => exact rfl); (case zq0kD => exact Nat.le_of_ble_eq_true rfl); (case zq0kU => exact Nat.le_of_ble_eq_true rfl))); k_whole); intro t' h' tk' F' N'; (try k_sweep))))) | ((with_reducible show EndS ..); (first | ((first | (k_dflt (refine' end_pair ?zq2F ?zq2N ?zq2m1; (case zq2F => k_asm); (case zq2N => k_asm); (case zq2m1 => k_mem))) | (k_dflt (refine' end_six ?zq2F ?zq2N ?zq2m1; (case zq2F => k_asm); (case zq2N => k_asm); (case zq2m1 => k_mem))))))) | walk1 | (dsimp only; (first | ((with_reducible show wpAny _ _ (eval (Expr.Constant (Const.int _) _ _) _) _ _ _); (with_reducible refine constL ?_)) | ((with_reducible show wpAny _ _ (binaryOp Operator.Add (Value.int _ _) (Value.int _ _)) _ _ _); (with_reducible refine addL ?_)) | ((with_reducible show wpAny _ _ (binaryOp Operator.Sub (Value.int _ _) (Value.int _ _)) _ _ _); (with_reducible refine subL ?_)) | ((with_reducible show wpAny _ _ (binaryOp Operator.Mult (Value.int _ _) (Value.int _ _)) _ _ _); (with_reducible refine' mulL ?_ ?zqs1); (case zqs1 => (first | with_reducible exact ok_f1 | with_reducible exact ok_f2 | with_reducible exact ok_f3 | exact IntMulOk.of_left (by decide) | with_reducible exact ok_l (by assumption) | with_reducible exact ok_r (by assumption) | with_reducible mul_fits))) | ((with_reducible show wpAny _ _ (newTuple _) _ _ _); k_here; kup_bare; k_dflt (refine' newTupleL ?zqs2 ?zqs3 ?_ ?zqs4; (case zqs2 => k_asm); (case zqs3 => k_asm); (case zqs4 => kmk_size)); intro D' h' F' N' l1; (try k_lt l1); (try k_sweep)) | ((with_reducible show wpAny _ _ (subscriptTail ..) _ _ _); (first | ((k_here; (with_reducible show wpAny _ _ (subscriptTail _ _ (Value.ref _) (Value.int _ _)) _ _ _); k_dflt (refine' item_base ?zq1M ?zq1F ?zq1a ?zq1b ?zq1d ?_; (case zq1M => with_reducible assumption); (case zq1F => k_asm); (case zq1a => decide); (case zq1b => decide); (case zq1d => exact rfl); k_whole))))) | ((with_reducible show wpAny _ _ (call _ _ _) _ _ _); (first | ((k_here; (with_reducible show wpAny _ _ (call (Value.ref 54) [Value.int _ _, Value.int _ _]) _ _ _); k_dflt (refine' Spec.useI (divided_spec _ _ _ _ _ ?zq0hb ?zq0hs) ?zq0k1 ?zq0k2 ?zq0k3 ?zq0k4 ?zq0k5 ?zq0kC ?zq0kA ?zq0kH ?zq0kK ?zq0kD ?zq0kU ?_; (case zq0hb => first | assumption | omega); (case zq0hs => first | assumption | omega); (((case zq0kA => exact rfl); (case zq0k2 => k_asm); (case zq0k1 => k_asm); (case zq0k3 => k_asm); (case zq0k4 => k_asm); (case zq0k5 => k_asm); (case zq0kC => exact fun e => nomatch e); (case zq0kH => exact rfl); (case zq0kK => exact rfl); (case zq0kD => exact Nat.le_of_ble_eq_true rfl); (case zq0kU => exact Nat.le_of_ble_eq_true rfl))); k_whole); intro t' h' tk' F' N'; (try k_sweep))))) | ((with_reducible show EndS ..); (first | ((first | (k_dflt (refine' end_pair ?zq2F ?zq2N ?zq2m1; (case zq2F => k_asm); (case zq2N => k_asm); (case zq2m1 => k_mem))) | (k_dflt (refine' end_six ?zq2F ?zq2N ?zq2m1; (case zq2F => k_asm); (case zq2N => k_asm); (case zq2m1 => k_mem))))))) | walk1)) | (leave1; walk_say "STEP leave1"; try dsimp only) | fail "no step")
set_option maxHeartbeats 8000000 in
theorem trans_spec (w : World) (ml : Addr) (a0 a1 a2 a3 a4 a5 x y : Int) (t0 t1 t2 t3 t4 t5 tx ty : Tok) (n : Nat)
    (c0 : -1000000000 ≤ a0 ∧ a0 ≤ 1000000000) (c1 : -1000000000 ≤ a1 ∧ a1 ≤ 1000000000) (c2 : -1000000000 ≤ a2 ∧ a2 ≤ 1000000000) (c3 : -1000000000 ≤ a3 ∧ a3 ≤ 1000000000) :
    SpecG w 450 96 [.ref ml, .int x tx, .int y ty] [(ml, six a0 a1 a2 a3 a4 a5 t0 t1 t2 t3 t4 t5 n)] (PairP (rq (a0 * x + a2 * y) 1000000 + a4) (rq (a1 * x + a3 * y) 1000000 + a5)) := by
  unfold SpecG
  k_fill
  intro gd env outer A₀ base h₀ L m s news loose mean mg mb Q E B F X N T hf hk hp k
  ((k_dflt (refine' callG ?k1 ?k2 ?k3 ?k4 ?k5 ?kA ?kF ?kK ?kk ?k6 ?k7 ?k8 ?k9 ?kB ?_ ?c2 ?c3 ?c4 ?c5 (args := ⟨_, []⟩); (case kA => exact rfl); (case kF => assumption); (case kK => assumption); (case k1 => k_asm); (case k2 => k_asm); (case k3 => k_asm); (case k4 => k_asm); (case k5 => k_asm); (case kk => assumption); (case k6 => k_is); (case k7 => k_is); (case k8 => k_room); (case k9 => exact BindsTo.of_eq rfl); (case c5 => decide); (case kB => exact locs rfl); (case c2 => exact rfl); (case c3 => exact rfl); (case c4 => exact rfl); k_whole)))
  intro g L' h' st F' N' B' X' T'
  have F9 : Fr g L' h' (fun y9 => List.lookup y9 [(Str.ofString "y", .int y ty), (Str.ofString "x", .int x tx), (Str.ofString "m", .ref ml)]) := F'
  clear F'
  have hM := st _ _ (hp _ (.head _))
  clear B F X N T hf hk hp k st
  (try dsimp only)
  (with_reducible show wpAny _ _ _ _ _ _)
  k_fold
  repeat' (first | (k_unfold; (try dsimp only)) | (k_end; wrow_close) | ((with_reducible show wpAny _ _ (eval (Expr.Constant (Const.int _) _ _) _) _ _ _); (with_reducible refine constL ?_)) | ((with_reducible show wpAny _ _ (binaryOp Operator.Add (Value.int _ _) (Value.int _ _)) _ _ _); (with_reducible refine addL ?_)) | ((with_reducible show wpAny _ _ (binaryOp Operator.Sub (Value.int _ _) (Value.int _ _)) _ _ _); (with_reducible refine subL ?_)) | ((with_reducible show wpAny _ _ (binaryOp Operator.Mult (Value.int _ _) (Value.int _ _)) _ _ _); (with_reducible refine' mulL ?_ ?zqs1); (case zqs1 => (first | with_reducible exact ok_f1 | with_reducible exact ok_f2 | with_reducible exact ok_f3 | exact IntMulOk.of_left (by decide) | with_reducible exact ok_l (by assumption) | with_reducible exact ok_r (by assumption) | with_reducible mul_fits))) | ((with_reducible show wpAny _ _ (newTuple _) _ _ _); k_here; kup_bare; k_dflt (refine' newTupleL ?zqs2 ?zqs3 ?_ ?zqs4; (case zqs2 => k_asm); (case zqs3 => k_asm); (case zqs4 => kmk_size)); intro D' h' F' N' l1; (try k_lt l1); (try k_sweep)) | ((with_reducible show wpAny _ _ (subscriptTail ..) _ _ _); (first | ((k_here; (with_reducible show wpAny _ _ (subscriptTail _ _ (Value.ref _) (Value.int _ _)) _ _ _); k_dflt (refine' item_base ?zq1M ?zq1F ?zq1a ?zq1b ?zq1d ?_; (case zq1M => with_reducible assumption); (case zq1F => k_asm); (case zq1a => decide); (case zq1b => decide); (case zq1d => exact rfl); k_whole))))) | ((with_reducible show wpAny _ _ (call _ _ _) _ _ _); (first | ((k_here; (with_reducible show wpAny _ _ (call (Value.ref 54) [Value.int _ _, Value.int _ _]) _ _ _); k_dflt (refine' Spec.useI (divided_spec _ _ _ _ _ ?zq0hb ?zq0hs) ?zq0k1 ?zq0k2 ?zq0k3 ?zq0k4 ?zq0k5 ?zq0kC ?zq0kA ?zq0kH ?zq0kK ?zq0kD ?zq0kU ?_; (case zq0hb => first | assumption | omega); (case zq0hs => first | assumption | omega); (((case zq0kA => exact rfl); (case zq0k2 => k_asm); (case zq0k1 => k_asm); (case zq0k3 => k_asm); (case zq0k4 => k_asm); (case zq0k5 => k_asm); (case zq0kC => exact fun e => nomatch e); (case zq0kH => exact rfl); (case zq0kK => exact rfl); (case zq0kD => exact Nat.le_of_ble_eq_true rfl); (case zq0kU => exact Nat.le_of_ble_eq_true rfl))); k_whole); intro t' h' tk' F' N'; (try k_sweep))))) | ((with_reducible show EndS ..); (first | ((first | (k_dflt (refine' end_pair ?zq2F ?zq2N ?zq2m1; (case zq2F => k_asm); (case zq2N => k_asm); (case zq2m1 => k_mem))) | (k_dflt (refine' end_six ?zq2F ?zq2N ?zq2m1; (case zq2F => k_asm); (case zq2N => k_asm); (case zq2m1 => k_mem))))))) | walk1 | (dsimp only; (first | ((with_reducible show wpAny _ _ (eval (Expr.Constant (Const.int _) _ _) _) _ _ _); (with_reducible refine constL ?_)) | ((with_reducible show wpAny _ _ (binaryOp Operator.Add (Value.int _ _) (Value.int _ _)) _ _ _); (with_reducible refine addL ?_)) | ((with_reducible show wpAny _ _ (binaryOp Operator.Sub (Value.int _ _) (Value.int _ _)) _ _ _); (with_reducible refine subL ?_)) | ((with_reducible show wpAny _ _ (binaryOp Operator.Mult (Value.int _ _) (Value.int _ _)) _ _ _); (with_reducible refine' mulL ?_ ?zqs1); (case zqs1 => (first | with_reducible exact ok_f1 | with_reducible exact ok_f2 | with_reducible exact ok_f3 | exact IntMulOk.of_left (by decide) | with_reducible exact ok_l (by assumption) | with_reducible exact ok_r (by assumption) | with_reducible mul_fits))) | ((with_reducible show wpAny _ _ (newTuple _) _ _ _); k_here; kup_bare; k_dflt (refine' newTupleL ?zqs2 ?zqs3 ?_ ?zqs4; (case zqs2 => k_asm); (case zqs3 => k_asm); (case zqs4 => kmk_size)); intro D' h' F' N' l1; (try k_lt l1); (try k_sweep)) | ((with_reducible show wpAny _ _ (subscriptTail ..) _ _ _); (first | ((k_here; (with_reducible show wpAny _ _ (subscriptTail _ _ (Value.ref _) (Value.int _ _)) _ _ _); k_dflt (refine' item_base ?zq1M ?zq1F ?zq1a ?zq1b ?zq1d ?_; (case zq1M => with_reducible assumption); (case zq1F => k_asm); (case zq1a => decide); (case zq1b => decide); (case zq1d => exact rfl); k_whole))))) | ((with_reducible show wpAny _ _ (call _ _ _) _ _ _); (first | ((k_here; (with_reducible show wpAny _ _ (call (Value.ref 54) [Value.int _ _, Value.int _ _]) _ _ _); k_dflt (refine' Spec.useI (divided_spec _ _ _ _ _ ?zq0hb ?zq0hs) ?zq0k1 ?zq0k2 ?zq0k3 ?zq0k4 ?zq0k5 ?zq0kC ?zq0kA ?zq0kH ?zq0kK ?zq0kD ?zq0kU ?_; (case zq0hb => first | assumption | omega); (case zq0hs => first | assumption | omega); (((case zq0kA => exact rfl); (case zq0k2 => k_asm); (case zq0k1 => k_asm); (case zq0k3 => k_asm); (case zq0k4 => k_asm); (case zq0k5 => k_asm); (case zq0kC => exact fun e => nomatch e); (case zq0kH => exact rfl); (case zq0kK => exact rfl); (case zq0kD => exact Nat.le_of_ble_eq_true rfl); (case zq0kU => exact Nat.le_of_ble_eq_true rfl))); k_whole); intro t' h' tk' F' N'; (try k_sweep))))) | ((with_reducible show EndS ..); (first | ((first | (k_dflt (refine' end_pair ?zq2F ?zq2N ?zq2m1; (case zq2F => k_asm); (case zq2N => k_asm); (case zq2m1 => k_mem))) | (k_dflt (refine' end_six ?zq2F ?zq2N ?zq2m1; (case zq2F => k_asm); (case zq2N => k_asm); (case zq2m1 => k_mem))))))) | walk1)) | (leave1; walk_say "STEP leave1"; try dsimp only) | fail "no step")
set_option maxHeartbeats 8000000 in
theorem trans_specX (w : World) (ml : Addr) (a0 a1 a2 a3 a4 a5 x y : Int) (t0 t1 t2 t3 t4 t5 tx ty : Tok) (n : Nat)
    (cx : -1000000000 ≤ x ∧ x ≤ 1000000000) (cy : -1000000000 ≤ y ∧ y ≤ 1000000000) :
    SpecG w 450 96 [.ref ml, .int x tx, .int y ty] [(ml, six a0 a1 a2 a3 a4 a5 t0 t1 t2 t3 t4 t5 n)] (PairP (rq (a0 * x + a2 * y) 1000000 + a4) (rq (a1 * x + a3 * y) 1000000 + a5)) := by
  unfold SpecG
  k_fill
  intro gd env outer A₀ base h₀ L m s news loose mean mg mb Q E B F X N T hf hk hp k
  ((k_dflt (refine' callG ?k1 ?k2 ?k3 ?k4 ?k5 ?kA ?kF ?kK ?kk ?k6 ?k7 ?k8 ?k9 ?kB ?_ ?c2 ?c3 ?c4 ?c5 (args := ⟨_, []⟩); (case kA => exact rfl); (case kF => assumption); (case kK => assumption); (case k1 => k_asm); (case k2 => k_asm); (case k3 => k_asm); (case k4 => k_asm); (case k5 => k_asm); (case kk => assumption); (case k6 => k_is); (case k7 => k_is); (case k8 => k_room); (case k9 => exact BindsTo.of_eq rfl); (case c5 => decide); (case kB => exact locs rfl); (case c2 => exact rfl); (case c3 => exact rfl); (case c4 => exact rfl); k_whole)))
  intro g L' h' st F' N' B' X' T'
  have F9 : Fr g L' h' (fun y9 => List.lookup y9 [(Str.ofString "y", .int y ty), (Str.ofString "x", .int x tx), (Str.ofString "m", .ref ml)]) := F'
  clear F'
  have hM := st _ _ (hp _ (.head _))
  clear B F X N T hf hk hp k st
  (try dsimp only)
  (with_reducible show wpAny _ _ _ _ _ _)
  k_fold
  repeat' (first | (k_unfold; (try dsimp only)) | (k_end; wrow_close) | ((with_reducible show wpAny _ _ (eval (Expr.Constant (Const.int _) _ _) _) _ _ _); (with_reducible refine constL ?_)) | ((with_reducible show wpAny _ _ (binaryOp Operator.Add (Value.int _ _) (Value.int _ _)) _ _ _); (with_reducible refine addL ?_)) | ((with_reducible show wpAny _ _ (binaryOp Operator.Sub (Value.int _ _) (Value.int _ _)) _ _ _); (with_reducible refine subL ?_)) | ((with_reducible show wpAny _ _ (binaryOp Operator.Mult (Value.int _ _) (Value.int _ _)) _ _ _); (with_reducible refine' mulL ?_ ?zqs1); (case zqs1 => (first | with_reducible exact ok_f1 | with_reducible exact ok_f2 | with_reducible exact ok_f3 | exact IntMulOk.of_left (by decide) | with_reducible exact ok_l (by assumption) | with_reducible exact ok_r (by assumption) | with_reducible mul_fits))) | ((with_reducible show wpAny _ _ (newTuple _) _ _ _); k_here; kup_bare; k_dflt (refine' newTupleL ?zqs2 ?zqs3 ?_ ?zqs4; (case zqs2 => k_asm); (case zqs3 => k_asm); (case zqs4 => kmk_size)); intro D' h' F' N' l1; (try k_lt l1); (try k_sweep)) | ((with_reducible show wpAny _ _ (subscriptTail ..) _ _ _); (first | ((k_here; (with_reducible show wpAny _ _ (subscriptTail _ _ (Value.ref _) (Value.int _ _)) _ _ _); k_dflt (refine' item_base ?zq1M ?zq1F ?zq1a ?zq1b ?zq1d ?_; (case zq1M => with_reducible assumption); (case zq1F => k_asm); (case zq1a => decide); (case zq1b => decide); (case zq1d => exact rfl); k_whole))))) | ((with_reducible show wpAny _ _ (call _ _ _) _ _ _); (first | ((k_here; (with_reducible show wpAny _ _ (call (Value.ref 54) [Value.int _ _, Value.int _ _]) _ _ _); k_dflt (refine' Spec.useI (divided_spec _ _ _ _ _ ?zq0hb ?zq0hs) ?zq0k1 ?zq0k2 ?zq0k3 ?zq0k4 ?zq0k5 ?zq0kC ?zq0kA ?zq0kH ?zq0kK ?zq0kD ?zq0kU ?_; (case zq0hb => first | assumption | omega); (case zq0hs => first | assumption | omega); (((case zq0kA => exact rfl); (case zq0k2 => k_asm); (case zq0k1 => k_asm); (case zq0k3 => k_asm); (case zq0k4 => k_asm); (case zq0k5 => k_asm); (case zq0kC => exact fun e => nomatch e); (case zq0kH => exact rfl); (case zq0kK => exact rfl); (case zq0kD => exact Nat.le_of_ble_eq_true rfl); (case zq0kU => exact Nat.le_of_ble_eq_true rfl))); k_whole); intro t' h' tk' F' N'; (try k_sweep))))) | ((with_reducible show EndS ..); (first | ((first | (k_dflt (refine' end_pair ?zq2F ?zq2N ?zq2m1; (case zq2F => k_asm); (case zq2N => k_asm); (case zq2m1 => k_mem))) | (k_dflt (refine' end_six ?zq2F ?zq2N ?zq2m1; (case zq2F => k_asm); (case zq2N => k_asm); (case zq2m1 => k_mem))))))) | walk1 | (dsimp only; (first | ((with_reducible show wpAny _ _ (eval (Expr.Constant (Const.int _) _ _) _) _ _ _); (with_reducible refine constL ?_)) | ((with_reducible show wpAny _ _ (binaryOp Operator.Add (Value.int _ _) (Value.int _ _)) _ _ _); (with_reducible refine addL ?_)) | ((with_reducible show wpAny _ _ (binaryOp Operator.Sub (Value.int _ _) (Value.int _ _)) _ _ _); (with_reducible refine subL ?_)) | ((with_reducible show wpAny _ _ (binaryOp Operator.Mult (Value.int _ _) (Value.int _ _)) _ _ _); (with_reducible refine' mulL ?_ ?zqs1); (case zqs1 => (first | with_reducible exact ok_f1 | with_reducible exact ok_f2 | with_reducible exact ok_f3 | exact IntMulOk.of_left (by decide) | with_reducible exact ok_l (by assumption) | with_reducible exact ok_r (by assumption) | with_reducible mul_fits))) | ((with_reducible show wpAny _ _ (newTuple _) _ _ _); k_here; kup_bare; k_dflt (refine' newTupleL ?zqs2 ?zqs3 ?_ ?zqs4; (case zqs2 => k_asm); (case zqs3 => k_asm); (case zqs4 => kmk_size)); intro D' h' F' N' l1; (try k_lt l1); (try k_sweep)) | ((with_reducible show wpAny _ _ (subscriptTail ..) _ _ _); (first | ((k_here; (with_reducible show wpAny _ _ (subscriptTail _ _ (Value.ref _) (Value.int _ _)) _ _ _); k_dflt (refine' item_base ?zq1M ?zq1F ?zq1a ?zq1b ?zq1d ?_; (case zq1M => with_reducible assumption); (case zq1F => k_asm); (case zq1a => decide); (case zq1b => decide); (case zq1d => exact rfl); k_whole))))) | ((with_reducible show wpAny _ _ (call _ _ _) _ _ _); (first | ((k_here; (with_reducible show wpAny _ _ (call (Value.ref 54) [Value.int _ _, Value.int _ _]) _ _ _); k_dflt (refine' Spec.useI (divided_spec _ _ _ _ _ ?zq0hb ?zq0hs) ?zq0k1 ?zq0k2 ?zq0k3 ?zq0k4 ?zq0k5 ?zq0kC ?zq0kA ?zq0kH ?zq0kK ?zq0kD ?zq0kU ?_; (case zq0hb => first | assumption | omega); (case zq0hs => first | assumption | omega); (((case zq0kA => exact rfl); (case zq0k2 => k_asm); (case zq0k1 => k_asm); (case zq0k3 => k_asm); (case zq0k4 => k_asm); (case zq0k5 => k_asm); (case zq0kC => exact fun e => nomatch e); (case zq0kH => exact rfl); (case zq0kK => exact rfl); (case zq0kD => exact Nat.le_of_ble_eq_true rfl); (case zq0kU => exact Nat.le_of_ble_eq_true rfl))); k_whole); intro t' h' tk' F' N'; (try k_sweep))))) | ((with_reducible show EndS ..); (first | ((first | (k_dflt (refine' end_pair ?zq2F ?zq2N ?zq2m1; (case zq2F => k_asm); (case zq2N => k_asm); (case zq2m1 => k_mem))) | (k_dflt (refine' end_six ?zq2F ?zq2N ?zq2m1; (case zq2F => k_asm); (case zq2N => k_asm); (case zq2m1 => k_mem))))))) | walk1)) | (leave1; walk_say "STEP leave1"; try dsimp only) | fail "no step")
set_option maxHeartbeats 8000000 in
theorem concat_spec (w : World) (ml nl : Addr) (a0 a1 a2 a3 a4 a5 b0 b1 b2 b3 b4 b5 : Int) (t0 t1 t2 t3 t4 t5 u0 u1 u2 u3 u4 u5 : Tok) (n k : Nat)
    (c0 : -1000000000 ≤ a0 ∧ a0 ≤ 1000000000) (c1 : -1000000000 ≤ a1 ∧ a1 ≤ 1000000000) (c2 : -1000000000 ≤ a2 ∧ a2 ≤ 1000000000) (c3 : -1000000000 ≤ a3 ∧ a3 ≤ 1000000000) (c4 : -1000000000 ≤ a4 ∧ a4 ≤ 1000000000) (c5 : -1000000000 ≤ a5 ∧ a5 ≤ 1000000000) :
    SpecG w 450 68 [.ref ml, .ref nl] [(ml, six a0 a1 a2 a3 a4 a5 t0 t1 t2 t3 t4 t5 n), (nl, six b0 b1 b2 b3 b4 b5 u0 u1 u2 u3 u4 u5 k)] (SixP (rq (a0 * b0 + a1 * b2) 1000000) (rq (a0 * b1 + a1 * b3) 1000000) (rq (a2 * b0 + a3 * b2) 1000000) (rq (a2 * b1 + a3 * b3) 1000000) (rq (a4 * b0 + a5 * b2) 1000000 + b4) (rq (a4 * b1 + a5 * b3) 1000000 + b5)) := by
  unfold SpecG
  k_fill
  intro gd env outer A₀ base h₀ L m s news loose mean mg mb Q E B F X N T hf hk hp kk
  ((k_dflt (refine' callG ?k1 ?k2 ?k3 ?k4 ?k5 ?kA ?kF ?kK ?kk ?k6 ?k7 ?k8 ?k9 ?kB ?_ ?c2 ?c3 ?c4 ?c5 (args := ⟨_, []⟩); (case kA => exact rfl); (case kF => assumption); (case kK => assumption); (case k1 => k_asm); (case k2 => k_asm); (case k3 => k_asm); (case k4 => k_asm); (case k5 => k_asm); (case kk => assumption); (case k6 => k_is); (case k7 => k_is); (case k8 => k_room); (case k9 => exact BindsTo.of_eq rfl); (case c5 => decide); (case kB => exact locs rfl); (case c2 => exact rfl); (case c3 => exact rfl); (case c4 => exact rfl); k_whole)))
  intro g L' h' st F' N' B' X' T'
  have F9 : Fr g L' h' (fun y9 => List.lookup y9 [(Str.ofString "n", .ref nl), (Str.ofString "m", .ref ml)]) := F'
  clear F'
  have hM := st _ _ (hp _ (.head _))
  have hN := st _ _ (hp _ (.tail _ (.head _)))
  clear B F X N T hf hk hp kk st
  (try dsimp only)
  (with_reducible show wpAny _ _ _ _ _ _)
  k_fold
  repeat' (first | (k_unfold; (try dsimp only)) | (k_end; wrow_close) | ((with_reducible show wpAny _ _ (eval (Expr.Constant (Const.int _) _ _) _) _ _ _); (with_reducible refine constL ?_)) | ((with_reducible show wpAny _ _ (binaryOp Operator.Add (Value.int _ _) (Value.int _ _)) _ _ _); (with_reducible refine addL ?_)) | ((with_reducible show wpAny _ _ (binaryOp Operator.Sub (Value.int _ _) (Value.int _ _)) _ _ _); (with_reducible refine subL ?_)) | ((with_reducible show wpAny _ _ (binaryOp Operator.Mult (Value.int _ _) (Value.int _ _)) _ _ _); (with_reducible refine' mulL ?_ ?zqs1); (case zqs1 => (first | with_reducible exact ok_f1 | with_reducible exact ok_f2 | with_reducible exact ok_f3 | exact IntMulOk.of_left (by decide) | with_reducible exact ok_l (by assumption) | with_reducible exact ok_r (by assumption) | with_reducible mul_fits))) | ((with_reducible show wpAny _ _ (newTuple _) _ _ _); k_here; kup_bare; k_dflt (refine' newTupleL ?zqs2 ?zqs3 ?_ ?zqs4; (case zqs2 => k_asm); (case zqs3 => k_asm); (case zqs4 => kmk_size)); intro D' h' F' N' l1; (try k_lt l1); (try k_sweep)) | ((with_reducible show wpAny _ _ (subscriptTail ..) _ _ _); (first | ((k_here; (with_reducible show wpAny _ _ (subscriptTail _ _ (Value.ref _) (Value.int _ _)) _ _ _); k_dflt (refine' item_base ?zq1M ?zq1F ?zq1a ?zq1b ?zq1d ?_; (case zq1M => with_reducible assumption); (case zq1F => k_asm); (case zq1a => decide); (case zq1b => decide); (case zq1d => exact rfl); k_whole))))) | ((with_reducible show wpAny _ _ (call _ _ _) _ _ _); (first | ((k_here; (with_reducible show wpAny _ _ (call (Value.ref 54) [Value.int _ _, Value.int _ _]) _ _ _); k_dflt (refine' Spec.useI (divided_spec _ _ _ _ _ ?zq0hb ?zq0hs) ?zq0k1 ?zq0k2 ?zq0k3 ?zq0k4 ?zq0k5 ?zq0kC ?zq0kA ?zq0kH ?zq0kK ?zq0kD ?zq0kU ?_; (case zq0hb => first | assumption | omega); (case zq0hs => first | assumption | omega); (((case zq0kA => exact rfl); (case zq0k2 => k_asm); (case zq0k1 => k_asm); (case zq0k3 => k_asm); (case zq0k4 => k_asm); (case zq0k5 => k_asm); (case zq0kC => exact fun e => nomatch e); (case zq0kH => exact rfl); (case zq0kK => exact rfl); (case zq0kD => exact Nat.le_of_ble_eq_true rfl); (case zq0kU => exact Nat.le_of_ble_eq_true rfl))); k_whole); intro t' h' tk' F' N'; (try k_sweep))))) | ((with_reducible show EndS ..); (first | ((first | (k_dflt (refine' end_pair ?zq2F ?zq2N ?zq2m1; (case zq2F => k_asm); (case zq2N => k_asm); (case zq2m1 => k_mem))) | (k_dflt (refine' end_six ?zq2F ?zq2N ?zq2m1; (case zq2F => k_asm); (case zq2N => k_asm); (case zq2m1 => k_mem))))))) | walk1 | (dsimp only; (first | ((with_reducible show wpAny _ _ (eval (Expr.Constant (Const.int _) _ _) _) _ _ _); (with_reducible refine constL ?_)) | ((with_reducible show wpAny _ _ (binaryOp Operator.Add (Value.int _ _) (Value.int _ _)) _ _ _); (with_reducible refine addL ?_)) | ((with_reducible show wpAny _ _ (binaryOp Operator.Sub (Value.int _ _) (Value.int _ _)) _ _ _); (with_reducible refine subL ?_)) | ((with_reducible show wpAny _ _ (binaryOp Operator.Mult (Value.int _ _) (Value.int _ _)) _ _ _); (with_reducible refine' mulL ?_ ?zqs1); (case zqs1 => (first | with_reducible exact ok_f1 | with_reducible exact ok_f2 | with_reducible exact ok_f3 | exact IntMulOk.of_left (by decide) | with_reducible exact ok_l (by assumption) | with_reducible exact ok_r (by assumption) | with_reducible mul_fits))) | ((with_reducible show wpAny _ _ (newTuple _) _ _ _); k_here; kup_bare; k_dflt (refine' newTupleL ?zqs2 ?zqs3 ?_ ?zqs4; (case zqs2 => k_asm); (case zqs3 => k_asm); (case zqs4 => kmk_size)); intro D' h' F' N' l1; (try k_lt l1); (try k_sweep)) | ((with_reducible show wpAny _ _ (subscriptTail ..) _ _ _); (first | ((k_here; (with_reducible show wpAny _ _ (subscriptTail _ _ (Value.ref _) (Value.int _ _)) _ _ _); k_dflt (refine' item_base ?zq1M ?zq1F ?zq1a ?zq1b ?zq1d ?_; (case zq1M => with_reducible assumption); (case zq1F => k_asm); (case zq1a => decide); (case zq1b => decide); (case zq1d => exact rfl); k_whole))))) | ((with_reducible show wpAny _ _ (call _ _ _) _ _ _); (first | ((k_here; (with_reducible show wpAny _ _ (call (Value.ref 54) [Value.int _ _, Value.int _ _]) _ _ _); k_dflt (refine' Spec.useI (divided_spec _ _ _ _ _ ?zq0hb ?zq0hs) ?zq0k1 ?zq0k2 ?zq0k3 ?zq0k4 ?zq0k5 ?zq0kC ?zq0kA ?zq0kH ?zq0kK ?zq0kD ?zq0kU ?_; (case zq0hb => first | assumption | omega); (case zq0hs => first | assumption | omega); (((case zq0kA => exact rfl); (case zq0k2 => k_asm); (case zq0k1 => k_asm); (case zq0k3 => k_asm); (case zq0k4 => k_asm); (case zq0k5 => k_asm); (case zq0kC => exact fun e => nomatch e); (case zq0kH => exact rfl); (case zq0kK => exact rfl); (case zq0kD => exact Nat.le_of_ble_eq_true rfl); (case zq0kU => exact Nat.le_of_ble_eq_true rfl))); k_whole); intro t' h' tk' F' N'; (try k_sweep))))) | ((with_reducible show EndS ..); (first | ((first | (k_dflt (refine' end_pair ?zq2F ?zq2N ?zq2m1; (case zq2F => k_asm); (case zq2N => k_asm); (case zq2m1 => k_mem))) | (k_dflt (refine' end_six ?zq2F ?zq2N ?zq2m1; (case zq2F => k_asm); (case zq2N => k_asm); (case zq2m1 => k_mem))))))) | walk1)) | (leave1; walk_say "STEP leave1"; try dsimp only) | fail "no step")
end Mine
end

section
open PySem PySem.W PySem.Calls PyProof.Rows
namespace Mine
theorem det_small {a0 a1 a2 a3 : Int} (b0 : -1000000000 ≤ a0 ∧ a0 ≤ 1000000000) (b1 : -1000000000 ≤ a1 ∧ a1 ≤ 1000000000) (b2 : -1000000000 ≤ a2 ∧ a2 ≤ 1000000000) (b3 : -1000000000 ≤ a3 ∧ a3 ≤ 1000000000) :
    (a0 * a3 - a1 * a2).natAbs < 100000000000000000000 := by
  have h1 : (a0 * a3).natAbs ≤ 1000000000 * 1000000000 := by rw [Int.natAbs_mul]; exact Nat.mul_le_mul (by omega) (by omega)
  have h2 : (a1 * a2).natAbs ≤ 1000000000 * 1000000000 := by rw [Int.natAbs_mul]; exact Nat.mul_le_mul (by omega) (by omega)
  omega
theorem ite_beq_on {x : Int} {P Q : Prop} (hz : x = 0) (h : P) : if (x == 0) = true then P else Q := by rw [if_pos (by simpa using hz)]; exact h
theorem ite_beq_off {x : Int} {P Q : Prop} (hz : x ≠ 0) (h : Q) : if (x == 0) = true then P else Q := by rw [if_neg (by simpa using hz)]; exact h

def IntP (x : Int) (v : Value) (sub' : List (Addr × Obj)) : Prop := sub' = [] ∧ ∃ t, v = .int x t
section
variable {w : World} {D : Nat} {cn : Str} {cs : Scope} {a : Addr} {ccd : Value} {cl : List (Str × Addr)} {outer : List Env} {A A₀ : Around} {base h₀ : Heap} {L : Addr} {m : Str → Option Value} {s : Shared} {news : List (Addr × Obj)} {f : Addr} {args : List Value}
  {loose : List Str} {mean : ExcName → Option Value} {mg mb : Str → Option Value} {Q E : Value → Shared → Prop} {x : Int}
theorem int_stands {hp : Heap} {gs : Array GenState} {dr : Drawn} {tk : Nat} {os : OsState} {o : Obj} {ml : Addr} (S : SpecG w D f args [(ml, o)] (IntP x)) (M : hp.get? ml = some o) (B : Below A₀ base outer h₀) (F : Fr h₀ L hp m) (X : (hd.heap_39 w.params).In h₀) (N : News h₀ L hp news) (T : Top topProg loose mean mg mb h₀)
    (hf : A.frames = some (envX cn cs L a ccd cl :: outer)) (hh : A.handled = none) (hk : cs.kind = .function) (hdp : A.depth ≤ D + 1) (hu : A.units ≤ 9 * D + 3)
    (k : ∀ t h' tk', Fr h₀ L h' m → News h₀ L h' news → Q (.int x t) ⟨h', gs, dr, tk', os⟩) :
    wpAny (model PySem.Challenge.rw_on0256_01.row.prog w) A (call (.ref f) args) Q E ⟨hp, gs, dr, tk, os⟩ := by
  refine loosen hh hf hdp hu (S _ _ _ _ _ _ _ _ _ _ _ _ _ _ _ _ B F X N T rfl hk (fun q hq => ?_) fun v sub' h' tk' hP F' R => ?_)
  · obtain rfl := List.mem_singleton.mp hq; exact M
  obtain ⟨N', off⟩ := R news (fun q hq => hq) fun q hq r hr' => nomatch hr'
  obtain ⟨rfl, t, rfl⟩ := hP
  exact k t h' tk' F' N'
/-- an int out of an object of the ground -/
theorem int_base {hp : Heap} {gs : Array GenState} {dr : Drawn} {tk : Nat} {os : OsState} {o : Obj} {ml : Addr} (S : SpecG w D f args [(ml, o)] (IntP x)) (M : h₀.get? ml = some o) (B : Below A₀ base outer h₀) (F : Fr h₀ L hp m) (X : (hd.heap_39 w.params).In h₀) (N : News h₀ L hp news) (T : Top topProg loose mean mg mb h₀)
    (hf : A.frames = some (envX cn cs L a ccd cl :: outer)) (hh : A.handled = none) (hk : cs.kind = .function) (hdp : A.depth ≤ D + 1) (hu : A.units ≤ 9 * D + 3)
    (k : ∀ t h' tk', Fr h₀ L h' m → News h₀ L h' news → Q (.int x t) ⟨h', gs, dr, tk', os⟩) :
    wpAny (model PySem.Challenge.rw_on0256_01.row.prog w) A (call (.ref f) args) Q E ⟨hp, gs, dr, tk, os⟩ := int_stands S (F.keep _ _ M) B F X N T hf hh hk hdp hu k
/-- an int out of an object of the ledger -/
theorem int_use {hp : Heap} {gs : Array GenState} {dr : Drawn} {tk : Nat} {os : OsState} {o : Obj} {ml : Addr} (S : SpecG w D f args [(ml, o)] (IntP x)) (hm : (ml, o) ∈ news) (B : Below A₀ base outer h₀) (F : Fr h₀ L hp m) (X : (hd.heap_39 w.params).In h₀) (N : News h₀ L hp news) (T : Top topProg loose mean mg mb h₀)
    (hf : A.frames = some (envX cn cs L a ccd cl :: outer)) (hh : A.handled = none) (hk : cs.kind = .function) (hdp : A.depth ≤ D + 1) (hu : A.units ≤ 9 * D + 3)
    (k : ∀ t h' tk', Fr h₀ L h' m → News h₀ L h' news → Q (.int x t) ⟨h', gs, dr, tk', os⟩) :
    wpAny (model PySem.Challenge.rw_on0256_01.row.prog w) A (call (.ref f) args) Q E ⟨hp, gs, dr, tk, os⟩ := int_stands S (N _ hm).1 B F X N T hf hh hk hdp hu k
end
theorem end_int {s : Shared} {g : Heap} {L' : Addr} {h' : Heap} {m' : Str → Option Value} {news : List (Addr × Obj)} {x : Int} {t : Tok} {tk' : Tok}
    (F : Fr g L' h' m') (N : News g L' h' news) : EndS s g (IntP x) (.int x t) { s with heap := h', toks := tk' } :=
  ⟨L', m', [], h', tk', rfl, F, News.nil, rfl, t, rfl⟩

section
variable {w : World} {D : Nat} {cn : Str} {cs : Scope} {a : Addr} {ccd : Value} {cl : List (Str × Addr)} {outer : List Env} {A A₀ : Around} {base h₀ : Heap} {L : Addr} {m : Str → Option Value} {s : Shared} {news : List (Addr × Obj)} {f : Addr} {args : List Value}
  {loose : List Str} {mean : ExcName → Option Value} {mg mb : Str → Option Value} {Q E : Value → Shared → Prop} {p q : Int}
/-- a pair out of an object of the ground -/
theorem inv_base {hp : Heap} {gs : Array GenState} {dr : Drawn} {tk : Nat} {os : OsState} {o : Obj} {ml : Addr} (S : SpecG w D f args [(ml, o)] (PairP p q)) (M : h₀.get? ml = some o) (B : Below A₀ base outer h₀) (F : Fr h₀ L hp m) (X : (hd.heap_39 w.params).In h₀) (N : News h₀ L hp news) (T : Top topProg loose mean mg mb h₀)
    (hf : A.frames = some (envX cn cs L a ccd cl :: outer)) (hh : A.handled = none) (hk : cs.kind = .function) (hdp : A.depth ≤ D + 1) (hu : A.units ≤ 9 * D + 3)
    (k : ∀ t u1 u2 h' tk', LCg.Off1 t news → Fr h₀ L h' m → News h₀ L h' ((t, two p q u1 u2) :: news) → Q (.ref t) ⟨h', gs, dr, tk', os⟩) :
    wpAny (model PySem.Challenge.rw_on0256_01.row.prog w) A (call (.ref f) args) Q E ⟨hp, gs, dr, tk, os⟩ := by
  refine loosen hh hf hdp hu (S _ _ _ _ _ _ _ _ _ _ _ _ _ _ _ _ B F X N T rfl hk (fun q hq => ?_) fun v sub' h' tk' hP F' R => ?_)
  · obtain rfl := List.mem_singleton.mp hq; exact F.keep _ _ M
  obtain ⟨N', off⟩ := R news (fun q hq => hq) fun q hq r hr' => nomatch hr'
  obtain ⟨t, u1, u2, rfl, rfl⟩ := hP
  exact k t u1 u2 h' tk' (off1_all fun r hr => off _ (.head _) r hr) F' N'
end
set_option maxHeartbeats 8000000 in
theorem det_spec (w : World) (ml : Addr) (a0 a1 a2 a3 a4 a5 : Int) (t0 t1 t2 t3 t4 t5 : Tok) (n : Nat)
    (c0 : -1000000000 ≤ a0 ∧ a0 ≤ 1000000000) (c1 : -1000000000 ≤ a1 ∧ a1 ≤ 1000000000) (c2 : -1000000000 ≤ a2 ∧ a2 ≤ 1000000000) (c3 : -1000000000 ≤ a3 ∧ a3 ≤ 1000000000) :
    SpecG w 420 75 [.ref ml] [(ml, six a0 a1 a2 a3 a4 a5 t0 t1 t2 t3 t4 t5 n)] (IntP (a0 * a3 - a1 * a2)) := by
  unfold SpecG
  k_fill
  have hdet := det_small c0 c1 c2 c3
  intro gd env outer A₀ base h₀ L m s news loose mean mg mb Q E B F X N T hf hk hp k
  ((k_dflt (refine' callG ?k1 ?k2 ?k3 ?k4 ?k5 ?kA ?kF ?kK ?kk ?k6 ?k7 ?k8 ?k9 ?kB ?_ ?c2 ?c3 ?c4 ?c5 (args := ⟨_, []⟩); (case kA => exact rfl); (case kF => assumption); (case kK => assumption); (case k1 => k_asm); (case k2 => k_asm); (case k3 => k_asm); (case k4 => k_asm); (case k5 => k_asm); (case kk => assumption); (case k6 => k_is); (case k7 => k_is); (case k8 => k_room); (case k9 => exact BindsTo.of_eq rfl); (case c5 => decide); (case kB => exact locs rfl); (case c2 => exact rfl); (case c3 => exact rfl); (case c4 => exact rfl); k_whole)))
  intro g L' h' st F' N' B' X' T'
  have F9 : Fr g L' h' (fun y9 => List.lookup y9 [(Str.ofString "m", .ref ml)]) := F'
  clear F'
  have hM := st _ _ (hp _ (.head _))
  clear B F X N T hf hk hp k st
  (try dsimp only)
  (with_reducible show wpAny _ _ _ _ _ _)
  k_fold
  repeat' (first | (k_unfold; (try dsimp only)) | (k_end; wrow_close) | ((with_reducible show wpAny _ _ (eval (Expr.Constant (Const.int _) _ _) _) _ _ _); (with_reducible refine constL ?_)) | ((with_reducible show wpAny _ _ (binaryOp Operator.Add (Value.int _ _) (Value.int _ _)) _ _ _); (with_reducible refine addL ?_)) | ((with_reducible show wpAny _ _ (binaryOp Operator.Sub (Value.int _ _) (Value.int _ _)) _ _ _); (with_reducible refine subL ?_)) | ((with_reducible show wpAny _ _ (binaryOp Operator.Mult (Value.int _ _) (Value.int _ _)) _ _ _); (with_reducible refine' mulL ?_ ?zqs1); (case zqs1 => (first | with_reducible exact ok_f1 | with_reducible exact ok_f2 | with_reducible exact ok_f3 | exact IntMulOk.of_left (by decide) | with_reducible exact ok_l (by assumption) | with_reducible exact ok_r (by assumption) | with_reducible mul_fits))) | ((with_reducible show wpAny _ _ (newTuple _) _ _ _); k_here; kup_bare; k_dflt (refine' newTupleL ?zqs2 ?zqs3 ?_ ?zqs4; (case zqs2 => k_asm); (case zqs3 => k_asm); (case zqs4 => kmk_size)); intro D' h' F' N' l1; (try k_lt l1); (try k_sweep)) | ((with_reducible show wpAny _ _ (subscriptTail ..) _ _ _); (first | ((k_here; (with_reducible show wpAny _ _ (subscriptTail _ _ (Value.ref _) (Value.int _ _)) _ _ _); k_dflt (refine' item_base ?zq0M ?zq0F ?zq0a ?zq0b ?zq0d ?_; (case zq0M => with_reducible assumption); (case zq0F => k_asm); (case zq0a => decide); (case zq0b => decide); (case zq0d => exact rfl); k_whole))))) | ((with_reducible show wpAny _ _ (call _ _ _) _ _ _); (first | ((k_here; (with_reducible show wpAny _ _ (call (Value.ref 110) [Value.ref _, Value.int _ _, Value.int _ _]) _ _ _); k_dflt (refine' inv_base (inv_spec _ _ _ _ _ _ _ _ _ _ _ _ _ _ _ _ _ _ _ ?zq7hz ?zq7b0 ?zq7b1 ?zq7b2 ?zq7b3) ?zq7M ?zq7k1 ?zq7k2 ?zq7k3 ?zq7k4 ?zq7k5 ?zq7kA ?zq7kH ?zq7kK ?zq7kD ?zq7kU ?_; (((case zq7kA => exact rfl); (case zq7k2 => k_asm); (case zq7k1 => k_asm); (case zq7k3 => k_asm); (case zq7k4 => k_asm); (case zq7k5 => k_asm); (case zq7kH => exact rfl); (case zq7kK => exact rfl); (case zq7kD => exact Nat.le_of_ble_eq_true rfl); (case zq7kU => exact Nat.le_of_ble_eq_true rfl))); (case zq7M => with_reducible assumption); (case zq7hz => assumption); (case zq7b0 => assumption); (case zq7b1 => assumption); (case zq7b2 => assumption); (case zq7b3 => assumption); k_whole); intro t' u1' u2' h' tk' o1' F' N'; (try k_sweep))) | ((k_here; (with_reducible show wpAny _ _ (call (Value.ref 89) [Value.ref _]) _ _ _); k_dflt (refine' int_base (need_spec _ _ _ _ _ _ _ _ _ _ _ _ _ _ _ ?zq6hz ?zq6b0 ?zq6b1 ?zq6b2 ?zq6b3) ?zq6M ?zq6k1 ?zq6k2 ?zq6k3 ?zq6k4 ?zq6k5 ?zq6kA ?zq6kH ?zq6kK ?zq6kD ?zq6kU ?_; (((case zq6kA => exact rfl); (case zq6k2 => k_asm); (case zq6k1 => k_asm); (case zq6k3 => k_asm); (case zq6k4 => k_asm); (case zq6k5 => k_asm); (case zq6kH => exact rfl); (case zq6kK => exact rfl); (case zq6kD => exact Nat.le_of_ble_eq_true rfl); (case zq6kU => exact Nat.le_of_ble_eq_true rfl))); (case zq6M => with_reducible assumption); (case zq6hz => assumption); (case zq6b0 => assumption); (case zq6b1 => assumption); (case zq6b2 => assumption); (case zq6b3 => assumption); k_whole); intro t' h' tk' F' N'; (try k_sweep))) | ((k_here; (with_reducible show wpAny _ _ (call (Value.ref 75) [Value.ref _]) _ _ _); k_dflt (refine' int_base (det_spec _ _ _ _ _ _ _ _ _ _ _ _ _ _ _ ?zq5b0 ?zq5b1 ?zq5b2 ?zq5b3) ?zq5M ?zq5k1 ?zq5k2 ?zq5k3 ?zq5k4 ?zq5k5 ?zq5kA ?zq5kH ?zq5kK ?zq5kD ?zq5kU ?_; (((case zq5kA => exact rfl); (case zq5k2 => k_asm); (case zq5k1 => k_asm); (case zq5k3 => k_asm); (case zq5k4 => k_asm); (case zq5k5 => k_asm); (case zq5kH => exact rfl); (case zq5kK => exact rfl); (case zq5kD => exact Nat.le_of_ble_eq_true rfl); (case zq5kU => exact Nat.le_of_ble_eq_true rfl))); (case zq5M => with_reducible assumption); (case zq5b0 => assumption); (case zq5b1 => assumption); (case zq5b2 => assumption); (case zq5b3 => assumption); k_whole); intro t' h' tk' F' N'; (try k_sweep))) | ((k_here; (with_reducible show wpAny _ _ (call (Value.ref 61) [Value.int _ _, Value.int _ _]) _ _ _); k_dflt (refine' Spec.useI (mq_spec _ _ _ _ _ ?zq1hb ?zq1hs) ?zq1k1 ?zq1k2 ?zq1k3 ?zq1k4 ?zq1k5 ?zq1kC ?zq1kA ?zq1kH ?zq1kK ?zq1kD ?zq1kU ?_; (case zq1hb => first | assumption | omega); (case zq1hs => first | assumption | omega); (((case zq1kA => exact rfl); (case zq1k2 => k_asm); (case zq1k1 => k_asm); (case zq1k3 => k_asm); (case zq1k4 => k_asm); (case zq1k5 => k_asm); (case zq1kC => exact fun e => nomatch e); (case zq1kH => exact rfl); (case zq1kK => exact rfl); (case zq1kD => exact Nat.le_of_ble_eq_true rfl); (case zq1kU => exact Nat.le_of_ble_eq_true rfl))); k_whole); intro t' h' tk' F' N'; (try k_sweep))))) | ((with_reducible show EndS ..); (first | ((k_dflt (refine' end_int ?zq4F ?zq4N; (case zq4F => k_asm); (case zq4N => k_asm)))) | ((k_dflt (refine' end_pair ?zq3F ?zq3N ?zq3m1; (case zq3F => k_asm); (case zq3N => k_asm); (case zq3m1 => k_mem)))))) | ((with_reducible show ite ..); (first | ((with_reducible (first | refine ite_beq_on (by assumption) ?_ | refine ite_beq_off (by assumption) ?_))))) | walk1 | (dsimp only; (first | ((with_reducible show wpAny _ _ (eval (Expr.Constant (Const.int _) _ _) _) _ _ _); (with_reducible refine constL ?_)) | ((with_reducible show wpAny _ _ (binaryOp Operator.Add (Value.int _ _) (Value.int _ _)) _ _ _); (with_reducible refine addL ?_)) | ((with_reducible show wpAny _ _ (binaryOp Operator.Sub (Value.int _ _) (Value.int _ _)) _ _ _); (with_reducible refine subL ?_)) | ((with_reducible show wpAny _ _ (binaryOp Operator.Mult (Value.int _ _) (Value.int _ _)) _ _ _); (with_reducible refine' mulL ?_ ?zqs1); (case zqs1 => (first | with_reducible exact ok_f1 | with_reducible exact ok_f2 | with_reducible exact ok_f3 | exact IntMulOk.of_left (by decide) | with_reducible exact ok_l (by assumption) | with_reducible exact ok_r (by assumption) | with_reducible mul_fits))) | ((with_reducible show wpAny _ _ (newTuple _) _ _ _); k_here; kup_bare; k_dflt (refine' newTupleL ?zqs2 ?zqs3 ?_ ?zqs4; (case zqs2 => k_asm); (case zqs3 => k_asm); (case zqs4 => kmk_size)); intro D' h' F' N' l1; (try k_lt l1); (try k_sweep)) | ((with_reducible show wpAny _ _ (subscriptTail ..) _ _ _); (first | ((k_here; (with_reducible show wpAny _ _ (subscriptTail _ _ (Value.ref _) (Value.int _ _)) _ _ _); k_dflt (refine' item_base ?zq0M ?zq0F ?zq0a ?zq0b ?zq0d ?_; (case zq0M => with_reducible assumption); (case zq0F => k_asm); (case zq0a => decide); (case zq0b => decide); (case zq0d => exact rfl); k_whole))))) | ((with_reducible show wpAny _ _ (call _ _ _) _ _ _); (first | ((k_here; (with_reducible show wpAny _ _ (call (Value.ref 110) [Value.ref _, Value.int _ _, Value.int _ _]) _ _ _); k_dflt (refine' inv_base (inv_spec _ _ _ _ _ _ _ _ _ _ _ _ _ _ _ _ _ _ _ ?zq7hz ?zq7b0 ?zq7b1 ?zq7b2 ?zq7b3) ?zq7M ?zq7k1 ?zq7k2 ?zq7k3 ?zq7k4 ?zq7k5 ?zq7kA ?zq7kH ?zq7kK ?zq7kD ?zq7kU ?_; (((case zq7kA => exact rfl); (case zq7k2 => k_asm); (case zq7k1 => k_asm); (case zq7k3 => k_asm); (case zq7k4 => k_asm); (case zq7k5 => k_asm); (case zq7kH => exact rfl); (case zq7kK => exact rfl); (case zq7kD => exact Nat.le_of_ble_eq_true rfl); (case zq7kU => exact Nat.le_of_ble_eq_true rfl))); (case zq7M => with_reducible assumption); (case zq7hz => assumption); (case zq7b0 => assumption); (case zq7b1 => assumption); (case zq7b2 => assumption); (case zq7b3 => assumption); k_whole); intro t' u1' u2' h' tk' o1' F' N'; (try k_sweep))) | ((k_here; (with_reducible show wpAny _ _ (call (Value.ref 89) [Value.ref _]) _ _ _); k_dflt (refine' int_base (need_spec _ _ _ _ _ _ _ _ _ _ _ _ _ _ _ ?zq6hz ?zq6b0 ?zq6b1 ?zq6b2 ?zq6b3) ?zq6M ?zq6k1 ?zq6k2 ?zq6k3 ?zq6k4 ?zq6k5 ?zq6kA ?zq6kH ?zq6kK ?zq6kD ?zq6kU ?_; (((case zq6kA => exact rfl); (case zq6k2 => k_asm); (case zq6k1 => k_asm); (case zq6k3 => k_asm); (case zq6k4 => k_asm); (case zq6k5 => k_asm); (case zq6kH => exact rfl); (case zq6kK => exact rfl); (case zq6kD => exact Nat.le_of_ble_eq_true rfl); (case zq6kU => exact Nat.le_of_ble_eq_true rfl))); (case zq6M => with_reducible assumption); (case zq6hz => assumption); (case zq6b0 => assumption); (case zq6b1 => assumption); (case zq6b2 => assumption); (case zq6b3 => assumption); k_whole); intro t' h' tk' F' N'; (try k_sweep))) | ((k_here; (with_reducible show wpAny _ _ (call (Value.ref 75) [Value.ref _]) _ _ _); k_dflt (refine' int_base (det_spec _ _ _ _ _ _ _ _ _ _ _ _ _ _ _ ?zq5b0 ?zq5b1 ?zq5b2 ?zq5b3) ?zq5M ?zq5k1 ?zq5k2 ?zq5k3 ?zq5k4 ?zq5k5 ?zq5kA ?zq5kH ?zq5kK ?zq5kD ?zq5kU ?_; (((case zq5kA => exact rfl); (case zq5k2 => k_asm); (case zq5k1 => k_asm); (case zq5k3 => k_asm); (case zq5k4 => k_asm); (case zq5k5 => k_asm); (case zq5kH => exact rfl); (case zq5kK => exact rfl); (case zq5kD => exact Nat.le_of_ble_eq_true rfl); (case zq5kU => exact Nat.le_of_ble_eq_true rfl))); (case zq5M => with_reducible assumption); (case zq5b0 => assumption); (case zq5b1 => assumption); (case zq5b2 => assumption); (case zq5b3 => assumption); k_whole); intro t' h' tk' F' N'; (try k_sweep))) | ((k_here; (with_reducible show wpAny _ _ (call (Value.ref 61) [Value.int _ _, Value.int _ _]) _ _ _); k_dflt (refine' Spec.useI (mq_spec _ _ _ _ _ ?zq1hb ?zq1hs) ?zq1k1 ?zq1k2 ?zq1k3 ?zq1k4 ?zq1k5 ?zq1kC ?zq1kA ?zq1kH ?zq1kK ?zq1kD ?zq1kU ?_; (case zq1hb => first | assumption | omega); (case zq1hs => first | assumption | omega); (((case zq1kA => exact rfl); (case zq1k2 => k_asm); (case zq1k1 => k_asm); (case zq1k3 => k_asm); (case zq1k4 => k_asm); (case zq1k5 => k_asm); (case zq1kC => exact fun e => nomatch e); (case zq1kH => exact rfl); (case zq1kK => exact rfl); (case zq1kD => exact Nat.le_of_ble_eq_true rfl); (case zq1kU => exact Nat.le_of_ble_eq_true rfl))); k_whole); intro t' h' tk' F' N'; (try k_sweep))))) | ((with_reducible show EndS ..); (first | ((k_dflt (refine' end_int ?zq4F ?zq4N; (case zq4F => k_asm); (case zq4N => k_asm)))) | ((k_dflt (refine' end_pair ?zq3F ?zq3N ?zq3m1; (case zq3F => k_asm); (case zq3N => k_asm); (case zq3m1 => k_mem)))))) | ((with_reducible show ite ..); (first | ((with_reducible (first | refine ite_beq_on (by assumption) ?_ | refine ite_beq_off (by assumption) ?_))))) | walk1)) | (leave1; walk_say "STEP leave1"; try dsimp only) | fail "no step")
set_option maxHeartbeats 8000000 in
theorem need_spec (w : World) (ml : Addr) (a0 a1 a2 a3 a4 a5 : Int) (t0 t1 t2 t3 t4 t5 : Tok) (n : Nat) (hz : a0 * a3 - a1 * a2 ≠ 0)
    (c0 : -1000000000 ≤ a0 ∧ a0 ≤ 1000000000) (c1 : -1000000000 ≤ a1 ∧ a1 ≤ 1000000000) (c2 : -1000000000 ≤ a2 ∧ a2 ≤ 1000000000) (c3 : -1000000000 ≤ a3 ∧ a3 ≤ 1000000000) :
    SpecG w 410 89 [.ref ml] [(ml, six a0 a1 a2 a3 a4 a5 t0 t1 t2 t3 t4 t5 n)] (IntP (a0 * a3 - a1 * a2)) := by
  unfold SpecG
  k_fill
  have hdet := det_small c0 c1 c2 c3
  intro gd env outer A₀ base h₀ L m s news loose mean mg mb Q E B F X N T hf hk hp k
  ((k_dflt (refine' callG ?k1 ?k2 ?k3 ?k4 ?k5 ?kA ?kF ?kK ?kk ?k6 ?k7 ?k8 ?k9 ?kB ?_ ?c2 ?c3 ?c4 ?c5 (args := ⟨_, []⟩); (case kA => exact rfl); (case kF => assumption); (case kK => assumption); (case k1 => k_asm); (case k2 => k_asm); (case k3 => k_asm); (case k4 => k_asm); (case k5 => k_asm); (case kk => assumption); (case k6 => k_is); (case k7 => k_is); (case k8 => k_room); (case k9 => exact BindsTo.of_eq rfl); (case c5 => decide); (case kB => exact locs rfl); (case c2 => exact rfl); (case c3 => exact rfl); (case c4 => exact rfl); k_whole)))
  intro g L' h' st F' N' B' X' T'
  have F9 : Fr g L' h' (fun y9 => List.lookup y9 [(Str.ofString "m", .ref ml)]) := F'
  clear F'
  have hM := st _ _ (hp _ (.head _))
  clear B F X N T hf hk hp k st
  (try dsimp only)
  (with_reducible show wpAny _ _ _ _ _ _)
  k_fold
  repeat' (first | (k_unfold; (try dsimp only)) | (k_end; wrow_close) | ((with_reducible show wpAny _ _ (eval (Expr.Constant (Const.int _) _ _) _) _ _ _); (with_reducible refine constL ?_)) | ((with_reducible show wpAny _ _ (binaryOp Operator.Add (Value.int _ _) (Value.int _ _)) _ _ _); (with_reducible refine addL ?_)) | ((with_reducible show wpAny _ _ (binaryOp Operator.Sub (Value.int _ _) (Value.int _ _)) _ _ _); (with_reducible refine subL ?_)) | ((with_reducible show wpAny _ _ (binaryOp Operator.Mult (Value.int _ _) (Value.int _ _)) _ _ _); (with_reducible refine' mulL ?_ ?zqs1); (case zqs1 => (first | with_reducible exact ok_f1 | with_reducible exact ok_f2 | with_reducible exact ok_f3 | exact IntMulOk.of_left (by decide) | with_reducible exact ok_l (by assumption) | with_reducible exact ok_r (by assumption) | with_reducible mul_fits))) | ((with_reducible show wpAny _ _ (newTuple _) _ _ _); k_here; kup_bare; k_dflt (refine' newTupleL ?zqs2 ?zqs3 ?_ ?zqs4; (case zqs2 => k_asm); (case zqs3 => k_asm); (case zqs4 => kmk_size)); intro D' h' F' N' l1; (try k_lt l1); (try k_sweep)) | ((with_reducible show wpAny _ _ (subscriptTail ..) _ _ _); (first | ((k_here; (with_reducible show wpAny _ _ (subscriptTail _ _ (Value.ref _) (Value.int _ _)) _ _ _); k_dflt (refine' item_base ?zq0M ?zq0F ?zq0a ?zq0b ?zq0d ?_; (case zq0M => with_reducible assumption); (case zq0F => k_asm); (case zq0a => decide); (case zq0b => decide); (case zq0d => exact rfl); k_whole))))) | ((with_reducible show wpAny _ _ (call _ _ _) _ _ _); (first | ((k_here; (with_reducible show wpAny _ _ (call (Value.ref 110) [Value.ref _, Value.int _ _, Value.int _ _]) _ _ _); k_dflt (refine' inv_base (inv_spec _ _ _ _ _ _ _ _ _ _ _ _ _ _ _ _ _ _ _ ?zq7hz ?zq7b0 ?zq7b1 ?zq7b2 ?zq7b3) ?zq7M ?zq7k1 ?zq7k2 ?zq7k3 ?zq7k4 ?zq7k5 ?zq7kA ?zq7kH ?zq7kK ?zq7kD ?zq7kU ?_; (((case zq7kA => exact rfl); (case zq7k2 => k_asm); (case zq7k1 => k_asm); (case zq7k3 => k_asm); (case zq7k4 => k_asm); (case zq7k5 => k_asm); (case zq7kH => exact rfl); (case zq7kK => exact rfl); (case zq7kD => exact Nat.le_of_ble_eq_true rfl); (case zq7kU => exact Nat.le_of_ble_eq_true rfl))); (case zq7M => with_reducible assumption); (case zq7hz => assumption); (case zq7b0 => assumption); (case zq7b1 => assumption); (case zq7b2 => assumption); (case zq7b3 => assumption); k_whole); intro t' u1' u2' h' tk' o1' F' N'; (try k_sweep))) | ((k_here; (with_reducible show wpAny _ _ (call (Value.ref 89) [Value.ref _]) _ _ _); k_dflt (refine' int_base (need_spec _ _ _ _ _ _ _ _ _ _ _ _ _ _ _ ?zq6hz ?zq6b0 ?zq6b1 ?zq6b2 ?zq6b3) ?zq6M ?zq6k1 ?zq6k2 ?zq6k3 ?zq6k4 ?zq6k5 ?zq6kA ?zq6kH ?zq6kK ?zq6kD ?zq6kU ?_; (((case zq6kA => exact rfl); (case zq6k2 => k_asm); (case zq6k1 => k_asm); (case zq6k3 => k_asm); (case zq6k4 => k_asm); (case zq6k5 => k_asm); (case zq6kH => exact rfl); (case zq6kK => exact rfl); (case zq6kD => exact Nat.le_of_ble_eq_true rfl); (case zq6kU => exact Nat.le_of_ble_eq_true rfl))); (case zq6M => with_reducible assumption); (case zq6hz => assumption); (case zq6b0 => assumption); (case zq6b1 => assumption); (case zq6b2 => assumption); (case zq6b3 => assumption); k_whole); intro t' h' tk' F' N'; (try k_sweep))) | ((k_here; (with_reducible show wpAny _ _ (call (Value.ref 75) [Value.ref _]) _ _ _); k_dflt (refine' int_base (det_spec _ _ _ _ _ _ _ _ _ _ _ _ _ _ _ ?zq5b0 ?zq5b1 ?zq5b2 ?zq5b3) ?zq5M ?zq5k1 ?zq5k2 ?zq5k3 ?zq5k4 ?zq5k5 ?zq5kA ?zq5kH ?zq5kK ?zq5kD ?zq5kU ?_; (((case zq5kA => exact rfl); (case zq5k2 => k_asm); (case zq5k1 => k_asm); (case zq5k3 => k_asm); (case zq5k4 => k_asm); (case zq5k5 => k_asm); (case zq5kH => exact rfl); (case zq5kK => exact rfl); (case zq5kD => exact Nat.le_of_ble_eq_true rfl); (case zq5kU => exact Nat.le_of_ble_eq_true rfl))); (case zq5M => with_reducible assumption); (case zq5b0 => assumption); (case zq5b1 => assumption); (case zq5b2 => assumption); (case zq5b3 => assumption); k_whole); intro t' h' tk' F' N'; (try k_sweep))) | ((k_here; (with_reducible show wpAny _ _ (call (Value.ref 61) [Value.int _ _, Value.int _ _]) _ _ _); k_dflt (refine' Spec.useI (mq_spec _ _ _ _ _ ?zq1hb ?zq1hs) ?zq1k1 ?zq1k2 ?zq1k3 ?zq1k4 ?zq1k5 ?zq1kC ?zq1kA ?zq1kH ?zq1kK ?zq1kD ?zq1kU ?_; (case zq1hb => first | assumption | omega); (case zq1hs => first | assumption | omega); (((case zq1kA => exact rfl); (case zq1k2 => k_asm); (case zq1k1 => k_asm); (case zq1k3 => k_asm); (case zq1k4 => k_asm); (case zq1k5 => k_asm); (case zq1kC => exact fun e => nomatch e); (case zq1kH => exact rfl); (case zq1kK => exact rfl); (case zq1kD => exact Nat.le_of_ble_eq_true rfl); (case zq1kU => exact Nat.le_of_ble_eq_true rfl))); k_whole); intro t' h' tk' F' N'; (try k_sweep))))) | ((with_reducible show EndS ..); (first | ((k_dflt (refine' end_int ?zq4F ?zq4N; (case zq4F => k_asm); (case zq4N => k_asm)))) | ((k_dflt (refine' end_pair ?zq3F ?zq3N ?zq3m1; (case zq3F => k_asm); (case zq3N => k_asm); (case zq3m1 => k_mem)))))) | ((with_reducible show ite ..); (first | ((with_reducible (first | refine ite_beq_on (by assumption) ?_ | refine ite_beq_off (by assumption) ?_))))) | walk1 | (dsimp only; (first | ((with_reducible show wpAny _ _ (eval (Expr.Constant (Const.int _) _ _) _) _ _ _); (with_reducible refine constL ?_)) | ((with_reducible show wpAny _ _ (binaryOp Operator.Add (Value.int _ _) (Value.int _ _)) _ _ _); (with_reducible refine addL ?_)) | ((with_reducible show wpAny _ _ (binaryOp Operator.Sub (Value.int _ _) (Value.int _ _)) _ _ _); (with_reducible refine subL ?_)) | ((with_reducible show wpAny _ _ (binaryOp Operator.Mult (Value.int _ _) (Value.int _ _)) _ _ _); (with_reducible refine' mulL ?_ ?zqs1); (case zqs1 => (first | with_reducible exact ok_f1 | with_reducible exact ok_f2 | with_reducible exact ok_f3 | exact IntMulOk.of_left (by decide) | with_reducible exact ok_l (by assumption) | with_reducible exact ok_r (by assumption) | with_reducible mul_fits))) | ((with_reducible show wpAny _ _ (newTuple _) _ _ _); k_here; kup_bare; k_dflt (refine' newTupleL ?zqs2 ?zqs3 ?_ ?zqs4; (case zqs2 => k_asm); (case zqs3 => k_asm); (case zqs4 => kmk_size)); intro D' h' F' N' l1; (try k_lt l1); (try k_sweep)) | ((with_reducible show wpAny _ _ (subscriptTail ..) _ _ _); (first | ((k_here; (with_reducible show wpAny _ _ (subscriptTail _ _ (Value.ref _) (Value.int _ _)) _ _ _); k_dflt (refine' item_base ?zq0M ?zq0F ?zq0a ?zq0b ?zq0d ?_; (case zq0M => with_reducible assumption); (case zq0F => k_asm); (case zq0a => decide); (case zq0b => decide); (case zq0d => exact rfl); k_whole))))) | ((with_reducible show wpAny _ _ (call _ _ _) _ _ _); (first | ((k_here; (with_reducible show wpAny _ _ (call (Value.ref 110) [Value.ref _, Value.int _ _, Value.int _ _]) _ _ _); k_dflt (refine' inv_base (inv_spec _ _ _ _ _ _ _ _ _ _ _ _ _ _ _ _ _ _ _ ?zq7hz ?zq7b0 ?zq7b1 ?zq7b2 ?zq7b3) ?zq7M ?zq7k1 ?zq7k2 ?zq7k3 ?zq7k4 ?zq7k5 ?zq7kA ?zq7kH ?zq7kK ?zq7kD ?zq7kU ?_; (((case zq7kA => exact rfl); (case zq7k2 => k_asm); (case zq7k1 => k_asm); (case zq7k3 => k_asm); (case zq7k4 => k_asm); (case zq7k5 => k_asm); (case zq7kH => exact rfl); (case zq7kK => exact rfl); (case zq7kD => exact Nat.le_of_ble_eq_true rfl); (case zq7kU => exact Nat.le_of_ble_eq_true rfl))); (case zq7M => with_reducible assumption); (case zq7hz => assumption); (case zq7b0 => assumption); (case zq7b1 => assumption); (case zq7b2 => assumption); (case zq7b3 => assumption); k_whole); intro t' u1' u2' h' tk' o1' F' N'; (try k_sweep))) | ((k_here; (with_reducible show wpAny _ _ (call (Value.ref 89) [Value.ref _]) _ _ _); k_dflt (refine' int_base (need_spec _ _ _ _ _ _ _ _ _ _ _ _ _ _ _ ?zq6hz ?zq6b0 ?zq6b1 ?zq6b2 ?zq6b3) ?zq6M ?zq6k1 ?zq6k2 ?zq6k3 ?zq6k4 ?zq6k5 ?zq6kA ?zq6kH ?zq6kK ?zq6kD ?zq6kU ?_; (((case zq6kA => exact rfl); (case zq6k2 => k_asm); (case zq6k1 => k_asm); (case zq6k3 => k_asm); (case zq6k4 => k_asm); (case zq6k5 => k_asm); (case zq6kH => exact rfl); (case zq6kK => exact rfl); (case zq6kD => exact Nat.le_of_ble_eq_true rfl); (case zq6kU => exact Nat.le_of_ble_eq_true rfl))); (case zq6M => with_reducible assumption); (case zq6hz => assumption); (case zq6b0 => assumption); (case zq6b1 => assumption); (case zq6b2 => assumption); (case zq6b3 => assumption); k_whole); intro t' h' tk' F' N'; (try k_sweep))) | ((k_here; (with_reducible show wpAny _ _ (call (Value.ref 75) [Value.ref _]) _ _ _); k_dflt (refine' int_base (det_spec _ _ _ _ _ _ _ _ _ _ _ _ _ _ _ ?zq5b0 ?zq5b1 ?zq5b2 ?zq5b3) ?zq5M ?zq5k1 ?zq5k2 ?zq5k3 ?zq5k4 ?zq5k5 ?zq5kA ?zq5kH ?zq5kK ?zq5kD ?zq5kU ?_; (((case zq5kA => exact rfl); (case zq5k2 => k_asm); (case zq5k1 => k_asm); (case zq5k3 => k_asm); (case zq5k4 => k_asm); (case zq5k5 => k_asm); (case zq5kH => exact rfl); (case zq5kK => exact rfl); (case zq5kD => exact Nat.le_of_ble_eq_true rfl); (case zq5kU => exact Nat.le_of_ble_eq_true rfl))); (case zq5M => with_reducible assumption); (case zq5b0 => assumption); (case zq5b1 => assumption); (case zq5b2 => assumption); (case zq5b3 => assumption); k_whole); intro t' h' tk' F' N'; (try k_sweep))) | ((k_here; (with_reducible show wpAny _ _ (call (Value.ref 61) [Value.int _ _, Value.int _ _]) _ _ _); k_dflt (refine' Spec.useI (mq_spec _ _ _ _ _ ?zq1hb ?zq1hs) ?zq1k1 ?zq1k2 ?zq1k3 ?zq1k4 ?zq1k5 ?zq1kC ?zq1kA ?zq1kH ?zq1kK ?zq1kD ?zq1kU ?_; (case zq1hb => first | assumption | omega); (case zq1hs => first | assumption | omega); (((case zq1kA => exact rfl); (case zq1k2 => k_asm); (case zq1k1 => k_asm); (case zq1k3 => k_asm); (case zq1k4 => k_asm); (case zq1k5 => k_asm); (case zq1kC => exact fun e => nomatch e); (case zq1kH => exact rfl); (case zq1kK => exact rfl); (case zq1kD => exact Nat.le_of_ble_eq_true rfl); (case zq1kU => exact Nat.le_of_ble_eq_true rfl))); k_whole); intro t' h' tk' F' N'; (try k_sweep))))) | ((with_reducible show EndS ..); (first | ((k_dflt (refine' end_int ?zq4F ?zq4N; (case zq4F => k_asm); (case zq4N => k_asm)))) | ((k_dflt (refine' end_pair ?zq3F ?zq3N ?zq3m1; (case zq3F => k_asm); (case zq3N => k_asm); (case zq3m1 => k_mem)))))) | ((with_reducible show ite ..); (first | ((with_reducible (first | refine ite_beq_on (by assumption) ?_ | refine ite_beq_off (by assumption) ?_))))) | walk1)) | (leave1; walk_say "STEP leave1"; try dsimp only) | fail "no step")
set_option maxHeartbeats 8000000 in
theorem inv_spec (w : World) (ml : Addr) (a0 a1 a2 a3 a4 a5 x y : Int) (t0 t1 t2 t3 t4 t5 tx ty : Tok) (n : Nat) (hz : a0 * a3 - a1 * a2 ≠ 0)
    (c0 : -1000000000 ≤ a0 ∧ a0 ≤ 1000000000) (c1 : -1000000000 ≤ a1 ∧ a1 ≤ 1000000000) (c2 : -1000000000 ≤ a2 ∧ a2 ≤ 1000000000) (c3 : -1000000000 ≤ a3 ∧ a3 ≤ 1000000000) :
    SpecG w 390 110 [.ref ml, .int x tx, .int y ty] [(ml, six a0 a1 a2 a3 a4 a5 t0 t1 t2 t3 t4 t5 n)] (PairP (rq ((a3 * x - a2 * y) * 1000000) (a0 * a3 - a1 * a2)) (rq ((a0 * y - a1 * x) * 1000000) (a0 * a3 - a1 * a2))) := by
  unfold SpecG
  k_fill
  have hdet := det_small c0 c1 c2 c3
  intro gd env outer A₀ base h₀ L m s news loose mean mg mb Q E B F X N T hf hk hp k
  ((k_dflt (refine' callG ?k1 ?k2 ?k3 ?k4 ?k5 ?kA ?kF ?kK ?kk ?k6 ?k7 ?k8 ?k9 ?kB ?_ ?c2 ?c3 ?c4 ?c5 (args := ⟨_, []⟩); (case kA => exact rfl); (case kF => assumption); (case kK => assumption); (case k1 => k_asm); (case k2 => k_asm); (case k3 => k_asm); (case k4 => k_asm); (case k5 => k_asm); (case kk => assumption); (case k6 => k_is); (case k7 => k_is); (case k8 => k_room); (case k9 => exact BindsTo.of_eq rfl); (case c5 => decide); (case kB => exact locs rfl); (case c2 => exact rfl); (case c3 => exact rfl); (case c4 => exact rfl); k_whole)))
  intro g L' h' st F' N' B' X' T'
  have F9 : Fr g L' h' (fun y9 => List.lookup y9 [(Str.ofString "y", .int y ty), (Str.ofString "x", .int x tx), (Str.ofString "m", .ref ml)]) := F'
  clear F'
  have hM := st _ _ (hp _ (.head _))
  clear B F X N T hf hk hp k st
  (try dsimp only)
  (with_reducible show wpAny _ _ _ _ _ _)
  k_fold
  repeat' (first | (k_unfold; (try dsimp only)) | (k_end; wrow_close) | ((with_reducible show wpAny _ _ (eval (Expr.Constant (Const.int _) _ _) _) _ _ _); (with_reducible refine constL ?_)) | ((with_reducible show wpAny _ _ (binaryOp Operator.Add (Value.int _ _) (Value.int _ _)) _ _ _); (with_reducible refine addL ?_)) | ((with_reducible show wpAny _ _ (binaryOp Operator.Sub (Value.int _ _) (Value.int _ _)) _ _ _); (with_reducible refine subL ?_)) | ((with_reducible show wpAny _ _ (binaryOp Operator.Mult (Value.int _ _) (Value.int _ _)) _ _ _); (with_reducible refine' mulL ?_ ?zqs1); (case zqs1 => (first | with_reducible exact ok_f1 | with_reducible exact ok_f2 | with_reducible exact ok_f3 | exact IntMulOk.of_left (by decide) | with_reducible exact ok_l (by assumption) | with_reducible exact ok_r (by assumption) | with_reducible mul_fits))) | ((with_reducible show wpAny _ _ (newTuple _) _ _ _); k_here; kup_bare; k_dflt (refine' newTupleL ?zqs2 ?zqs3 ?_ ?zqs4; (case zqs2 => k_asm); (case zqs3 => k_asm); (case zqs4 => kmk_size)); intro D' h' F' N' l1; (try k_lt l1); (try k_sweep)) | ((with_reducible show wpAny _ _ (subscriptTail ..) _ _ _); (first | ((k_here; (with_reducible show wpAny _ _ (subscriptTail _ _ (Value.ref _) (Value.int _ _)) _ _ _); k_dflt (refine' item_base ?zq0M ?zq0F ?zq0a ?zq0b ?zq0d ?_; (case zq0M => with_reducible assumption); (case zq0F => k_asm); (case zq0a => decide); (case zq0b => decide); (case zq0d => exact rfl); k_whole))))) | ((with_reducible show wpAny _ _ (call _ _ _) _ _ _); (first | ((k_here; (with_reducible show wpAny _ _ (call (Value.ref 110) [Value.ref _, Value.int _ _, Value.int _ _]) _ _ _); k_dflt (refine' inv_base (inv_spec _ _ _ _ _ _ _ _ _ _ _ _ _ _ _ _ _ _ _ ?zq7hz ?zq7b0 ?zq7b1 ?zq7b2 ?zq7b3) ?zq7M ?zq7k1 ?zq7k2 ?zq7k3 ?zq7k4 ?zq7k5 ?zq7kA ?zq7kH ?zq7kK ?zq7kD ?zq7kU ?_; (((case zq7kA => exact rfl); (case zq7k2 => k_asm); (case zq7k1 => k_asm); (case zq7k3 => k_asm); (case zq7k4 => k_asm); (case zq7k5 => k_asm); (case zq7kH => exact rfl); (case zq7kK => exact rfl); (case zq7kD => exact Nat.le_of_ble_eq_true rfl); (case zq7kU => exact Nat.le_of_ble_eq_true rfl))); (case zq7M => with_reducible assumption); (case zq7hz => assumption); (case zq7b0 => assumption); (case zq7b1 => assumption); (case zq7b2 => assumption); (case zq7b3 => assumption); k_whole); intro t' u1' u2' h' tk' o1' F' N'; (try k_sweep))) | ((k_here; (with_reducible show wpAny _ _ (call (Value.ref 89) [Value.ref _]) _ _ _); k_dflt (refine' int_base (need_spec _ _ _ _ _ _ _ _ _ _ _ _ _ _ _ ?zq6hz ?zq6b0 ?zq6b1 ?zq6b2 ?zq6b3) ?zq6M ?zq6k1 ?zq6k2 ?zq6k3 ?zq6k4 ?zq6k5 ?zq6kA ?zq6kH ?zq6kK ?zq6kD ?zq6kU ?_; (((case zq6kA => exact rfl); (case zq6k2 => k_asm); (case zq6k1 => k_asm); (case zq6k3 => k_asm); (case zq6k4 => k_asm); (case zq6k5 => k_asm); (case zq6kH => exact rfl); (case zq6kK => exact rfl); (case zq6kD => exact Nat.le_of_ble_eq_true rfl); (case zq6kU => exact Nat.le_of_ble_eq_true rfl))); (case zq6M => with_reducible assumption); (case zq6hz => assumption); (case zq6b0 => assumption); (case zq6b1 => assumption); (case zq6b2 => assumption); (case zq6b3 => assumption); k_whole); intro t' h' tk' F' N'; (try k_sweep))) | ((k_here; (with_reducible show wpAny _ _ (call (Value.ref 75) [Value.ref _]) _ _ _); k_dflt (refine' int_base (det_spec _ _ _ _ _ _ _ _ _ _ _ _ _ _ _ ?zq5b0 ?zq5b1 ?zq5b2 ?zq5b3) ?zq5M ?zq5k1 ?zq5k2 ?zq5k3 ?zq5k4 ?zq5k5 ?zq5kA ?zq5kH ?zq5kK ?zq5kD ?zq5kU ?_; (((case zq5kA => exact rfl); (case zq5k2 => k_asm); (case zq5k1 => k_asm); (case zq5k3 => k_asm); (case zq5k4 => k_asm); (case zq5k5 => k_asm); (case zq5kH => exact rfl); (case zq5kK => exact rfl); (case zq5kD => exact Nat.le_of_ble_eq_true rfl); (case zq5kU => exact Nat.le_of_ble_eq_true rfl))); (case zq5M => with_reducible assumption); (case zq5b0 => assumption); (case zq5b1 => assumption); (case zq5b2 => assumption); (case zq5b3 => assumption); k_whole); intro t' h' tk' F' N'; (try k_sweep))) | ((k_here; (with_reducible show wpAny _ _ (call (Value.ref 61) [Value.int _ _, Value.int _ _]) _ _ _); k_dflt (refine' Spec.useI (mq_spec _ _ _ _ _ ?zq1hb ?zq1hs) ?zq1k1 ?zq1k2 ?zq1k3 ?zq1k4 ?zq1k5 ?zq1kC ?zq1kA ?zq1kH ?zq1kK ?zq1kD ?zq1kU ?_; (case zq1hb => first | assumption | omega); (case zq1hs => first | assumption | omega); (((case zq1kA => exact rfl); (case zq1k2 => k_asm); (case zq1k1 => k_asm); (case zq1k3 => k_asm); (case zq1k4 => k_asm); (case zq1k5 => k_asm); (case zq1kC => exact fun e => nomatch e); (case zq1kH => exact rfl); (case zq1kK => exact rfl); (case zq1kD => exact Nat.le_of_ble_eq_true rfl); (case zq1kU => exact Nat.le_of_ble_eq_true rfl))); k_whole); intro t' h' tk' F' N'; (try k_sweep))))) | ((with_reducible show EndS ..); (first | ((k_dflt (refine' end_int ?zq4F ?zq4N; (case zq4F => k_asm); (case zq4N => k_asm)))) | ((k_dflt (refine' end_pair ?zq3F ?zq3N ?zq3m1; (case zq3F => k_asm); (case zq3N => k_asm); (case zq3m1 => k_mem)))))) | ((with_reducible show ite ..); (first | ((with_reducible (first | refine ite_beq_on (by assumption) ?_ | refine ite_beq_off (by assumption) ?_))))) | walk1 | (dsimp only; (first | ((with_reducible show wpAny _ _ (eval (Expr.Constant (Const.int _) _ _) _) _ _ _); (with_reducible refine constL ?_)) | ((with_reducible show wpAny _ _ (binaryOp Operator.Add (Value.int _ _) (Value.int _ _)) _ _ _); (with_reducible refine addL ?_)) | ((with_reducible show wpAny _ _ (binaryOp Operator.Sub (Value.int _ _) (Value.int _ _)) _ _ _); (with_reducible refine subL ?_)) | ((with_reducible show wpAny _ _ (binaryOp Operator.Mult (Value.int _ _) (Value.int _ _)) _ _ _); (with_reducible refine' mulL ?_ ?zqs1); (case zqs1 => (first | with_reducible exact ok_f1 | with_reducible exact ok_f2 | with_reducible exact ok_f3 | exact IntMulOk.of_left (by decide) | with_reducible exact ok_l (by assumption) | with_reducible exact ok_r (by assumption) | with_reducible mul_fits))) | ((with_reducible show wpAny _ _ (newTuple _) _ _ _); k_here; kup_bare; k_dflt (refine' newTupleL ?zqs2 ?zqs3 ?_ ?zqs4; (case zqs2 => k_asm); (case zqs3 => k_asm); (case zqs4 => kmk_size)); intro D' h' F' N' l1; (try k_lt l1); (try k_sweep)) | ((with_reducible show wpAny _ _ (subscriptTail ..) _ _ _); (first | ((k_here; (with_reducible show wpAny _ _ (subscriptTail _ _ (Value.ref _) (Value.int _ _)) _ _ _); k_dflt (refine' item_base ?zq0M ?zq0F ?zq0a ?zq0b ?zq0d ?_; (case zq0M => with_reducible assumption); (case zq0F => k_asm); (case zq0a => decide); (case zq0b => decide); (case zq0d => exact rfl); k_whole))))) | ((with_reducible show wpAny _ _ (call _ _ _) _ _ _); (first | ((k_here; (with_reducible show wpAny _ _ (call (Value.ref 110) [Value.ref _, Value.int _ _, Value.int _ _]) _ _ _); k_dflt (refine' inv_base (inv_spec _ _ _ _ _ _ _ _ _ _ _ _ _ _ _ _ _ _ _ ?zq7hz ?zq7b0 ?zq7b1 ?zq7b2 ?zq7b3) ?zq7M ?zq7k1 ?zq7k2 ?zq7k3 ?zq7k4 ?zq7k5 ?zq7kA ?zq7kH ?zq7kK ?zq7kD ?zq7kU ?_; (((case zq7kA => exact rfl); (case zq7k2 => k_asm); (case zq7k1 => k_asm); (case zq7k3 => k_asm); (case zq7k4 => k_asm); (case zq7k5 => k_asm); (case zq7kH => exact rfl); (case zq7kK => exact rfl); (case zq7kD => exact Nat.le_of_ble_eq_true rfl); (case zq7kU => exact Nat.le_of_ble_eq_true rfl))); (case zq7M => with_reducible assumption); (case zq7hz => assumption); (case zq7b0 => assumption); (case zq7b1 => assumption); (case zq7b2 => assumption); (case zq7b3 => assumption); k_whole); intro t' u1' u2' h' tk' o1' F' N'; (try k_sweep))) | ((k_here; (with_reducible show wpAny _ _ (call (Value.ref 89) [Value.ref _]) _ _ _); k_dflt (refine' int_base (need_spec _ _ _ _ _ _ _ _ _ _ _ _ _ _ _ ?zq6hz ?zq6b0 ?zq6b1 ?zq6b2 ?zq6b3) ?zq6M ?zq6k1 ?zq6k2 ?zq6k3 ?zq6k4 ?zq6k5 ?zq6kA ?zq6kH ?zq6kK ?zq6kD ?zq6kU ?_; (((case zq6kA => exact rfl); (case zq6k2 => k_asm); (case zq6k1 => k_asm); (case zq6k3 => k_asm); (case zq6k4 => k_asm); (case zq6k5 => k_asm); (case zq6kH => exact rfl); (case zq6kK => exact rfl); (case zq6kD => exact Nat.le_of_ble_eq_true rfl); (case zq6kU => exact Nat.le_of_ble_eq_true rfl))); (case zq6M => with_reducible assumption); (case zq6hz => assumption); (case zq6b0 => assumption); (case zq6b1 => assumption); (case zq6b2 => assumption); (case zq6b3 => assumption); k_whole); intro t' h' tk' F' N'; (try k_sweep))) | ((k_here; (with_reducible show wpAny _ _ (call (Value.ref 75) [Value.ref _]) _ _ _); k_dflt (refine' int_base (det_spec _ _ _ _ _ _ _ _ _ _ _ _ _ _ _ ?zq5b0 ?zq5b1 ?zq5b2 ?zq5b3) ?zq5M ?zq5k1 ?zq5k2 ?zq5k3 ?zq5k4 ?zq5k5 ?zq5kA ?zq5kH ?zq5kK ?zq5kD ?zq5kU ?_; (((case zq5kA => exact rfl); (case zq5k2 => k_asm); (case zq5k1 => k_asm); (case zq5k3 => k_asm); (case zq5k4 => k_asm); (case zq5k5 => k_asm); (case zq5kH => exact rfl); (case zq5kK => exact rfl); (case zq5kD => exact Nat.le_of_ble_eq_true rfl); (case zq5kU => exact Nat.le_of_ble_eq_true rfl))); (case zq5M => with_reducible assumption); (case zq5b0 => assumption); (case zq5b1 => assumption); (case zq5b2 => assumption); (case zq5b3 => assumption); k_whole); intro t' h' tk' F' N'; (try k_sweep))) | ((k_here; (with_reducible show wpAny _ _ (call (Value.ref 61) [Value.int _ _, Value.int _ _]) _ _ _); k_dflt (refine' Spec.useI (mq_spec _ _ _ _ _ ?zq1hb ?zq1hs) ?zq1k1 ?zq1k2 ?zq1k3 ?zq1k4 ?zq1k5 ?zq1kC ?zq1kA ?zq1kH ?zq1kK ?zq1kD ?zq1kU ?_; (case zq1hb => first | assumption | omega); (case zq1hs => first | assumption | omega); (((case zq1kA => exact rfl); (case zq1k2 => k_asm); (case zq1k1 => k_asm); (case zq1k3 => k_asm); (case zq1k4 => k_asm); (case zq1k5 => k_asm); (case zq1kC => exact fun e => nomatch e); (case zq1kH => exact rfl); (case zq1kK => exact rfl); (case zq1kD => exact Nat.le_of_ble_eq_true rfl); (case zq1kU => exact Nat.le_of_ble_eq_true rfl))); k_whole); intro t' h' tk' F' N'; (try k_sweep))))) | ((with_reducible show EndS ..); (first | ((k_dflt (refine' end_int ?zq4F ?zq4N; (case zq4F => k_asm); (case zq4N => k_asm)))) | ((k_dflt (refine' end_pair ?zq3F ?zq3N ?zq3m1; (case zq3F => k_asm); (case zq3N => k_asm); (case zq3m1 => k_mem)))))) | ((with_reducible show ite ..); (first | ((with_reducible (first | refine ite_beq_on (by assumption) ?_ | refine ite_beq_off (by assumption) ?_))))) | walk1)) | (leave1; walk_say "STEP leave1"; try dsimp only) | fail "no step")
set_option maxHeartbeats 8000000 in
theorem invt_spec (w : World) (ml : Addr) (a0 a1 a2 a3 a4 a5 x y : Int) (t0 t1 t2 t3 t4 t5 tx ty : Tok) (n : Nat) (hz : a0 * a3 - a1 * a2 ≠ 0)
    (c0 : -1000000000 ≤ a0 ∧ a0 ≤ 1000000000) (c1 : -1000000000 ≤ a1 ∧ a1 ≤ 1000000000) (c2 : -1000000000 ≤ a2 ∧ a2 ≤ 1000000000) (c3 : -1000000000 ≤ a3 ∧ a3 ≤ 1000000000) :
    SpecG w 380 117 [.ref ml, .int x tx, .int y ty] [(ml, six a0 a1 a2 a3 a4 a5 t0 t1 t2 t3 t4 t5 n)] (PairP (rq ((a3 * (x - a4) - a2 * (y - a5)) * 1000000) (a0 * a3 - a1 * a2)) (rq ((a0 * (y - a5) - a1 * (x - a4)) * 1000000) (a0 * a3 - a1 * a2))) := by
  unfold SpecG
  k_fill
  have hdet := det_small c0 c1 c2 c3
  intro gd env outer A₀ base h₀ L m s news loose mean mg mb Q E B F X N T hf hk hp k
  ((k_dflt (refine' callG ?k1 ?k2 ?k3 ?k4 ?k5 ?kA ?kF ?kK ?kk ?k6 ?k7 ?k8 ?k9 ?kB ?_ ?c2 ?c3 ?c4 ?c5 (args := ⟨_, []⟩); (case kA => exact rfl); (case kF => assumption); (case kK => assumption); (case k1 => k_asm); (case k2 => k_asm); (case k3 => k_asm); (case k4 => k_asm); (case k5 => k_asm); (case kk => assumption); (case k6 => k_is); (case k7 => k_is); (case k8 => k_room); (case k9 => exact BindsTo.of_eq rfl); (case c5 => decide); (case kB => exact locs rfl); (case c2 => exact rfl); (case c3 => exact rfl); (case c4 => exact rfl); k_whole)))
  intro g L' h' st F' N' B' X' T'
  have F9 : Fr g L' h' (fun y9 => List.lookup y9 [(Str.ofString "y", .int y ty), (Str.ofString "x", .int x tx), (Str.ofString "m", .ref ml)]) := F'
  clear F'
  have hM := st _ _ (hp _ (.head _))
  clear B F X N T hf hk hp k st
  (try dsimp only)
  (with_reducible show wpAny _ _ _ _ _ _)
  k_fold
  repeat' (first | (k_unfold; (try dsimp only)) | (k_end; wrow_close) | ((with_reducible show wpAny _ _ (eval (Expr.Constant (Const.int _) _ _) _) _ _ _); (with_reducible refine constL ?_)) | ((with_reducible show wpAny _ _ (binaryOp Operator.Add (Value.int _ _) (Value.int _ _)) _ _ _); (with_reducible refine addL ?_)) | ((with_reducible show wpAny _ _ (binaryOp Operator.Sub (Value.int _ _) (Value.int _ _)) _ _ _); (with_reducible refine subL ?_)) | ((with_reducible show wpAny _ _ (binaryOp Operator.Mult (Value.int _ _) (Value.int _ _)) _ _ _); (with_reducible refine' mulL ?_ ?zqs1); (case zqs1 => (first | with_reducible exact ok_f1 | with_reducible exact ok_f2 | with_reducible exact ok_f3 | exact IntMulOk.of_left (by decide) | with_reducible exact ok_l (by assumption) | with_reducible exact ok_r (by assumption) | with_reducible mul_fits))) | ((with_reducible show wpAny _ _ (newTuple _) _ _ _); k_here; kup_bare; k_dflt (refine' newTupleL ?zqs2 ?zqs3 ?_ ?zqs4; (case zqs2 => k_asm); (case zqs3 => k_asm); (case zqs4 => kmk_size)); intro D' h' F' N' l1; (try k_lt l1); (try k_sweep)) | ((with_reducible show wpAny _ _ (subscriptTail ..) _ _ _); (first | ((k_here; (with_reducible show wpAny _ _ (subscriptTail _ _ (Value.ref _) (Value.int _ _)) _ _ _); k_dflt (refine' item_base ?zq0M ?zq0F ?zq0a ?zq0b ?zq0d ?_; (case zq0M => with_reducible assumption); (case zq0F => k_asm); (case zq0a => decide); (case zq0b => decide); (case zq0d => exact rfl); k_whole))))) | ((with_reducible show wpAny _ _ (call _ _ _) _ _ _); (first | ((k_here; (with_reducible show wpAny _ _ (call (Value.ref 110) [Value.ref _, Value.int _ _, Value.int _ _]) _ _ _); k_dflt (refine' inv_base (inv_spec _ _ _ _ _ _ _ _ _ _ _ _ _ _ _ _ _ _ _ ?zq7hz ?zq7b0 ?zq7b1 ?zq7b2 ?zq7b3) ?zq7M ?zq7k1 ?zq7k2 ?zq7k3 ?zq7k4 ?zq7k5 ?zq7kA ?zq7kH ?zq7kK ?zq7kD ?zq7kU ?_; (((case zq7kA => exact rfl); (case zq7k2 => k_asm); (case zq7k1 => k_asm); (case zq7k3 => k_asm); (case zq7k4 => k_asm); (case zq7k5 => k_asm); (case zq7kH => exact rfl); (case zq7kK => exact rfl); (case zq7kD => exact Nat.le_of_ble_eq_true rfl); (case zq7kU => exact Nat.le_of_ble_eq_true rfl))); (case zq7M => with_reducible assumption); (case zq7hz => assumption); (case zq7b0 => assumption); (case zq7b1 => assumption); (case zq7b2 => assumption); (case zq7b3 => assumption); k_whole); intro t' u1' u2' h' tk' o1' F' N'; (try k_sweep))) | ((k_here; (with_reducible show wpAny _ _ (call (Value.ref 89) [Value.ref _]) _ _ _); k_dflt (refine' int_base (need_spec _ _ _ _ _ _ _ _ _ _ _ _ _ _ _ ?zq6hz ?zq6b0 ?zq6b1 ?zq6b2 ?zq6b3) ?zq6M ?zq6k1 ?zq6k2 ?zq6k3 ?zq6k4 ?zq6k5 ?zq6kA ?zq6kH ?zq6kK ?zq6kD ?zq6kU ?_; (((case zq6kA => exact rfl); (case zq6k2 => k_asm); (case zq6k1 => k_asm); (case zq6k3 => k_asm); (case zq6k4 => k_asm); (case zq6k5 => k_asm); (case zq6kH => exact rfl); (case zq6kK => exact rfl); (case zq6kD => exact Nat.le_of_ble_eq_true rfl); (case zq6kU => exact Nat.le_of_ble_eq_true rfl))); (case zq6M => with_reducible assumption); (case zq6hz => assumption); (case zq6b0 => assumption); (case zq6b1 => assumption); (case zq6b2 => assumption); (case zq6b3 => assumption); k_whole); intro t' h' tk' F' N'; (try k_sweep))) | ((k_here; (with_reducible show wpAny _ _ (call (Value.ref 75) [Value.ref _]) _ _ _); k_dflt (refine' int_base (det_spec _ _ _ _ _ _ _ _ _ _ _ _ _ _ _ ?zq5b0 ?zq5b1 ?zq5b2 ?zq5b3) ?zq5M ?zq5k1 ?zq5k2 ?zq5k3 ?zq5k4 ?zq5k5 ?zq5kA ?zq5kH ?zq5kK ?zq5kD ?zq5kU ?_; (((case zq5kA => exact rfl); (case zq5k2 => k_asm); (case zq5k1 => k_asm); (case zq5k3 => k_asm); (case zq5k4 => k_asm); (case zq5k5 => k_asm); (case zq5kH => exact rfl); (case zq5kK => exact rfl); (case zq5kD => exact Nat.le_of_ble_eq_true rfl); (case zq5kU => exact Nat.le_of_ble_eq_true rfl))); (case zq5M => with_reducible assumption); (case zq5b0 => assumption); (case zq5b1 => assumption); (case zq5b2 => assumption); (case zq5b3 => assumption); k_whole); intro t' h' tk' F' N'; (try k_sweep))) | ((k_here; (with_reducible show wpAny _ _ (call (Value.ref 61) [Value.int _ _, Value.int _ _]) _ _ _); k_dflt (refine' Spec.useI (mq_spec _ _ _ _ _ ?zq1hb ?zq1hs) ?zq1k1 ?zq1k2 ?zq1k3 ?zq1k4 ?zq1k5 ?zq1kC ?zq1kA ?zq1kH ?zq1kK ?zq1kD ?zq1kU ?_; (case zq1hb => first | assumption | omega); (case zq1hs => first | assumption | omega); (((case zq1kA => exact rfl); (case zq1k2 => k_asm); (case zq1k1 => k_asm); (case zq1k3 => k_asm); (case zq1k4 => k_asm); (case zq1k5 => k_asm); (case zq1kC => exact fun e => nomatch e); (case zq1kH => exact rfl); (case zq1kK => exact rfl); (case zq1kD => exact Nat.le_of_ble_eq_true rfl); (case zq1kU => exact Nat.le_of_ble_eq_true rfl))); k_whole); intro t' h' tk' F' N'; (try k_sweep))))) | ((with_reducible show EndS ..); (first | ((k_dflt (refine' end_int ?zq4F ?zq4N; (case zq4F => k_asm); (case zq4N => k_asm)))) | ((k_dflt (refine' end_pair ?zq3F ?zq3N ?zq3m1; (case zq3F => k_asm); (case zq3N => k_asm); (case zq3m1 => k_mem)))))) | ((with_reducible show ite ..); (first | ((with_reducible (first | refine ite_beq_on (by assumption) ?_ | refine ite_beq_off (by assumption) ?_))))) | walk1 | (dsimp only; (first | ((with_reducible show wpAny _ _ (eval (Expr.Constant (Const.int _) _ _) _) _ _ _); (with_reducible refine constL ?_)) | ((with_reducible show wpAny _ _ (binaryOp Operator.Add (Value.int _ _) (Value.int _ _)) _ _ _); (with_reducible refine addL ?_)) | ((with_reducible show wpAny _ _ (binaryOp Operator.Sub (Value.int _ _) (Value.int _ _)) _ _ _); (with_reducible refine subL ?_)) | ((with_reducible show wpAny _ _ (binaryOp Operator.Mult (Value.int _ _) (Value.int _ _)) _ _ _); (with_reducible refine' mulL ?_ ?zqs1); (case zqs1 => (first | with_reducible exact ok_f1 | with_reducible exact ok_f2 | with_reducible exact ok_f3 | exact IntMulOk.of_left (by decide) | with_reducible exact ok_l (by assumption) | with_reducible exact ok_r (by assumption) | with_reducible mul_fits))) | ((with_reducible show wpAny _ _ (newTuple _) _ _ _); k_here; kup_bare; k_dflt (refine' newTupleL ?zqs2 ?zqs3 ?_ ?zqs4; (case zqs2 => k_asm); (case zqs3 => k_asm); (case zqs4 => kmk_size)); intro D' h' F' N' l1; (try k_lt l1); (try k_sweep)) | ((with_reducible show wpAny _ _ (subscriptTail ..) _ _ _); (first | ((k_here; (with_reducible show wpAny _ _ (subscriptTail _ _ (Value.ref _) (Value.int _ _)) _ _ _); k_dflt (refine' item_base ?zq0M ?zq0F ?zq0a ?zq0b ?zq0d ?_; (case zq0M => with_reducible assumption); (case zq0F => k_asm); (case zq0a => decide); (case zq0b => decide); (case zq0d => exact rfl); k_whole))))) | ((with_reducible show wpAny _ _ (call _ _ _) _ _ _); (first | ((k_here; (with_reducible show wpAny _ _ (call (Value.ref 110) [Value.ref _, Value.int _ _, Value.int _ _]) _ _ _); k_dflt (refine' inv_base (inv_spec _ _ _ _ _ _ _ _ _ _ _ _ _ _ _ _ _ _ _ ?zq7hz ?zq7b0 ?zq7b1 ?zq7b2 ?zq7b3) ?zq7M ?zq7k1 ?zq7k2 ?zq7k3 ?zq7k4 ?zq7k5 ?zq7kA ?zq7kH ?zq7kK ?zq7kD ?zq7kU ?_; (((case zq7kA => exact rfl); (case zq7k2 => k_asm); (case zq7k1 => k_asm); (case zq7k3 => k_asm); (case zq7k4 => k_asm); (case zq7k5 => k_asm); (case zq7kH => exact rfl); (case zq7kK => exact rfl); (case zq7kD => exact Nat.le_of_ble_eq_true rfl); (case zq7kU => exact Nat.le_of_ble_eq_true rfl))); (case zq7M => with_reducible assumption); (case zq7hz => assumption); (case zq7b0 => assumption); (case zq7b1 => assumption); (case zq7b2 => assumption); (case zq7b3 => assumption); k_whole); intro t' u1' u2' h' tk' o1' F' N'; (try k_sweep))) | ((k_here; (with_reducible show wpAny _ _ (call (Value.ref 89) [Value.ref _]) _ _ _); k_dflt (refine' int_base (need_spec _ _ _ _ _ _ _ _ _ _ _ _ _ _ _ ?zq6hz ?zq6b0 ?zq6b1 ?zq6b2 ?zq6b3) ?zq6M ?zq6k1 ?zq6k2 ?zq6k3 ?zq6k4 ?zq6k5 ?zq6kA ?zq6kH ?zq6kK ?zq6kD ?zq6kU ?_; (((case zq6kA => exact rfl); (case zq6k2 => k_asm); (case zq6k1 => k_asm); (case zq6k3 => k_asm); (case zq6k4 => k_asm); (case zq6k5 => k_asm); (case zq6kH => exact rfl); (case zq6kK => exact rfl); (case zq6kD => exact Nat.le_of_ble_eq_true rfl); (case zq6kU => exact Nat.le_of_ble_eq_true rfl))); (case zq6M => with_reducible assumption); (case zq6hz => assumption); (case zq6b0 => assumption); (case zq6b1 => assumption); (case zq6b2 => assumption); (case zq6b3 => assumption); k_whole); intro t' h' tk' F' N'; (try k_sweep))) | ((k_here; (with_reducible show wpAny _ _ (call (Value.ref 75) [Value.ref _]) _ _ _); k_dflt (refine' int_base (det_spec _ _ _ _ _ _ _ _ _ _ _ _ _ _ _ ?zq5b0 ?zq5b1 ?zq5b2 ?zq5b3) ?zq5M ?zq5k1 ?zq5k2 ?zq5k3 ?zq5k4 ?zq5k5 ?zq5kA ?zq5kH ?zq5kK ?zq5kD ?zq5kU ?_; (((case zq5kA => exact rfl); (case zq5k2 => k_asm); (case zq5k1 => k_asm); (case zq5k3 => k_asm); (case zq5k4 => k_asm); (case zq5k5 => k_asm); (case zq5kH => exact rfl); (case zq5kK => exact rfl); (case zq5kD => exact Nat.le_of_ble_eq_true rfl); (case zq5kU => exact Nat.le_of_ble_eq_true rfl))); (case zq5M => with_reducible assumption); (case zq5b0 => assumption); (case zq5b1 => assumption); (case zq5b2 => assumption); (case zq5b3 => assumption); k_whole); intro t' h' tk' F' N'; (try k_sweep))) | ((k_here; (with_reducible show wpAny _ _ (call (Value.ref 61) [Value.int _ _, Value.int _ _]) _ _ _); k_dflt (refine' Spec.useI (mq_spec _ _ _ _ _ ?zq1hb ?zq1hs) ?zq1k1 ?zq1k2 ?zq1k3 ?zq1k4 ?zq1k5 ?zq1kC ?zq1kA ?zq1kH ?zq1kK ?zq1kD ?zq1kU ?_; (case zq1hb => first | assumption | omega); (case zq1hs => first | assumption | omega); (((case zq1kA => exact rfl); (case zq1k2 => k_asm); (case zq1k1 => k_asm); (case zq1k3 => k_asm); (case zq1k4 => k_asm); (case zq1k5 => k_asm); (case zq1kC => exact fun e => nomatch e); (case zq1kH => exact rfl); (case zq1kK => exact rfl); (case zq1kD => exact Nat.le_of_ble_eq_true rfl); (case zq1kU => exact Nat.le_of_ble_eq_true rfl))); k_whole); intro t' h' tk' F' N'; (try k_sweep))))) | ((with_reducible show EndS ..); (first | ((k_dflt (refine' end_int ?zq4F ?zq4N; (case zq4F => k_asm); (case zq4N => k_asm)))) | ((k_dflt (refine' end_pair ?zq3F ?zq3N ?zq3m1; (case zq3F => k_asm); (case zq3N => k_asm); (case zq3m1 => k_mem)))))) | ((with_reducible show ite ..); (first | ((with_reducible (first | refine ite_beq_on (by assumption) ?_ | refine ite_beq_off (by assumption) ?_))))) | walk1)) | (leave1; walk_say "STEP leave1"; try dsimp only) | fail "no step")
end Mine
end

section
open PySem PySem.W PySem.Calls PyProof.Rows
namespace Mine

-- the sides of a contract in use



theorem item_at {prog : Program} {w : World} {A : Around} {E : Value → Shared → Prop} {s : Shared} {h₀ : Heap} {L l : Addr} {news : List (Addr × Obj)} {its : List Value} {n : Nat} {k : Int} {u : Tok} {v : Value} {value slice : Expr} {Q : Value → Shared → Prop}
    (N : News h₀ L s.heap news) (hm : (l, W.listOf its.toArray n) ∈ news) (h0 : 0 ≤ k) (hhi : k < 2 ^ 63) (hx : its[k.toNat]? = some v) (h : Q v s)
    (hs : subscripted slice false (.ref l) (.int k u) = operate [.ref l, .int k u] (getItem (.ref l) (.int k u)) := by with_unfolding_all rfl) :
    wpAny (model prog w) A (subscriptTail value slice (.ref l) (.int k u)) Q E s :=
  have hl : s.heap.IsList l its.toArray := ⟨_, N.get hm, rfl, n, rfl⟩
  tail_any hl.typeIs slot_list_getitem.lookup (wpAny_getItem_list hl h0 hhi (by simpa using hx) h) hs

theorem drop2 {h₀ h : Heap} {L : Addr} {a b : Addr × Obj} {r : List (Addr × Obj)} (N : News h₀ L h (a :: b :: r)) : News h₀ L h r := fun q hq => N q (.tail _ (.tail _ hq))
-- the def that catches
-- the raise, the flight, the catch, the words

theorem ite_off_dec {x : Int} {P Q : Prop} (h : Q) : if decide (x ≠ x) = true then P else Q := by rw [if_neg (by simp)]; exact h
theorem ite_off_ne {x : Int} {P Q : Prop} (h : Q) : if x ≠ x then P else Q := by rw [if_neg (by simp)]; exact h
theorem ite_off_bne {x : Bool} {P Q : Prop} (h : Q) : if (x != x) = true then P else Q := by rw [if_neg (by simp)]; exact h
theorem ite_off_ibne {x : Int} {P Q : Prop} (h : Q) : if (x != x) = true then P else Q := by rw [if_neg (by simp)]; exact h
theorem eqAt_pairN {A : Around} {s : Shared} {h₀ : Heap} {L : Addr} {news : List (Addr × Obj)} {p q : Addr} {a b : Int} {t u t' u' : Tok} (N : News h₀ L s.heap news) (hp : (p, ({ cls := .type "tuple", data := .seq #[.int a t, .int b u] } : Obj)) ∈ news)
    (hq : (q, ({ cls := .type "tuple", data := .seq #[.int a t', .int b u'] } : Obj)) ∈ news) (hu : A.units < cLine) : PySem.SeqAt.EqAt A s (.ref p) (.ref q) true :=
  eqAt_pair ⟨_, N.get hp, rfl, _, rfl⟩ ⟨_, N.get hq, rfl, _, rfl⟩ hu
abbrev ledQ : Str := (Str.ofString "_law_led_right" ++ ".<locals>.") ++ Str.ofString "<lambda>"

/-- what one call of _law_led_right leaves: the matrix as it was, the table of the lambdas' codes, and those codes -/
def LedP (ml : Addr) (o : Obj) (v : Value) (sub' : List (Addr × Obj)) : Prop :=
  v = .bool true ∧ ∃ ps c1 o1 c2 o2, sub' = [(ml, o), (159, tabObj ps), (c1, o1), (c2, o2)] ∧ Lams ledQ ps c1 o1 c2 o2 ∧ c1 ≠ ml ∧ c2 ≠ ml
abbrev mat6 (a0 a1 a2 a3 a4 a5 : Int) (t0 t1 t2 t3 t4 t5 : Tok) (n : Nat) : Obj := W.listOf #[.int a0 t0, .int a1 t1, .int a2 t2, .int a3 t3, .int a4 t4, .int a5 t5] n

theorem end_led {fs : List Addr} {s : Shared} {g g' : Heap} {L' : Addr} {h' : Heap} {m' : Str → Option Value} {news : List (Addr × Obj)} {ml c1 c2 : Addr} {its : Array Value} {k : Nat} {o1 o2 : Obj} {ps v1 v2 : Array Value} {tk' : Tok}
    (T : KtsTurn fs g g') (F : Fr g' L' h' m') (N : News g' L' h' news) (H : Lams ledQ ps c1 o1 c2 o2) (m1 : (ml, W.listOf its k) ∈ news) (m2 : (159, tabObj ps) ∈ news) (m3 : (c1, o1) ∈ news) (m4 : (c2, o2) ∈ news)
    (d1 : o1.data = .fields v1) (d2 : o2.data = .fields v2) :
    EndT fs s g (LedP ml (W.listOf its k)) (.bool true) { s with heap := h', toks := tk' } := by
  refine ⟨g', L', m', [(ml, W.listOf its k), (159, tabObj ps), (c1, o1), (c2, o2)], h', tk', rfl, T, F, pick N m1 (pick N m2 (pick N m3 (pick N m4 (fun _ h => nomatch h)))), rfl, ps, c1, o1, c2, o2, rfl, H, fun e => ?_, fun e => ?_⟩
  · have h1 := N.get m3
    rw [e, N.get m1] at h1
    cases h1
    cases d1
  · have h1 := N.get m4
    rw [e, N.get m1] at h1
    cases h1
    cases d2

set_option maxHeartbeats 8000000 in
theorem led_spec (w : World) (ml : Addr) (a0 a1 a2 a3 a4 a5 x y : Int) (t0 t1 t2 t3 t4 t5 tx ty : Tok) (n : Nat) (ps : Array Value) (c1 c2 : Addr) (o1 o2 : Obj)
    (b0 : -1000000000 ≤ a0 ∧ a0 ≤ 1000000000) (b1 : -1000000000 ≤ a1 ∧ a1 ≤ 1000000000) (b2 : -1000000000 ≤ a2 ∧ a2 ≤ 1000000000) (b3 : -1000000000 ≤ a3 ∧ a3 ≤ 1000000000)
    (hne : ml ≠ 159) (H : Lams ledQ ps c1 o1 c2 o2) :
    SpecL w 310 164 [.ref ml, .int x tx, .int y ty] [(ml, mat6 a0 a1 a2 a3 a4 a5 t0 t1 t2 t3 t4 t5 n), (159, tabObj ps), (c1, o1), (c2, o2)] (LedP ml (mat6 a0 a1 a2 a3 a4 a5 t0 t1 t2 t3 t4 t5 n)) := by
  unfold SpecL
  k_fill
  have hdet := det_small b0 b1 b2 b3
  have hn1 := H.n1
  have hn2 := H.n2
  intro gd cn cs a ccd cl A₀ base h₀ L m s news loose mean mg mb Q E B F X N T hk hsub XB TB CB k
  ((k_dflt (refine' callSCT ?k1 ?k2 ?k3 ?k4 ?k5 ?kA ?kF ?kK ?kS ?kk ?k6 ?k7 ?k8 ?k9 ?kB ?kD ?_ ?c2 ?c3 ?c4 (args := ⟨_, []⟩); (case kA => exact rfl); (case kF => exact rfl); (case kK => assumption); (case k1 => k_asm); (case k2 => k_asm); (case k3 => k_asm); (case k4 => k_asm); (case k5 => k_asm); (case kS => assumption); (case kk => assumption); (case k6 => k_is); (case k7 => k_is); (case k8 => k_room); (case k9 => exact BindsTo.of_eq rfl); (case kB => exact rfl); (case kD => decide +kernel); (case c2 => exact rfl); (case c3 => exact rfl); (case c4 => exact rfl); k_whole)))
  clear B F X N T hk hsub k
  intro g L' h' tk' cells F' N' Y' B' X' T' D' l1
  have F9 : Fr g L' h' (fun _ => none) := F'
  clear F'
  replace l1 := allLt_of l1
  simp only [AllLt, and_true] at l1
  replace hne := neN hne
  replace hn1 := neN hn1
  replace hn2 := neN hn2
  k_cells Y'
  (try simp only [List.cons_append, List.nil_append] at N')
  (try dsimp only)
  (with_reducible show wpAny _ _ _ _ _ _)
  k_fold
  repeat' (first | (k_unfold; (try dsimp only)) | (k_end; wrow_close) | ((with_reducible show wpAny _ _ (eval (Expr.Constant (Const.int _) _ _) _) _ _ _); (with_reducible refine constL ?_)) | ((with_reducible show wpAny _ _ (binaryOp Operator.Add (Value.int _ _) (Value.int _ _)) _ _ _); (with_reducible refine addL ?_)) | ((with_reducible show wpAny _ _ (binaryOp Operator.Sub (Value.int _ _) (Value.int _ _)) _ _ _); (with_reducible refine subL ?_)) | ((with_reducible show wpAny _ _ (binaryOp Operator.Mult (Value.int _ _) (Value.int _ _)) _ _ _); (with_reducible refine' mulL ?_ ?zqs1); (case zqs1 => (first | with_reducible exact ok_f1 | with_reducible exact ok_f2 | with_reducible exact ok_f3 | exact IntMulOk.of_left (by decide) | with_reducible exact ok_l (by assumption) | with_reducible exact ok_r (by assumption) | with_reducible mul_fits))) | ((with_reducible show wpAny _ _ (newTuple _) _ _ _); k_here; kup_bare; k_dflt (refine' newTupleL ?zqs2 ?zqs3 ?_ ?zqs4; (case zqs2 => k_asm); (case zqs3 => k_asm); (case zqs4 => kmk_size)); intro D' h' F' N' l1; (try k_lt l1); (try k_sweep)) | ((with_reducible show wpAny _ _ (subscriptTail ..) _ _ _); (first | ((k_here; (with_reducible show wpAny _ _ (subscriptTail _ _ (Value.ref _) (Value.int _ _)) _ _ _); k_dflt (refine' item_at ?zq8N ?zq8m ?zq8a ?zq8b ?zq8d ?_; (case zq8N => k_asm); (case zq8m => k_mem); (case zq8a => decide); (case zq8b => decide); (case zq8d => exact rfl); k_whole))))) | ((with_reducible show wpAny _ _ (compareOp ..) _ _ _); (first | ((k_here; (with_reducible show wpAny _ _ (compareOp CmpOp.Eq (Value.ref _) (Value.ref _)) _ _ _); k_dflt (refine' eq_two ?zq20N ?zq20hl ?zq20hr ?zq20hu ?zq20h1 ?zq20h2 ?_; (case zq20N => k_asm); (case zq20hl => k_mem); (case zq20hr => k_mem); (case zq20hu => ke_room); (case zq20h1 => first | exact eqAt_bytes _ _ _ | exact eqAt_pairN (by k_asm) (by k_mem) (by k_mem) (by ke_room)); (case zq20h2 => first | exact eqAt_bytes _ _ _ | exact eqAt_pairN (by k_asm) (by k_mem) (by k_mem) (by ke_room)); k_whole))))) | ((with_reducible show wpAny _ _ (exec ..) _ _ _); (first | (((with_reducible show wpAny _ _ (exec (Stmt.Raise ..) _) _ _ _); (k_here; (with_reducible show wpAny _ _ (exec (Stmt.Raise (some (Expr.Call (Expr.Name _ _) (_ :: _) [] _)) none _) _) _ _ _); k_dflt (refine raise_ps _ ?zq11hh ?_; (case zq11hh => exact rfl))))))) | ((with_reducible show wpAny _ _ (eval ..) _ _ _); (first | (((with_reducible show wpAny _ _ (eval (Expr.Lambda ..) _) _ _ _); (k_here; k_dflt (refine' kla_eval ?zq21d0 ?_; (case zq21d0 => exact rfl)); (first | (k_dflt (refine' lam_one ?zq21F ?zq21N ?zq21T ?zq21C ?zq21cd ?zq21U ?zq21a ?zq21b ?zq21H ?zq21m ?zq21cl ?_; (case zq21F => k_asm); (case zq21N => k_asm); (case zq21T => k_asm); (case zq21cd => exact rfl); (case zq21C => kn_code); (case zq21U => k_updF); (case zq21a => exact rfl); (case zq21b => exact rfl); (case zq21H => assumption); (case zq21m => k_mem); (case zq21cl => exact rfl); k_whole)) | (k_dflt (refine' lam_two ?zq21F ?zq21N ?zq21T ?zq21C ?zq21cd ?zq21U ?zq21a ?zq21b ?zq21H ?zq21m ?zq21cl ?_; (case zq21F => k_asm); (case zq21N => k_asm); (case zq21T => k_asm); (case zq21cd => exact rfl); (case zq21C => kn_code); (case zq21U => k_updF); (case zq21a => exact rfl); (case zq21b => exact rfl); (case zq21H => assumption); (case zq21m => k_mem); (case zq21cl => exact rfl); k_whole))); intro f' c' oc' vs' t' ct' ps' h' tk' F' N' d1' d2' H' hne' l1; (replace hne' := neN hne'); (try dsimp only at N'); (try k_lt l1)))))) | ((with_reducible show wpAny _ _ (call _ _ _) _ _ _); (first | ((k_here; (with_reducible show wpAny _ _ (call (Value.builtin _) [Value.ref _, _]) _ _ _); k_dflt (refine' append_K ?zq19k1 ?zq19k2 ?zq19k3 ?_ ?zq19z; (case zq19k1 => k_asm); (case zq19k2 => k_asm); (case zq19k3 => k_upd); (case zq19z => exact fits16 (Nat.le_of_ble_eq_true rfl)); k_whole); intro h' F' N'; (simp only [List.push_toArray, List.nil_append, List.cons_append] at N'); (try dsimp only at N'); (try k_sweep))) | ((k_here; (with_reducible show wpAny _ _ (call (Value.ref 45) [Value.bytes _ _]) _ _ _); k_dflt (refine' call_ps _ ?zq12k1 ?zq12k2 ?zq12k3 ?zq12k4 ?zq12k5 ?zq12kA ?zq12kH ?zq12kK ?zq12kD ?zq12kU ?_; (case zq12kA => exact rfl); (case zq12k2 => k_asm); (case zq12k1 => k_asm); (case zq12k3 => k_asm); (case zq12k4 => k_asm); (case zq12k5 => k_asm); (case zq12kH => exact rfl); (case zq12kK => exact rfl); (case zq12kD => exact Nat.le_of_ble_eq_true rfl); (case zq12kU => exact Nat.le_of_ble_eq_true rfl); k_whole); intro h' tk' e' t' dx' od' F' N' hTo' hNe')) | ((k_here; (with_reducible show wpAny _ _ (call (Value.ref 157) [Value.ref _]) _ _ _); k_dflt (refine wpAny_call ?_; (refine' code_defT ?zq10k1 ?zq10k2 ?zq10k3 ?zq10k4 ?zq10k5 ?zq10XB ?zq10TB ?zq10D ?zq10T0 ?zq10kA ?zq10kF ?zq10kK ?zq10k6 ?zq10k7 ?zq10k8 ?zq10k9 ?zq10kB ?_ ?zq10c2 ?zq10c3 ?zq10c4 ?zq10c5; (case zq10kA => exact rfl); (case zq10kF => exact rfl); (case zq10kK => exact rfl); (case zq10k2 => k_asm); (case zq10k1 => k_asm); (case zq10XB => assumption); (case zq10TB => assumption); (case zq10D => assumption); (case zq10T0 => first | assumption | exact KtsTurn.refl); (case zq10k3 => k_asm); (case zq10k4 => k_asm); (case zq10k5 => k_asm); (case zq10k6 => k_is); (case zq10k7 => k_is); (case zq10k8 => k_room); (case zq10k9 => exact BindsTo.of_eq rfl); (case zq10kB => exact locs rfl); (case zq10c2 => exact rfl); (case zq10c3 => exact rfl); (case zq10c4 => exact rfl); (case zq10c5 => decide); k_whole)); intro g' L' h' FG' F' N' B' X' T' D'; (try dsimp only); (try k_fold))) | ((k_here; (with_reducible show wpAny _ _ (call (Value.ref 61) [Value.int _ _, Value.int _ _]) _ _ _); k_dflt (refine' Spec.useI (mq_spec _ _ _ _ _ ?zq7hb ?zq7hs) ?zq7k1 ?zq7k2 ?zq7k3 ?zq7k4 ?zq7k5 ?zq7kC ?zq7kA ?zq7kH ?zq7kK ?zq7kD ?zq7kU ?_; (case zq7hb => first | assumption | omega); (case zq7hs => first | assumption | omega); (((case zq7kA => exact rfl); (case zq7k2 => k_asm); (case zq7k1 => k_asm); (case zq7k3 => k_asm); (case zq7k4 => k_asm); (case zq7k5 => k_asm); (case zq7kC => exact fun e => nomatch e); (case zq7kH => exact rfl); (case zq7kK => exact rfl); (case zq7kD => exact Nat.le_of_ble_eq_true rfl); (case zq7kU => exact Nat.le_of_ble_eq_true rfl))); k_whole); intro t' h' tk' F' N'; (try k_sweep))) | ((k_here; (with_reducible show wpAny _ _ (call (Value.ref 143) [Value.int _ _, Value.int _ _]) _ _ _); k_dflt (refine' Spec.useI (near_spec _ _ _ _ _ ?zq6hb ?zq6hs) ?zq6k1 ?zq6k2 ?zq6k3 ?zq6k4 ?zq6k5 ?zq6kC ?zq6kA ?zq6kH ?zq6kK ?zq6kD ?zq6kU ?_; (case zq6hb => first | assumption | omega); (case zq6hs => first | assumption | omega); (((case zq6kA => exact rfl); (case zq6k2 => k_asm); (case zq6k1 => k_asm); (case zq6k3 => k_asm); (case zq6k4 => k_asm); (case zq6k5 => k_asm); (case zq6kC => exact fun e => nomatch e); (case zq6kH => exact rfl); (case zq6kK => exact rfl); (case zq6kD => exact Nat.le_of_ble_eq_true rfl); (case zq6kU => exact Nat.le_of_ble_eq_true rfl))); k_whole); intro t' h' tk' F' N'; (try k_sweep))) | ((k_here; (with_reducible show wpAny _ _ (call (Value.ref 96) [Value.ref _, Value.int _ _, Value.int _ _]) _ _ _); k_dflt (refine' pair_use (trans_spec _ _ _ _ _ _ _ _ _ _ _ _ _ _ _ _ _ _ _ ?zq5b0 ?zq5b1 ?zq5b2 ?zq5b3) ?zq5hm ?zq5k1 ?zq5k2 ?zq5k3 ?zq5k4 ?zq5k5 ?zq5kA ?zq5kH ?zq5kK ?zq5kD ?zq5kU ?_; (((case zq5kA => exact rfl); (case zq5k2 => k_asm); (case zq5k1 => k_asm); (case zq5k3 => k_asm); (case zq5k4 => k_asm); (case zq5k5 => k_asm); (case zq5kH => exact rfl); (case zq5kK => exact rfl); (case zq5kD => exact Nat.le_of_ble_eq_true rfl); (case zq5kU => exact Nat.le_of_ble_eq_true rfl))); (case zq5hm => k_mem); (case zq5b0 => first | assumption | omega); (case zq5b1 => first | assumption | omega); (case zq5b2 => first | assumption | omega); (case zq5b3 => first | assumption | omega); k_whole); intro t' u1' u2' h' tk' o1' F' N'; (try k_sweep))) | ((k_here; (with_reducible show wpAny _ _ (call (Value.ref 103) [Value.ref _, Value.int _ _, Value.int _ _]) _ _ _); k_dflt (refine' pair_use (delta_spec _ _ _ _ _ _ _ _ _ _ _ _ _ _ _ _ _ _ _ ?zq4b0 ?zq4b1 ?zq4b2 ?zq4b3) ?zq4hm ?zq4k1 ?zq4k2 ?zq4k3 ?zq4k4 ?zq4k5 ?zq4kA ?zq4kH ?zq4kK ?zq4kD ?zq4kU ?_; (((case zq4kA => exact rfl); (case zq4k2 => k_asm); (case zq4k1 => k_asm); (case zq4k3 => k_asm); (case zq4k4 => k_asm); (case zq4k5 => k_asm); (case zq4kH => exact rfl); (case zq4kK => exact rfl); (case zq4kD => exact Nat.le_of_ble_eq_true rfl); (case zq4kU => exact Nat.le_of_ble_eq_true rfl))); (case zq4hm => k_mem); (case zq4b0 => first | assumption | omega); (case zq4b1 => first | assumption | omega); (case zq4b2 => first | assumption | omega); (case zq4b3 => first | assumption | omega); k_whole); intro t' u1' u2' h' tk' o1' F' N'; (try k_sweep))) | ((k_here; (with_reducible show wpAny _ _ (call (Value.ref 75) [Value.ref _]) _ _ _); k_dflt (refine' int_use (det_spec _ _ _ _ _ _ _ _ _ _ _ _ _ _ _ ?zq3b0 ?zq3b1 ?zq3b2 ?zq3b3) ?zq3hm ?zq3k1 ?zq3k2 ?zq3k3 ?zq3k4 ?zq3k5 ?zq3kA ?zq3kH ?zq3kK ?zq3kD ?zq3kU ?_; (((case zq3kA => exact rfl); (case zq3k2 => k_asm); (case zq3k1 => k_asm); (case zq3k3 => k_asm); (case zq3k4 => k_asm); (case zq3k5 => k_asm); (case zq3kH => exact rfl); (case zq3kK => exact rfl); (case zq3kD => exact Nat.le_of_ble_eq_true rfl); (case zq3kU => exact Nat.le_of_ble_eq_true rfl))); (case zq3hm => k_mem); (case zq3b0 => first | assumption | omega); (case zq3b1 => first | assumption | omega); (case zq3b2 => first | assumption | omega); (case zq3b3 => first | assumption | omega); k_whole); intro t' h' tk' F' N'; (try k_sweep))) | ((k_here; (with_reducible show wpAny _ _ (call (Value.ref 117) [Value.ref _, Value.int _ _, Value.int _ _]) _ _ _); k_dflt (refine' pair_use (invt_spec _ _ _ _ _ _ _ _ _ _ _ _ _ _ _ _ _ _ _ ?zq2hz ?zq2b0 ?zq2b1 ?zq2b2 ?zq2b3) ?zq2hm ?zq2k1 ?zq2k2 ?zq2k3 ?zq2k4 ?zq2k5 ?zq2kA ?zq2kH ?zq2kK ?zq2kD ?zq2kU ?_; (((case zq2kA => exact rfl); (case zq2k2 => k_asm); (case zq2k1 => k_asm); (case zq2k3 => k_asm); (case zq2k4 => k_asm); (case zq2k5 => k_asm); (case zq2kH => exact rfl); (case zq2kK => exact rfl); (case zq2kD => exact Nat.le_of_ble_eq_true rfl); (case zq2kU => exact Nat.le_of_ble_eq_true rfl))); (case zq2hm => k_mem); (case zq2hz => assumption); (case zq2b0 => first | assumption | omega); (case zq2b1 => first | assumption | omega); (case zq2b2 => first | assumption | omega); (case zq2b3 => first | assumption | omega); k_whole); intro t' u1' u2' h' tk' o1' F' N'; (try k_sweep))) | ((k_here; (with_reducible show wpAny _ _ (call (Value.ref 110) [Value.ref _, Value.int _ _, Value.int _ _]) _ _ _); k_dflt (refine' pair_use (inv_spec _ _ _ _ _ _ _ _ _ _ _ _ _ _ _ _ _ _ _ ?zq1hz ?zq1b0 ?zq1b1 ?zq1b2 ?zq1b3) ?zq1hm ?zq1k1 ?zq1k2 ?zq1k3 ?zq1k4 ?zq1k5 ?zq1kA ?zq1kH ?zq1kK ?zq1kD ?zq1kU ?_; (((case zq1kA => exact rfl); (case zq1k2 => k_asm); (case zq1k1 => k_asm); (case zq1k3 => k_asm); (case zq1k4 => k_asm); (case zq1k5 => k_asm); (case zq1kH => exact rfl); (case zq1kK => exact rfl); (case zq1kD => exact Nat.le_of_ble_eq_true rfl); (case zq1kU => exact Nat.le_of_ble_eq_true rfl))); (case zq1hm => k_mem); (case zq1hz => assumption); (case zq1b0 => first | assumption | omega); (case zq1b1 => first | assumption | omega); (case zq1b2 => first | assumption | omega); (case zq1b3 => first | assumption | omega); k_whole); intro t' u1' u2' h' tk' o1' F' N'; (try k_sweep))) | ((k_here; (with_reducible show wpAny _ _ (call (Value.ref 54) [Value.int _ _, Value.int _ _]) _ _ _); k_dflt (refine' Spec.useI (divided_spec _ _ _ _ _ ?zq0hb ?zq0hs) ?zq0k1 ?zq0k2 ?zq0k3 ?zq0k4 ?zq0k5 ?zq0kC ?zq0kA ?zq0kH ?zq0kK ?zq0kD ?zq0kU ?_; (case zq0hb => first | assumption | omega); (case zq0hs => first | assumption | omega); (((case zq0kA => exact rfl); (case zq0k2 => k_asm); (case zq0k1 => k_asm); (case zq0k3 => k_asm); (case zq0k4 => k_asm); (case zq0k5 => k_asm); (case zq0kC => exact fun e => nomatch e); (case zq0kH => exact rfl); (case zq0kK => exact rfl); (case zq0kD => exact Nat.le_of_ble_eq_true rfl); (case zq0kU => exact Nat.le_of_ble_eq_true rfl))); k_whole); intro t' h' tk' F' N'; (try k_sweep))))) | ((with_reducible show wpAny _ _ (getAttr _ _ _) _ _ _); (first | ((k_here; (with_reducible show wpAny _ _ (getAttr (Value.ref _) (PySem.Str.ofString "told") _) _ _ _); k_dflt (refine' get_told _ ?zq16X ?zq16he ?zq16hc ?zq16hdi ?zq16hda ?zq16hdx ?zq16hT ?_; (case zq16X => k_in); (case zq16he => exact News.get (by k_asm) (by k_mem)); (case zq16hc => assumption); (case zq16hdi => assumption); (case zq16hda => assumption); (case zq16hdx => exact News.get (by k_asm) (by k_mem)); (case zq16hT => assumption); k_whole); (with_reducible rename News _ _ _ _ => nX9); (have nY9 := drop2 nX9); clear nX9)))) | ((with_reducible show wpAny _ _ (noteFrame ..) _ _ _); (first | ((k_here; k_dflt (refine' caught_ps ?zq15R ?zq15F ?zq15K ?zq15U ?zq15XB ?zq15TB ?zq15D ?zq15T0 ?zq15ex ?_; (case zq15R => assumption); (case zq15F => assumption); (case zq15K => assumption); (case zq15U => assumption); (case zq15XB => assumption); (case zq15TB => assumption); (case zq15D => assumption); (case zq15T0 => first | assumption | exact KtsTurn.refl); (case zq15ex => k_is); k_whole); intro h' g' oe' ws' tk' T' F' N' hc' hdi' hda' K' X' P' D'; (try k_sweep))))) | ((with_reducible show wpAny _ _ (leaving ..) _ _ _); (first | (with_reducible ((k_here; first | (refine' leave_first ?zq14K ?zq14F ?zq14N ?zq14ne ?zq14hf ?zq14hk ?_; (case zq14N => assumption); (case zq14F => assumption); (case zq14K => assumption); (case zq14ne => assumption); (case zq14hf => exact rfl); (case zq14hk => exact rfl); k_whole; intro h' R' U'; (try dsimp only at R' U' ⊢)) | (refine' leave_next ?zq14K ?zq14F ?zq14R ?zq14U ?zq14hf ?_; (case zq14R => assumption); (case zq14F => assumption); (case zq14K => assumption); (case zq14U => assumption); (case zq14hf => exact rfl); k_whole; intro h' R' U'; (try dsimp only at R' U' ⊢))))) | ((k_here; first | (refine' leave_first ?zq14K ?zq14F ?zq14N ?zq14ne ?zq14hf ?zq14hk ?_; (case zq14N => assumption); (case zq14F => assumption); (case zq14K => assumption); (case zq14ne => assumption); (case zq14hf => exact rfl); (case zq14hk => exact rfl); k_whole; intro h' R' U'; (try dsimp only at R' U' ⊢)) | (refine' leave_next ?zq14K ?zq14F ?zq14R ?zq14U ?zq14hf ?_; (case zq14R => assumption); (case zq14F => assumption); (case zq14K => assumption); (case zq14U => assumption); (case zq14hf => exact rfl); k_whole; intro h' R' U'; (try dsimp only at R' U' ⊢)))))) | ((with_reducible show wpAny _ _ (callWith ..) _ _ _); (first | ((k_here; k_dflt (refine' callWith_K ?zq9k1 ?zq9k2 ?_; (case zq9k1 => k_asm); (case zq9k2 => k_is); k_whole))))) | ((with_reducible show EndT ..); (first | (with_reducible ((refine' end_led ?zq22T ?zq22F ?zq22N ?zq22H ?zq22m1 ?zq22m2 ?zq22m3 ?zq22m4 ?zq22d1 ?zq22d2; (case zq22T => first | assumption | exact KtsTurn.refl); (case zq22F => k_asm); (case zq22N => k_asm); (case zq22H => assumption); (case zq22m1 => k_mem); (case zq22m2 => k_mem); (case zq22m3 => k_mem); (case zq22m4 => k_mem); (case zq22d1 => assumption); (case zq22d2 => assumption)))) | ((refine' end_led ?zq22T ?zq22F ?zq22N ?zq22H ?zq22m1 ?zq22m2 ?zq22m3 ?zq22m4 ?zq22d1 ?zq22d2; (case zq22T => first | assumption | exact KtsTurn.refl); (case zq22F => k_asm); (case zq22N => k_asm); (case zq22H => assumption); (case zq22m1 => k_mem); (case zq22m2 => k_mem); (case zq22m3 => k_mem); (case zq22m4 => k_mem); (case zq22d1 => assumption); (case zq22d2 => assumption))))) | ((with_reducible show ite ..); (first | ((with_reducible (first | refine ite_beq_on (by assumption) ?_ | refine ite_beq_off (by assumption) ?_))) | ((with_reducible (first | refine ite_off_bne ?_ | refine ite_off_ibne ?_ | refine ite_off_dec ?_ | refine ite_off_ne ?_))))) | ((with_reducible show RaiseBack ..); (first | (with_reducible ((refine' ⟨_, _, _, rfl, ?zq13X, ?zq13he, ?_⟩; (case zq13X => k_in); (case zq13he => exact News.get (by k_asm) (by k_mem))))) | ((refine' ⟨_, _, _, rfl, ?zq13X, ?zq13he, ?_⟩; (case zq13X => k_in); (case zq13he => exact News.get (by k_asm) (by k_mem)))))) | walk1 | (dsimp only; (first | ((with_reducible show wpAny _ _ (eval (Expr.Constant (Const.int _) _ _) _) _ _ _); (with_reducible refine constL ?_)) | ((with_reducible show wpAny _ _ (binaryOp Operator.Add (Value.int _ _) (Value.int _ _)) _ _ _); (with_reducible refine addL ?_)) | ((with_reducible show wpAny _ _ (binaryOp Operator.Sub (Value.int _ _) (Value.int _ _)) _ _ _); (with_reducible refine subL ?_)) | ((with_reducible show wpAny _ _ (binaryOp Operator.Mult (Value.int _ _) (Value.int _ _)) _ _ _); (with_reducible refine' mulL ?_ ?zqs1); (case zqs1 => (first | with_reducible exact ok_f1 | with_reducible exact ok_f2 | with_reducible exact ok_f3 | exact IntMulOk.of_left (by decide) | with_reducible exact ok_l (by assumption) | with_reducible exact ok_r (by assumption) | with_reducible mul_fits))) | ((with_reducible show wpAny _ _ (newTuple _) _ _ _); k_here; kup_bare; k_dflt (refine' newTupleL ?zqs2 ?zqs3 ?_ ?zqs4; (case zqs2 => k_asm); (case zqs3 => k_asm); (case zqs4 => kmk_size)); intro D' h' F' N' l1; (try k_lt l1); (try k_sweep)) | ((with_reducible show wpAny _ _ (subscriptTail ..) _ _ _); (first | ((k_here; (with_reducible show wpAny _ _ (subscriptTail _ _ (Value.ref _) (Value.int _ _)) _ _ _); k_dflt (refine' item_at ?zq8N ?zq8m ?zq8a ?zq8b ?zq8d ?_; (case zq8N => k_asm); (case zq8m => k_mem); (case zq8a => decide); (case zq8b => decide); (case zq8d => exact rfl); k_whole))))) | ((with_reducible show wpAny _ _ (compareOp ..) _ _ _); (first | ((k_here; (with_reducible show wpAny _ _ (compareOp CmpOp.Eq (Value.ref _) (Value.ref _)) _ _ _); k_dflt (refine' eq_two ?zq20N ?zq20hl ?zq20hr ?zq20hu ?zq20h1 ?zq20h2 ?_; (case zq20N => k_asm); (case zq20hl => k_mem); (case zq20hr => k_mem); (case zq20hu => ke_room); (case zq20h1 => first | exact eqAt_bytes _ _ _ | exact eqAt_pairN (by k_asm) (by k_mem) (by k_mem) (by ke_room)); (case zq20h2 => first | exact eqAt_bytes _ _ _ | exact eqAt_pairN (by k_asm) (by k_mem) (by k_mem) (by ke_room)); k_whole))))) | ((with_reducible show wpAny _ _ (exec ..) _ _ _); (first | (((with_reducible show wpAny _ _ (exec (Stmt.Raise ..) _) _ _ _); (k_here; (with_reducible show wpAny _ _ (exec (Stmt.Raise (some (Expr.Call (Expr.Name _ _) (_ :: _) [] _)) none _) _) _ _ _); k_dflt (refine raise_ps _ ?zq11hh ?_; (case zq11hh => exact rfl))))))) | ((with_reducible show wpAny _ _ (eval ..) _ _ _); (first | (((with_reducible show wpAny _ _ (eval (Expr.Lambda ..) _) _ _ _); (k_here; k_dflt (refine' kla_eval ?zq21d0 ?_; (case zq21d0 => exact rfl)); (first | (k_dflt (refine' lam_one ?zq21F ?zq21N ?zq21T ?zq21C ?zq21cd ?zq21U ?zq21a ?zq21b ?zq21H ?zq21m ?zq21cl ?_; (case zq21F => k_asm); (case zq21N => k_asm); (case zq21T => k_asm); (case zq21cd => exact rfl); (case zq21C => kn_code); (case zq21U => k_updF); (case zq21a => exact rfl); (case zq21b => exact rfl); (case zq21H => assumption); (case zq21m => k_mem); (case zq21cl => exact rfl); k_whole)) | (k_dflt (refine' lam_two ?zq21F ?zq21N ?zq21T ?zq21C ?zq21cd ?zq21U ?zq21a ?zq21b ?zq21H ?zq21m ?zq21cl ?_; (case zq21F => k_asm); (case zq21N => k_asm); (case zq21T => k_asm); (case zq21cd => exact rfl); (case zq21C => kn_code); (case zq21U => k_updF); (case zq21a => exact rfl); (case zq21b => exact rfl); (case zq21H => assumption); (case zq21m => k_mem); (case zq21cl => exact rfl); k_whole))); intro f' c' oc' vs' t' ct' ps' h' tk' F' N' d1' d2' H' hne' l1; (replace hne' := neN hne'); (try dsimp only at N'); (try k_lt l1)))))) | ((with_reducible show wpAny _ _ (call _ _ _) _ _ _); (first | ((k_here; (with_reducible show wpAny _ _ (call (Value.builtin _) [Value.ref _, _]) _ _ _); k_dflt (refine' append_K ?zq19k1 ?zq19k2 ?zq19k3 ?_ ?zq19z; (case zq19k1 => k_asm); (case zq19k2 => k_asm); (case zq19k3 => k_upd); (case zq19z => exact fits16 (Nat.le_of_ble_eq_true rfl)); k_whole); intro h' F' N'; (simp only [List.push_toArray, List.nil_append, List.cons_append] at N'); (try dsimp only at N'); (try k_sweep))) | ((k_here; (with_reducible show wpAny _ _ (call (Value.ref 45) [Value.bytes _ _]) _ _ _); k_dflt (refine' call_ps _ ?zq12k1 ?zq12k2 ?zq12k3 ?zq12k4 ?zq12k5 ?zq12kA ?zq12kH ?zq12kK ?zq12kD ?zq12kU ?_; (case zq12kA => exact rfl); (case zq12k2 => k_asm); (case zq12k1 => k_asm); (case zq12k3 => k_asm); (case zq12k4 => k_asm); (case zq12k5 => k_asm); (case zq12kH => exact rfl); (case zq12kK => exact rfl); (case zq12kD => exact Nat.le_of_ble_eq_true rfl); (case zq12kU => exact Nat.le_of_ble_eq_true rfl); k_whole); intro h' tk' e' t' dx' od' F' N' hTo' hNe')) | ((k_here; (with_reducible show wpAny _ _ (call (Value.ref 157) [Value.ref _]) _ _ _); k_dflt (refine wpAny_call ?_; (refine' code_defT ?zq10k1 ?zq10k2 ?zq10k3 ?zq10k4 ?zq10k5 ?zq10XB ?zq10TB ?zq10D ?zq10T0 ?zq10kA ?zq10kF ?zq10kK ?zq10k6 ?zq10k7 ?zq10k8 ?zq10k9 ?zq10kB ?_ ?zq10c2 ?zq10c3 ?zq10c4 ?zq10c5; (case zq10kA => exact rfl); (case zq10kF => exact rfl); (case zq10kK => exact rfl); (case zq10k2 => k_asm); (case zq10k1 => k_asm); (case zq10XB => assumption); (case zq10TB => assumption); (case zq10D => assumption); (case zq10T0 => first | assumption | exact KtsTurn.refl); (case zq10k3 => k_asm); (case zq10k4 => k_asm); (case zq10k5 => k_asm); (case zq10k6 => k_is); (case zq10k7 => k_is); (case zq10k8 => k_room); (case zq10k9 => exact BindsTo.of_eq rfl); (case zq10kB => exact locs rfl); (case zq10c2 => exact rfl); (case zq10c3 => exact rfl); (case zq10c4 => exact rfl); (case zq10c5 => decide); k_whole)); intro g' L' h' FG' F' N' B' X' T' D'; (try dsimp only); (try k_fold))) | ((k_here; (with_reducible show wpAny _ _ (call (Value.ref 61) [Value.int _ _, Value.int _ _]) _ _ _); k_dflt (refine' Spec.useI (mq_spec _ _ _ _ _ ?zq7hb ?zq7hs) ?zq7k1 ?zq7k2 ?zq7k3 ?zq7k4 ?zq7k5 ?zq7kC ?zq7kA ?zq7kH ?zq7kK ?zq7kD ?zq7kU ?_; (case zq7hb => first | assumption | omega); (case zq7hs => first | assumption | omega); (((case zq7kA => exact rfl); (case zq7k2 => k_asm); (case zq7k1 => k_asm); (case zq7k3 => k_asm); (case zq7k4 => k_asm); (case zq7k5 => k_asm); (case zq7kC => exact fun e => nomatch e); (case zq7kH => exact rfl); (case zq7kK => exact rfl); (case zq7kD => exact Nat.le_of_ble_eq_true rfl); (case zq7kU => exact Nat.le_of_ble_eq_true rfl))); k_whole); intro t' h' tk' F' N'; (try k_sweep))) | ((k_here; (with_reducible show wpAny _ _ (call (Value.ref 143) [Value.int _ _, Value.int _ _]) _ _ _); k_dflt (refine' Spec.useI (near_spec _ _ _ _ _ ?zq6hb ?zq6hs) ?zq6k1 ?zq6k2 ?zq6k3 ?zq6k4 ?zq6k5 ?zq6kC ?zq6kA ?zq6kH ?zq6kK ?zq6kD ?zq6kU ?_; (case zq6hb => first | assumption | omega); (case zq6hs => first | assumption | omega); (((case zq6kA => exact rfl); (case zq6k2 => k_asm); (case zq6k1 => k_asm); (case zq6k3 => k_asm); (case zq6k4 => k_asm); (case zq6k5 => k_asm); (case zq6kC => exact fun e => nomatch e); (case zq6kH => exact rfl); (case zq6kK => exact rfl); (case zq6kD => exact Nat.le_of_ble_eq_true rfl); (case zq6kU => exact Nat.le_of_ble_eq_true rfl))); k_whole); intro t' h' tk' F' N'; (try k_sweep))) | ((k_here; (with_reducible show wpAny _ _ (call (Value.ref 96) [Value.ref _, Value.int _ _, Value.int _ _]) _ _ _); k_dflt (refine' pair_use (trans_spec _ _ _ _ _ _ _ _ _ _ _ _ _ _ _ _ _ _ _ ?zq5b0 ?zq5b1 ?zq5b2 ?zq5b3) ?zq5hm ?zq5k1 ?zq5k2 ?zq5k3 ?zq5k4 ?zq5k5 ?zq5kA ?zq5kH ?zq5kK ?zq5kD ?zq5kU ?_; (((case zq5kA => exact rfl); (case zq5k2 => k_asm); (case zq5k1 => k_asm); (case zq5k3 => k_asm); (case zq5k4 => k_asm); (case zq5k5 => k_asm); (case zq5kH => exact rfl); (case zq5kK => exact rfl); (case zq5kD => exact Nat.le_of_ble_eq_true rfl); (case zq5kU => exact Nat.le_of_ble_eq_true rfl))); (case zq5hm => k_mem); (case zq5b0 => first | assumption | omega); (case zq5b1 => first | assumption | omega); (case zq5b2 => first | assumption | omega); (case zq5b3 => first | assumption | omega); k_whole); intro t' u1' u2' h' tk' o1' F' N'; (try k_sweep))) | ((k_here; (with_reducible show wpAny _ _ (call (Value.ref 103) [Value.ref _, Value.int _ _, Value.int _ _]) _ _ _); k_dflt (refine' pair_use (delta_spec _ _ _ _ _ _ _ _ _ _ _ _ _ _ _ _ _ _ _ ?zq4b0 ?zq4b1 ?zq4b2 ?zq4b3) ?zq4hm ?zq4k1 ?zq4k2 ?zq4k3 ?zq4k4 ?zq4k5 ?zq4kA ?zq4kH ?zq4kK ?zq4kD ?zq4kU ?_; (((case zq4kA => exact rfl); (case zq4k2 => k_asm); (case zq4k1 => k_asm); (case zq4k3 => k_asm); (case zq4k4 => k_asm); (case zq4k5 => k_asm); (case zq4kH => exact rfl); (case zq4kK => exact rfl); (case zq4kD => exact Nat.le_of_ble_eq_true rfl); (case zq4kU => exact Nat.le_of_ble_eq_true rfl))); (case zq4hm => k_mem); (case zq4b0 => first | assumption | omega); (case zq4b1 => first | assumption | omega); (case zq4b2 => first | assumption | omega); (case zq4b3 => first | assumption | omega); k_whole); intro t' u1' u2' h' tk' o1' F' N'; (try k_sweep))) | ((k_here; (with_reducible show wpAny _ _ (call (Value.ref 75) [Value.ref _]) _ _ _); k_dflt (refine' int_use (det_spec _ _ _ _ _ _ _ _ _ _ _ _ _ _ _ ?zq3b0 ?zq3b1 ?zq3b2 ?zq3b3) ?zq3hm ?zq3k1 ?zq3k2 ?zq3k3 ?zq3k4 ?zq3k5 ?zq3kA ?zq3kH ?zq3kK ?zq3kD ?zq3kU ?_; (((case zq3kA => exact rfl); (case zq3k2 => k_asm); (case zq3k1 => k_asm); (case zq3k3 => k_asm); (case zq3k4 => k_asm); (case zq3k5 => k_asm); (case zq3kH => exact rfl); (case zq3kK => exact rfl); (case zq3kD => exact Nat.le_of_ble_eq_true rfl); (case zq3kU => exact Nat.le_of_ble_eq_true rfl))); (case zq3hm => k_mem); (case zq3b0 => first | assumption | omega); (case zq3b1 => first | assumption | omega); (case zq3b2 => first | assumption | omega); (case zq3b3 => first | assumption | omega); k_whole); intro t' h' tk' F' N'; (try k_sweep))) | ((k_here; (with_reducible show wpAny _ _ (call (Value.ref 117) [Value.ref _, Value.int _ _, Value.int _ _]) _ _ _); k_dflt (refine' pair_use (invt_spec _ _ _ _ _ _ _ _ _ _ _ _ _ _ _ _ _ _ _ ?zq2hz ?zq2b0 ?zq2b1 ?zq2b2 ?zq2b3) ?zq2hm ?zq2k1 ?zq2k2 ?zq2k3 ?zq2k4 ?zq2k5 ?zq2kA ?zq2kH ?zq2kK ?zq2kD ?zq2kU ?_; (((case zq2kA => exact rfl); (case zq2k2 => k_asm); (case zq2k1 => k_asm); (case zq2k3 => k_asm); (case zq2k4 => k_asm); (case zq2k5 => k_asm); (case zq2kH => exact rfl); (case zq2kK => exact rfl); (case zq2kD => exact Nat.le_of_ble_eq_true rfl); (case zq2kU => exact Nat.le_of_ble_eq_true rfl))); (case zq2hm => k_mem); (case zq2hz => assumption); (case zq2b0 => first | assumption | omega); (case zq2b1 => first | assumption | omega); (case zq2b2 => first | assumption | omega); (case zq2b3 => first | assumption | omega); k_whole); intro t' u1' u2' h' tk' o1' F' N'; (try k_sweep))) | ((k_here; (with_reducible show wpAny _ _ (call (Value.ref 110) [Value.ref _, Value.int _ _, Value.int _ _]) _ _ _); k_dflt (refine' pair_use (inv_spec _ _ _ _ _ _ _ _ _ _ _ _ _ _ _ _ _ _ _ ?zq1hz ?zq1b0 ?zq1b1 ?zq1b2 ?zq1b3) ?zq1hm ?zq1k1 ?zq1k2 ?zq1k3 ?zq1k4 ?zq1k5 ?zq1kA ?zq1kH ?zq1kK ?zq1kD ?zq1kU ?_; (((case zq1kA => exact rfl); (case zq1k2 => k_asm); (case zq1k1 => k_asm); (case zq1k3 => k_asm); (case zq1k4 => k_asm); (case zq1k5 => k_asm); (case zq1kH => exact rfl); (case zq1kK => exact rfl); (case zq1kD => exact Nat.le_of_ble_eq_true rfl); (case zq1kU => exact Nat.le_of_ble_eq_true rfl))); (case zq1hm => k_mem); (case zq1hz => assumption); (case zq1b0 => first | assumption | omega); (case zq1b1 => first | assumption | omega); (case zq1b2 => first | assumption | omega); (case zq1b3 => first | assumption | omega); k_whole); intro t' u1' u2' h' tk' o1' F' N'; (try k_sweep))) | ((k_here; (with_reducible show wpAny _ _ (call (Value.ref 54) [Value.int _ _, Value.int _ _]) _ _ _); k_dflt (refine' Spec.useI (divided_spec _ _ _ _ _ ?zq0hb ?zq0hs) ?zq0k1 ?zq0k2 ?zq0k3 ?zq0k4 ?zq0k5 ?zq0kC ?zq0kA ?zq0kH ?zq0kK ?zq0kD ?zq0kU ?_; (case zq0hb => first | assumption | omega); (case zq0hs => first | assumption | omega); (((case zq0kA => exact rfl); (case zq0k2 => k_asm); (case zq0k1 => k_asm); (case zq0k3 => k_asm); (case zq0k4 => k_asm); (case zq0k5 => k_asm); (case zq0kC => exact fun e => nomatch e); (case zq0kH => exact rfl); (case zq0kK => exact rfl); (case zq0kD => exact Nat.le_of_ble_eq_true rfl); (case zq0kU => exact Nat.le_of_ble_eq_true rfl))); k_whole); intro t' h' tk' F' N'; (try k_sweep))))) | ((with_reducible show wpAny _ _ (getAttr _ _ _) _ _ _); (first | ((k_here; (with_reducible show wpAny _ _ (getAttr (Value.ref _) (PySem.Str.ofString "told") _) _ _ _); k_dflt (refine' get_told _ ?zq16X ?zq16he ?zq16hc ?zq16hdi ?zq16hda ?zq16hdx ?zq16hT ?_; (case zq16X => k_in); (case zq16he => exact News.get (by k_asm) (by k_mem)); (case zq16hc => assumption); (case zq16hdi => assumption); (case zq16hda => assumption); (case zq16hdx => exact News.get (by k_asm) (by k_mem)); (case zq16hT => assumption); k_whole); (with_reducible rename News _ _ _ _ => nX9); (have nY9 := drop2 nX9); clear nX9)))) | ((with_reducible show wpAny _ _ (noteFrame ..) _ _ _); (first | ((k_here; k_dflt (refine' caught_ps ?zq15R ?zq15F ?zq15K ?zq15U ?zq15XB ?zq15TB ?zq15D ?zq15T0 ?zq15ex ?_; (case zq15R => assumption); (case zq15F => assumption); (case zq15K => assumption); (case zq15U => assumption); (case zq15XB => assumption); (case zq15TB => assumption); (case zq15D => assumption); (case zq15T0 => first | assumption | exact KtsTurn.refl); (case zq15ex => k_is); k_whole); intro h' g' oe' ws' tk' T' F' N' hc' hdi' hda' K' X' P' D'; (try k_sweep))))) | ((with_reducible show wpAny _ _ (leaving ..) _ _ _); (first | (with_reducible ((k_here; first | (refine' leave_first ?zq14K ?zq14F ?zq14N ?zq14ne ?zq14hf ?zq14hk ?_; (case zq14N => assumption); (case zq14F => assumption); (case zq14K => assumption); (case zq14ne => assumption); (case zq14hf => exact rfl); (case zq14hk => exact rfl); k_whole; intro h' R' U'; (try dsimp only at R' U' ⊢)) | (refine' leave_next ?zq14K ?zq14F ?zq14R ?zq14U ?zq14hf ?_; (case zq14R => assumption); (case zq14F => assumption); (case zq14K => assumption); (case zq14U => assumption); (case zq14hf => exact rfl); k_whole; intro h' R' U'; (try dsimp only at R' U' ⊢))))) | ((k_here; first | (refine' leave_first ?zq14K ?zq14F ?zq14N ?zq14ne ?zq14hf ?zq14hk ?_; (case zq14N => assumption); (case zq14F => assumption); (case zq14K => assumption); (case zq14ne => assumption); (case zq14hf => exact rfl); (case zq14hk => exact rfl); k_whole; intro h' R' U'; (try dsimp only at R' U' ⊢)) | (refine' leave_next ?zq14K ?zq14F ?zq14R ?zq14U ?zq14hf ?_; (case zq14R => assumption); (case zq14F => assumption); (case zq14K => assumption); (case zq14U => assumption); (case zq14hf => exact rfl); k_whole; intro h' R' U'; (try dsimp only at R' U' ⊢)))))) | ((with_reducible show wpAny _ _ (callWith ..) _ _ _); (first | ((k_here; k_dflt (refine' callWith_K ?zq9k1 ?zq9k2 ?_; (case zq9k1 => k_asm); (case zq9k2 => k_is); k_whole))))) | ((with_reducible show EndT ..); (first | (with_reducible ((refine' end_led ?zq22T ?zq22F ?zq22N ?zq22H ?zq22m1 ?zq22m2 ?zq22m3 ?zq22m4 ?zq22d1 ?zq22d2; (case zq22T => first | assumption | exact KtsTurn.refl); (case zq22F => k_asm); (case zq22N => k_asm); (case zq22H => assumption); (case zq22m1 => k_mem); (case zq22m2 => k_mem); (case zq22m3 => k_mem); (case zq22m4 => k_mem); (case zq22d1 => assumption); (case zq22d2 => assumption)))) | ((refine' end_led ?zq22T ?zq22F ?zq22N ?zq22H ?zq22m1 ?zq22m2 ?zq22m3 ?zq22m4 ?zq22d1 ?zq22d2; (case zq22T => first | assumption | exact KtsTurn.refl); (case zq22F => k_asm); (case zq22N => k_asm); (case zq22H => assumption); (case zq22m1 => k_mem); (case zq22m2 => k_mem); (case zq22m3 => k_mem); (case zq22m4 => k_mem); (case zq22d1 => assumption); (case zq22d2 => assumption))))) | ((with_reducible show ite ..); (first | ((with_reducible (first | refine ite_beq_on (by assumption) ?_ | refine ite_beq_off (by assumption) ?_))) | ((with_reducible (first | refine ite_off_bne ?_ | refine ite_off_ibne ?_ | refine ite_off_dec ?_ | refine ite_off_ne ?_))))) | ((with_reducible show RaiseBack ..); (first | (with_reducible ((refine' ⟨_, _, _, rfl, ?zq13X, ?zq13he, ?_⟩; (case zq13X => k_in); (case zq13he => exact News.get (by k_asm) (by k_mem))))) | ((refine' ⟨_, _, _, rfl, ?zq13X, ?zq13he, ?_⟩; (case zq13X => k_in); (case zq13he => exact News.get (by k_asm) (by k_mem)))))) | walk1)) | (leave1; walk_say "STEP leave1"; try dsimp only) | fail "no step")
end Mine
end

section
open PySem PySem.W PySem.Calls PyProof.Rows
namespace Mine

theorem rq_near (n : Int) : -1000000 ≤ 2000000 * rq n 1000000 - 2 * n ∧ 2000000 * rq n 1000000 - 2 * n ≤ 1000000 := by
  rw [rq_pos (by decide)]; unfold rnd
  split <;> omega

theorem mul_abs_le {b d G : Int} (h1 : -G ≤ d) (h2 : d ≤ G) : b * d ≤ G * (if b < 0 then -b else b) ∧ -(G * (if b < 0 then -b else b)) ≤ b * d := by
  split
  · have h : (-b) * d ≤ (-b) * G := Int.mul_le_mul_of_nonneg_left h2 (by omega)
    have g : (-b) * (-G) ≤ (-b) * d := Int.mul_le_mul_of_nonneg_left h1 (by omega)
    simp only [Int.neg_mul, Int.mul_neg, Int.mul_comm G] at h g ⊢
    omega
  · have h : b * d ≤ b * G := Int.mul_le_mul_of_nonneg_left h2 (by omega)
    have g : b * (-G) ≤ b * d := Int.mul_le_mul_of_nonneg_left h1 (by omega)
    simp only [Int.mul_neg, Int.mul_comm G] at h g ⊢
    omega

theorem room_id {a0 a1 a2 a3 a4 a5 b0 b2 x y r1 r2 r3 r4 r5 r6 r7 d1 d2 d3 d4 d5 d6 d7 : Int}
    (h1 : 2000000 * r1 - 2 * (a0 * x + a2 * y) = d1) (h2 : 2000000 * r2 - 2 * (a1 * x + a3 * y) = d2)
    (h3 : 2000000 * r3 - 2 * (b0 * (r1 + a4) + b2 * (r2 + a5)) = d3) (h4 : 2000000 * r4 - 2 * (r5 * x + r6 * y) = d4)
    (h5 : 2000000 * r5 - 2 * (a0 * b0 + a1 * b2) = d5) (h6 : 2000000 * r6 - 2 * (a2 * b0 + a3 * b2) = d6) (h7 : 2000000 * r7 - 2 * (a4 * b0 + a5 * b2) = d7) :
    2000000 * (2000000 * (r3 - r4 - r7)) = 2 * (b0 * d1) + 2 * (b2 * d2) - 2 * (x * d5) - 2 * (y * d6) + 2000000 * (d3 - d4 - d7) := by
  subst h1 h2 h3 h4 h5 h6 h7
  grind

theorem room_ok (a0 a1 a2 a3 a4 a5 b0 b2 b4 x y : Int) :
    decide ((if rq (b0 * (rq (a0 * x + a2 * y) 1000000 + a4) + b2 * (rq (a1 * x + a3 * y) 1000000 + a5)) 1000000 + b4 - (rq (rq (a0 * b0 + a1 * b2) 1000000 * x + rq (a2 * b0 + a3 * b2) 1000000 * y) 1000000 + (rq (a4 * b0 + a5 * b2) 1000000 + b4)) < 0 then
        -(rq (b0 * (rq (a0 * x + a2 * y) 1000000 + a4) + b2 * (rq (a1 * x + a3 * y) 1000000 + a5)) 1000000 + b4 - (rq (rq (a0 * b0 + a1 * b2) 1000000 * x + rq (a2 * b0 + a3 * b2) 1000000 * y) 1000000 + (rq (a4 * b0 + a5 * b2) 1000000 + b4)))
      else rq (b0 * (rq (a0 * x + a2 * y) 1000000 + a4) + b2 * (rq (a1 * x + a3 * y) 1000000 + a5)) 1000000 + b4 - (rq (rq (a0 * b0 + a1 * b2) 1000000 * x + rq (a2 * b0 + a3 * b2) 1000000 * y) 1000000 + (rq (a4 * b0 + a5 * b2) 1000000 + b4))) ≤
      2 + (((if b0 < 0 then -b0 else b0) + (if b2 < 0 then -b2 else b2) + 2 * (if x < 0 then -x else x)) + 2 * (if y < 0 then -y else y)).fdiv 1000000) = true := by
  rw [decide_eq_true_eq]
  have n1 := rq_near (a0 * x + a2 * y)
  have n2 := rq_near (a1 * x + a3 * y)
  have n3 := rq_near (b0 * (rq (a0 * x + a2 * y) 1000000 + a4) + b2 * (rq (a1 * x + a3 * y) 1000000 + a5))
  have n4 := rq_near (rq (a0 * b0 + a1 * b2) 1000000 * x + rq (a2 * b0 + a3 * b2) 1000000 * y)
  have n5 := rq_near (a0 * b0 + a1 * b2)
  have n6 := rq_near (a2 * b0 + a3 * b2)
  have n7 := rq_near (a4 * b0 + a5 * b2)
  have e := room_id (x := x) (y := y) (a0 := a0) (a1 := a1) (a2 := a2) (a3 := a3) (a4 := a4) (a5 := a5) (b0 := b0) (b2 := b2) (r1 := rq (a0 * x + a2 * y) 1000000) (r2 := rq (a1 * x + a3 * y) 1000000) (r5 := rq (a0 * b0 + a1 * b2) 1000000) (r6 := rq (a2 * b0 + a3 * b2) 1000000) (r7 := rq (a4 * b0 + a5 * b2) 1000000)
    (r3 := rq (b0 * (rq (a0 * x + a2 * y) 1000000 + a4) + b2 * (rq (a1 * x + a3 * y) 1000000 + a5)) 1000000) (r4 := rq (rq (a0 * b0 + a1 * b2) 1000000 * x + rq (a2 * b0 + a3 * b2) 1000000 * y) 1000000) rfl rfl rfl rfl rfl rfl rfl
  have m1 := mul_abs_le (b := b0) n1.1 n1.2
  have m2 := mul_abs_le (b := b2) n2.1 n2.2
  have m5 := mul_abs_le (b := x) n5.1 n5.2
  have m6 := mul_abs_le (b := y) n6.1 n6.2
  generalize rq (b0 * (rq (a0 * x + a2 * y) 1000000 + a4) + b2 * (rq (a1 * x + a3 * y) 1000000 + a5)) 1000000 = r3 at *
  generalize rq (rq (a0 * b0 + a1 * b2) 1000000 * x + rq (a2 * b0 + a3 * b2) 1000000 * y) 1000000 = r4 at *
  generalize rq (a4 * b0 + a5 * b2) 1000000 = r7 at *
  generalize 2000000 * rq (a0 * x + a2 * y) 1000000 - 2 * (a0 * x + a2 * y) = d1 at *
  generalize 2000000 * rq (a1 * x + a3 * y) 1000000 - 2 * (a1 * x + a3 * y) = d2 at *
  generalize 2000000 * rq (a0 * b0 + a1 * b2) 1000000 - 2 * (a0 * b0 + a1 * b2) = d5 at *
  generalize 2000000 * rq (a2 * b0 + a3 * b2) 1000000 - 2 * (a2 * b0 + a3 * b2) = d6 at *
  rw [fdiv_pos (by decide)]
  generalize (if b0 < 0 then -b0 else b0) = A at *
  generalize (if b2 < 0 then -b2 else b2) = B at *
  have hx : 0 ≤ (if x < 0 then -x else x) := by split <;> omega
  have hy : 0 ≤ (if y < 0 then -y else y) := by split <;> omega
  generalize (if x < 0 then -x else x) = X at *
  generalize (if y < 0 then -y else y) = Y at *
  generalize b0 * d1 = p1 at *
  generalize b2 * d2 = p2 at *
  generalize x * d5 = p5 at *
  generalize y * d6 = p6 at *
  generalize 2000000 * r4 - 2 * _ = d4 at *
  generalize 2000000 * r7 - 2 * _ = d7 at *
  generalize 2000000 * r3 - 2 * _ = d3 at *
  omega
end Mine
end

section
open PySem PySem.W PySem.Calls PyProof.Rows Mine
local macro_rules | `(tactic| lcg_off) => `(tactic| (with_reducible assumption))

section
open PySem PySem.W PySem.Calls PyProof.Rows
namespace Mine
theorem item_at' {prog : Program} {w : World} {A : Around} {E : Value → Shared → Prop} {s : Shared} {h₀ : Heap} {L l : Addr} {news : List (Addr × Obj)} {its : List Value} {n : Nat} {k : Int} {u : Tok} {v : Value} {value slice : Expr} {Q : Value → Shared → Prop}
    (N : News h₀ L s.heap news) (hm : (l, W.listOf its.toArray n) ∈ news) (h0 : 0 ≤ k) (hhi : k < 2 ^ 63) (hx : its[k.toNat]? = some v) (h : Q v s)
    (hs : subscripted slice false (.ref l) (.int k u) = operate [.ref l, .int k u] (getItem (.ref l) (.int k u)) := by with_unfolding_all rfl) :
    wpAny (model prog w) A (subscriptTail value slice (.ref l) (.int k u)) Q E s :=
  have hl : s.heap.IsList l its.toArray := ⟨_, N.get hm, rfl, n, rfl⟩
  tail_any hl.typeIs slot_list_getitem.lookup (wpAny_getItem_list hl h0 hhi (by simpa using hx) h) hs


theorem eqAt_true {A : Around} {s : Shared} {b : Bool} (h : b = true) : PySem.SeqAt.EqAt A s (.bool b) (.bool true) true := by
  subst h
  exact PySem.SeqAt.EqAt.bool_bool true true
theorem eq_bools {prog : Program} {w : World} {A : Around} {E : Value → Shared → Prop} {s : Shared} {h₀ : Heap} {L : Addr} {news : List (Addr × Obj)} {Q : Value → Shared → Prop} {l r : Addr} {b c : Bool} {k : Nat}
    (N : News h₀ L s.heap news) (hl : (l, LCg.lst [.bool b, .bool c]) ∈ news) (hr : (r, W.listOf #[.bool true, .bool true] k) ∈ news) (hu : A.units < cLine)
    (h1 : b = true) (h2 : c = true) (h : Q (.bool true) s) : wpAny (model prog w) A (compareOp .Eq (.ref l) (.ref r)) Q E s :=
  eq_two N hl hr hu (eqAt_true h1) (eqAt_true h2) h
set_option maxHeartbeats 8000000 in
theorem join_spec (w : World) (ml nl : Addr) (a0 a1 a2 a3 a4 a5 b0 b1 b2 b3 b4 b5 x y : Int) (t0 t1 t2 t3 t4 t5 u0 u1 u2 u3 u4 u5 tx ty : Tok) (n k : Nat) (hne : ml ≠ nl)
    (ha0 : -1000000000 ≤ a0 ∧ a0 ≤ 1000000000) (ha1 : -1000000000 ≤ a1 ∧ a1 ≤ 1000000000) (ha2 : -1000000000 ≤ a2 ∧ a2 ≤ 1000000000) (ha3 : -1000000000 ≤ a3 ∧ a3 ≤ 1000000000) (ha4 : -1000000000 ≤ a4 ∧ a4 ≤ 1000000000) (ha5 : -1000000000 ≤ a5 ∧ a5 ≤ 1000000000) (hb0 : -1000000000 ≤ b0 ∧ b0 ≤ 1000000000) (hb1 : -1000000000 ≤ b1 ∧ b1 ≤ 1000000000) (hb2 : -1000000000 ≤ b2 ∧ b2 ≤ 1000000000) (hb3 : -1000000000 ≤ b3 ∧ b3 ≤ 1000000000) (hb4 : -1000000000 ≤ b4 ∧ b4 ≤ 1000000000) (hb5 : -1000000000 ≤ b5 ∧ b5 ≤ 1000000000) (hx : -1000000000 ≤ x ∧ x ≤ 1000000000) (hy : -1000000000 ≤ y ∧ y ≤ 1000000000) :
    Spec w 310 false 169 [.ref ml, .ref nl, .int x tx, .int y ty] [(ml, W.listOf #[.int a0 t0, .int a1 t1, .int a2 t2, .int a3 t3, .int a4 t4, .int a5 t5] n), (nl, W.listOf #[.int b0 u0, .int b1 u1, .int b2 u2, .int b3 u3, .int b4 u4, .int b5 u5] k)]
      (fun v sub' => v = .bool true ∧ sub' = [(ml, W.listOf #[.int a0 t0, .int a1 t1, .int a2 t2, .int a3 t3, .int a4 t4, .int a5 t5] n), (nl, W.listOf #[.int b0 u0, .int b1 u1, .int b2 u2, .int b3 u3, .int b4 u4, .int b5 u5] k)]) := by
  unfold Spec
  k_fill
  intro gd cn cs a ccd cl outer A₀ base h₀ L m s news loose mean mg mb Q E B F X N T hk hsub C k
  ((k_dflt (refine' callSC ?k1 ?k2 ?k3 ?k4 ?k5 ?kA ?kF ?kK ?kS ?kC ?kk ?k6 ?k7 ?k8 ?k9 ?kB ?kD ?_ ?c2 ?c3 ?c4 (args := ⟨_, []⟩); (case kA => exact rfl); (case kF => exact rfl); (case kK => assumption); (case k1 => k_asm); (case k2 => k_asm); (case k3 => k_asm); (case k4 => k_asm); (case k5 => k_asm); (case kS => assumption); (case kC => assumption); (case kk => assumption); (case k6 => k_is); (case k7 => k_is); (case k8 => k_room); (case k9 => exact BindsTo.of_eq rfl); (case kB => exact rfl); (case kD => decide +kernel); (case c2 => exact rfl); (case c3 => exact rfl); (case c4 => exact rfl); k_whole)))
  clear B F X N T hk hsub C k
  intro g L' h' tk' cells F' N' Y' B' X' T' C' l1
  have F9 : Fr g L' h' (fun y9 => if y9 = Str.ofString "m" then some (.ref ml) else none) := F'
  clear F'
  replace l1 := allLt_of l1
  simp only [AllLt, and_true] at l1
  have hneN := neN hne
  k_cells Y'
  (try simp only [List.cons_append, List.nil_append] at N')
  (try dsimp only)
  (with_reducible show wpAny _ _ _ _ _ _)
  k_fold
  repeat' (first | (k_unfold; (try dsimp only)) | (k_end; wrow_close) | ((with_reducible show wpAny _ _ (eval (Expr.Constant (Const.int _) _ _) _) _ _ _); (with_reducible refine constL ?_)) | ((with_reducible show wpAny _ _ (binaryOp Operator.Add (Value.int _ _) (Value.int _ _)) _ _ _); (with_reducible refine addL ?_)) | ((with_reducible show wpAny _ _ (binaryOp Operator.Sub (Value.int _ _) (Value.int _ _)) _ _ _); (with_reducible refine subL ?_)) | ((with_reducible show wpAny _ _ (binaryOp Operator.Mult (Value.int _ _) (Value.int _ _)) _ _ _); (with_reducible refine' mulL ?_ ?zqs1); (case zqs1 => (first | with_reducible exact ok_f1 | with_reducible exact ok_f2 | with_reducible exact ok_f3 | exact IntMulOk.of_left (by decide) | with_reducible exact ok_l (by assumption) | with_reducible exact ok_r (by assumption) | with_reducible mul_fits))) | ((with_reducible show wpAny _ _ (newTuple _) _ _ _); k_here; kup_bare; k_dflt (refine' newTupleL ?zqs2 ?zqs3 ?_ ?zqs4; (case zqs2 => k_asm); (case zqs3 => k_asm); (case zqs4 => kmk_size)); intro D' h' F' N' l1; (try k_lt l1); (try k_sweep)) | ((with_reducible show wpAny _ _ (subscriptTail ..) _ _ _); (first | ((k_here; (with_reducible show wpAny _ _ (subscriptTail _ _ (Value.ref _) (Value.int _ _)) _ _ _); k_dflt (refine' item_at' ?zq1N ?zq1m ?zq1a ?zq1b ?zq1d ?_; (case zq1N => k_asm); (case zq1m => k_mem); (case zq1a => decide); (case zq1b => decide); (case zq1d => exact rfl); k_whole))))) | ((with_reducible show wpAny _ _ (compareOp ..) _ _ _); (first | ((k_here; (with_reducible show wpAny _ _ (compareOp CmpOp.Eq (Value.ref _) (Value.ref _)) _ _ _); k_dflt (refine' eq_bools ?zq9N ?zq9hl ?zq9hr ?zq9hu ?zq9h1 ?zq9h2 ?_; (case zq9N => k_asm); (case zq9hl => k_mem); (case zq9hr => k_mem); (case zq9hu => ke_room); (case zq9h1 => exact room_ok _ _ _ _ _ _ _ _ _ _ _); (case zq9h2 => exact room_ok _ _ _ _ _ _ _ _ _ _ _); k_whole))))) | ((with_reducible show wpAny _ _ (eval ..) _ _ _); (first | (((with_reducible show wpAny _ _ (eval (Expr.ListComp ..) _) _ _ _); (k_here; (with_reducible show wpAny _ _ (eval (Expr.ListComp _ [⟨_, Expr.Tuple _ _ _, _, _⟩] _ _) _) _ _ _); k_dflt (refine ListComp_Tup (F₀ := by k_asm) (by with_unfolding_all rfl) (by decide) (by rfl) (by decide) (by rfl) ?_)))))) | ((with_reducible show wpAny _ _ (call _ _ _) _ _ _); (first | ((k_here; (with_reducible show wpAny _ _ (call (Value.ref 68) [Value.ref _, Value.ref _]) _ _ _); k_dflt (refine' six_use (concat_spec _ _ _ _ _ _ _ _ _ _ _ _ _ _ _ _ _ _ _ _ _ _ _ _ _ _ _ _ _ ?zq4b0 ?zq4b1 ?zq4b2 ?zq4b3 ?zq4b4 ?zq4b5) ?zq4hm ?zq4hn ?zq4k1 ?zq4k2 ?zq4k3 ?zq4k4 ?zq4k5 ?zq4kA ?zq4kH ?zq4kK ?zq4kD ?zq4kU ?_; (((case zq4kA => exact rfl); (case zq4k2 => k_asm); (case zq4k1 => k_asm); (case zq4k3 => k_asm); (case zq4k4 => k_asm); (case zq4k5 => k_asm); (case zq4kH => exact rfl); (case zq4kK => exact rfl); (case zq4kD => exact Nat.le_of_ble_eq_true rfl); (case zq4kU => exact Nat.le_of_ble_eq_true rfl))); (case zq4hm => k_mem); (case zq4hn => k_mem); (case zq4b0 => first | assumption | omega); (case zq4b1 => first | assumption | omega); (case zq4b2 => first | assumption | omega); (case zq4b3 => first | assumption | omega); (case zq4b4 => first | assumption | omega); (case zq4b5 => first | assumption | omega); k_whole); intro t' t0' t1' t2' t3' t4' t5' n' h' tk' o1' F' N'; (try k_sweep))) | ((k_here; (with_reducible show wpAny _ _ (call (Value.ref 96) [Value.ref _, Value.int _ _, Value.int _ _]) _ _ _); k_dflt (refine' pair_use (trans_spec _ _ _ _ _ _ _ _ _ _ _ _ _ _ _ _ _ _ _ ?zq3b0 ?zq3b1 ?zq3b2 ?zq3b3) ?zq3hm ?zq3k1 ?zq3k2 ?zq3k3 ?zq3k4 ?zq3k5 ?zq3kA ?zq3kH ?zq3kK ?zq3kD ?zq3kU ?_; (((case zq3kA => exact rfl); (case zq3k2 => k_asm); (case zq3k1 => k_asm); (case zq3k3 => k_asm); (case zq3k4 => k_asm); (case zq3k5 => k_asm); (case zq3kH => exact rfl); (case zq3kK => exact rfl); (case zq3kD => exact Nat.le_of_ble_eq_true rfl); (case zq3kU => exact Nat.le_of_ble_eq_true rfl))); (case zq3hm => k_mem); (case zq3b0 => with_reducible assumption); (case zq3b1 => with_reducible assumption); (case zq3b2 => with_reducible assumption); (case zq3b3 => with_reducible assumption); k_whole); intro t' u1' u2' h' tk' o1' F' N'; (try k_sweep))) | ((k_here; (with_reducible show wpAny _ _ (call (Value.ref 96) [Value.ref _, Value.int _ _, Value.int _ _]) _ _ _); k_dflt (refine' pair_use (trans_specX _ _ _ _ _ _ _ _ _ _ _ _ _ _ _ _ _ _ _ ?zq2bx ?zq2bY) ?zq2hm ?zq2k1 ?zq2k2 ?zq2k3 ?zq2k4 ?zq2k5 ?zq2kA ?zq2kH ?zq2kK ?zq2kD ?zq2kU ?_; (((case zq2kA => exact rfl); (case zq2k2 => k_asm); (case zq2k1 => k_asm); (case zq2k3 => k_asm); (case zq2k4 => k_asm); (case zq2k5 => k_asm); (case zq2kH => exact rfl); (case zq2kK => exact rfl); (case zq2kD => exact Nat.le_of_ble_eq_true rfl); (case zq2kU => exact Nat.le_of_ble_eq_true rfl))); (case zq2hm => k_mem); (case zq2bx => with_reducible assumption); (case zq2bY => with_reducible assumption); k_whole); intro t' u1' u2' h' tk' o1' F' N'; (try k_sweep))) | ((k_here; (with_reducible show wpAny _ _ (call (Value.ref 54) [Value.int _ _, Value.int _ _]) _ _ _); k_dflt (refine' Spec.useI (divided_spec _ _ _ _ _ ?zq0hb ?zq0hs) ?zq0k1 ?zq0k2 ?zq0k3 ?zq0k4 ?zq0k5 ?zq0kC ?zq0kA ?zq0kH ?zq0kK ?zq0kD ?zq0kU ?_; (case zq0hb => first | assumption | omega); (case zq0hs => first | assumption | omega); (((case zq0kA => exact rfl); (case zq0k2 => k_asm); (case zq0k1 => k_asm); (case zq0k3 => k_asm); (case zq0k4 => k_asm); (case zq0k5 => k_asm); (case zq0kC => exact fun e => nomatch e); (case zq0kH => exact rfl); (case zq0kK => exact rfl); (case zq0kD => exact Nat.le_of_ble_eq_true rfl); (case zq0kU => exact Nat.le_of_ble_eq_true rfl))); k_whole); intro t' h' tk' F' N'; (try k_sweep))))) | ((with_reducible show LCg.FinE ..); (first | (with_reducible (((unfold LCg.FinE); intro D' h' tk' F' N' o1'; (try simp only [List.nil_append, List.cons_append] at N'); (try dsimp only)))) | (((unfold LCg.FinE); intro D' h' tk' F' N' o1'; (try simp only [List.nil_append, List.cons_append] at N'); (try dsimp only))))) | ((with_reducible show LCg.CompRest ..); (first | ((with_unfolding_all first | (refine LCg.CompRest.succ ?_; intro v' I' oI' C' oC' D' m' h' tk' E' hv' hC' hx' F' N' off' ne'; (first | lcg_open hv' | (obtain ⟨t9', hv9'⟩ := hv'; subst hv9')); (replace ne' := NeT.of ne')) | refine LCg.CompRest.zero ?_)))) | ((with_reducible show CompTup ..); (first | ((k_dflt (refine CompTup.intro (by rfl) (by k_asm) (by k_asm) (by k_mem) (by first | size_fits | exact Nat.le_of_ble_eq_true rfl) ?_; intro g'; lcg_lit))))) | walk1 | (dsimp only; (first | ((with_reducible show wpAny _ _ (eval (Expr.Constant (Const.int _) _ _) _) _ _ _); (with_reducible refine constL ?_)) | ((with_reducible show wpAny _ _ (binaryOp Operator.Add (Value.int _ _) (Value.int _ _)) _ _ _); (with_reducible refine addL ?_)) | ((with_reducible show wpAny _ _ (binaryOp Operator.Sub (Value.int _ _) (Value.int _ _)) _ _ _); (with_reducible refine subL ?_)) | ((with_reducible show wpAny _ _ (binaryOp Operator.Mult (Value.int _ _) (Value.int _ _)) _ _ _); (with_reducible refine' mulL ?_ ?zqs1); (case zqs1 => (first | with_reducible exact ok_f1 | with_reducible exact ok_f2 | with_reducible exact ok_f3 | exact IntMulOk.of_left (by decide) | with_reducible exact ok_l (by assumption) | with_reducible exact ok_r (by assumption) | with_reducible mul_fits))) | ((with_reducible show wpAny _ _ (newTuple _) _ _ _); k_here; kup_bare; k_dflt (refine' newTupleL ?zqs2 ?zqs3 ?_ ?zqs4; (case zqs2 => k_asm); (case zqs3 => k_asm); (case zqs4 => kmk_size)); intro D' h' F' N' l1; (try k_lt l1); (try k_sweep)) | ((with_reducible show wpAny _ _ (subscriptTail ..) _ _ _); (first | ((k_here; (with_reducible show wpAny _ _ (subscriptTail _ _ (Value.ref _) (Value.int _ _)) _ _ _); k_dflt (refine' item_at' ?zq1N ?zq1m ?zq1a ?zq1b ?zq1d ?_; (case zq1N => k_asm); (case zq1m => k_mem); (case zq1a => decide); (case zq1b => decide); (case zq1d => exact rfl); k_whole))))) | ((with_reducible show wpAny _ _ (compareOp ..) _ _ _); (first | ((k_here; (with_reducible show wpAny _ _ (compareOp CmpOp.Eq (Value.ref _) (Value.ref _)) _ _ _); k_dflt (refine' eq_bools ?zq9N ?zq9hl ?zq9hr ?zq9hu ?zq9h1 ?zq9h2 ?_; (case zq9N => k_asm); (case zq9hl => k_mem); (case zq9hr => k_mem); (case zq9hu => ke_room); (case zq9h1 => exact room_ok _ _ _ _ _ _ _ _ _ _ _); (case zq9h2 => exact room_ok _ _ _ _ _ _ _ _ _ _ _); k_whole))))) | ((with_reducible show wpAny _ _ (eval ..) _ _ _); (first | (((with_reducible show wpAny _ _ (eval (Expr.ListComp ..) _) _ _ _); (k_here; (with_reducible show wpAny _ _ (eval (Expr.ListComp _ [⟨_, Expr.Tuple _ _ _, _, _⟩] _ _) _) _ _ _); k_dflt (refine ListComp_Tup (F₀ := by k_asm) (by with_unfolding_all rfl) (by decide) (by rfl) (by decide) (by rfl) ?_)))))) | ((with_reducible show wpAny _ _ (call _ _ _) _ _ _); (first | ((k_here; (with_reducible show wpAny _ _ (call (Value.ref 68) [Value.ref _, Value.ref _]) _ _ _); k_dflt (refine' six_use (concat_spec _ _ _ _ _ _ _ _ _ _ _ _ _ _ _ _ _ _ _ _ _ _ _ _ _ _ _ _ _ ?zq4b0 ?zq4b1 ?zq4b2 ?zq4b3 ?zq4b4 ?zq4b5) ?zq4hm ?zq4hn ?zq4k1 ?zq4k2 ?zq4k3 ?zq4k4 ?zq4k5 ?zq4kA ?zq4kH ?zq4kK ?zq4kD ?zq4kU ?_; (((case zq4kA => exact rfl); (case zq4k2 => k_asm); (case zq4k1 => k_asm); (case zq4k3 => k_asm); (case zq4k4 => k_asm); (case zq4k5 => k_asm); (case zq4kH => exact rfl); (case zq4kK => exact rfl); (case zq4kD => exact Nat.le_of_ble_eq_true rfl); (case zq4kU => exact Nat.le_of_ble_eq_true rfl))); (case zq4hm => k_mem); (case zq4hn => k_mem); (case zq4b0 => first | assumption | omega); (case zq4b1 => first | assumption | omega); (case zq4b2 => first | assumption | omega); (case zq4b3 => first | assumption | omega); (case zq4b4 => first | assumption | omega); (case zq4b5 => first | assumption | omega); k_whole); intro t' t0' t1' t2' t3' t4' t5' n' h' tk' o1' F' N'; (try k_sweep))) | ((k_here; (with_reducible show wpAny _ _ (call (Value.ref 96) [Value.ref _, Value.int _ _, Value.int _ _]) _ _ _); k_dflt (refine' pair_use (trans_spec _ _ _ _ _ _ _ _ _ _ _ _ _ _ _ _ _ _ _ ?zq3b0 ?zq3b1 ?zq3b2 ?zq3b3) ?zq3hm ?zq3k1 ?zq3k2 ?zq3k3 ?zq3k4 ?zq3k5 ?zq3kA ?zq3kH ?zq3kK ?zq3kD ?zq3kU ?_; (((case zq3kA => exact rfl); (case zq3k2 => k_asm); (case zq3k1 => k_asm); (case zq3k3 => k_asm); (case zq3k4 => k_asm); (case zq3k5 => k_asm); (case zq3kH => exact rfl); (case zq3kK => exact rfl); (case zq3kD => exact Nat.le_of_ble_eq_true rfl); (case zq3kU => exact Nat.le_of_ble_eq_true rfl))); (case zq3hm => k_mem); (case zq3b0 => with_reducible assumption); (case zq3b1 => with_reducible assumption); (case zq3b2 => with_reducible assumption); (case zq3b3 => with_reducible assumption); k_whole); intro t' u1' u2' h' tk' o1' F' N'; (try k_sweep))) | ((k_here; (with_reducible show wpAny _ _ (call (Value.ref 96) [Value.ref _, Value.int _ _, Value.int _ _]) _ _ _); k_dflt (refine' pair_use (trans_specX _ _ _ _ _ _ _ _ _ _ _ _ _ _ _ _ _ _ _ ?zq2bx ?zq2bY) ?zq2hm ?zq2k1 ?zq2k2 ?zq2k3 ?zq2k4 ?zq2k5 ?zq2kA ?zq2kH ?zq2kK ?zq2kD ?zq2kU ?_; (((case zq2kA => exact rfl); (case zq2k2 => k_asm); (case zq2k1 => k_asm); (case zq2k3 => k_asm); (case zq2k4 => k_asm); (case zq2k5 => k_asm); (case zq2kH => exact rfl); (case zq2kK => exact rfl); (case zq2kD => exact Nat.le_of_ble_eq_true rfl); (case zq2kU => exact Nat.le_of_ble_eq_true rfl))); (case zq2hm => k_mem); (case zq2bx => with_reducible assumption); (case zq2bY => with_reducible assumption); k_whole); intro t' u1' u2' h' tk' o1' F' N'; (try k_sweep))) | ((k_here; (with_reducible show wpAny _ _ (call (Value.ref 54) [Value.int _ _, Value.int _ _]) _ _ _); k_dflt (refine' Spec.useI (divided_spec _ _ _ _ _ ?zq0hb ?zq0hs) ?zq0k1 ?zq0k2 ?zq0k3 ?zq0k4 ?zq0k5 ?zq0kC ?zq0kA ?zq0kH ?zq0kK ?zq0kD ?zq0kU ?_; (case zq0hb => first | assumption | omega); (case zq0hs => first | assumption | omega); (((case zq0kA => exact rfl); (case zq0k2 => k_asm); (case zq0k1 => k_asm); (case zq0k3 => k_asm); (case zq0k4 => k_asm); (case zq0k5 => k_asm); (case zq0kC => exact fun e => nomatch e); (case zq0kH => exact rfl); (case zq0kK => exact rfl); (case zq0kD => exact Nat.le_of_ble_eq_true rfl); (case zq0kU => exact Nat.le_of_ble_eq_true rfl))); k_whole); intro t' h' tk' F' N'; (try k_sweep))))) | ((with_reducible show LCg.FinE ..); (first | (with_reducible (((unfold LCg.FinE); intro D' h' tk' F' N' o1'; (try simp only [List.nil_append, List.cons_append] at N'); (try dsimp only)))) | (((unfold LCg.FinE); intro D' h' tk' F' N' o1'; (try simp only [List.nil_append, List.cons_append] at N'); (try dsimp only))))) | ((with_reducible show LCg.CompRest ..); (first | ((with_unfolding_all first | (refine LCg.CompRest.succ ?_; intro v' I' oI' C' oC' D' m' h' tk' E' hv' hC' hx' F' N' off' ne'; (first | lcg_open hv' | (obtain ⟨t9', hv9'⟩ := hv'; subst hv9')); (replace ne' := NeT.of ne')) | refine LCg.CompRest.zero ?_)))) | ((with_reducible show CompTup ..); (first | ((k_dflt (refine CompTup.intro (by rfl) (by k_asm) (by k_asm) (by k_mem) (by first | size_fits | exact Nat.le_of_ble_eq_true rfl) ?_; intro g'; lcg_lit))))) | walk1)) | (leave1; walk_say "STEP leave1"; try dsimp only) | fail "no step")
  refine ⟨L', _, _, _, _, rfl, by assumption, pick (by assumption) (by k_mem) (pick (by assumption) (by k_mem) News.nil), rfl, rfl⟩
end Mine
end

section
open PySem PySem.W PySem.Calls PyProof.Rows
namespace Mine
section
variable {prog : Program} {w : World} {A : Around} {E : Value → Shared → Prop} {s : Shared} {env : Env} {h₀ : Heap} {x : Str} {body : List Stmt} {Q : Flow → Shared → Prop}

/-- a turn's end: what the next turn wants, the iterator as it was -/
def RngEnd (h₀ : Heap) (L : Addr) (J : (Str → Option Value) → List (Addr × Obj) → Prop) (I : Addr) (oI : Obj) (s₁ s₂ : Shared) : Prop :=
  ∃ h' tk m' nx, s₂ = { s₁ with heap := h', toks := tk } ∧ Fr h₀ L h' m' ∧ News h₀ L h' ((I, oI) :: nx) ∧ (∀ p ∈ nx, p.1 ≠ I) ∧ J m' nx
def RngPost (h₀ : Heap) (L : Addr) (J : (Str → Option Value) → List (Addr × Obj) → Prop) (I : Addr) (oI : Obj) (s₁ : Shared) (Q : Flow → Shared → Prop) (f : Flow) (s₂ : Shared) : Prop :=
  match f with
  | .ret v => Q (.ret v) s₂
  | .brk => Q .next s₂
  | _ => RngEnd h₀ L J I oI s₁ s₂

theorem loop_rng {r : Addr} {a₀ b₀ : Int} {t₀ u₀ v₀ : Tok} {n : Nat} {m₀ : Str → Option Value} {news : List (Addr × Obj)} (J : Nat → (Str → Option Value) → List (Addr × Obj) → Prop)
    (hh : A.handled = none) (hr : IsRange s.heap r a₀ b₀ 1 t₀ u₀ v₀) (hsmall : Builtin.Range.small a₀ b₀ 1 = true) (hn : Builtin.Range.rangeSize a₀ b₀ 1 = (n : Int)) (F : Fr h₀ env.locals s.heap m₀) (N : News h₀ env.locals s.heap news) (hj : J 0 m₀ news)
    (turn : ∀ i (k : Int) t m₁ nx I oI h tk, i < n → J i m₁ nx → (∀ p ∈ nx, p.1 ≠ I) → Fr h₀ env.locals h (fun y => if y = x then some (.int k t) else m₁ y) → News h₀ env.locals h ((I, oI) :: nx) →
      wpAny (model prog w) A (execs body env) (RngPost h₀ env.locals (J (i + 1)) I oI { s with heap := h, toks := tk } Q) E { s with heap := h, toks := tk })
    (done : ∀ m₁ nx h tk, J n m₁ nx → Fr h₀ env.locals h m₁ → News h₀ env.locals h nx → Q .next { s with heap := h, toks := tk }) :
    wpAny (model prog w) A (pyIter (.ref r)) (fun it s₂ => LoopAtV prog w A h₀ env x body Q E it s₂) E s := by
  refine wpAny_pyIter_range hr hsmall ?_
  have W : Walks prog w A s.heap.objs.size [s.heap.objs.size] [s.heap.objs.size] n (fun i v => i < n ∧ ∃ t, v = .int (a₀ + i * 1) t)
      (fun i h => IsRangeIter h s.heap.objs.size (a₀ + (i : Nat) * 1) ((n : Int) - (i : Nat)) 1) := (Walks.range hh _ a₀ 1 n).bound
  refine ⟨_, _, _, n, _, _, m₀, news, J, rfl, W, ?_, ?_, ?_, (by show IsRangeIter _ _ _ _ _; rw [hn]; simpa using Heap.get?_push_size _ rfl), F.push _, (fun p hp => ⟨Heap.get?_push_of_some _ (N p hp).1, (N p hp).2⟩), hj, ?_, ?_⟩
  · intro hm
    exact absurd F.ns.lt ((List.mem_singleton.mp hm) ▸ Nat.lt_irrefl _)
  · intro b hb
    rw [List.mem_singleton.mp hb]
    exact next_is_new F
  · intro p hp hI
    exact absurd (Heap.lt_size (N p hp).1) ((List.mem_singleton.mp hI) ▸ Nat.lt_irrefl _)
  · rintro i v m₁ nx s₁ own ⟨h, tk, rfl⟩ hi ⟨_, t, rfl⟩ hJ hoff hown hget hall hst F₁ N₁
    have hI : h₀.get? s.heap.objs.size = none := next_is_new F
    obtain ⟨oI, hst'⟩ : ∃ oI, h.get? s.heap.objs.size = some oI := ⟨_, hst⟩
    have hm := hall s.heap.objs.size (List.mem_singleton.mpr rfl) hI _ hst'
    have N₂ : News h₀ env.locals h ((s.heap.objs.size, oI) :: nx) := fun p hp => N₁ p ((List.mem_cons.mp hp).elim (fun e => e ▸ List.mem_append_left _ hm) fun hp => List.mem_append_right _ hp)
    refine wpAny_mono (turn i _ t m₁ nx s.heap.objs.size oI h tk hi hJ (fun p hp e => hoff p hp (List.mem_singleton.mpr e)) F₁ N₂) (fun f s₂ p => ?_) fun _ _ e => e
    have fin : RngEnd h₀ env.locals (J (i + 1)) s.heap.objs.size oI { s with heap := h, toks := tk } s₂ → LoopStepU h₀ env.locals [s.heap.objs.size] own (J (i + 1)) { s with heap := h, toks := tk } .next s₂ := by
      rintro ⟨h', tk', m', nx', e, F', N', hne, hm'⟩
      refine ⟨rfl, h', tk', m', nx', e, F', fun p hp => ?_, fun p hp hq => hne p hp (List.mem_singleton.mp hq), hm'⟩
      rcases List.mem_append.mp hp with hp | hp
      · have e1 : p.1 = s.heap.objs.size := List.mem_singleton.mp (hown p hp)
        have e2 := hget p hp
        rw [e1] at e2
        have e3 : p = (s.heap.objs.size, oI) := Prod.ext e1 (Option.some.inj (e2.symm.trans hst'))
        rw [e3]
        exact N' _ (.head _)
      · exact N' p (.tail _ hp)
    cases f with
    | ret v => exact .ret p
    | brk => exact .brk p
    | next => exact .next (fin p)
    | cont => exact .cont (fin p)
  · rintro h' tk m' news' F' N' _ hJ
    exact done m' news' h' tk hJ F' N'
end

/-- a cut: what a step leaves, said once -/
theorem cut_step {M : Model} {A : Around} {t : Sem Flow} {Q : Flow → Shared → Prop} {E : Value → Shared → Prop} {s : Shared} (C : Shared → Prop)
    (h2 : wpAny M A t (fun f s' => f = .next ∧ C s') E s) (h1 : ∀ s', C s' → Q .next s') : wpAny M A t Q E s :=
  wpAny_mono h2 (fun f s' hc => by obtain ⟨rfl, h⟩ := hc; exact h1 s' h) fun _ _ e => e
end Mine
end

section
open PySem PySem.W PySem.Calls PyProof.Rows
namespace Mine

theorem off1_of {D : Addr} : ∀ {l : List (Addr × Obj)}, (∀ p ∈ l, p.1 ≠ D) → LCg.Off1 D l
  | [], _ => trivial
  | _ :: _, h => ⟨h _ List.mem_cons_self, off1_of fun p hp => h p (List.mem_cons_of_mem _ hp)⟩
theorem of_off1 {D : Addr} : ∀ {l : List (Addr × Obj)}, LCg.Off1 D l → ∀ p ∈ l, p.1 ≠ D
  | [], _, _, h => nomatch h
  | _ :: _, x, p, h => by
    rcases List.mem_cons.mp h with rfl | h
    · exact x.1
    · exact of_off1 x.2 p h
theorem Rest.s1 {a b : Addr} {o : Obj} {r r' : List (Addr × Obj)} (h : Rest [a, b] r r') : Rest [a, b] ((a, o) :: r) r' := .skip h
theorem Rest.s2 {a b : Addr} {o : Obj} {r r' : List (Addr × Obj)} (h : Rest [a, b] r r') : Rest [a, b] ((b, o) :: r) r' := .skip h
theorem Rest.f1 {a b c d : Addr} {o : Obj} {r r' : List (Addr × Obj)} (h : Rest [a, b, c, d] r r') : Rest [a, b, c, d] ((a, o) :: r) r' := .skip h
theorem Rest.f2 {a b c d : Addr} {o : Obj} {r r' : List (Addr × Obj)} (h : Rest [a, b, c, d] r r') : Rest [a, b, c, d] ((b, o) :: r) r' := .skip h
theorem Rest.f3 {a b c d : Addr} {o : Obj} {r r' : List (Addr × Obj)} (h : Rest [a, b, c, d] r r') : Rest [a, b, c, d] ((c, o) :: r) r' := .skip h
theorem Rest.f4 {a b c d : Addr} {o : Obj} {r r' : List (Addr × Obj)} (h : Rest [a, b, c, d] r r') : Rest [a, b, c, d] ((d, o) :: r) r' := .skip h
theorem Rest.four {as : Addr × Addr × Addr × Addr} {p : Addr × Obj} (h1 : p.1 ≠ as.1) (h2 : p.1 ≠ as.2.1) (h3 : p.1 ≠ as.2.2.1) (h4 : p.1 ≠ as.2.2.2) : ∀ a ∈ [as.1, as.2.1, as.2.2.1, as.2.2.2], p.1 ≠ a := by
  intro a ha
  simp only [List.mem_cons, List.not_mem_nil, or_false] at ha
  rcases ha with rfl | rfl | rfl | rfl <;> assumption

/-- the bounds of a matrix -/
def Six (B a0 a1 a2 a3 a4 a5 : Int) : Prop := (-B ≤ a0 ∧ a0 ≤ B) ∧ (-B ≤ a1 ∧ a1 ≤ B) ∧ (-B ≤ a2 ∧ a2 ≤ B) ∧ (-B ≤ a3 ∧ a3 ≤ B) ∧ (-B ≤ a4 ∧ a4 ≤ B) ∧ (-B ≤ a5 ∧ a5 ≤ B)
theorem six_mk {B a0 a1 a2 a3 a4 a5 : Int} (p0 : -B ≤ a0) (q0 : a0 ≤ B) (p1 : -B ≤ a1) (q1 : a1 ≤ B) (p2 : -B ≤ a2) (q2 : a2 ≤ B) (p3 : -B ≤ a3) (q3 : a3 ≤ B) (p4 : -B ≤ a4) (q4 : a4 ≤ B) (p5 : -B ≤ a5) (q5 : a5 ≤ B) : Six B a0 a1 a2 a3 a4 a5 :=
  ⟨⟨p0, q0⟩, ⟨p1, q1⟩, ⟨p2, q2⟩, ⟨p3, q3⟩, ⟨p4, q4⟩, ⟨p5, q5⟩⟩
theorem wide {a : Int} (h : -100000000 ≤ a ∧ a ≤ 100000000) : -1000000000 ≤ a ∧ a ≤ 1000000000 := by omega
theorem wide3 {a : Int} (h : -100000000 ≤ a ∧ a ≤ 100000000) : -1000000000 ≤ 3 * a ∧ 3 * a ≤ 1000000000 := by omega
theorem six_w {a0 a1 a2 a3 a4 a5 : Int} (h : Six 100000000 a0 a1 a2 a3 a4 a5) : Six 1000000000 a0 a1 a2 a3 a4 a5 :=
  ⟨wide h.1, wide h.2.1, wide h.2.2.1, wide h.2.2.2.1, wide h.2.2.2.2.1, wide h.2.2.2.2.2⟩
theorem six_t {a0 a1 a2 a3 a4 a5 : Int} (h : Six 100000000 a0 a1 a2 a3 a4 a5) : Six 1000000000 a0 a1 (3 * a0) (3 * a1) a4 a5 :=
  ⟨wide h.1, wide h.2.1, wide3 h.1, wide3 h.2.1, wide h.2.2.2.2.1, wide h.2.2.2.2.2⟩

section
variable {w : World} {A A₀ : Around} {cn : Str} {cs : Scope} {a : Addr} {ccd : Value} {cl : List (Str × Addr)} {outer : List Env} {base h₀ : Heap} {L : Addr} {m : Str → Option Value} {s : Shared} {news rest : List (Addr × Obj)}
  {loose : List Str} {mean : ExcName → Option Value} {mg mb : Str → Option Value} {Q E : Value → Shared → Prop}

section
variable {d l : Addr} {o : Obj} {vs : List Value} {n : Nat} {ns : List Int} {M T : Int} {t1 t2 : Tok}
/-- a number in use -/
theorem num_use {hp : Heap} {gs : Array GenState} {dr : Drawn} {tk : Nat} {os : OsState} (hm1 : (d, o) ∈ news) (hD : DeckIs w o l M T t1 t2) (hm2 : (l, W.listOf vs.toArray n) ∈ news) (hI : IntsAre vs ns) (hl : ns.length ≤ 16) (hne : d ≠ l)
    (hT : 0 ≤ T) (hT2 : T < 900000)
    (B : Below A₀ base outer h₀) (F : Fr h₀ L hp m) (X : (hd.heap_39 w.params).In h₀) (N : News h₀ L hp news) (Tp : Top topProg loose mean mg mb h₀)
    (hf : A.frames = some (envX cn cs L a ccd cl :: outer)) (hh : A.handled = none) (hk : cs.kind = .function) (hd : A.depth ≤ 400 + 1) (hu : A.units ≤ 9 * 400 + 3)
    (hr : Rest [d, l] news rest)
    (k : ∀ y t o' vs' n' ns' t1' t2' h' tk', -100000000 ≤ y → y ≤ 100000000 → DeckIs w o' l M (T + 4) t1' t2' → IntsAre vs' ns' → ns'.length ≤ 16 → Fr h₀ L h' m → News h₀ L h' ((d, o') :: (l, W.listOf vs'.toArray n') :: rest) → Q (.int y t) ⟨h', gs, dr, tk', os⟩) :
    wpAny (model PySem.Challenge.rw_on0256_01.row.prog w) A (call (.ref 150) [.ref d]) Q E ⟨hp, gs, dr, tk, os⟩ := by
  refine Spec.use (num_spec w d l o vs n ns M T t1 t2 hD hI hl hne hT hT2) B F X N Tp (fun e => nomatch e) hf hh hk hd hu (fun q hq => ?_) hr fun v sub' h' tk' hP F' N' => ?_
  · rcases List.mem_cons.mp hq with rfl | hq
    · exact hm1
    · rcases List.mem_cons.mp hq with rfl | hq
      · exact hm2
      · exact nomatch hq
  · obtain ⟨⟨y, t, rfl, y0, y1⟩, o', vs', n', ns', t1', t2', rfl, hD', hI', hl'⟩ := hP
    exact k y t o' vs' n' ns' t1' t2' h' tk' y0 y1 hD' hI' hl' F' N'
end

/-- the first half of a turn in use -/
theorem led_use {hp : Heap} {gs : Array GenState} {dr : Drawn} {tk : Nat} {os : OsState} {ml : Addr} {a0 a1 a2 a3 a4 a5 x y : Int} {t0 t1 t2 t3 t4 t5 tx ty : Tok} {n : Nat} {ps : Array Value} {c1 c2 : Addr} {o1 o2 : Obj}
    (hm : (ml, mat6 a0 a1 a2 a3 a4 a5 t0 t1 t2 t3 t4 t5 n) ∈ news) (hpz : (159, tabObj ps) ∈ news) (H : Lams ledQ ps c1 o1 c2 o2) (hc1 : (c1, o1) ∈ news) (hc2 : (c2, o2) ∈ news)
    (ba : Six 1000000000 a0 a1 a2 a3 a4 a5) (hne : ml ≠ 159)
    (B : Below A₀ base [] h₀) (F : Fr h₀ L hp m) (X : (hd.heap_39 w.params).In h₀) (N : News h₀ L hp news) (T : Top topProg loose mean mg mb h₀)
    (XB : (hd.heap_39 w.params).In base) (TB : Top topProg loose mean mg mb base) (C : CodeHd base 163 159)
    (hf : A.frames = some [envX cn cs L a ccd cl]) (hh : A.handled = none) (hk : cs.kind = .function) (hdp : A.depth ≤ 310 + 1) (hu : A.units ≤ 9 * 310 + 3)
    (hr : Rest [ml, 159, c1, c2] news rest)
    (k : ∀ ps' c1' o1' c2' o2' h' tk', Lams ledQ ps' c1' o1' c2' o2' → NeQ c1' ml → NeQ c2' ml → LCg.Off1 c1' rest → LCg.Off1 c2' rest → Fr h₀ L h' m →
      News h₀ L h' ((ml, mat6 a0 a1 a2 a3 a4 a5 t0 t1 t2 t3 t4 t5 n) :: (159, tabObj ps') :: (c1', o1') :: (c2', o2') :: rest) → Q (.bool true) ⟨h', gs, dr, tk', os⟩) :
    wpAny (model PySem.Challenge.rw_on0256_01.row.prog w) A (call (.ref 164) [.ref ml, .int x tx, .int y ty]) Q E ⟨hp, gs, dr, tk, os⟩ := by
  refine SpecL.use (led_spec w ml a0 a1 a2 a3 a4 a5 x y t0 t1 t2 t3 t4 t5 tx ty n ps c1 c2 o1 o2 ba.1 ba.2.1 ba.2.2.1 ba.2.2.2.1 hne H) B F X N T XB TB C hf hh hk hdp hu (fun q hq => ?_) hr fun v sub' h' tk' hP F' N' off => ?_
  · simp only [List.mem_cons, List.not_mem_nil, or_false] at hq
    rcases hq with rfl | rfl | rfl | rfl <;> assumption
  · obtain ⟨rfl, ps', c1', o1', c2', o2', rfl, H', e1, e2⟩ := hP
    exact k ps' c1' o1' c2' o2' h' tk' H' e1 e2 (off1_of fun p hp => Ne.symm (off (c1', o1') (by simp) p hp)) (off1_of fun p hp => Ne.symm (off (c2', o2') (by simp) p hp)) F' N'

/-- the second half of a turn in use -/
theorem join_use {hp : Heap} {gs : Array GenState} {dr : Drawn} {tk : Nat} {os : OsState} {ml nl : Addr} {a0 a1 a2 a3 a4 a5 b0 b1 b2 b3 b4 b5 x y : Int} {t0 t1 t2 t3 t4 t5 u0 u1 u2 u3 u4 u5 tx ty : Tok} {n n2 : Nat}
    (hm : (ml, mat6 a0 a1 a2 a3 a4 a5 t0 t1 t2 t3 t4 t5 n) ∈ news) (hn : (nl, mat6 b0 b1 b2 b3 b4 b5 u0 u1 u2 u3 u4 u5 n2) ∈ news) (hne : ml ≠ nl)
    (ba : Six 1000000000 a0 a1 a2 a3 a4 a5) (bb : Six 1000000000 b0 b1 b2 b3 b4 b5) (x0 : -100000000 ≤ x) (x1 : x ≤ 100000000) (y0 : -100000000 ≤ y) (y1 : y ≤ 100000000)
    (B : Below A₀ base outer h₀) (F : Fr h₀ L hp m) (X : (hd.heap_39 w.params).In h₀) (N : News h₀ L hp news) (T : Top topProg loose mean mg mb h₀)
    (hf : A.frames = some (envX cn cs L a ccd cl :: outer)) (hh : A.handled = none) (hk : cs.kind = .function) (hdp : A.depth ≤ 310 + 1) (hu : A.units ≤ 9 * 310 + 3)
    (hr : Rest [ml, nl] news rest)
    (k : ∀ h' tk', Fr h₀ L h' m → News h₀ L h' ((ml, mat6 a0 a1 a2 a3 a4 a5 t0 t1 t2 t3 t4 t5 n) :: (nl, mat6 b0 b1 b2 b3 b4 b5 u0 u1 u2 u3 u4 u5 n2) :: rest) → Q (.bool true) ⟨h', gs, dr, tk', os⟩) :
    wpAny (model PySem.Challenge.rw_on0256_01.row.prog w) A (call (.ref 169) [.ref ml, .ref nl, .int x tx, .int y ty]) Q E ⟨hp, gs, dr, tk, os⟩ := by
  refine Spec.use (join_spec w ml nl a0 a1 a2 a3 a4 a5 b0 b1 b2 b3 b4 b5 x y t0 t1 t2 t3 t4 t5 u0 u1 u2 u3 u4 u5 tx ty n n2 hne ba.1 ba.2.1 ba.2.2.1 ba.2.2.2.1 ba.2.2.2.2.1 ba.2.2.2.2.2 bb.1 bb.2.1 bb.2.2.1 bb.2.2.2.1 bb.2.2.2.2.1 bb.2.2.2.2.2 (wide ⟨x0, x1⟩) (wide ⟨y0, y1⟩)) B F X N T (fun e => nomatch e) hf hh hk hdp hu (fun q hq => ?_) hr fun v sub' h' tk' hP F' N' => ?_
  · simp only [List.mem_cons, List.not_mem_nil, or_false] at hq
    rcases hq with rfl | rfl <;> assumption
  · obtain ⟨rfl, rfl⟩ := hP
    exact k h' tk' F' N'
end

/-- behind the deck's making -/
def DeckS (w : World) (h₀ : Heap) (L : Addr) (m : Str → Option Value) (s s' : Shared) : Prop :=
  ∃ d l o vs n ns M t1 t2 oc h' tk, s' = { s with heap := h', toks := tk } ∧ Fr h₀ L h' m ∧ News h₀ L h' [(d, o), (l, W.listOf vs.toArray n), (L + 1, oc), (159, tabObj #[])] ∧ oc.data = .cell (some (.ref d)) ∧ DeckIs w o l M 0 t1 t2 ∧ IntsAre vs ns ∧ ns.length ≤ 16 ∧
    (NeQ d l ∧ NeQ d (L + 1) ∧ NeQ l (L + 1) ∧ NeQ d 159 ∧ NeQ l 159 ∧ NeQ (L + 1) 159)
def DeckPost (w : World) (h₀ : Heap) (L : Addr) (m : Str → Option Value) (s : Shared) (f : Flow) (s' : Shared) : Prop := f = .next ∧ DeckS w h₀ L m s s'

section
variable {w : World} {M' : Model} {A : Around} {t : Sem Flow} {Q : Flow → Shared → Prop} {E : Value → Shared → Prop} {h₀ : Heap} {L : Addr} {m : Str → Option Value} {s : Shared} {news : List (Addr × Obj)}
theorem cut_deck (F : Fr h₀ L s.heap m) (X : (hd.heap_39 w.params).In h₀) (h2 : wpAny M' A t (DeckPost w h₀ L m s) E s)
    (h1 : ∀ d l o vs n ns M t1 t2 oc h' tk, Fr h₀ L h' m → News h₀ L h' [(d, o), (l, W.listOf vs.toArray n), (L + 1, oc), (159, tabObj #[])] → oc.data = .cell (some (.ref d)) → DeckIs w o l M 0 t1 t2 → IntsAre vs ns → ns.length ≤ 16 →
      NeQ d l → NeQ d (L + 1) → NeQ l (L + 1) → NeQ d 159 → NeQ l 159 → NeQ (L + 1) 159 → Q .next { s with heap := h', toks := tk }) : wpAny M' A t Q E s :=
  have _ := X
  cut_step (DeckS w h₀ L m s) h2 fun s' hs => by
    obtain ⟨d, l, o, vs, n, ns, M, t1, t2, oc, h', tk, rfl, F', N', hoc, hD, hI, hl, n1, n2, n3, n4, n5, n6⟩ := hs
    exact h1 d l o vs n ns M t1 t2 oc h' tk F' N' hoc hD hI hl n1 n2 n3 n4 n5 n6
theorem deck_post {d l : Addr} {o oc : Obj} {vs : List Value} {n : Nat} {ns : List Int} {M : Int} {t1 t2 : Tok} {h' : Heap} {tk : Tok} (F : Fr h₀ L h' m) (N : News h₀ L h' news) (hD : DeckIs w o l M 0 t1 t2) (m1 : (d, o) ∈ news) (m2 : (l, W.listOf vs.toArray n) ∈ news) (m3 : (L + 1, oc) ∈ news) (m4 : (159, tabObj #[]) ∈ news)
    (hoc : oc.data = .cell (some (.ref d))) (hI : IntsAre vs ns) (hl : ns.length ≤ 16) (n1 : (@Ne Nat d l)) (n2 : (@Ne Nat d (L + 1))) (n3 : (@Ne Nat l (L + 1))) (n4 : (@Ne Nat d 159)) (n5 : (@Ne Nat l 159)) (n6 : (@Ne Nat (L + 1) 159)) :
    DeckPost w h₀ L m s .next { s with heap := h', toks := tk } :=
  ⟨rfl, d, l, o, vs, n, ns, M, t1, t2, oc, h', tk, rfl, F, pick N m1 (pick N m2 (pick N m3 (pick N m4 News.nil))), hoc, hD, hI, hl, n1, n2, n3, n4, n5, n6⟩
end

abbrev nm (x : String) : Str := Str.ofString x
/-- behind the two matrices' making: what the next statement may use -/
def MatK (w : World) (h₀ : Heap) (L d l : Addr) (M : Int) (B1 : Int) (oc : Obj) (m : Str → Option Value) (s : Shared) (Q : Flow → Shared → Prop) : Prop :=
  ∀ ml nl a0 a1 a2 a3 a4 a5 b0 b1 b2 b3 b4 b5 t0 t1 t2 t3 t4 t5 u0 u1 u2 u3 u4 u5 k1 k2 o vs n ns T v1 v2 h' tk, Fr h₀ L h' (fun z => if z = nm "m" then some (.ref ml) else if z = nm "n" then some (.ref nl) else m z) →
    News h₀ L h' [(d, o), (l, W.listOf vs.toArray n), (L + 1, oc), (159, tabObj #[]), (ml, mat6 a0 a1 a2 a3 a4 a5 t0 t1 t2 t3 t4 t5 k1), (nl, mat6 b0 b1 b2 b3 b4 b5 u0 u1 u2 u3 u4 u5 k2)] → DeckIs w o l M T v1 v2 → (0 ≤ T ∧ T < B1 / 100000) → IntsAre vs ns → ns.length ≤ 16 →
    Six B1 a0 a1 a2 a3 a4 a5 → Six 1000000000 b0 b1 b2 b3 b4 b5 →
    ((NeQ ml d) ∧ (NeQ ml l) ∧ (NeQ ml (L + 1)) ∧ (NeQ ml 159)) → ((NeQ nl d) ∧ (NeQ nl l) ∧ (NeQ nl (L + 1)) ∧ (NeQ nl 159)) → (NeQ ml nl) → Q .next { s with heap := h', toks := tk }
def MatS (w : World) (h₀ : Heap) (L d l : Addr) (M : Int) (B1 : Int) (oc : Obj) (m : Str → Option Value) (s s' : Shared) : Prop := ∀ Q, MatK w h₀ L d l M B1 oc m s Q → Q .next s'
def MatPost (w : World) (h₀ : Heap) (L d l : Addr) (M : Int) (B1 : Int) (oc : Obj) (m : Str → Option Value) (s : Shared) (f : Flow) (s' : Shared) : Prop := f = .next ∧ MatS w h₀ L d l M B1 oc m s s'

section
variable {w : World} {M' : Model} {A : Around} {t : Sem Flow} {Q : Flow → Shared → Prop} {E : Value → Shared → Prop} {h₀ : Heap} {L d l : Addr} {m m' : Str → Option Value} {s : Shared} {news : List (Addr × Obj)} {M B1 : Int} {oc o : Obj} {T₀ : Int} {t1 t2 : Tok}
theorem cut_mat (F : Fr h₀ L s.heap m) (hD : DeckIs w o l M T₀ t1 t2) (hm : (d, o) ∈ news) (hc : (L + 1, oc) ∈ news) (N : News h₀ L s.heap news) (h2 : wpAny M' A t (MatPost w h₀ L d l M 100000000 oc m s) E s)
    (h1 : MatK w h₀ L d l M 100000000 oc m s Q) : wpAny M' A t Q E s :=
  have _ := hm; have _ := hc; have _ := N; have _ := F; have _ := hD
  cut_step (MatS w h₀ L d l M 100000000 oc m s) h2 fun _ hs => hs Q h1
theorem cut_mid {ml nl : Addr} (F : Fr h₀ L s.heap (fun z => if z = nm "m" then some (.ref ml) else if z = nm "n" then some (.ref nl) else m z)) (hD : DeckIs w o l M T₀ t1 t2) (hm : (d, o) ∈ news) (hc : (L + 1, oc) ∈ news) (N : News h₀ L s.heap news) (h2 : wpAny M' A t (MatPost w h₀ L d l M 1000000000 oc m s) E s)
    (h1 : MatK w h₀ L d l M 1000000000 oc m s Q) : wpAny M' A t Q E s :=
  have _ := hm; have _ := hc; have _ := N; have _ := F; have _ := hD
  cut_step (MatS w h₀ L d l M 1000000000 oc m s) h2 fun _ hs => hs Q h1
theorem mat_post {ml nl : Addr} {vs : List Value} {n k1 k2 : Nat} {ns : List Int} {T : Int} {v1 v2 : Tok} {h' : Heap} {tk : Tok} {a0 a1 a2 a3 a4 a5 b0 b1 b2 b3 b4 b5 : Int} {t0 t1 t2 t3 t4 t5 u0 u1 u2 u3 u4 u5 : Tok}
    (F : Fr h₀ L h' (fun z => if z = nm "m" then some (.ref ml) else if z = nm "n" then some (.ref nl) else m z)) (N : News h₀ L h' news) (hD : DeckIs w o l M T v1 v2) (m1 : (d, o) ∈ news) (m2 : (l, W.listOf vs.toArray n) ∈ news) (m3 : (L + 1, oc) ∈ news) (m4 : (159, tabObj #[]) ∈ news)
    (m5 : (ml, mat6 a0 a1 a2 a3 a4 a5 t0 t1 t2 t3 t4 t5 k1) ∈ news) (m6 : (nl, mat6 b0 b1 b2 b3 b4 b5 u0 u1 u2 u3 u4 u5 k2) ∈ news)
    (hT : 0 ≤ T ∧ T < B1 / 100000) (hI : IntsAre vs ns) (hl : ns.length ≤ 16)
    (ba : Six B1 a0 a1 a2 a3 a4 a5) (bb : Six 1000000000 b0 b1 b2 b3 b4 b5)
    (n1 : (@Ne Nat ml d)) (n2 : (@Ne Nat ml l)) (n3 : (@Ne Nat ml (L + 1))) (n4 : (@Ne Nat ml 159)) (n5 : (@Ne Nat nl d)) (n6 : (@Ne Nat nl l)) (n7 : (@Ne Nat nl (L + 1))) (n8 : (@Ne Nat nl 159)) (n9 : (@Ne Nat ml nl)) :
    MatPost w h₀ L d l M B1 oc m s .next { s with heap := h', toks := tk } :=
  ⟨rfl, fun _ kk => kk ml nl a0 a1 a2 a3 a4 a5 b0 b1 b2 b3 b4 b5 t0 t1 t2 t3 t4 t5 u0 u1 u2 u3 u4 u5 k1 k2 o vs n ns T v1 v2 h' tk F (pick N m1 (pick N m2 (pick N m3 (pick N m4 (pick N m5 (pick N m6 News.nil)))))) hD hT hI hl ba bb ⟨n1, n2, n3, n4⟩ ⟨n5, n6, n7, n8⟩ n9⟩
end

/-- between two turns -/
def LoopJ (w : World) (L d l ml nl wt w1 w2 : Addr) (M T₀ : Int) (oc am bm ow ow1 ow2 : Obj) (i : Nat) (m : Str → Option Value) (nx : List (Addr × Obj)) : Prop :=
  ∃ o vs n ns v1 v2 ps c1 o1 c2 o2, nx = [(d, o), (l, W.listOf vs.toArray n), (L + 1, oc), (159, tabObj ps), (c1, o1), (c2, o2), (ml, am), (nl, bm), (wt, ow), (w1, ow1), (w2, ow2)] ∧ DeckIs w o l M (T₀ + 8 * (i : Int)) v1 v2 ∧ IntsAre vs ns ∧ ns.length ≤ 16 ∧
    Lams ledQ ps c1 o1 c2 o2 ∧ LCg.Off1 c1 [(d, oc), (l, oc), (L + 1, oc), (nl, oc), (wt, oc), (w1, oc), (w2, oc)] ∧ LCg.Off1 c2 [(d, oc), (l, oc), (L + 1, oc), (nl, oc), (wt, oc), (w1, oc), (w2, oc)] ∧
    m (nm "m") = some (.ref ml) ∧ m (nm "n") = some (.ref nl) ∧ m (nm "was") = some (.ref wt)
section
variable {w : World} {h₀ : Heap} {L d l ml nl wt w1 w2 : Addr} {M T₀ : Int} {oc am bm ow ow1 ow2 : Obj} {i : Nat} {m : Str → Option Value} {news : List (Addr × Obj)} {s : Shared}
  {o : Obj} {vs : List Value} {n : Nat} {ns : List Int} {v1 v2 : Tok} {ps : Array Value} {c1 c2 : Addr} {o1 o2 : Obj} {T : Int} {I : Addr} {oI : Obj} {h' : Heap} {tk : Tok}
theorem rng_end {Q : Flow → Shared → Prop} (F : Fr h₀ L h' m) (N : News h₀ L h' news) (hD : DeckIs w o l M T v1 v2) (m0 : (I, oI) ∈ news) (m1 : (d, o) ∈ news) (m2 : (l, W.listOf vs.toArray n) ∈ news) (m3 : (L + 1, oc) ∈ news) (m4 : (159, tabObj ps) ∈ news) (H : Lams ledQ ps c1 o1 c2 o2) (m5 : (c1, o1) ∈ news) (m6 : (c2, o2) ∈ news)
    (m7 : (ml, am) ∈ news) (m8 : (nl, bm) ∈ news) (m9 : (wt, ow) ∈ news) (m10 : (w1, ow1) ∈ news) (m11 : (w2, ow2) ∈ news) (e : T = T₀ + 8 * ((i : Int) + 1)) (hI : IntsAre vs ns) (hl : ns.length ≤ 16)
    (f1 : LCg.Off1 c1 [(d, oc), (l, oc), (L + 1, oc), (nl, oc), (wt, oc), (w1, oc), (w2, oc)]) (f2 : LCg.Off1 c2 [(d, oc), (l, oc), (L + 1, oc), (nl, oc), (wt, oc), (w1, oc), (w2, oc)])
    (g0 : LCg.Off1 I [(d, oc), (l, oc), (L + 1, oc), (159, oc), (c1, oc), (c2, oc), (ml, oc), (nl, oc), (wt, oc), (w1, oc), (w2, oc)])
    (x1 : m (nm "m") = some (.ref ml)) (x2 : m (nm "n") = some (.ref nl)) (x3 : m (nm "was") = some (.ref wt)) :
    RngPost h₀ L (LoopJ w L d l ml nl wt w1 w2 M T₀ oc am bm ow ow1 ow2 (i + 1)) I oI s Q .next { s with heap := h', toks := tk } :=
  show RngEnd _ _ _ _ _ _ _ from
  ⟨h', tk, m, [(d, o), (l, W.listOf vs.toArray n), (L + 1, oc), (159, tabObj ps), (c1, o1), (c2, o2), (ml, am), (nl, bm), (wt, ow), (w1, ow1), (w2, ow2)], rfl, F,
    pick N m0 (pick N m1 (pick N m2 (pick N m3 (pick N m4 (pick N m5 (pick N m6 (pick N m7 (pick N m8 (pick N m9 (pick N m10 (pick N m11 News.nil))))))))))), of_off1 (by simp only [LCg.Off1] at g0 ⊢; exact g0), o, vs, n, ns, v1, v2, ps, c1, o1, c2, o2, rfl, by rw [show T₀ + 8 * (((i + 1 : Nat)) : Int) = T by omega]; exact hD, hI, hl, H, f1, f2, x1, x2, x3⟩

theorem fr_names {x : Str} {v : Value} (x1 : m (nm "m") = some (.ref ml)) (x2 : m (nm "n") = some (.ref nl)) (x3 : m (nm "was") = some (.ref wt)) (F : Fr h₀ L h' (fun y => if y = x then some v else m y)) :
    Fr h₀ L h' (fun y => if y = x then some v else if y = nm "m" then some (.ref ml) else if y = nm "n" then some (.ref nl) else if y = nm "was" then some (.ref wt) else m y) := by
  have e : (fun y => if y = x then some v else m y) = (fun y => if y = x then some v else if y = nm "m" then some (.ref ml) else if y = nm "n" then some (.ref nl) else if y = nm "was" then some (.ref wt) else m y) := by
    funext y
    by_cases h1 : y = x
    · rw [if_pos h1, if_pos h1]
    rw [if_neg h1, if_neg h1]
    by_cases h2 : y = nm "m"
    · rw [if_pos h2, h2, x1]
    rw [if_neg h2]
    by_cases h3 : y = nm "n"
    · rw [if_pos h3, h3, x2]
    rw [if_neg h3]
    by_cases h4 : y = nm "was"
    · rw [if_pos h4, h4, x3]
    rw [if_neg h4]
  rw [← e]; exact F
end

section
variable {prog : Program} {w : World} {A : Around} {E : Value → Shared → Prop} {s : Shared} {env : Env} {h₀ : Heap} {x : Str} {body : List Stmt} {Q : Flow → Shared → Prop}
  {d l ml nl wt w1 w2 : Addr} {M T₀ : Int} {oc am bm ow1 ow2 : Obj} {news : List (Addr × Obj)}
  {o : Obj} {vs : List Value} {n : Nat} {ns : List Int} {v1 v2 : Tok}
/-- the law's loop: one turn is walked, whatever the turns before it left -/
theorem loop_use {r : Addr} {a₀ b₀ : Int} {t₀ u₀ v₀ : Tok} {nn : Nat} {m₀ : Str → Option Value} {kt : Nat} {L : Addr}
    (eL : env.locals = L)     (hh : A.handled = none) (hr : IsRange s.heap r a₀ b₀ 1 t₀ u₀ v₀) (hsmall : Builtin.Range.small a₀ b₀ 1 = true) (hn : Builtin.Range.rangeSize a₀ b₀ 1 = (nn : Int)) (F : Fr h₀ L s.heap m₀) (N : News h₀ L s.heap news)
    (hD : DeckIs w o l M T₀ v1 v2) (m1 : (d, o) ∈ news) (m2 : (l, W.listOf vs.toArray n) ∈ news) (m3 : (L + 1, oc) ∈ news) (m4 : (159, tabObj #[]) ∈ news)
    (x1 : m₀ (nm "m") = some (.ref ml)) (x2 : m₀ (nm "n") = some (.ref nl)) (x3 : m₀ (nm "was") = some (.ref wt))
    (m5 : (ml, am) ∈ news) (m6 : (nl, bm) ∈ news) (m7 : (wt, ({ cls := .type "tuple", data := .seq #[.ref w1, .ref w2] kt } : Obj)) ∈ news) (m8 : (w1, ow1) ∈ news) (m9 : (w2, ow2) ∈ news)
    (hI : IntsAre vs ns) (hl : ns.length ≤ 16) (n159 : ml ≠ 159)
    (f1 : LCg.Off1 ml [(d, oc), (l, oc), (L + 1, oc), (nl, oc), (wt, oc), (w1, oc), (w2, oc)])
    (turn : ∀ i (k : Int) t (u : Str → Option Value) I oI h tk o vs n ns v1 v2 ps c1 o1 c2 o2, i < nn → DeckIs w o l M (T₀ + 8 * (i : Int)) v1 v2 → IntsAre vs ns → ns.length ≤ 16 → Lams ledQ ps c1 o1 c2 o2 →
      LCg.Off1 c1 [(d, oc), (l, oc), (L + 1, oc), (nl, oc), (wt, oc), (w1, oc), (w2, oc)] → LCg.Off1 c2 [(d, oc), (l, oc), (L + 1, oc), (nl, oc), (wt, oc), (w1, oc), (w2, oc)] →
      LCg.Off1 I [(d, oc), (l, oc), (L + 1, oc), (159, oc), (c1, oc), (c2, oc), (ml, oc), (nl, oc), (wt, oc), (w1, oc), (w2, oc)] →
      Fr h₀ L h (fun y => if y = x then some (.int k t) else if y = nm "m" then some (.ref ml) else if y = nm "n" then some (.ref nl) else if y = nm "was" then some (.ref wt) else u y) →
      News h₀ L h [(I, oI), (d, o), (l, W.listOf vs.toArray n), (L + 1, oc), (159, tabObj ps), (c1, o1), (c2, o2), (ml, am), (nl, bm), (wt, { cls := .type "tuple", data := .seq #[.ref w1, .ref w2] kt }), (w1, ow1), (w2, ow2)] →
      wpAny (model prog w) A (execs body env) (RngPost h₀ L (LoopJ w L d l ml nl wt w1 w2 M T₀ oc am bm { cls := .type "tuple", data := .seq #[.ref w1, .ref w2] kt } ow1 ow2 (i + 1)) I oI { s with heap := h, toks := tk } Q) E { s with heap := h, toks := tk })
    (done : ∀ (u : Str → Option Value) h tk o vs n ps, Fr h₀ L h (fun y => if y = nm "turn" then u y else if y = nm "m" then some (.ref ml) else if y = nm "n" then some (.ref nl) else if y = nm "was" then some (.ref wt) else u y) →
      News h₀ L h [(d, o), (l, W.listOf vs n), (L + 1, oc), (159, tabObj ps), (ml, am), (nl, bm), (wt, { cls := .type "tuple", data := .seq #[.ref w1, .ref w2] kt }), (w1, ow1), (w2, ow2)] → Q .next { s with heap := h, toks := tk }) :
    wpAny (model prog w) A (pyIter (.ref r)) (fun it s₂ => LoopAtV prog w A h₀ env x body Q E it s₂) E s := by
  subst eL
  refine loop_rng (LoopJ w env.locals d l ml nl wt w1 w2 M T₀ oc am bm { cls := .type "tuple", data := .seq #[.ref w1, .ref w2] kt } ow1 ow2) hh hr hsmall hn F
    (news := [(d, o), (l, W.listOf vs.toArray n), (env.locals + 1, oc), (159, tabObj #[]), (ml, am), (ml, am), (ml, am), (nl, bm), (wt, { cls := .type "tuple", data := .seq #[.ref w1, .ref w2] kt }), (w1, ow1), (w2, ow2)])
    (pick N m1 (pick N m2 (pick N m3 (pick N m4 (pick N m5 (pick N m5 (pick N m5 (pick N m6 (pick N m7 (pick N m8 (pick N m9 News.nil))))))))))) ?_ ?_ ?_
  · exact ⟨o, vs, n, ns, v1, v2, #[], ml, am, ml, am, rfl, by rw [show T₀ + 8 * ((0 : Nat) : Int) = T₀ by omega]; exact hD, hI, hl, lams_nil _ _ _ _ _ n159 n159, f1, f1, x1, x2, x3⟩
  · rintro i k t m₁ nx I oI h tk hi ⟨o', vs', n', ns', v1', v2', ps, c1, o1, c2, o2, rfl, hD', hI', hl', H, g1, g2, y1, y2, y3⟩ hne F' N'
    refine turn i k t m₁ I oI h tk o' vs' n' ns' v1' v2' ps c1 o1 c2 o2 hi hD' hI' hl' H g1 g2 ?_ (fr_names y1 y2 y3 F') N'
    have z := off1_of hne
    simp only [LCg.Off1] at z ⊢
    exact z
  · rintro m₁ nx h tk ⟨o', vs', n', ns', v1', v2', ps, c1, o1, c2, o2, rfl, hD', hI', hl', H, g1, g2, y1, y2, y3⟩ F' N'
    refine done m₁ h tk o' vs'.toArray n' ps ?_ ?_
    · have e : (fun y => if y = nm "turn" then m₁ y else m₁ y) = m₁ := by funext y; split <;> rfl
      rw [← e] at F'
      have e2 : (fun y => if y = nm "turn" then m₁ y else m₁ y) = (fun y => if y = nm "turn" then m₁ y else if y = nm "m" then some (.ref ml) else if y = nm "n" then some (.ref nl) else if y = nm "was" then some (.ref wt) else m₁ y) := by
        funext y
        by_cases h1 : y = nm "turn"
        · rw [if_pos h1, if_pos h1]
        rw [if_neg h1, if_neg h1]
        by_cases h2 : y = nm "m"
        · rw [if_pos h2, h2, y1]
        rw [if_neg h2]
        by_cases h3 : y = nm "n"
        · rw [if_pos h3, h3, y2]
        rw [if_neg h3]
        by_cases h4 : y = nm "was"
        · rw [if_pos h4, h4, y3]
        rw [if_neg h4]
      rw [e2] at F'
      exact F'
    · intro p hp
      refine N' p ?_
      simp only [List.mem_cons, List.not_mem_nil, or_false] at hp ⊢
      rcases hp with h | h | h | h | h | h | h | h | h <;> simp [h]
end

/-- the law's end -/
theorem good_true {L : Addr} {cl : Str → Option Addr} {mean : ExcName → Option Value} {args : List WData} {s₁ s' : Shared} {m : Str → Option Value} (F : Fr s₁.heap L s'.heap m) (hg : s'.gens = #[]) (hos : s'.os = s₁.os) :
    GoodW PySem.Challenge.rw_on0256_01.row.claim cl mean args s₁ (.ok (.ret (.bool true))) s' :=
  goodW_bool F hg (fun _ => rfl) (postW_of rfl (w_eq_bool (w_res rfl) w_lit) rfl) hos

/-! two pairs of matrices, the same numbers -/
section
variable {prog : Program} {w : World} {A : Around} {E : Value → Shared → Prop} {s : Shared} {h₀ : Heap} {L : Addr} {news : List (Addr × Obj)} {Q : Value → Shared → Prop}
theorem eqAt_six {p q : Addr} {a0 a1 a2 a3 a4 a5 : Int} {t0 t1 t2 t3 t4 t5 u0 u1 u2 u3 u4 u5 : Tok} {k1 k2 : Nat} (N : News h₀ L s.heap news) (hp : (p, W.listOf #[.int a0 t0, .int a1 t1, .int a2 t2, .int a3 t3, .int a4 t4, .int a5 t5] k1) ∈ news)
    (hq : (q, W.listOf #[.int a0 u0, .int a1 u1, .int a2 u2, .int a3 u3, .int a4 u4, .int a5 u5] k2) ∈ news) (hu : A.units < cLine) : PySem.SeqAt.EqAt A s (.ref p) (.ref q) true := by
  by_cases e : p = q
  · subst e; exact PySem.SeqAt.EqAt.same _
  · refine PySem.SeqAt.EqAt.of_refs e ?_
    have := PySem.SeqAt.RcAt.lists (A := A) (s := s) (e := fun _ => true) ⟨_, N.get hp, rfl, k1, rfl⟩ ⟨_, N.get hq, rfl, k2, rfl⟩ rfl hu fun j h1 h2 => by
      have h1' : j < 6 := h1
      rcases j with _ | _ | _ | _ | _ | _ | j
      · exact eqAt_int _ _ _
      · exact eqAt_int _ _ _
      · exact eqAt_int _ _ _
      · exact eqAt_int _ _ _
      · exact eqAt_int _ _ _
      · exact eqAt_int _ _ _
      · omega
    exact this
theorem eq_was {p q x x' y y' : Addr} {k1 k2 : Nat} (N : News h₀ L s.heap news) (hp : (p, ({ cls := .type "tuple", data := .seq #[.ref x, .ref x'] k1 } : Obj)) ∈ news) (hq : (q, ({ cls := .type "tuple", data := .seq #[.ref y, .ref y'] k2 } : Obj)) ∈ news) (hu : A.units < cLine)
    (h1 : PySem.SeqAt.EqAt A.in1 s (.ref x) (.ref y) true) (h2 : PySem.SeqAt.EqAt A.in1 s (.ref x') (.ref y') true) (h : Q (.bool true) s) : wpAny (model prog w) A (compareOp .Eq (.ref p) (.ref q)) Q E s := by
  refine PySem.SeqAt.eq_tupleAt (e := fun _ => true) ⟨_, N.get hp, rfl, k1, rfl⟩ ⟨_, N.get hq, rfl, k2, rfl⟩ hu (fun j g1 g2 => ?_) h
  have g1' : j < 2 := g1
  rcases j with _ | _ | j
  · exact h1
  · exact h2
  · omega
end
end Mine
end

section
open PySem PySem.W PySem.Calls PyProof.Rows
namespace Mine
-- the deck, once
-- the two matrices, once; the tweak, once
-- the loop
set_option maxHeartbeats 8000000 in
theorem law_holds : PySem.Challenge.rw_on0256_01.Holds := hd (by
  k_go0
  (rename Fr _ _ _ _ => lF0)
  have lF1 : Fr _ _ _ (fun y => if y = Str.ofString "script" then some _ else none) := lF0
  clear lF0
  all_goals try k_fold
  repeat' (first | (k_unfold; (try dsimp only)) | (k_end; wrow_close) | ((with_reducible show wpAny _ _ (eval (Expr.Constant (Const.int _) _ _) _) _ _ _); (with_reducible refine constL ?_)) | ((with_reducible show wpAny _ _ (binaryOp Operator.Add (Value.int _ _) (Value.int _ _)) _ _ _); (with_reducible refine addL ?_)) | ((with_reducible show wpAny _ _ (binaryOp Operator.Sub (Value.int _ _) (Value.int _ _)) _ _ _); (with_reducible refine subL ?_)) | ((with_reducible show wpAny _ _ (binaryOp Operator.Mult (Value.int _ _) (Value.int _ _)) _ _ _); (with_reducible refine' mulL ?_ ?zqs1); (case zqs1 => (first | with_reducible exact ok_f1 | with_reducible exact ok_f2 | with_reducible exact ok_f3 | exact IntMulOk.of_left (by decide) | with_reducible exact ok_l (by assumption) | with_reducible exact ok_r (by assumption) | with_reducible mul_fits))) | ((with_reducible show wpAny _ _ (newTuple _) _ _ _); k_here; kup_bare; k_dflt (refine' newTupleL ?zqs2 ?zqs3 ?_ ?zqs4; (case zqs2 => k_asm); (case zqs3 => k_asm); (case zqs4 => kmk_size)); intro D' h' F' N' l1; (try k_lt l1); (try k_sweep)) | ((with_reducible show wpAny _ _ (exec ..) _ _ _); (first | (((with_reducible show wpAny _ _ (exec (Stmt.For (Expr.Name ..) (Expr.Call ..) ..) _) _ _ _); (k_here; (rename Fr _ _ _ _ => lF'); (with_unfolding_all refine' For_invVF lF' ?zq17k1 ?zq17k2 ?_; (case zq17k1 => exact rfl); (case zq17k2 => exact rfl); k_whole)))) | (((with_reducible show wpAny _ _ (exec (Stmt.If ..) _) _ _ _); (k_here; (with_reducible show wpAny _ _ (exec (Stmt.If (Expr.Compare (Expr.Call _ _ _ _) _ _ _) [Stmt.Assign [Expr.Tuple _ _ _] _ _] _ _) _) _ _ _); (fail_if_success (with_reducible show wpAny _ _ _ (MatPost _ _ _ _ _ _ _ _ _ _) _ _)); focus (k_dflt (refine' cut_mid ?zq10F ?zq10hD ?zq10hm ?zq10hc ?zq10N ?_ ?_; (case zq10F => k_asm); (case zq10N => k_asm); (case zq10hD => assumption); (case zq10hm => k_mem); (case zq10hc => k_mem)); rotate_left; ((intro ml' nl' a0' a1' a2' a3' a4' a5' b0' b1' b2' b3' b4' b5' t0' t1' t2' t3' t4' t5' u0' u1' u2' u3' u4' u5' k1' k2' o' vs' n' ns' T' v1' v2' h' tk' F' N' hD' hT' hI' hl' ba' bb' g1 g2 g3; (obtain ⟨pa, pb, pc, pd⟩ := g1); (obtain ⟨pe, pf, pg, ph⟩ := g2); (try k_sweep); (try dsimp only))); rotate_left)))) | (((with_reducible show wpAny _ _ (exec (Stmt.Assign ..) _) _ _ _); (k_here; (with_reducible show wpAny _ _ (exec (Stmt.Assign [Expr.Tuple _ _ _] (Expr.Tuple [Expr.ListComp _ _ _ _, _] _ _) _) _) _ _ _); (fail_if_success (with_reducible show wpAny _ _ _ (MatPost _ _ _ _ _ _ _ _ _ _) _ _)); focus (k_dflt (refine' cut_mat ?zq9F ?zq9hD ?zq9hm ?zq9hc ?zq9N ?_ ?_; (case zq9F => k_asm); (case zq9N => k_asm); (case zq9hD => assumption); (case zq9hm => k_mem); (case zq9hc => k_mem)); rotate_left; ((intro ml' nl' a0' a1' a2' a3' a4' a5' b0' b1' b2' b3' b4' b5' t0' t1' t2' t3' t4' t5' u0' u1' u2' u3' u4' u5' k1' k2' o' vs' n' ns' T' v1' v2' h' tk' F' N' hD' hT' hI' hl' ba' bb' g1 g2 g3; (obtain ⟨pa, pb, pc, pd⟩ := g1); (obtain ⟨pe, pf, pg, ph⟩ := g2); (try k_sweep); (try dsimp only))); rotate_left)))) | (((with_reducible show wpAny _ _ (exec (Stmt.Assign ..) _) _ _ _); (k_here; (with_reducible show wpAny _ _ (exec (Stmt.Assign [Expr.Name _ _] (Expr.Call (Expr.Name _ _) [Expr.Name _ _] [] _) _) _) _ _ _); (fail_if_success (with_reducible show wpAny _ _ _ (DeckPost _ _ _ _ _) _ _)); focus (k_dflt (refine' cut_deck ?zq7k1 ?zq7kX ?_ ?_; (case zq7k1 => k_asm); (case zq7kX => k_asm)); rotate_left; (intro d' l' o' vs' n' ns' M' t1' t2' oc' h' tk' F' N' hoc' hD' hI' hl' g1 g2 g3 g4 g5 g6; (try k_sweep); (try dsimp only)); rotate_left)))))) | ((with_reducible show wpAny _ _ (subscriptTail ..) _ _ _); (first | ((k_here; (with_reducible show wpAny _ _ (subscriptTail _ _ (Value.ref _) (Value.int _ _)) _ _ _); k_dflt (refine' item_at ?zq12N ?zq12m ?zq12a ?zq12b ?zq12d ?_; (case zq12N => k_asm); (case zq12m => k_mem); (case zq12a => decide); (case zq12b => decide); (case zq12d => exact rfl); k_whole))))) | ((with_reducible show wpAny _ _ (compareOp ..) _ _ _); (first | ((k_here; (with_reducible show wpAny _ _ (compareOp CmpOp.Eq (Value.ref _) (Value.ref _)) _ _ _); k_dflt (refine' eq_was ?zq15N ?zq15hp ?zq15hq ?zq15hu ?zq15h1 ?zq15h2 ?_; (case zq15N => k_asm); (case zq15hp => k_mem); (case zq15hq => k_mem); (case zq15hu => ke_room); (case zq15h1 => exact eqAt_six (by k_asm) (by k_mem) (by k_mem) (by ke_room)); (case zq15h2 => exact eqAt_six (by k_asm) (by k_mem) (by k_mem) (by ke_room)); k_whole))))) | ((with_reducible show wpAny _ _ (call _ _ _) _ _ _); (first | ((k_here; (with_reducible show wpAny _ _ (call (Value.ref 169) [Value.ref _, Value.ref _, Value.int _ _, Value.int _ _]) _ _ _); k_dflt (refine' join_use ?zq20hm ?zq20hn ?zq20ne ?zq20ba ?zq20bb ?zq20x0 ?zq20x1 ?zq20y0 ?zq20y1 ?zq20k1 ?zq20k2 ?zq20k3 ?zq20k4 ?zq20k5 ?zq20kA ?zq20kH ?zq20kK ?zq20kD ?zq20kU ?zq20hr ?_; (((case zq20kA => exact rfl); (case zq20k2 => k_asm); (case zq20k1 => k_asm); (case zq20k3 => k_asm); (case zq20k4 => k_asm); (case zq20k5 => k_asm); (case zq20kH => exact rfl); (case zq20kK => exact rfl); (case zq20kD => exact Nat.le_of_ble_eq_true rfl); (case zq20kU => exact Nat.le_of_ble_eq_true rfl))); (case zq20hm => k_mem); (case zq20hn => k_mem); (case zq20ne => k_ne); (case zq20ba => with_reducible assumption); (case zq20bb => with_reducible assumption); (case zq20x0 => with_reducible assumption); (case zq20x1 => with_reducible assumption); (case zq20y0 => with_reducible assumption); (case zq20y1 => with_reducible assumption); (case zq20hr => ((repeat' (first | exact Rest.nil | with_reducible refine' Rest.s1 ?_ | with_reducible refine' Rest.s2 ?_ | (refine' Rest.keep (Rest.two (as := (_, _)) ?zq20ra ?zq20rb) ?_; (case zq20ra => k_ne); (case zq20rb => k_ne)))))); k_whole); intro h' tk' F' N'; (try k_sweep))) | ((k_here; (with_reducible show wpAny _ _ (call (Value.ref 164) [Value.ref _, Value.int _ _, Value.int _ _]) _ _ _); k_dflt (refine' led_use ?zq19hm ?zq19hp ?zq19H ?zq19hc1 ?zq19hc2 ?zq19ba ?zq19ne ?zq19k1 ?zq19k2 ?zq19k3 ?zq19k4 ?zq19k5 ?zq19XB ?zq19TB ?zq19C ?zq19kA ?zq19kH ?zq19kK ?zq19kD ?zq19kU ?zq19hr ?_; (((case zq19kA => exact rfl); (case zq19k2 => k_asm); (case zq19k1 => k_asm); (case zq19k3 => k_asm); (case zq19k4 => k_asm); (case zq19k5 => k_asm); (case zq19kH => exact rfl); (case zq19kK => exact rfl); (case zq19kD => exact Nat.le_of_ble_eq_true rfl); (case zq19kU => exact Nat.le_of_ble_eq_true rfl))); (case zq19XB => assumption); (case zq19TB => assumption); (case zq19C => first | assumption | kn_code); (case zq19hm => k_mem); (case zq19hp => k_mem); (case zq19H => assumption); (case zq19hc1 => k_mem); (case zq19hc2 => k_mem); (case zq19ba => with_reducible assumption); (case zq19ne => k_ne); (case zq19hr => ((repeat' (first | exact Rest.nil | with_reducible refine' Rest.f1 ?_ | with_reducible refine' Rest.f2 ?_ | with_reducible refine' Rest.f3 ?_ | with_reducible refine' Rest.f4 ?_ | (refine' Rest.keep (Rest.four (as := (_, _, _, _)) ?zq19ra ?zq19rb ?zq19rc ?zq19rd) ?_; (case zq19ra => k_ne); (case zq19rb => k_ne); (case zq19rc => k_ne); (case zq19rd => k_ne)))))); k_whole); intro ps' c1' o1' c2' o2' h' tk' H' p1 p2 q1 q2 F' N'; (try k_sweep))) | ((k_here; (with_reducible show wpAny _ _ (call (Value.ref 54) [Value.int _ _, Value.int _ _]) _ _ _); k_dflt (refine' Spec.useI (divided_spec _ _ _ _ _ ?zq13hb ?zq13hs) ?zq13k1 ?zq13k2 ?zq13k3 ?zq13k4 ?zq13k5 ?zq13kC ?zq13kA ?zq13kH ?zq13kK ?zq13kD ?zq13kU ?_; (case zq13hb => first | assumption | omega); (case zq13hs => first | assumption | omega); (case zq13kC => exact fun e => nomatch e); (((case zq13kA => exact rfl); (case zq13k2 => k_asm); (case zq13k1 => k_asm); (case zq13k3 => k_asm); (case zq13k4 => k_asm); (case zq13k5 => k_asm); (case zq13kH => exact rfl); (case zq13kK => exact rfl); (case zq13kD => exact Nat.le_of_ble_eq_true rfl); (case zq13kU => exact Nat.le_of_ble_eq_true rfl))); k_whole); intro t' h' tk' F' N'; (try k_sweep))) | ((k_here; (with_reducible show wpAny _ _ (call (Value.ref 129) [Value.ref _, Value.int _ _]) _ _ _); k_dflt (refine' draw_use ?zq2m1 ?zq2hD ?zq2m2 ?zq2hI ?zq2hl ?zq2ne ?zq2b1 ?zq2b2 ?zq2T1 ?zq2T2 ?zq2k1 ?zq2k2 ?zq2k3 ?zq2k4 ?zq2k5 ?zq2kA ?zq2kH ?zq2kK ?zq2kD ?zq2kU ?zq2hr ?_; (((case zq2kA => exact rfl); (case zq2k2 => k_asm); (case zq2k1 => k_asm); (case zq2k3 => k_asm); (case zq2k4 => k_asm); (case zq2k5 => k_asm); (case zq2kH => exact rfl); (case zq2kK => exact rfl); (case zq2kD => exact Nat.le_of_ble_eq_true rfl); (case zq2kU => exact Nat.le_of_ble_eq_true rfl))); (case zq2hD => assumption); (case zq2m1 => k_mem); (case zq2m2 => k_mem); (case zq2hI => assumption); (case zq2hl => assumption); (case zq2ne => k_ne); (case zq2b1 => first | decide | omega); (case zq2b2 => first | decide | omega); (case zq2T1 => omega); (case zq2T2 => omega); (case zq2hr => ((repeat' (first | exact Rest.nil | with_reducible refine' Rest.s1 ?_ | with_reducible refine' Rest.s2 ?_ | (refine' Rest.keep (Rest.two (as := (_, _)) ?zq2ra ?zq2rb) ?_; (case zq2ra => k_ne); (case zq2rb => k_ne)))))); k_whole); intro r' t' o' vs' n' ns' t1' t2' h' tk' r0 r1 hD' hI' hl' F' N'; (try k_sweep))) | ((k_here; (with_reducible show wpAny _ _ (call (Value.ref 150) [Value.ref _]) _ _ _); k_dflt (refine' num_use ?zq1m1 ?zq1hD ?zq1m2 ?zq1hI ?zq1hl ?zq1ne ?zq1T1 ?zq1T2 ?zq1k1 ?zq1k2 ?zq1k3 ?zq1k4 ?zq1k5 ?zq1kA ?zq1kH ?zq1kK ?zq1kD ?zq1kU ?zq1hr ?_; (((case zq1kA => exact rfl); (case zq1k2 => k_asm); (case zq1k1 => k_asm); (case zq1k3 => k_asm); (case zq1k4 => k_asm); (case zq1k5 => k_asm); (case zq1kH => exact rfl); (case zq1kK => exact rfl); (case zq1kD => exact Nat.le_of_ble_eq_true rfl); (case zq1kU => exact Nat.le_of_ble_eq_true rfl))); (case zq1hD => assumption); (case zq1m1 => k_mem); (case zq1m2 => k_mem); (case zq1hI => assumption); (case zq1hl => assumption); (case zq1ne => k_ne); (case zq1T1 => omega); (case zq1T2 => omega); (case zq1hr => ((repeat' (first | exact Rest.nil | with_reducible refine' Rest.s1 ?_ | with_reducible refine' Rest.s2 ?_ | (refine' Rest.keep (Rest.two (as := (_, _)) ?zq1ra ?zq1rb) ?_; (case zq1ra => k_ne); (case zq1rb => k_ne)))))); k_whole); intro y' t' o' vs' n' ns' t1' t2' h' tk' y0 y1 hD' hI' hl' F' N'; (try k_sweep))) | ((k_here; (with_reducible show wpAny _ _ (call (Value.ref 103) [Value.ref _, Value.int _ _, Value.int _ _]) _ _ _); k_dflt (refine' pair_use (delta_spec _ _ _ _ _ _ _ _ _ _ _ _ _ _ _ _ _ _ _ ?zq0b0 ?zq0b1 ?zq0b2 ?zq0b3) ?zq0hm ?zq0k1 ?zq0k2 ?zq0k3 ?zq0k4 ?zq0k5 ?zq0kA ?zq0kH ?zq0kK ?zq0kD ?zq0kU ?_; (((case zq0kA => exact rfl); (case zq0k2 => k_asm); (case zq0k1 => k_asm); (case zq0k3 => k_asm); (case zq0k4 => k_asm); (case zq0k5 => k_asm); (case zq0kH => exact rfl); (case zq0kK => exact rfl); (case zq0kD => exact Nat.le_of_ble_eq_true rfl); (case zq0kU => exact Nat.le_of_ble_eq_true rfl))); (case zq0hm => k_mem); (case zq0b0 => first | decide | omega); (case zq0b1 => first | decide | omega); (case zq0b2 => first | decide | omega); (case zq0b3 => first | decide | omega); k_whole); intro t' u1' u2' h' tk' o1' F' N'; (try k_sweep))))) | ((with_reducible show wpAny _ _ (pyIter ..) _ _ _); (first | ((k_here; (with_reducible show wpAny _ _ (pyIter (Value.ref _)) (fun it s₂ => LoopAtV _ _ _ _ _ _ _ _ _ it s₂) _ _); focus (k_dflt (refine' loop_use ?zq18eL ?zq18hh ?zq18hr ?zq18hsm ?zq18hn ?zq18F ?zq18N ?zq18hD ?zq18m1 ?zq18m2 ?zq18m3 ?zq18m4 ?zq18x1 ?zq18x2 ?zq18x3 ?zq18m5 ?zq18m6 ?zq18m7 ?zq18m8 ?zq18m9 ?zq18hI ?zq18hl ?zq18n159 ?zq18f1 ?_ ?_; (case zq18hh => exact rfl); (case zq18hr => assumption); (case zq18hsm => exact small_one (by omega) (by omega) (by omega) (by omega)); (case zq18hn => exact rangeSize_nat _ _); (case zq18F => k_asm); (case zq18eL => exact rfl); (case zq18N => k_asm); (case zq18hD => assumption); (case zq18m1 => k_mem); (case zq18m2 => k_mem); (case zq18m3 => k_mem); (case zq18m4 => k_mem); (case zq18x1 => with_unfolding_all rfl); (case zq18x2 => with_unfolding_all rfl); (case zq18x3 => with_unfolding_all rfl); (case zq18m5 => k_mem); (case zq18m6 => k_mem); (case zq18m7 => k_mem); (case zq18m8 => k_mem); (case zq18m9 => k_mem); (case zq18hI => assumption); (case zq18hl => assumption); (case zq18n159 => k_ne); (case zq18f1 => (((simp only [LCg.Off1, and_true]); (refine ⟨?_, ?_, ?_, ?_, ?_, ?_, ?_⟩ <;> k_ne))))); rotate_left; (intro u' h' tk' o' vs' n' ps' F' N'; (try k_sweep); (try dsimp only)); rotate_left; (intro i' k' t' u' I' oI' h' tk' o' vs' n' ns' v1' v2' ps' c1' o1' c2' o2' hi' hD' hI' hl' H' g1 g2 g3 F' N'; (try k_sweep); (try dsimp only))))))) | ((with_reducible show wpAny _ _ (callWith ..) _ _ _); (first | ((k_here; k_dflt (refine' callWith_K ?zq14k1 ?zq14k2 ?_; (case zq14k1 => k_asm); (case zq14k2 => k_is); k_whole))))) | ((with_reducible show wpAny _ _ (eval ..) _ _ _); (first | (((with_reducible show wpAny _ _ (eval (Expr.ListComp ..) _) _ _ _); (k_here; (with_reducible show wpAny _ _ (eval (Expr.ListComp (Expr.Call (Expr.Name _ _) [Expr.Name _ _] [] _) [⟨_, Expr.Call _ [Expr.Constant (Const.int 6) _ _] _ _, _, _⟩] _ _) _) _ _ _); k_dflt (refine LCg.ListComp_U (F₀ := by k_asm) (by with_unfolding_all rfl) (by decide) (by rfl) (by decide) (by rfl) ?_)))))) | ((with_reducible show RngPost ..); (first | ((k_dflt (refine' rng_end ?zq21F ?zq21N ?zq21hD ?zq21m0 ?zq21m1 ?zq21m2 ?zq21m3 ?zq21m4 ?zq21H ?zq21m5 ?zq21m6 ?zq21m7 ?zq21m8 ?zq21m9 ?zq21m10 ?zq21m11 ?zq21eT ?zq21hI ?zq21hl ?zq21f1 ?zq21f2 ?zq21g0 ?zq21x1 ?zq21x2 ?zq21x3; (case zq21F => k_asm); (case zq21N => k_asm); (case zq21hD => assumption); (case zq21m0 => k_mem); (case zq21m1 => k_mem); (case zq21m2 => k_mem); (case zq21m3 => k_mem); (case zq21m4 => k_mem); (case zq21H => assumption); (case zq21m5 => k_mem); (case zq21m6 => k_mem); (case zq21m7 => k_mem); (case zq21m8 => k_mem); (case zq21m9 => k_mem); (case zq21m10 => k_mem); (case zq21m11 => k_mem); (case zq21eT => omega); (case zq21hI => assumption); (case zq21hl => assumption); (case zq21f1 => (((simp only [LCg.Off1, and_true]); (refine ⟨?_, ?_, ?_, ?_, ?_, ?_, ?_⟩ <;> k_ne)))); (case zq21f2 => (((simp only [LCg.Off1, and_true]); (refine ⟨?_, ?_, ?_, ?_, ?_, ?_, ?_⟩ <;> k_ne)))); (case zq21g0 => (((simp only [LCg.Off1, and_true]); (refine ⟨?_, ?_, ?_, ?_, ?_, ?_, ?_, ?_, ?_, ?_, ?_⟩ <;> k_ne)))); (case zq21x1 => with_unfolding_all rfl); (case zq21x2 => with_unfolding_all rfl); (case zq21x3 => with_unfolding_all rfl)))))) | (first | (((with_reducible show GoodW _ _ _ _ _ (Except.ok (Flow.ret (Value.bool true))) _ ∧ GrownAll _ _); k_dflt (refine' And.intro (good_true ?zq16F ?zq16G ?zq16O) ?_; (case zq16F => k_asm); (case zq16G => assumption); (case zq16O => exact rfl))))) | ((with_reducible show MatPost ..); (first | ((k_dflt (refine' mat_post ?zq11F ?zq11N ?zq11hD ?zq11m1 ?zq11m2 ?zq11m3 ?zq11m4 ?zq11m5 ?zq11m6 ?zq11hT ?zq11hI ?zq11hl ?zq11ba ?zq11bb ?zq11n1 ?zq11n2 ?zq11n3 ?zq11n4 ?zq11n5 ?zq11n6 ?zq11n7 ?zq11n8 ?zq11n9; (case zq11F => k_asm); (case zq11N => k_asm); (case zq11hD => assumption); (case zq11m1 => k_mem); (case zq11m2 => k_mem); (case zq11m3 => k_mem); (case zq11m4 => k_mem); (case zq11m5 => k_mem); (case zq11m6 => k_mem); (case zq11hT => omega); (case zq11hI => assumption); (case zq11hl => assumption); (case zq11ba => (first | with_reducible assumption | with_reducible exact six_w (by assumption) | with_reducible exact six_t (by assumption) | (apply six_mk <;> first | with_reducible assumption | omega))); (case zq11bb => (first | with_reducible assumption | with_reducible exact six_w (by assumption) | with_reducible exact six_t (by assumption) | (apply six_mk <;> first | with_reducible assumption | omega))); (case zq11n1 => k_ne); (case zq11n2 => k_ne); (case zq11n3 => k_ne); (case zq11n4 => k_ne); (case zq11n5 => k_ne); (case zq11n6 => k_ne); (case zq11n7 => k_ne); (case zq11n8 => k_ne); (case zq11n9 => k_ne)))))) | ((with_reducible show DeckPost ..); (first | ((k_dflt (refine' deck_post ?zq8F ?zq8N ?zq8hD ?zq8m1 ?zq8m2 ?zq8m3 ?zq8m4 ?zq8hoc ?zq8hI ?zq8hl ?zq8n1 ?zq8n2 ?zq8n3 ?zq8n4 ?zq8n5 ?zq8n6; (case zq8F => k_asm); (case zq8N => k_asm); (case zq8hD => first | assumption | ((rename Obj.IsDictOf _ _ _ => hD9); exact hD9)); (case zq8m1 => k_mem); (case zq8m2 => k_mem); (case zq8m3 => k_mem); (case zq8m4 => k_mem); (case zq8hoc => assumption); (case zq8hI => assumption); (case zq8hl => first | assumption | ((try simp only [List.length_reverse, List.length_map]); omega)); (case zq8n1 => k_ne); (case zq8n2 => k_ne); (case zq8n3 => k_ne); (case zq8n4 => k_ne); (case zq8n5 => k_ne); (case zq8n6 => k_ne)))))) | ((with_reducible show LCg.FinE ..); (first | (with_reducible (((unfold LCg.FinE); intro D' h' tk' F' N' o1'; (try simp only [List.nil_append, List.cons_append] at N'); (try dsimp only)))) | (((unfold LCg.FinE); intro D' h' tk' F' N' o1'; (try simp only [List.nil_append, List.cons_append] at N'); (try dsimp only))))) | ((with_reducible show LCg.CompRest ..); (first | ((with_unfolding_all first | (refine LCg.CompRest.succ ?_; intro v' I' oI' C' oC' D' m' h' tk' E' hv' hC' hx' F' N' off' ne'; (first | lcg_open hv' | (obtain ⟨t9', hv9'⟩ := hv'; subst hv9')); (replace ne' := NeT.of ne')) | refine LCg.CompRest.zero ?_)))) | ((with_reducible show LCg.CompSrc ..); (first | ((k_here; (with_reducible show LCg.CompSrc _ _ _ _ _ _ _ (Expr.Call (Expr.Name _ _) [Expr.Name _ _] [] _) _ _ _ _ _ _); k_dflt (refine LCg.CompSrc.range (by rfl) (by k_asm) (by k_asm) (by assumption) (by first | decide | rfl) (by first | rfl | decide) (by first | size_fits | exact Nat.le_of_ble_eq_true rfl) ?_; intro g'; lcg_lit))))) | walk1 | (dsimp only; (first | ((with_reducible show wpAny _ _ (eval (Expr.Constant (Const.int _) _ _) _) _ _ _); (with_reducible refine constL ?_)) | ((with_reducible show wpAny _ _ (binaryOp Operator.Add (Value.int _ _) (Value.int _ _)) _ _ _); (with_reducible refine addL ?_)) | ((with_reducible show wpAny _ _ (binaryOp Operator.Sub (Value.int _ _) (Value.int _ _)) _ _ _); (with_reducible refine subL ?_)) | ((with_reducible show wpAny _ _ (binaryOp Operator.Mult (Value.int _ _) (Value.int _ _)) _ _ _); (with_reducible refine' mulL ?_ ?zqs1); (case zqs1 => (first | with_reducible exact ok_f1 | with_reducible exact ok_f2 | with_reducible exact ok_f3 | exact IntMulOk.of_left (by decide) | with_reducible exact ok_l (by assumption) | with_reducible exact ok_r (by assumption) | with_reducible mul_fits))) | ((with_reducible show wpAny _ _ (newTuple _) _ _ _); k_here; kup_bare; k_dflt (refine' newTupleL ?zqs2 ?zqs3 ?_ ?zqs4; (case zqs2 => k_asm); (case zqs3 => k_asm); (case zqs4 => kmk_size)); intro D' h' F' N' l1; (try k_lt l1); (try k_sweep)) | ((with_reducible show wpAny _ _ (exec ..) _ _ _); (first | (((with_reducible show wpAny _ _ (exec (Stmt.For (Expr.Name ..) (Expr.Call ..) ..) _) _ _ _); (k_here; (rename Fr _ _ _ _ => lF'); (with_unfolding_all refine' For_invVF lF' ?zq17k1 ?zq17k2 ?_; (case zq17k1 => exact rfl); (case zq17k2 => exact rfl); k_whole)))) | (((with_reducible show wpAny _ _ (exec (Stmt.If ..) _) _ _ _); (k_here; (with_reducible show wpAny _ _ (exec (Stmt.If (Expr.Compare (Expr.Call _ _ _ _) _ _ _) [Stmt.Assign [Expr.Tuple _ _ _] _ _] _ _) _) _ _ _); (fail_if_success (with_reducible show wpAny _ _ _ (MatPost _ _ _ _ _ _ _ _ _ _) _ _)); focus (k_dflt (refine' cut_mid ?zq10F ?zq10hD ?zq10hm ?zq10hc ?zq10N ?_ ?_; (case zq10F => k_asm); (case zq10N => k_asm); (case zq10hD => assumption); (case zq10hm => k_mem); (case zq10hc => k_mem)); rotate_left; ((intro ml' nl' a0' a1' a2' a3' a4' a5' b0' b1' b2' b3' b4' b5' t0' t1' t2' t3' t4' t5' u0' u1' u2' u3' u4' u5' k1' k2' o' vs' n' ns' T' v1' v2' h' tk' F' N' hD' hT' hI' hl' ba' bb' g1 g2 g3; (obtain ⟨pa, pb, pc, pd⟩ := g1); (obtain ⟨pe, pf, pg, ph⟩ := g2); (try k_sweep); (try dsimp only))); rotate_left)))) | (((with_reducible show wpAny _ _ (exec (Stmt.Assign ..) _) _ _ _); (k_here; (with_reducible show wpAny _ _ (exec (Stmt.Assign [Expr.Tuple _ _ _] (Expr.Tuple [Expr.ListComp _ _ _ _, _] _ _) _) _) _ _ _); (fail_if_success (with_reducible show wpAny _ _ _ (MatPost _ _ _ _ _ _ _ _ _ _) _ _)); focus (k_dflt (refine' cut_mat ?zq9F ?zq9hD ?zq9hm ?zq9hc ?zq9N ?_ ?_; (case zq9F => k_asm); (case zq9N => k_asm); (case zq9hD => assumption); (case zq9hm => k_mem); (case zq9hc => k_mem)); rotate_left; ((intro ml' nl' a0' a1' a2' a3' a4' a5' b0' b1' b2' b3' b4' b5' t0' t1' t2' t3' t4' t5' u0' u1' u2' u3' u4' u5' k1' k2' o' vs' n' ns' T' v1' v2' h' tk' F' N' hD' hT' hI' hl' ba' bb' g1 g2 g3; (obtain ⟨pa, pb, pc, pd⟩ := g1); (obtain ⟨pe, pf, pg, ph⟩ := g2); (try k_sweep); (try dsimp only))); rotate_left)))) | (((with_reducible show wpAny _ _ (exec (Stmt.Assign ..) _) _ _ _); (k_here; (with_reducible show wpAny _ _ (exec (Stmt.Assign [Expr.Name _ _] (Expr.Call (Expr.Name _ _) [Expr.Name _ _] [] _) _) _) _ _ _); (fail_if_success (with_reducible show wpAny _ _ _ (DeckPost _ _ _ _ _) _ _)); focus (k_dflt (refine' cut_deck ?zq7k1 ?zq7kX ?_ ?_; (case zq7k1 => k_asm); (case zq7kX => k_asm)); rotate_left; (intro d' l' o' vs' n' ns' M' t1' t2' oc' h' tk' F' N' hoc' hD' hI' hl' g1 g2 g3 g4 g5 g6; (try k_sweep); (try dsimp only)); rotate_left)))))) | ((with_reducible show wpAny _ _ (subscriptTail ..) _ _ _); (first | ((k_here; (with_reducible show wpAny _ _ (subscriptTail _ _ (Value.ref _) (Value.int _ _)) _ _ _); k_dflt (refine' item_at ?zq12N ?zq12m ?zq12a ?zq12b ?zq12d ?_; (case zq12N => k_asm); (case zq12m => k_mem); (case zq12a => decide); (case zq12b => decide); (case zq12d => exact rfl); k_whole))))) | ((with_reducible show wpAny _ _ (compareOp ..) _ _ _); (first | ((k_here; (with_reducible show wpAny _ _ (compareOp CmpOp.Eq (Value.ref _) (Value.ref _)) _ _ _); k_dflt (refine' eq_was ?zq15N ?zq15hp ?zq15hq ?zq15hu ?zq15h1 ?zq15h2 ?_; (case zq15N => k_asm); (case zq15hp => k_mem); (case zq15hq => k_mem); (case zq15hu => ke_room); (case zq15h1 => exact eqAt_six (by k_asm) (by k_mem) (by k_mem) (by ke_room)); (case zq15h2 => exact eqAt_six (by k_asm) (by k_mem) (by k_mem) (by ke_room)); k_whole))))) | ((with_reducible show wpAny _ _ (call _ _ _) _ _ _); (first | ((k_here; (with_reducible show wpAny _ _ (call (Value.ref 169) [Value.ref _, Value.ref _, Value.int _ _, Value.int _ _]) _ _ _); k_dflt (refine' join_use ?zq20hm ?zq20hn ?zq20ne ?zq20ba ?zq20bb ?zq20x0 ?zq20x1 ?zq20y0 ?zq20y1 ?zq20k1 ?zq20k2 ?zq20k3 ?zq20k4 ?zq20k5 ?zq20kA ?zq20kH ?zq20kK ?zq20kD ?zq20kU ?zq20hr ?_; (((case zq20kA => exact rfl); (case zq20k2 => k_asm); (case zq20k1 => k_asm); (case zq20k3 => k_asm); (case zq20k4 => k_asm); (case zq20k5 => k_asm); (case zq20kH => exact rfl); (case zq20kK => exact rfl); (case zq20kD => exact Nat.le_of_ble_eq_true rfl); (case zq20kU => exact Nat.le_of_ble_eq_true rfl))); (case zq20hm => k_mem); (case zq20hn => k_mem); (case zq20ne => k_ne); (case zq20ba => with_reducible assumption); (case zq20bb => with_reducible assumption); (case zq20x0 => with_reducible assumption); (case zq20x1 => with_reducible assumption); (case zq20y0 => with_reducible assumption); (case zq20y1 => with_reducible assumption); (case zq20hr => ((repeat' (first | exact Rest.nil | with_reducible refine' Rest.s1 ?_ | with_reducible refine' Rest.s2 ?_ | (refine' Rest.keep (Rest.two (as := (_, _)) ?zq20ra ?zq20rb) ?_; (case zq20ra => k_ne); (case zq20rb => k_ne)))))); k_whole); intro h' tk' F' N'; (try k_sweep))) | ((k_here; (with_reducible show wpAny _ _ (call (Value.ref 164) [Value.ref _, Value.int _ _, Value.int _ _]) _ _ _); k_dflt (refine' led_use ?zq19hm ?zq19hp ?zq19H ?zq19hc1 ?zq19hc2 ?zq19ba ?zq19ne ?zq19k1 ?zq19k2 ?zq19k3 ?zq19k4 ?zq19k5 ?zq19XB ?zq19TB ?zq19C ?zq19kA ?zq19kH ?zq19kK ?zq19kD ?zq19kU ?zq19hr ?_; (((case zq19kA => exact rfl); (case zq19k2 => k_asm); (case zq19k1 => k_asm); (case zq19k3 => k_asm); (case zq19k4 => k_asm); (case zq19k5 => k_asm); (case zq19kH => exact rfl); (case zq19kK => exact rfl); (case zq19kD => exact Nat.le_of_ble_eq_true rfl); (case zq19kU => exact Nat.le_of_ble_eq_true rfl))); (case zq19XB => assumption); (case zq19TB => assumption); (case zq19C => first | assumption | kn_code); (case zq19hm => k_mem); (case zq19hp => k_mem); (case zq19H => assumption); (case zq19hc1 => k_mem); (case zq19hc2 => k_mem); (case zq19ba => with_reducible assumption); (case zq19ne => k_ne); (case zq19hr => ((repeat' (first | exact Rest.nil | with_reducible refine' Rest.f1 ?_ | with_reducible refine' Rest.f2 ?_ | with_reducible refine' Rest.f3 ?_ | with_reducible refine' Rest.f4 ?_ | (refine' Rest.keep (Rest.four (as := (_, _, _, _)) ?zq19ra ?zq19rb ?zq19rc ?zq19rd) ?_; (case zq19ra => k_ne); (case zq19rb => k_ne); (case zq19rc => k_ne); (case zq19rd => k_ne)))))); k_whole); intro ps' c1' o1' c2' o2' h' tk' H' p1 p2 q1 q2 F' N'; (try k_sweep))) | ((k_here; (with_reducible show wpAny _ _ (call (Value.ref 54) [Value.int _ _, Value.int _ _]) _ _ _); k_dflt (refine' Spec.useI (divided_spec _ _ _ _ _ ?zq13hb ?zq13hs) ?zq13k1 ?zq13k2 ?zq13k3 ?zq13k4 ?zq13k5 ?zq13kC ?zq13kA ?zq13kH ?zq13kK ?zq13kD ?zq13kU ?_; (case zq13hb => first | assumption | omega); (case zq13hs => first | assumption | omega); (case zq13kC => exact fun e => nomatch e); (((case zq13kA => exact rfl); (case zq13k2 => k_asm); (case zq13k1 => k_asm); (case zq13k3 => k_asm); (case zq13k4 => k_asm); (case zq13k5 => k_asm); (case zq13kH => exact rfl); (case zq13kK => exact rfl); (case zq13kD => exact Nat.le_of_ble_eq_true rfl); (case zq13kU => exact Nat.le_of_ble_eq_true rfl))); k_whole); intro t' h' tk' F' N'; (try k_sweep))) | ((k_here; (with_reducible show wpAny _ _ (call (Value.ref 129) [Value.ref _, Value.int _ _]) _ _ _); k_dflt (refine' draw_use ?zq2m1 ?zq2hD ?zq2m2 ?zq2hI ?zq2hl ?zq2ne ?zq2b1 ?zq2b2 ?zq2T1 ?zq2T2 ?zq2k1 ?zq2k2 ?zq2k3 ?zq2k4 ?zq2k5 ?zq2kA ?zq2kH ?zq2kK ?zq2kD ?zq2kU ?zq2hr ?_; (((case zq2kA => exact rfl); (case zq2k2 => k_asm); (case zq2k1 => k_asm); (case zq2k3 => k_asm); (case zq2k4 => k_asm); (case zq2k5 => k_asm); (case zq2kH => exact rfl); (case zq2kK => exact rfl); (case zq2kD => exact Nat.le_of_ble_eq_true rfl); (case zq2kU => exact Nat.le_of_ble_eq_true rfl))); (case zq2hD => assumption); (case zq2m1 => k_mem); (case zq2m2 => k_mem); (case zq2hI => assumption); (case zq2hl => assumption); (case zq2ne => k_ne); (case zq2b1 => first | decide | omega); (case zq2b2 => first | decide | omega); (case zq2T1 => omega); (case zq2T2 => omega); (case zq2hr => ((repeat' (first | exact Rest.nil | with_reducible refine' Rest.s1 ?_ | with_reducible refine' Rest.s2 ?_ | (refine' Rest.keep (Rest.two (as := (_, _)) ?zq2ra ?zq2rb) ?_; (case zq2ra => k_ne); (case zq2rb => k_ne)))))); k_whole); intro r' t' o' vs' n' ns' t1' t2' h' tk' r0 r1 hD' hI' hl' F' N'; (try k_sweep))) | ((k_here; (with_reducible show wpAny _ _ (call (Value.ref 150) [Value.ref _]) _ _ _); k_dflt (refine' num_use ?zq1m1 ?zq1hD ?zq1m2 ?zq1hI ?zq1hl ?zq1ne ?zq1T1 ?zq1T2 ?zq1k1 ?zq1k2 ?zq1k3 ?zq1k4 ?zq1k5 ?zq1kA ?zq1kH ?zq1kK ?zq1kD ?zq1kU ?zq1hr ?_; (((case zq1kA => exact rfl); (case zq1k2 => k_asm); (case zq1k1 => k_asm); (case zq1k3 => k_asm); (case zq1k4 => k_asm); (case zq1k5 => k_asm); (case zq1kH => exact rfl); (case zq1kK => exact rfl); (case zq1kD => exact Nat.le_of_ble_eq_true rfl); (case zq1kU => exact Nat.le_of_ble_eq_true rfl))); (case zq1hD => assumption); (case zq1m1 => k_mem); (case zq1m2 => k_mem); (case zq1hI => assumption); (case zq1hl => assumption); (case zq1ne => k_ne); (case zq1T1 => omega); (case zq1T2 => omega); (case zq1hr => ((repeat' (first | exact Rest.nil | with_reducible refine' Rest.s1 ?_ | with_reducible refine' Rest.s2 ?_ | (refine' Rest.keep (Rest.two (as := (_, _)) ?zq1ra ?zq1rb) ?_; (case zq1ra => k_ne); (case zq1rb => k_ne)))))); k_whole); intro y' t' o' vs' n' ns' t1' t2' h' tk' y0 y1 hD' hI' hl' F' N'; (try k_sweep))) | ((k_here; (with_reducible show wpAny _ _ (call (Value.ref 103) [Value.ref _, Value.int _ _, Value.int _ _]) _ _ _); k_dflt (refine' pair_use (delta_spec _ _ _ _ _ _ _ _ _ _ _ _ _ _ _ _ _ _ _ ?zq0b0 ?zq0b1 ?zq0b2 ?zq0b3) ?zq0hm ?zq0k1 ?zq0k2 ?zq0k3 ?zq0k4 ?zq0k5 ?zq0kA ?zq0kH ?zq0kK ?zq0kD ?zq0kU ?_; (((case zq0kA => exact rfl); (case zq0k2 => k_asm); (case zq0k1 => k_asm); (case zq0k3 => k_asm); (case zq0k4 => k_asm); (case zq0k5 => k_asm); (case zq0kH => exact rfl); (case zq0kK => exact rfl); (case zq0kD => exact Nat.le_of_ble_eq_true rfl); (case zq0kU => exact Nat.le_of_ble_eq_true rfl))); (case zq0hm => k_mem); (case zq0b0 => first | decide | omega); (case zq0b1 => first | decide | omega); (case zq0b2 => first | decide | omega); (case zq0b3 => first | decide | omega); k_whole); intro t' u1' u2' h' tk' o1' F' N'; (try k_sweep))))) | ((with_reducible show wpAny _ _ (pyIter ..) _ _ _); (first | ((k_here; (with_reducible show wpAny _ _ (pyIter (Value.ref _)) (fun it s₂ => LoopAtV _ _ _ _ _ _ _ _ _ it s₂) _ _); focus (k_dflt (refine' loop_use ?zq18eL ?zq18hh ?zq18hr ?zq18hsm ?zq18hn ?zq18F ?zq18N ?zq18hD ?zq18m1 ?zq18m2 ?zq18m3 ?zq18m4 ?zq18x1 ?zq18x2 ?zq18x3 ?zq18m5 ?zq18m6 ?zq18m7 ?zq18m8 ?zq18m9 ?zq18hI ?zq18hl ?zq18n159 ?zq18f1 ?_ ?_; (case zq18hh => exact rfl); (case zq18hr => assumption); (case zq18hsm => exact small_one (by omega) (by omega) (by omega) (by omega)); (case zq18hn => exact rangeSize_nat _ _); (case zq18F => k_asm); (case zq18eL => exact rfl); (case zq18N => k_asm); (case zq18hD => assumption); (case zq18m1 => k_mem); (case zq18m2 => k_mem); (case zq18m3 => k_mem); (case zq18m4 => k_mem); (case zq18x1 => with_unfolding_all rfl); (case zq18x2 => with_unfolding_all rfl); (case zq18x3 => with_unfolding_all rfl); (case zq18m5 => k_mem); (case zq18m6 => k_mem); (case zq18m7 => k_mem); (case zq18m8 => k_mem); (case zq18m9 => k_mem); (case zq18hI => assumption); (case zq18hl => assumption); (case zq18n159 => k_ne); (case zq18f1 => (((simp only [LCg.Off1, and_true]); (refine ⟨?_, ?_, ?_, ?_, ?_, ?_, ?_⟩ <;> k_ne))))); rotate_left; (intro u' h' tk' o' vs' n' ps' F' N'; (try k_sweep); (try dsimp only)); rotate_left; (intro i' k' t' u' I' oI' h' tk' o' vs' n' ns' v1' v2' ps' c1' o1' c2' o2' hi' hD' hI' hl' H' g1 g2 g3 F' N'; (try k_sweep); (try dsimp only))))))) | ((with_reducible show wpAny _ _ (callWith ..) _ _ _); (first | ((k_here; k_dflt (refine' callWith_K ?zq14k1 ?zq14k2 ?_; (case zq14k1 => k_asm); (case zq14k2 => k_is); k_whole))))) | ((with_reducible show wpAny _ _ (eval ..) _ _ _); (first | (((with_reducible show wpAny _ _ (eval (Expr.ListComp ..) _) _ _ _); (k_here; (with_reducible show wpAny _ _ (eval (Expr.ListComp (Expr.Call (Expr.Name _ _) [Expr.Name _ _] [] _) [⟨_, Expr.Call _ [Expr.Constant (Const.int 6) _ _] _ _, _, _⟩] _ _) _) _ _ _); k_dflt (refine LCg.ListComp_U (F₀ := by k_asm) (by with_unfolding_all rfl) (by decide) (by rfl) (by decide) (by rfl) ?_)))))) | ((with_reducible show RngPost ..); (first | ((k_dflt (refine' rng_end ?zq21F ?zq21N ?zq21hD ?zq21m0 ?zq21m1 ?zq21m2 ?zq21m3 ?zq21m4 ?zq21H ?zq21m5 ?zq21m6 ?zq21m7 ?zq21m8 ?zq21m9 ?zq21m10 ?zq21m11 ?zq21eT ?zq21hI ?zq21hl ?zq21f1 ?zq21f2 ?zq21g0 ?zq21x1 ?zq21x2 ?zq21x3; (case zq21F => k_asm); (case zq21N => k_asm); (case zq21hD => assumption); (case zq21m0 => k_mem); (case zq21m1 => k_mem); (case zq21m2 => k_mem); (case zq21m3 => k_mem); (case zq21m4 => k_mem); (case zq21H => assumption); (case zq21m5 => k_mem); (case zq21m6 => k_mem); (case zq21m7 => k_mem); (case zq21m8 => k_mem); (case zq21m9 => k_mem); (case zq21m10 => k_mem); (case zq21m11 => k_mem); (case zq21eT => omega); (case zq21hI => assumption); (case zq21hl => assumption); (case zq21f1 => (((simp only [LCg.Off1, and_true]); (refine ⟨?_, ?_, ?_, ?_, ?_, ?_, ?_⟩ <;> k_ne)))); (case zq21f2 => (((simp only [LCg.Off1, and_true]); (refine ⟨?_, ?_, ?_, ?_, ?_, ?_, ?_⟩ <;> k_ne)))); (case zq21g0 => (((simp only [LCg.Off1, and_true]); (refine ⟨?_, ?_, ?_, ?_, ?_, ?_, ?_, ?_, ?_, ?_, ?_⟩ <;> k_ne)))); (case zq21x1 => with_unfolding_all rfl); (case zq21x2 => with_unfolding_all rfl); (case zq21x3 => with_unfolding_all rfl)))))) | (first | (((with_reducible show GoodW _ _ _ _ _ (Except.ok (Flow.ret (Value.bool true))) _ ∧ GrownAll _ _); k_dflt (refine' And.intro (good_true ?zq16F ?zq16G ?zq16O) ?_; (case zq16F => k_asm); (case zq16G => assumption); (case zq16O => exact rfl))))) | ((with_reducible show MatPost ..); (first | ((k_dflt (refine' mat_post ?zq11F ?zq11N ?zq11hD ?zq11m1 ?zq11m2 ?zq11m3 ?zq11m4 ?zq11m5 ?zq11m6 ?zq11hT ?zq11hI ?zq11hl ?zq11ba ?zq11bb ?zq11n1 ?zq11n2 ?zq11n3 ?zq11n4 ?zq11n5 ?zq11n6 ?zq11n7 ?zq11n8 ?zq11n9; (case zq11F => k_asm); (case zq11N => k_asm); (case zq11hD => assumption); (case zq11m1 => k_mem); (case zq11m2 => k_mem); (case zq11m3 => k_mem); (case zq11m4 => k_mem); (case zq11m5 => k_mem); (case zq11m6 => k_mem); (case zq11hT => omega); (case zq11hI => assumption); (case zq11hl => assumption); (case zq11ba => (first | with_reducible assumption | with_reducible exact six_w (by assumption) | with_reducible exact six_t (by assumption) | (apply six_mk <;> first | with_reducible assumption | omega))); (case zq11bb => (first | with_reducible assumption | with_reducible exact six_w (by assumption) | with_reducible exact six_t (by assumption) | (apply six_mk <;> first | with_reducible assumption | omega))); (case zq11n1 => k_ne); (case zq11n2 => k_ne); (case zq11n3 => k_ne); (case zq11n4 => k_ne); (case zq11n5 => k_ne); (case zq11n6 => k_ne); (case zq11n7 => k_ne); (case zq11n8 => k_ne); (case zq11n9 => k_ne)))))) | ((with_reducible show DeckPost ..); (first | ((k_dflt (refine' deck_post ?zq8F ?zq8N ?zq8hD ?zq8m1 ?zq8m2 ?zq8m3 ?zq8m4 ?zq8hoc ?zq8hI ?zq8hl ?zq8n1 ?zq8n2 ?zq8n3 ?zq8n4 ?zq8n5 ?zq8n6; (case zq8F => k_asm); (case zq8N => k_asm); (case zq8hD => first | assumption | ((rename Obj.IsDictOf _ _ _ => hD9); exact hD9)); (case zq8m1 => k_mem); (case zq8m2 => k_mem); (case zq8m3 => k_mem); (case zq8m4 => k_mem); (case zq8hoc => assumption); (case zq8hI => assumption); (case zq8hl => first | assumption | ((try simp only [List.length_reverse, List.length_map]); omega)); (case zq8n1 => k_ne); (case zq8n2 => k_ne); (case zq8n3 => k_ne); (case zq8n4 => k_ne); (case zq8n5 => k_ne); (case zq8n6 => k_ne)))))) | ((with_reducible show LCg.FinE ..); (first | (with_reducible (((unfold LCg.FinE); intro D' h' tk' F' N' o1'; (try simp only [List.nil_append, List.cons_append] at N'); (try dsimp only)))) | (((unfold LCg.FinE); intro D' h' tk' F' N' o1'; (try simp only [List.nil_append, List.cons_append] at N'); (try dsimp only))))) | ((with_reducible show LCg.CompRest ..); (first | ((with_unfolding_all first | (refine LCg.CompRest.succ ?_; intro v' I' oI' C' oC' D' m' h' tk' E' hv' hC' hx' F' N' off' ne'; (first | lcg_open hv' | (obtain ⟨t9', hv9'⟩ := hv'; subst hv9')); (replace ne' := NeT.of ne')) | refine LCg.CompRest.zero ?_)))) | ((with_reducible show LCg.CompSrc ..); (first | ((k_here; (with_reducible show LCg.CompSrc _ _ _ _ _ _ _ (Expr.Call (Expr.Name _ _) [Expr.Name _ _] [] _) _ _ _ _ _ _); k_dflt (refine LCg.CompSrc.range (by rfl) (by k_asm) (by k_asm) (by assumption) (by first | decide | rfl) (by first | rfl | decide) (by first | size_fits | exact Nat.le_of_ble_eq_true rfl) ?_; intro g'; lcg_lit))))) | walk1)) | (leave1; walk_say "STEP leave1"; try dsimp only) | fail "no step"))
end Mine
end

end
end
end
set_option maxHeartbeats 8000000 in
theorem PySem.Challenge.cw_on0256_01_holds : PySem.Challenge.rw_on0256_01.Holds := by
  exact Mine.law_holds
