import PyProof.Rows.All
import Wide.All
import OpenK.AllK
import Wide.FinOn
import Lean
import PySem.Challenge.RW_oj0014_01
set_option Elab.async false
set_option maxRecDepth 100000

section
open PySem PySem.W PyProof.Rows
namespace Mine
set_option maxRecDepth 100000 in
set_option maxHeartbeats 8000000 in
open_top hd for PySem.Challenge.rw_oj0014_01
end Mine
end

section
open PySem PySem.W PySem.Calls PyProof.Rows
namespace Mine
/-- what every call stands on: the written part, the top -/
structure Bs (w : World) (loose : List Str) (mean : ExcName → Option Value) (mg mb : Str → Option Value) (h₀ h : Heap) : Prop where
  K : (hd.heap_39 w.params).In h₀
  T : Top hd.view_39 loose mean mg mb h₀
  ext : ∀ b o, h₀.get? b = some o → h.get? b = some o
def Kept (h h' : Heap) (wr : List Addr) : Prop := ∀ b o, h.get? b = some o → b ∉ wr → h'.get? b = some o
section
variable {w : World} {loose : List Str} {mean : ExcName → Option Value} {mg mb : Str → Option Value} {h₀ h h' : Heap}
theorem Kept.refl (h : Heap) : Kept h h [] := fun _ _ e _ => e
theorem Kept.trans {h₁ h₂ h₃ : Heap} {wr : List Addr} (a : Kept h₁ h₂ wr) (b : Kept h₂ h₃ wr) : Kept h₁ h₃ wr := fun c o e n => b c o (a c o e n) n
theorem Kept.mono {wr wr' : List Addr} (a : Kept h h' wr) (s : ∀ x ∈ wr, x ∈ wr') : Kept h h' wr' := fun c o e n => a c o e fun q => n (s c q)
theorem Bs.kept {wr : List Addr} (B : Bs w loose mean mg mb h₀ h) (k : Kept h h' wr) (n : ∀ b ∈ wr, h₀.get? b = none) : Bs w loose mean mg mb h₀ h' :=
  ⟨B.K, B.T, fun b o e => k b o (B.ext b o e) fun q => by rw [n b q] at e; cases e⟩
theorem enter_plain {prog : Program} {A : Around} {s : Shared} {R : Result → Shared → Prop} {name qual : Str} {params : Arguments} {body : List Stmt} {scope : Scope} {dV kV doc pm cdv ct oc : Value} {an od : Option Addr} {osl : Array (Option Value)} {f : Addr} {args : Args} {binds : List (Str × Value)}
    (B : Bs w loose mean mg mb h₀ s.heap) (nw : List (Addr × Obj)) (hn : ∀ q ∈ nw, s.heap.get? q.1 = some q.2 ∧ h₀.get? q.1 = none) (hroom : A.depth < recursionLimit)
    (ho : (hd.heap_39 w.params).lookup f = some ⟨oc, od, .func (fnOf name qual params body scope dV kV doc pm an cdv ct), osl⟩) (hcd : codeIn (hd.heap_39 w.params) cdv qual = true)
    (hbind : BindsTo s (fnOf name qual params body scope dV kV doc pm an cdv ct) args binds) (hloc : ∀ y ∈ binds, scope.names.lookup y.1 = some .local)
    (h : ∀ g L' h₁, Fr g L' h₁ (fun y => binds.reverse.lookup y) → News g L' h₁ nw → (hd.heap_39 w.params).In g → Top hd.view_39 loose mean mg mb g → (∀ q ∈ nw, q.1 < L') → Kept s.heap g (nw.map (·.1)) →
      wpAny (model prog w) (A.deeper (envX qual scope L' f cdv [])) (execs body (envX qual scope L' f cdv []))
        (fun fl s' => R (.ok (.ret (match fl with | .ret v => v | _ => .none))) s')
        (fun e s' => wpAny (model prog w) (A.deeper (envX qual scope L' f cdv [])) (leaving (envX qual scope L' f cdv []) e) (fun _ s'' => R (.error e) s'') (fun e' s'' => R (.error e') s'') s')
        { s with heap := h₁, toks := s.toks + binds.length })
    (hco : scope.isCoroutine = false) (hgen : scope.isGenerator = false) (hk : scope.kind = .function)
    (hcell : ∀ x ∈ scope.names, x.2 ≠ .cell) : codeAny (model prog w) A (.call (.ref f) args) R s := by
  have X := B.K
  refine codeAny_call_def (fd := fnX name qual params body scope [] dV kV doc pm an cdv ct) (body := body) (binds := binds) hroom (B.ext _ _ (X _ _ ho)) rfl (B.T.nolimit.keeps B.ext) ((codeRec_of X hcd).keeps B.ext) rfl hbind hcell hloc (fun h₁ hns hk₁ => ?_) hco hgen hk
  have st : ∀ b o, h₀.get? b = some o → (hideAll s.heap (nw.map (·.1))).get? b = some o := fun b o e => hideAll_get _ (B.ext b o e) fun q => by
    obtain ⟨p, hp, rfl⟩ := List.mem_map.mp q
    rw [(hn p hp).2] at e; cases e
  exact h _ s.heap.objs.size h₁ ⟨hns, fun b o e => hk₁ b o (of_hideAll _ e), Nat.le_of_eq (hideAll_size _ _)⟩
    (fun p hp => ⟨hk₁ _ _ (hn p hp).1, Nat.ne_of_lt (Heap.lt_size (hn p hp).1), hideAll_none _ (List.mem_map_of_mem hp)⟩) (fun a o e => st a o (X a o e)) (B.T.keeps st) (fun p hp => Heap.lt_size (hn p hp).1) (fun b o e n => hideAll_get _ e n)
/-- what the body leaves, told of the caller's heap -/
theorem kept_of {g : Heap} {L' : Addr} {m' : Str → Option Value} {nw nw' : List (Addr × Obj)} {wr : List Addr} (k : Kept h g (nw.map (·.1))) (hn : ∀ q ∈ nw, h.get? q.1 = some q.2) (F : Fr g L' h' m') (N : News g L' h' nw') (hs : ∀ q ∈ nw, q.1 ∉ wr → q ∈ nw') : Kept h h' wr := fun b o e n => by
  by_cases hb : b ∈ nw.map (·.1)
  · obtain ⟨q, hq, rfl⟩ := List.mem_map.mp hb
    have := hn q hq
    rw [e] at this; cases this
    exact (N q (hs q hq n)).1
  · exact F.keep b o (k b o e hb)
end
end Mine
end

section
open PySem PySem.W PySem.Calls PyProof.Rows
namespace Mine
section
variable {prog : Program} {w : World} {A : Around} {E : Value → Shared → Prop} {env : Env}
/-- the tests of a comprehension's turn -/
abbrev testsOf (ifs : List Expr) (cenv : Env) : Sem Bool := forIn ifs true fun c r => if r = true then do let ok ← isTrue c cenv (eval c cenv); pure (ForInStep.yield ok) else pure (ForInStep.yield r)
theorem tests_nil {M : Model} {cenv : Env} {s : Shared} {Q : Bool → Shared → Prop} (h : Q true s) : wpAny M A (testsOf [] cenv) Q E s := by
  unfold testsOf
  rw [List.forIn_nil]; exact wpAny_pure h
theorem tests_one {M : Model} {cenv : Env} {s : Shared} {c : Expr} {Q : Bool → Shared → Prop} (h : wpAny M A (isTrue c cenv (eval c cenv)) Q E s) : wpAny M A (testsOf [c] cenv) Q E s := by
  unfold testsOf
  rw [List.forIn_cons]
  refine wpAny_bind ?_
  rw [if_pos rfl]
  refine wpAny_bind (wpAny_mono h (fun ok s' h' => ?_) fun _ _ e => e)
  refine wpAny_pure ?_
  dsimp only
  rw [List.forIn_nil]; exact wpAny_pure h'
theorem compLoop_inv {R : Result → Shared → Prop} {s : Shared} {elt iter : Expr} {x : Str} {px : Pos} {ifs : List Expr} {scope : Scope} {pos : Pos} {I D : Addr} {fp wr wrE : List Addr} {n : Nat} {P : Nat → Value → Prop} {St : Nat → Heap → Prop}
    {cenv : Env} {m : Str → Option Value} {b₀ : Nat} (W : Walks prog w A I fp wr n P St) (J : Nat → List Value → Heap → Prop)
    (hx : cenv.kindOf x = some .local) (hp : (cenv.scope.kind == .class || (cenv.scope.kind == .module && cenv.locals != cenv.globals)) = false)
    (hDC : D ≠ cenv.locals) (hDf : D ∉ fp) (hCf : cenv.locals ∉ fp) (hDb : b₀ ≤ D) (hCb : b₀ ≤ cenv.locals) (hDE : D ∉ wrE) (hCE : cenv.locals ∉ wrE) (hfE : ∀ b ∈ fp, b ∉ wrE)
    (jm : ∀ i ys h h', J i ys h → (∀ b o, b < b₀ → b ∉ wr → h.get? b = some o → h'.get? b = some o) → J i ys h')
    (hst : St 0 s.heap) (hacc : s.heap.PlainList D #[]) (hn : s.heap.Ns cenv.locals m) (hJ : J 0 [] s.heap)
    (turn : ∀ i v ys h tk m₂ E', i < n → P i v → J i ys h → h.Ns cenv.locals m₂ → m₂ x = some v → (∀ b o, b ≠ cenv.locals → b ∉ wr → b ∉ wrE → b ≠ D → s.heap.get? b = some o → h.get? b = some o) →
      wpAny (model prog w) A (testsOf ifs cenv) (fun ok s₃ => ∃ h₃ tk₃, s₃ = { s with heap := h₃, toks := tk₃ } ∧ Kept h h₃ wrE ∧
        if ok = true then wpAny (model prog w) A (eval elt cenv) (fun y s₄ => ∃ h₄ tk₄, s₄ = { s with heap := h₄, toks := tk₄ } ∧ Kept h₃ h₄ wrE ∧ J (i + 1) (ys ++ [y]) h₄) E' s₃
        else J (i + 1) ys h₃) E' { s with heap := h, toks := tk })
    (hR : ∀ h' tk m' ys, J n ys h' → h'.Ns cenv.locals m' → h'.PlainList D ys.toArray → ys.length ≤ n →
      (∀ b o, b ≠ cenv.locals → b ∉ wr → b ∉ wrE → b ≠ D → s.heap.get? b = some o → h'.get? b = some o) → R (.ok .next) { s with heap := h', toks := tk })
    (hsz : n ≤ sizeLine) :
    codeAny (model prog w) A (.compLoop (.ListComp elt [⟨.Name x px, iter, ifs, 0⟩] scope pos) 0 (.ref I) (.ref D) cenv) R s := by
  refine codeAny_compLoop_tests
    (fun k s' => ∃ h' tk m' ys i, s' = { s with heap := h', toks := tk } ∧ St i h' ∧ h'.PlainList D (List.toArray ys) ∧ h'.Ns cenv.locals m' ∧ J i ys h' ∧ ys.length ≤ i ∧ i ≤ n ∧ k = n + 1 - i ∧
      (∀ b o, b ≠ cenv.locals → b ∉ wr → b ∉ wrE → b ≠ D → s.heap.get? b = some o → h'.get? b = some o)) ?_ (n + 1)
    ⟨s.heap, s.toks, m, [], 0, rfl, hst, hacc, hn, hJ, Nat.le_refl _, Nat.zero_le _, rfl, fun _ _ _ _ _ _ e => e⟩
  rintro k s' ⟨H, tk, m', ys, i, rfl, hst', hacc', hn', hJ', hys, hi, rfl, hk⟩
  have hCw : cenv.locals ∉ wr := fun h => hCf (W.sub _ h)
  have hDw : D ∉ wr := fun h => hDf (W.sub _ h)
  by_cases hlt : i < n
  · refine W.item i _ _ _ hlt hst' fun v h₁ tk₁ hPv hst₁ hk₁ => ?_
    refine wpAny_assign_Name (wpAny_storeName_local hx (hn'.at' fun o e => hk₁ _ o hCw e) (fun h₂ hn₂ hs₂ => ?_) hp)
    have up₂ : ∀ b o, b ≠ cenv.locals → b ∉ wr → H.get? b = some o → h₂.get? b = some o := fun b o hbC hbf e => hs₂.extBut b o hbC (hk₁ b o hbf e)
    have hst₂ : St (i + 1) h₂ := W.frame _ _ _ hst₁ fun b hb o e => hs₂.extBut b o (fun h => hCf (h ▸ hb)) e
    have hJ₂ : J i ys h₂ := jm _ _ _ _ hJ' fun b o hb hbw e => up₂ b o (fun q => by subst q; exact absurd hb (Nat.not_lt.mpr hCb)) hbw e
    refine wpAny_mono (turn i v ys h₂ _ _ _ hlt hPv hJ₂ hn₂ (by simp) fun b o hbC hbf hbE hbD e => up₂ b o hbC hbf (hk b o hbC hbf hbE hbD e)) (fun ok s₃ h₃ => ?_) fun _ _ e => e
    obtain ⟨h₃, tk₃, rfl, hk₃, hif⟩ := h₃
    have hst₃ : St (i + 1) h₃ := W.frame _ _ _ hst₂ fun b hb o e => hk₃ b o e (hfE b hb)
    have hacc₃ : h₃.PlainList D ys.toArray := hacc'.at fun o e => hk₃ _ o (up₂ D o hDC hDw e) hDE
    have hn₃ : h₃.Ns cenv.locals _ := hn₂.at' fun o e => hk₃ _ o e hCE
    cases ok with
    | false =>
      simp only [Bool.false_eq_true, if_false] at hif ⊢
      exact ⟨n + 1 - (i + 1), by omega, h₃, tk₃, _, ys, i + 1, rfl, hst₃, hacc₃, hn₃, hif, by omega, hlt, rfl, fun b o hbC hbf hbE hbD e => hk₃ b o (up₂ b o hbC hbf (hk b o hbC hbf hbE hbD e)) hbE⟩
    | true =>
      simp only [if_true] at hif ⊢
      refine wpAny_mono hif (fun y s₄ h₄ => ?_) fun _ _ e => e
      obtain ⟨h₄, tk₄, rfl, hk₄, hJ₄⟩ := h₄
      refine wpAny_list_append_plain (hsz := by rw [List.size_toArray]; omega) (hacc₃.at fun o e => hk₄ _ o e hDE) fun h₅ hl₅ hs₅ => ?_
      refine ⟨n + 1 - (i + 1), by omega, h₅, tk₄, _, ys ++ [y], i + 1, rfl, ?_, by simpa using hl₅, (hn₃.at' fun o e => hk₄ _ o e hCE).sameBut hs₅ (Ne.symm hDC), ?_, (by rw [List.length_append, List.length_singleton]; omega), hlt, rfl,
        fun b o hbC hbf hbE hbD e => hs₅.extBut b o hbD (hk₄ b o (hk₃ b o (up₂ b o hbC hbf (hk b o hbC hbf hbE hbD e)) hbE) hbE)⟩
      · exact W.frame _ _ h₅ hst₃ fun b hb o e => hs₅.extBut b o (fun h => hDf (h ▸ hb)) (hk₄ b o e (hfE b hb))
      · exact jm _ _ _ _ hJ₄ fun b o hb _ e => hs₅.extBut b o (fun q => by subst q; exact absurd hb (Nat.not_lt.mpr hDb)) e
  · have hin : i = n := by omega
    subst hin
    refine W.done _ _ _ hst' fun h₁ tk₁ hk₁ => ?_
    exact hR h₁ tk₁ m' ys (jm _ _ _ _ hJ' fun b o _ hbw e => hk₁ b o hbw e) (hn'.at' fun o e => hk₁ _ o hCw e) (hacc'.at fun o e => hk₁ _ o hDw e) hys fun b o hbC hbf hbE hbD e => hk₁ b o hbf (hk b o hbC hbf hbE hbD e)
/-- what a comprehension asks of its turns -/
structure Turns (prog : Program) (w : World) (A : Around) (env : Env) (scope : Scope) (cl : List (Str × Addr)) (x : Str) (ifs : List Expr) (elt : Expr) (fp wr wrE : List Addr) (n : Nat) (P : Nat → Value → Prop)
    (J : Nat → List Value → Heap → Prop) (s₂ : Shared) : Prop where
  fpl : ∀ b ∈ fp, b < s₂.heap.objs.size
  wel : ∀ b ∈ wrE, b < s₂.heap.objs.size
  off : ∀ b ∈ fp, b ∉ wrE
  len : n ≤ sizeLine
  jm : ∀ i ys h h', J i ys h → (∀ b o, b < s₂.heap.objs.size → b ∉ wr → h.get? b = some o → h'.get? b = some o) → J i ys h'
  j0 : J 0 [] s₂.heap
  turn : ∀ C i v ys h tk m₂ E', s₂.heap.objs.size ≤ C → i < n → P i v → J i ys h → h.Ns C m₂ → m₂ x = some v → Kept s₂.heap h (wr ++ wrE) →
      wpAny (model prog w) A (testsOf ifs (compEnvC scope cl C env)) (fun ok s₃ => ∃ h₃ tk₃, s₃ = { s₂ with heap := h₃, toks := tk₃ } ∧ Kept h h₃ wrE ∧
        if ok = true then wpAny (model prog w) A (eval elt (compEnvC scope cl C env)) (fun y s₄ => ∃ h₄ tk₄, s₄ = { s₂ with heap := h₄, toks := tk₄ } ∧ Kept h₃ h₄ wrE ∧ J (i + 1) (ys ++ [y]) h₄) E' s₃
        else J (i + 1) ys h₃) E' { s₂ with heap := h, toks := tk }
theorem block_inv {elt iter : Expr} {x : Str} {px : Pos} {ifs : List Expr} {scope : Scope} {cl : List (Str × Addr)} {pos : Pos} {s₂ : Shared} {I : Addr} {fp wr wrE : List Addr} {n : Nat} {P : Nat → Value → Prop}
    {St : Nat → Heap → Prop} {J : Nat → List Value → Heap → Prop} (W : Walks prog w A I fp wr n P St) {RR : Value → Addr → Result → Shared → Prop}
    (hcell : ∀ y ∈ scope.names, y.2 ≠ .cell) (hkind : scope.kind = .function) (hx : scope.names.lookup x = some .local) (hst : St 0 s₂.heap)
    (hq : Turns prog w A env scope cl x ifs elt fp wr wrE n P J s₂)
    (hRR : ∀ D C h' tk m' ys, s₂.heap.get? D = none → s₂.heap.get? C = none → s₂.heap.objs.size ≤ D → s₂.heap.objs.size ≤ C → D ≠ C → h'.Ns C m' → h'.PlainList D (List.toArray ys) → J n ys h' → ys.length ≤ n →
      Kept s₂.heap h' (wr ++ wrE) → RR (.ref D) C (.ok .next) { s₂ with heap := h', toks := tk }) :
    wpAny (model prog w) A (newList []) (fun acc s₃ => wpAny (model prog w) A (newFunctionEnv scope env.globals cl [] env.qual none .none (some env)) (fun cenv s₄ =>
      codeAny (model prog w) A (.compStart (.ListComp elt [⟨.Name x px, iter, ifs, 0⟩] scope pos) 0 (.ref I) acc { cenv with scope := relabel scope env }) (RR acc cenv.locals) s₄) E s₃) E s₂ := by
  refine wpAny_newObj_type (wpAny_newFunctionEnv hcell (by intro y hy; simp at hy) (fun h₁ hns₁ hsb₁ => ?_) hkind)
  dsimp only at hns₁ hsb₁ ⊢
  generalize hH2 : s₂.heap.push { cls := .type "list", dict := none, data := .seq ([] : List Value).toArray } = H2 at hns₁ hsb₁ ⊢
  have hC : H2.objs.size = s₂.heap.objs.size + 1 := by rw [← hH2, Heap.size_push]
  have hDC : s₂.heap.objs.size ≠ H2.objs.size := by rw [hC]; exact Nat.ne_of_lt (Nat.lt_succ_self _)
  have hCle : s₂.heap.objs.size ≤ H2.objs.size := by rw [hC]; exact Nat.le_succ _
  have below : ∀ b, b < s₂.heap.objs.size → b ≠ H2.objs.size ∧ b ≠ s₂.heap.objs.size := fun b hb => ⟨by rw [hC]; exact Nat.ne_of_lt (Nat.lt_succ_of_lt hb), Nat.ne_of_lt hb⟩
  have hDf : s₂.heap.objs.size ∉ fp := fun hm => Nat.lt_irrefl _ (hq.fpl _ hm)
  have hCf : H2.objs.size ∉ fp := fun hm => by have := hq.fpl _ hm; rw [hC] at this; exact Nat.lt_irrefl _ (Nat.lt_of_succ_lt this)
  have hDE : s₂.heap.objs.size ∉ wrE := fun hm => Nat.lt_irrefl _ (hq.wel _ hm)
  have hCE : H2.objs.size ∉ wrE := fun hm => by have := hq.wel _ hm; rw [hC] at this; exact Nat.lt_irrefl _ (Nat.lt_of_succ_lt this)
  have old : ∀ b o, s₂.heap.get? b = some o → h₁.get? b = some o := fun b o e => hsb₁.extBut b o (below b (Heap.lt_size e)).1 (Heap.get?_push_of_some _ (hH2 ▸ Heap.get?_push_of_some _ e))
  have hacc : h₁.PlainList s₂.heap.objs.size #[] := ⟨_, hsb₁.extBut _ _ hDC (Heap.get?_push_of_some _ (hH2 ▸ Heap.get?_push_size _ rfl))⟩
  have hst₁ : St 0 h₁ := W.frame _ _ _ hst fun b _ o e => old b o e
  have fresh : ∀ a, s₂.heap.objs.size ≤ a → s₂.heap.get? a = none := fun a ha => by
    cases e : s₂.heap.get? a with
    | none => rfl
    | some o' => exact absurd (Heap.lt_size e) (Nat.not_lt.mpr ha)
  have loop : ∀ s₃ : Shared, s₃ = { s₂ with heap := h₁, toks := s₂.toks + ([] : List (Str × Value)).length } →
      codeAny (model prog w) A (.compLoop (.ListComp elt [⟨.Name x px, iter, ifs, 0⟩] scope pos) 0 (.ref I) (.ref s₂.heap.objs.size) (compEnvC scope cl H2.objs.size env))
        (RR (.ref s₂.heap.objs.size) H2.objs.size) s₃ := by
    rintro s₃ rfl
    refine compLoop_inv (hsz := hq.len) (cenv := compEnvC scope cl H2.objs.size env) (b₀ := s₂.heap.objs.size) (wrE := wrE) W J (lookup_relabel_local hx) (by simp [compEnvC, relabel, hkind]) hDC hDf hCf (Nat.le_refl _) hCle hDE hCE hq.off hq.jm hst₁ hacc hns₁
      (hq.jm _ _ _ _ hq.j0 fun b o _ _ e => old b o e)
      (fun i v ys h tk m₂ E' hi hv hj hn hm hk => hq.turn _ i v ys h tk m₂ E' hCle hi hv hj hn hm fun b o e n => hk b o (below b (Heap.lt_size e)).1 (fun q => n (List.mem_append_left _ q)) (fun q => n (List.mem_append_right _ q)) (below b (Heap.lt_size e)).2 (old b o e)) fun h' tk m' ys hj hn hpl hlen hk => ?_
    exact hRR _ _ h' tk m' ys (fresh _ (Nat.le_refl _)) (fresh _ (by rw [hC]; exact Nat.le_succ _)) (Nat.le_refl _) hCle hDC hn hpl hj hlen fun b o e n => hk b o (below b (Heap.lt_size e)).1 (fun q => n (List.mem_append_left _ q)) (fun q => n (List.mem_append_right _ q)) (below b (Heap.lt_size e)).2 (old b o e)
  exact codeAny_compStart_list (loop _ rfl) (W.self 0 _ _ _ hst₁ (loop _ rfl))
theorem ListComp_inv {s : Shared} {elt iter : Expr} {x : Str} {px : Pos} {ifs : List Expr} {scope : Scope} {cl : List (Str × Addr)} {pos : Pos} {Q : Value → Shared → Prop}
    (hclos : closureFor scope env = pure cl) (hcell : ∀ y ∈ scope.names, y.2 ≠ .cell) (hkind : scope.kind = .function)
    (hnames : ∀ y ∈ scope.names, y.2 = .local → scope.names.lookup y.1 = some .local) (hx : scope.names.lookup x = some .local)
    (h : wpAny (model prog w) A (eval iter env) (fun xv s₁ => wpAny (model prog w) A (pyIter xv) (fun it s₂ => ∃ I fp wr wrE n P St J, it = .ref I ∧ Walks prog w A I fp wr n P St ∧ St 0 s₂.heap ∧
      Turns prog w A env scope cl x ifs elt fp wr wrE n P J s₂ ∧
      (∀ D h' tk ys, s₂.heap.get? D = none → s₂.heap.objs.size ≤ D → h'.PlainList D (List.toArray ys) → J n ys h' → ys.length ≤ n → Kept s₂.heap h' (wr ++ wrE) → Q (.ref D) { s₂ with heap := h', toks := tk })) E s₁) E s)
    (hs : ∀ x, foldedSetIterable iter env x = pure x := by intro _; rfl) :
    wpAny (model prog w) A (eval (.ListComp elt [⟨.Name x px, iter, ifs, 0⟩] scope pos) env) Q E s := by
  rw [eval_ListComp]
  refine wpAny_comprehension_free (use := none) rfl hs hclos hkind hnames (wpAny_mono h (fun xv s₁ h₁ => wpAny_mono h₁ (fun it s₂ h₂ => ?_) fun _ _ e => e) fun _ _ e => e)
  obtain ⟨I, fp, wr, wrE, n, P, St, J, rfl, W, hst, hq, hQ⟩ := h₂
  refine block_inv (RR := fun acc C => compPost (model prog w) A E none Q acc C) W hcell hkind hx hst hq ?_
  intro D C h' tk m' ys hD hC hDs hCs hDC hn hpl hj hlen hk
  exact ⟨m', hn, fun h'' hs'' => hQ D h'' tk ys hD hDs (hpl.at fun o e => hs''.extBut D o hDC e) (hq.jm _ _ _ _ hj fun b o hb _ e => hs''.extBut b o (fun q => by subst q; exact absurd hb (Nat.not_lt.mpr hCs)) e) hlen fun b o e n => hs''.extBut b o (by rintro rfl; rw [hC] at e; cases e) (hk b o e n)⟩
end
end Mine
end

section
open PySem PySem.W PySem.Calls PyProof.Rows
namespace Mine
section
variable {w : World} {loose : List Str} {mean : ExcName → Option Value} {mg mb : Str → Option Value} {h₀ h h' g : Heap} {L : Addr} {m : Str → Option Value} {nw : List (Addr × Obj)} {wr : List Addr}
theorem Fr.kept (F : Fr g L h m) (k : Kept h h' wr) (hL : L ∉ wr) (hg : ∀ b ∈ wr, g.get? b = none) : Fr g L h' m :=
  ⟨F.ns.at' fun o e => k _ o e hL, fun b o e => k b o (F.keep b o e) (fun q => by rw [hg b q] at e; cases e), F.above⟩
theorem News.kept (N : News g L h nw) (k : Kept h h' wr) (hn : ∀ q ∈ nw, q.1 ∉ wr) : News g L h' nw :=
  fun q hq => ⟨k _ _ (N q hq).1 (hn q hq), (N q hq).2.1, (N q hq).2.2⟩
/-- the base of a call's body: all that stands, but the hidden -/
theorem enter_plainH {prog : Program} {A : Around} {s : Shared} {R : Result → Shared → Prop} {name qual : Str} {params : Arguments} {body : List Stmt} {scope : Scope} {dV kV doc pm cdv ct oc : Value} {an od : Option Addr} {osl : Array (Option Value)} {f : Addr} {args : Args} {binds : List (Str × Value)}
    (B : Bs w loose mean mg mb h₀ s.heap) (hid : List Addr) (hn : ∀ q ∈ hid, h₀.get? q = none) (hroom : A.depth < recursionLimit)
    (ho : (hd.heap_39 w.params).lookup f = some ⟨oc, od, .func (fnOf name qual params body scope dV kV doc pm an cdv ct), osl⟩) (hcd : codeIn (hd.heap_39 w.params) cdv qual = true)
    (hbind : BindsTo s (fnOf name qual params body scope dV kV doc pm an cdv ct) args binds) (hloc : ∀ y ∈ binds, scope.names.lookup y.1 = some .local)
    (h : ∀ g L' h₁, Fr g L' h₁ (fun y => binds.reverse.lookup y) → News g L' h₁ [] → (hd.heap_39 w.params).In g → Top hd.view_39 loose mean mg mb g → (∀ b o, s.heap.get? b = some o → h₁.get? b = some o) → (∀ b o, s.heap.get? b = some o → b < L') → (∀ q ∈ hid, g.get? q = none) → Kept s.heap g hid →
      wpAny (model prog w) (A.deeper (envX qual scope L' f cdv [])) (execs body (envX qual scope L' f cdv []))
        (fun fl s' => R (.ok (.ret (match fl with | .ret v => v | _ => .none))) s')
        (fun e s' => wpAny (model prog w) (A.deeper (envX qual scope L' f cdv [])) (leaving (envX qual scope L' f cdv []) e) (fun _ s'' => R (.error e) s'') (fun e' s'' => R (.error e') s'') s')
        { s with heap := h₁, toks := s.toks + binds.length })
    (hco : scope.isCoroutine = false) (hgen : scope.isGenerator = false) (hk : scope.kind = .function)
    (hcell : ∀ x ∈ scope.names, x.2 ≠ .cell) : codeAny (model prog w) A (.call (.ref f) args) R s := by
  have X := B.K
  refine codeAny_call_def (fd := fnX name qual params body scope [] dV kV doc pm an cdv ct) (body := body) (binds := binds) hroom (B.ext _ _ (X _ _ ho)) rfl (B.T.nolimit.keeps B.ext) ((codeRec_of X hcd).keeps B.ext) rfl hbind hcell hloc (fun h₁ hns hk₁ => ?_) hco hgen hk
  have st : ∀ b o, h₀.get? b = some o → (hideAll s.heap hid).get? b = some o := fun b o e => hideAll_get _ (B.ext b o e) fun q => by
    rw [hn b q] at e; cases e
  exact h _ s.heap.objs.size h₁ ⟨hns, fun b o e => hk₁ b o (of_hideAll _ e), Nat.le_of_eq (hideAll_size _ _)⟩
    News.nil (fun a o e => st a o (X a o e)) (B.T.keeps st) hk₁ (fun b o e => Heap.lt_size e) (fun q hq => hideAll_none _ hq) (fun b o e n => hideAll_get _ e n)
theorem enter_cellsH {prog : Program} {A : Around} {s : Shared} {R : Result → Shared → Prop} {name qual : Str} {params : Arguments} {body : List Stmt} {scope : Scope} {dV kV doc pm cdv ct oc : Value} {an od : Option Addr} {osl : Array (Option Value)} {f : Addr} {args : Args} {binds : List (Str × Value)}
    (B : Bs w loose mean mg mb h₀ s.heap) (hid : List Addr) (hn : ∀ q ∈ hid, h₀.get? q = none) (hroom : A.depth < recursionLimit)
    (ho : (hd.heap_39 w.params).lookup f = some ⟨oc, od, .func (fnOf name qual params body scope dV kV doc pm an cdv ct), osl⟩) (hcd : codeIn (hd.heap_39 w.params) cdv qual = true)
    (hbind : BindsTo s (fnOf name qual params body scope dV kV doc pm an cdv ct) args binds) (hkind : (binds.all fun y => scope.names.lookup y.1 == some .local || scope.names.lookup y.1 == some .cell) = true)
    (hnd : ((cellsFrom 0 scope.names []).map (·.1)).Nodup)
    (h : ∀ g L' h₁ tk cells, Fr g L' h₁ (bindL (envOfC qual scope L' f cdv).kindOf binds fun _ => none) → News g L' h₁ cells → CellsAre (bindC (envOfC qual scope L' f cdv).kindOf binds fun _ => none) (cellsFrom (L' + 1) scope.names []) cells →
      (hd.heap_39 w.params).In g → Top hd.view_39 loose mean mg mb g → (∀ b o, s.heap.get? b = some o → h₁.get? b = some o) → (∀ b o, s.heap.get? b = some o → b < L') → (∀ q ∈ hid, g.get? q = none) → Kept s.heap g hid →
      wpAny (model prog w) (A.deeper (envOfC qual scope L' f cdv)) (execs body (envOfC qual scope L' f cdv))
        (fun fl s' => R (.ok (.ret (match fl with | .ret v => v | _ => .none))) s')
        (fun e s' => wpAny (model prog w) (A.deeper (envOfC qual scope L' f cdv)) (leaving (envOfC qual scope L' f cdv) e) (fun _ s'' => R (.error e) s'') (fun e' s'' => R (.error e') s'') s')
        { s with heap := h₁, toks := tk })
    (hco : scope.isCoroutine = false) (hgen : scope.isGenerator = false) (hk : scope.kind = .function) : codeAny (model prog w) A (.call (.ref f) args) R s := by
  have X := B.K
  refine codeAny_call_function hroom (B.ext _ _ (X _ _ ho)) rfl hco hgen rfl ((codeRec_of X hcd).keeps B.ext) (hbind _ _ _ _ ?_)
  refine wpAny_newFunctionEnv_cells hk (kindsX hkind _) fun env' he s' x => ?_
  subst he
  refine ⟨((B.T.nolimit.keeps B.ext)).keeps x.toInCall.keep, codeAny_func ?_⟩
  obtain ⟨h₁, tk, rfl, _⟩ := x.done
  have hk₁ := x.toInCall.keep
  have st : ∀ b o, h₀.get? b = some o → (hideAll s.heap hid).get? b = some o := fun b o e => hideAll_get _ (B.ext b o e) fun q => by
    rw [hn b q] at e; cases e
  obtain ⟨cells, NC, Y⟩ := Cl.news (h₀ := s.heap) (Nat.le_refl _) fun n c hm => ⟨x.cell n c (lookup_of_mem_nodup (cellsFrom_names scope.names 0 (s.heap.objs.size + 1) [] [] rfl ▸ hnd) hm), x.above n c hm⟩
  refine h _ s.heap.objs.size h₁ tk cells ⟨x.toInCall.ns, fun b o e => hk₁ b o (of_hideAll _ e), Nat.le_of_eq (hideAll_size _ _)⟩ (fun p hp => ⟨(NC p hp).1, (NC p hp).2.1, ?_⟩) Y
    (fun a o e => st a o (X a o e)) (B.T.keeps st) hk₁ (fun b o e => Heap.lt_size e) (fun q hq => hideAll_none _ hq) (fun b o e n => hideAll_get _ e n)
  cases q : (hideAll s.heap hid).get? p.1 with
  | none => rfl
  | some o => have := of_hideAll _ q; rw [(NC p hp).2.2] at this; cases this
end
section
variable {M : Model} {A : Around} {E : Value → Shared → Prop} {s : Shared} {env : Env} {scope : Scope} {cl : List (Str × Addr)} {C : Addr} {g : Heap} {m mg mb : Str → Option Value} {nw : List (Addr × Obj)} {x : Str} {pos : Pos} {v : Value} {Q : Value → Shared → Prop}
/-- names within a comprehension's block -/
theorem nameC_L (F : Fr g C s.heap m) (hv : m x = some v) (h : Q v s) (hk : (compEnvC scope cl C env).scope.kind = .function) (hx : (compEnvC scope cl C env).kindOf x = some .local) (hd : (x == ("__debug__" : Str)) = false) :
    wpAny M A (eval (.Name x pos) (compEnvC scope cl C env)) Q E s := wpAny_Name (wpAny_loadName_local hk hx F.ns hv h) hd
theorem nameC_F {c : Addr} (hi : s.heap.IsCell c (some v)) (hc : cl.lookup x = some c) (h : Q v s) (hk : (compEnvC scope cl C env).scope.kind = .function) (hx : (compEnvC scope cl C env).kindOf x = some .cell) (hd : (x == ("__debug__" : Str)) = false) :
    wpAny M A (eval (.Name x pos) (compEnvC scope cl C env)) Q E s := wpAny_Name (wpAny_loadName_cell hk hx hc hi h) hd
theorem nameC_K {K : Frag} {p : Program} {loose : List Str} (F : Fr g C s.heap m) (X : K.In g) (T : TopRead p loose mg mb g) (e : nsIn K mainGlobals x = some (some v)) (h : Q v s) (hg : env.globals = mainGlobals)
    (hk : (compEnvC scope cl C env).scope.kind = .function) (hx : (compEnvC scope cl C env).kindOf x = some .globalImplicit) (hd : (x == ("__debug__" : Str)) = false) :
    wpAny M A (eval (.Name x pos) (compEnvC scope cl C env)) Q E s := nameG_K F X T e h hg hk hx hd
end
end Mine
end

section
open PySem PySem.W PySem.Calls PyProof.Rows
namespace Mine
def potObj (C : Addr) (at_ r : Int) (t1 t2 : Tok) (n : Nat) : Obj := listOf #[.ref C, .int at_ t1, .int r t2] n
structure PotAt (h : Heap) (P C : Addr) (at_ r : Int) (t1 t2 : Tok) (n n' : Nat) (vs : List Value) (ns : List Int) : Prop where
  pot : h.get? P = some (listOf #[.ref C, .int at_ t1, .int r t2] n)
  cells : h.get? C = some (listOf vs.toArray n')
  isI : IntsAre vs ns
  hat : 0 ≤ at_
  hr0 : 0 ≤ r
  hr1 : r < 70000
  hsz : ns.length ≤ 64
/-- the pot lies at P, its cells at C -/
def PotOk (h₀ h : Heap) (P C : Addr) : Prop := h₀.get? P = none ∧ h₀.get? C = none ∧ C ≠ P ∧ ∃ at_ r t1 t2 n n' vs ns, PotAt h P C at_ r t1 t2 n n' vs ns
theorem PotOk.keeps {h₀ g h h' : Heap} {P C : Addr} (p : PotOk h₀ h P C) (hP : g.get? P = none) (hC : g.get? C = none) (k : ∀ b o, h.get? b = some o → (b = P ∨ b = C) → h'.get? b = some o) : PotOk g h' P C := by
  obtain ⟨_, _, n, at_, r, t1, t2, n1, n2, vs, ns, q⟩ := p
  exact ⟨hP, hC, n, at_, r, t1, t2, n1, n2, vs, ns, ⟨k _ _ q.pot (.inl rfl), k _ _ q.cells (.inr rfl), q.isI, q.hat, q.hr0, q.hr1, q.hsz⟩⟩
theorem PotOk.lt {h₀ h : Heap} {P C : Addr} (p : PotOk h₀ h P C) : P < h.objs.size ∧ C < h.objs.size := by
  obtain ⟨_, _, n, at_, r, t1, t2, n1, n2, vs, ns, q⟩ := p
  exact ⟨Heap.lt_size q.pot, Heap.lt_size q.cells⟩
theorem PotOk.notFrame {h₀ h : Heap} {P C L : Addr} {m : Str → Option Value} (p : PotOk h₀ h P C) (F : Fr h₀ L h m) : L ≠ P ∧ L ≠ C := by
  obtain ⟨_, _, n, at_, r, t1, t2, n1, n2, vs, ns, q⟩ := p
  obtain ⟨o, es, ep, e, d, _⟩ := F.ns
  constructor
  · rintro rfl; rw [q.pot] at e; cases e; cases d
  · rintro rfl; rw [q.cells] at e; cases e; cases d
theorem pot_end {h₀ h g h' : Heap} {L' P C : Addr} {m' : Str → Option Value} {at_ r a r' : Int} {t1 t2 u1 u2 : Tok} {n n' : Nat} {vs : List Value} {ns : List Int}
    (e1 : h.get? P = some (listOf #[.ref C, .int at_ t1, .int r t2] n)) (e2 : h.get? C = some (listOf vs.toArray n')) (hP0 : h₀.get? P = none) (hC0 : h₀.get? C = none) (hCP : C ≠ P)
    (hi : IntsAre vs ns) (hsz : ns.length ≤ 64) (hk : Kept h g ([(P, listOf #[.ref C, .int at_ t1, .int r t2] n), (C, listOf vs.toArray n')].map (fun x => x.1)))
    (F : Fr g L' h' m') (N : News g L' h' [(P, listOf #[.ref C, .int a u1, .int r' u2] n), (C, listOf vs.toArray n')]) (h0 : 0 ≤ a) (hr0 : 0 ≤ r') (hr1 : r' < 70000) :
    PotOk h₀ h' P C ∧ Kept h h' [P] := by
  refine ⟨⟨hP0, hC0, hCP, a, r', u1, u2, n, n', vs, ns, ⟨(N _ (.head _)).1, (N _ (.tail _ (.head _))).1, hi, h0, hr0, hr1, hsz⟩⟩, kept_of hk ?_ F N ?_⟩
  · intro q hq
    simp only [List.mem_cons, List.not_mem_nil, or_false] at hq
    rcases hq with rfl | rfl
    · exact e1
    · exact e2
  · intro q hq hn
    simp only [List.mem_cons, List.not_mem_nil, or_false] at hq hn
    rcases hq with rfl | rfl
    · exact absurd rfl hn
    · exact .tail _ (.head _)
set_option maxHeartbeats 8000000 in
theorem dip_code {w : World} {loose : List Str} {mean : ExcName → Option Value} {mg mb : Str → Option Value} {h₀ : Heap} {A : Around} {s : Shared} {R : Result → Shared → Prop} {P C : Addr} {many : Int} {t3 : Tok}
    (B : Bs w loose mean mg mb h₀ s.heap) (hp : PotOk h₀ s.heap P C) (hm : 0 < many) (hh : A.handled = none) (hd : A.depth < 900)
    (ret : ∀ h' tk' k t, 0 ≤ k → k < many → PotOk h₀ h' P C → Kept s.heap h' [P] → R (.ok (.ret (.int k t))) { s with heap := h', toks := tk' }) :
    codeAny (model Challenge.rw_oj0014_01.prog w) A (.call (.ref 99) ⟨[.ref P, .int many t3], []⟩) R s := by
  obtain ⟨hP0, hC0, hCP, at_, r, t1, t2, n, n', vs, ns, ⟨e1, e2, hi, h0, hr0, hr1, hsz⟩⟩ := hp
  obtain ⟨hnd, dp, fr, gd, un⟩ := A
  dsimp only at hh hd
  subst hh
  have KX := B.K
  revert KX; k_fill; intro KX
  refine enter_plain B [(P, listOf #[.ref C, .int at_ t1, .int r t2] n), (C, listOf vs.toArray n')] ?_ ?_ (by k_is) (by k_is) (BindsTo.of_eq (binds := [(Str.ofString "pot", .ref P), (Str.ofString "many", .int many t3)]) rfl) (locs rfl) ?_ rfl rfl rfl (by decide)
  · intro q hq
    simp only [List.mem_cons, List.not_mem_nil, or_false] at hq
    rcases hq with rfl | rfl
    · exact ⟨e1, hP0⟩
    · exact ⟨e2, hC0⟩
  · simp only [recursionLimit]; omega
  intro g L' h₁ F N X T hlt hk
  (try dsimp only)
  (try k_unmd); k_fold
  k_steps
  all_goals (dsimp only; (with_reducible rename Fr _ _ _ _ => F2); (with_reducible rename News _ _ _ _ => N2))
  · have Z := pot_end e1 e2 hP0 hC0 hCP hi hsz hk F2 N2 (by omega) (by omega) (by omega)
    exact ret _ _ _ _ (fmod_lo _ hm) (fmod_hi _ hm) Z.1 Z.2
  · have q1 := fmod_lo (r * 75 + 74) (n := 65537) (by omega)
    have q2 := fmod_hi (r * 75 + 74) (n := 65537) (by omega)
    have Z := pot_end e1 e2 hP0 hC0 hCP hi hsz hk F2 N2 (by omega) q1 (by omega)
    exact ret _ _ _ _ (fmod_lo _ hm) (fmod_hi _ hm) Z.1 Z.2
theorem dip_call {w : World} {loose : List Str} {mean : ExcName → Option Value} {mg mb : Str → Option Value} {g : Heap} {L : Addr} {m : Str → Option Value} {nw : List (Addr × Obj)} {A : Around} {s : Shared} {Q E : Value → Shared → Prop} {P C : Addr} {many : Int} {t3 : Tok}
    (F : Fr g L s.heap m) (N : News g L s.heap nw) (X : (hd.heap_39 w.params).In g) (T : Top hd.view_39 loose mean mg mb g) (hp : PotOk g s.heap P C) (hn : ∀ q ∈ nw, q.1 ≠ P) (hm : 0 < many) (hh : A.handled = none) (hd : A.depth < 900)
    (ret : ∀ k t h' tk', 0 ≤ k → k < many → Fr g L h' m → News g L h' nw → PotOk g h' P C → Kept s.heap h' [P] → Q (.int k t) { s with heap := h', toks := tk' }) :
    wpAny (model Challenge.rw_oj0014_01.prog w) A (call (.ref 99) [.ref P, .int many t3]) Q E s := by
  refine wpAny_call (dip_code ⟨X, T, F.keep⟩ hp hm hh hd fun h' tk' k t h0 h1 hp' hk => ?_)
  exact ret k t h' tk' h0 h1 (Mine.Fr.kept F hk (by simpa using (hp.notFrame F).1) (by simpa using hp.1)) (Mine.News.kept N hk (by simpa using hn)) hp' hk
end Mine
end

section
open PySem PySem.W PySem.Calls PyProof.Rows
namespace Mine
section
variable {prog : Program} {w : World} {M : Model} {A : Around} {E : Value → Shared → Prop} {s : Shared} {g h h' : Heap} {L : Addr} {m : Str → Option Value} {nw : List (Addr × Obj)}
theorem Kept.up (k : Kept h h' []) : ∀ b o, h.get? b = some o → h'.get? b = some o := fun b o e => k b o e (by simp)
theorem Kept.of_up {wr : List Addr} (k : ∀ b o, h.get? b = some o → h'.get? b = some o) : Kept h h' wr := fun b o e _ => k b o e
theorem PotOk.up {P C : Addr} (p : PotOk g h P C) (k : Kept h h' []) : PotOk g h' P C := p.keeps p.1 p.2.1 fun b o e _ => k.up b o e
theorem get_fresh (h : Heap) : h.get? h.objs.size = none := by
  cases e : h.get? h.objs.size with
  | none => rfl
  | some o => exact absurd (Heap.lt_size e) (Nat.lt_irrefl _)
theorem newList_Kp {vs : List Value} {Q : Value → Shared → Prop} (F : Fr g L s.heap m) (N : News g L s.heap nw)
    (h : ∀ l h', Fr g L h' m → News g L h' nw → Kept s.heap h' [] → h'.get? l = some (listOf vs.toArray 0) → s.heap.get? l = none → Q (.ref l) { s with heap := h' }) (hsz : vs.length ≤ sizeLine) :
    wpAny M A (newList vs) Q E s := by
  refine wpAny_newObj_type ?_ (by show vs.toArray.size ≤ sizeLine; rw [List.size_toArray]; exact hsz)
  exact h _ _ (F.push _) (fun p hp => ⟨Heap.get?_push_of_some _ (N p hp).1, (N p hp).2⟩) (fun b o e _ => Heap.get?_push_of_some _ e) (Heap.get?_push_size _ rfl) (get_fresh _)
/-- an item of a list at an open place in bounds -/
theorem pick_list {value slice : Expr} {l : Addr} {its : Array Value} {n : Nat} {k : Int} {u : Tok} {Q : Value → Shared → Prop} (hl : s.heap.get? l = some (listOf its n)) (h0 : 0 ≤ k) (hk : k < its.size) (h1 : its.size ≤ 1000)
    (h : ∀ v, v ∈ its.toList → Q v s)
    (hs : subscripted slice false (.ref l) (.int k u) = operate [.ref l, .int k u] (getItem (.ref l) (.int k u)) := by with_unfolding_all rfl) :
    wpAny (model prog w) A (subscriptTail value slice (.ref l) (.int k u)) Q E s := by
  have hL : s.heap.IsList l its := ⟨_, hl, rfl, n, rfl⟩
  have hlt : k.toNat < its.size := by omega
  refine tail_any hL.typeIs slot_list_getitem.lookup (wpAny_getItem_list hL h0 (by omega) (x := its[k.toNat]) (by simp [hlt]) (h _ (by simp))) hs
theorem range_iter {r : Addr} {a k : Int} {t u v : Tok} {Q : Value → Shared → Prop} (hr : IsRange s.heap r a k 1 t u v) (ha : -(2 ^ 62) ≤ a) (ha' : a < 2 ^ 62) (hk : -(2 ^ 62) ≤ k) (hk' : k < 2 ^ 62)
    (h : ∀ h' I, IsRangeIter h' I (a + ((0 : Nat) : Int) * 1) (((k - a).toNat : Int) - ((0 : Nat) : Int)) 1 → Kept s.heap h' [] → s.heap.get? I = none → (∀ b o, s.heap.get? b = some o → b ≠ I) → I < h'.objs.size → Q (.ref I) { s with heap := h' }) :
    wpAny (model prog w) A (pyIter (.ref r)) Q E s := by
  refine wpAny_pyIter_range hr (small_one ha ha' hk hk') ?_
  refine h _ _ ?_ (fun b o e _ => Heap.get?_push_of_some _ e) (get_fresh _) (fun b o e q => ?_) (by rw [Heap.size_push]; exact Nat.lt_succ_self _)
  · show (s.heap.push _).get? _ = _
    rw [rangeSize_nat]
    have e1 : a + ((0 : Nat) : Int) * 1 = a := by omega
    have e2 : (((k - a).toNat : Int) - ((0 : Nat) : Int)) = ((k - a).toNat : Int) := by omega
    rw [e1, e2]
    exact Heap.get?_push_size _ rfl
  · subst q; exact absurd (Heap.lt_size e) (Nat.lt_irrefl _)
end
end Mine
end

section
open PySem PySem.W PySem.Calls PyProof.Rows
namespace Mine
theorem off_data : True := by
  w_top off
  exact True.intro
theorem lt_of_depth {a b : Nat} (h : a < b) : a < b := h
theorem PotOk.ltOf {h₀ h : Heap} {P C L : Addr} (p : PotOk h₀ h P C) (lt : ∀ b o, h.get? b = some o → b < L) : P < L := by
  obtain ⟨_, _, _, _, _, _, _, _, _, _, _, q⟩ := p
  exact lt _ _ q.pot
/-- a datum: a short text or a small int -/
def IsDatum (v : Value) : Prop := (∃ x t, v = .str x t ∧ x.length ≤ 20 ∧ PyData.strOk x = true) ∨ ∃ i t, v = .int i t ∧ 0 ≤ i ∧ i < 100
local macro_rules | `(tactic| walk_at "call ref") => `(tactic| (k_here; (with_reducible show wpAny _ _ (call (Value.ref 99) _) _ _ _); k_dflt ((refine dip_call (by assumption) (by assumption) (by assumption) (by assumption) (by assumption) ?z1 ?z2 ?z3 ?z4 ?_); (case z1 => k_all); (case z2 => decide); (case z3 => exact rfl); (case z4 => (refine lt_of_depth ?_; (try dsimp only [Around.deeper]); omega)); intro k t h' tk' hk0 hk1 F' N' PO' KP')))
local macro_rules | `(tactic| walk_at "eval Name") => `(tactic| (k_here; (with_reducible show wpAny _ _ (eval (Expr.Name _ _) (compEnvC _ _ _ _)) _ _ _); k_dflt (first
  | (refine' nameC_F ?i ?l ?_ ?a ?b ?c; (case b => with_unfolding_all rfl); (case a => with_unfolding_all rfl); (case c => decide); (case l => with_unfolding_all rfl); (case i => first | with_reducible assumption | (with_reducible show Heap.IsCell _ _ _; (with_reducible rename Heap.IsCell _ _ _ => ci9); exact ci9)))
  | (refine' nameC_L ?F ?v ?_ ?a ?b ?c; (case b => with_unfolding_all rfl); (case a => with_unfolding_all rfl); (case c => decide); (case F => assumption); (case v => assumption))
  | (refine' nameC_K ?F ?X ?T ?e ?_ ?g ?a ?b ?c; (case b => with_unfolding_all rfl); (case a => with_unfolding_all rfl); (case c => decide); (case g => with_unfolding_all rfl); (case F => assumption); (case X => assumption); (case T => exact topRead_of (by assumption)); (case e => k_is)))))
local macro_rules | `(tactic| walk_at "newList") => `(tactic| (k_here; (with_reducible show wpAny _ _ (newList _) _ _ _); k_dflt ((refine newList_Kp (by assumption) (by assumption) ?_ ?zs); (case zs => ((simp only [List.length_cons, List.length_nil]); decide)); intro l hl' Fl' Nl' Kl' el' fl'; have POl' := PotOk.up (by assumption) Kl'; (try have cil' := Heap.IsCell.keeps (by with_reducible assumption) (Kept.up Kl')))))
set_option maxHeartbeats 8000000 in
theorem data_code {w : World} {loose : List Str} {mean : ExcName → Option Value} {mg mb : Str → Option Value} {h₀ : Heap} {A : Around} {s : Shared} {R : Result → Shared → Prop} {P C : Addr}
    (B : Bs w loose mean mg mb h₀ s.heap) (hp : PotOk h₀ s.heap P C) (hh : A.handled = none) (hd : A.depth < 890)
    (ret : ∀ h' tk' D ys, s.heap.get? D = none → h'.PlainList D (List.toArray ys) → (∀ y ∈ ys, IsDatum y) → ys.length ≤ 4 → PotOk h₀ h' P C → Kept s.heap h' [P] → R (.ok (.ret (.ref D))) { s with heap := h', toks := tk' }) :
    codeAny (model Challenge.rw_oj0014_01.prog w) A (.call (.ref 111) ⟨[.ref P], []⟩) R s := by
  obtain ⟨hnd, dp, fr, gd, un⟩ := A
  dsimp only at hh hd
  subst hh
  have KX := B.K
  revert KX; k_fill; intro KX
  refine enter_cellsH B [P, C] ?_ ?_ (by k_is) (by k_is) (BindsTo.of_eq (binds := [(Str.ofString "pot", .ref P)]) rfl) rfl (by decide +kernel) ?_ rfl rfl rfl
  · intro q hq
    simp only [List.mem_cons, List.not_mem_nil, or_false] at hq
    rcases hq with rfl | rfl
    · exact hp.1
    · exact hp.2.1
  · simp only [recursionLimit]; omega
  intro g L' h₁ tk cells F N Y X T kp lt hg hk
  k_cells Y
  have PO : PotOk g h₁ P C := hp.keeps (hg P (by simp)) (hg C (by simp)) fun b o e _ => kp b o e
  have hPL := ltN (PotOk.ltOf hp lt)
  (try dsimp only)
  refine wpAny_execs_cons (wpAny_Return_some ?_)
  refine ListComp_inv (cl := [(Str.ofString "pot", L' + 1)]) ?c1 ?c2 ?c3 ?c4 ?c5 ?_
  case c1 => with_unfolding_all rfl
  case c2 => decide
  case c3 => rfl
  case c4 => decide
  case c5 => rfl
  iterate 16 walk1
  rename_i k t h3 tk3 hk0 hk1 F3 N3 PO3 KP3 h2 tk2 ta ua va hr F2 N2 kr
  have PO2 : PotOk g h2 P C := PO3.up (Kept.of_up kr)
  refine range_iter hr (by decide) (by decide) (by omega) (by omega) ?_
  intro h5 I hI K5 fI nI sI
  have PO5 := PO2.up K5
  have F5 := Mine.Fr.kept F2 K5 (by simp) (by simp)
  have N5 := Mine.News.kept N2 K5 (by simp)
  have hPI : P ≠ I := by obtain ⟨_, _, _, _, _, _, _, _, _, _, _, q⟩ := PO2; exact nI _ _ q.pot
  have hCI : C ≠ I := by obtain ⟨_, _, _, _, _, _, _, _, _, _, _, q⟩ := PO2; exact nI _ _ q.cells
  refine ⟨I, [I], [I], [P], (k - 0).toNat, _, _, fun i ys h => PotOk g h P C ∧ ys.length ≤ i ∧ ∀ y ∈ ys, IsDatum y, rfl, Walks.range rfl I 0 1 _, hI, ?_, ?_⟩
  · refine ⟨?_, ?_, ?_, ?_, ?_, ?_, ?_⟩
    · intro b hb; simp only [List.mem_singleton] at hb; subst hb; exact sI
    · intro b hb; simp only [List.mem_singleton] at hb; subst hb; exact PO5.lt.1
    · intro b hb; simp only [List.mem_singleton] at hb ⊢; subst hb; exact Ne.symm hPI
    · have : (k - 0).toNat ≤ 5 := by omega
      exact Nat.le_trans this (by decide)
    · intro i ys h h' hj hk'
      refine ⟨hj.1.keeps hj.1.1 hj.1.2.1 fun b o e hb => hk' b o ?_ ?_ e, hj.2⟩
      · rcases hb with rfl | rfl
        · exact PO5.lt.1
        · exact PO5.lt.2
      · rcases hb with rfl | rfl
        · simpa using hPI
        · simpa using hCI
    · exact ⟨PO5, Nat.le_refl _, fun _ h => nomatch h⟩
    · intro C' i v ys h tk m₂ E' hC' hi hv hj hn hm hk'
      refine tests_nil ⟨h, tk, rfl, Kept.of_up fun _ _ e => e, ?_⟩
      rw [if_pos rfl]
      have gI : g.get? I = none := by
        cases e : g.get? I with
        | none => rfl
        | some o => rw [F2.keep _ _ e] at fI; cases fI
      have ext : ∀ b o, g.get? b = some o → h.get? b = some o := fun b o e => hk' b o (F5.keep b o e) (by
        intro q
        simp only [List.cons_append, List.nil_append, List.mem_cons, List.not_mem_nil, or_false] at q
        rcases q with rfl | rfl
        · rw [gI] at e; cases e
        · rw [PO.1] at e; cases e)
      have Fc : Fr g C' h m₂ := ⟨hn, ext, Nat.le_trans F5.above (Nat.le_trans (Nat.le_of_lt F5.ns.lt) hC')⟩
      have cI : h.IsCell (L' + 1) (some (.ref P)) := by
        have q := (N5 _ (.head _)).1
        refine ⟨_, hk' _ _ q ?_, by assumption⟩
        simp only [List.cons_append, List.nil_append, List.mem_cons, List.not_mem_nil, or_false, not_or]
        exact ⟨fun e => nI _ _ (N2 _ (.head _)).1 e, fun e => by have := ltN hPL; have e' : @Eq Nat (L' + 1) P := e; omega⟩
      have POc := hj.1
      have Nc : News g C' h [] := News.nil
      iterate 26 walk1
      rename_i l hl Fl Nl Kl el fl POl cil ce kk tt h7 tk7 hk70 hk71 F7 N7 PO7 KP7
      have hlP : l ≠ P := by
        rintro rfl
        obtain ⟨_, _, _, _, _, _, _, _, _, _, _, q⟩ := POc
        rw [q.pot] at fl; cases fl
      refine pick_list (its := _) (KP7 _ _ el (by simpa using hlP)) hk70 hk71 (by simp) ?_
      intro v' hv'
      refine ⟨_, _, rfl, ?_, PO7, ?_, ?_⟩
      · exact fun b o e n => KP7 b o (Kl.up b o e) n
      · rw [List.length_append, List.length_singleton]; omega
      · intro y hy
        rcases List.mem_append.mp hy with hy | hy
        · exact hj.2.2 y hy
        · rw [List.mem_singleton.mp hy]
          simp only [List.mem_cons, List.not_mem_nil, or_false] at hv'
          rcases hv' with rfl | rfl | rfl | rfl | rfl
          · exact .inl ⟨_, _, rfl, by decide, by decide +kernel⟩
          · exact .inl ⟨_, _, rfl, by decide, by decide +kernel⟩
          · exact .inr ⟨_, _, rfl, by decide, by decide⟩
          · exact .inr ⟨_, _, rfl, by decide, by decide⟩
          · exact .inl ⟨_, _, rfl, by decide, by decide +kernel⟩
  · intro D h' tk ys hD hDs hpl hj hlen hkk
    have Kc : Kept s.heap h2 [P] := fun b o e n => kr b o (KP3 b o (kp b o e) n)
    have hDP : D ≠ P := by
      rintro rfl
      obtain ⟨_, _, _, _, _, _, _, _, _, _, _, q⟩ := PO5
      rw [q.pot] at hD; cases hD
    refine ret h' tk D ys ?_ hpl hj.2.2 (by omega) (hj.1.keeps hp.1 hp.2.1 fun _ _ e _ => e) fun b o e n => ?_
    · cases e : s.heap.get? D with
      | none => rfl
      | some o => have := K5.up _ _ (Kc _ _ e (by simpa using hDP)); rw [hD] at this; cases this
    · have q := Kc b o e n
      refine hkk b o (K5.up _ _ q) ?_
      simp only [List.cons_append, List.nil_append, List.mem_cons, List.not_mem_nil, or_false, not_or] at n ⊢
      exact ⟨nI _ _ q, n⟩
end Mine
end

section
open PySem PySem.W PySem.Calls PyProof.Rows
namespace Mine
theorem off_names : True := by
  w_top off
  exact True.intro
theorem News.three {g h : Heap} {L : Addr} {a b c : Addr × Obj} {r : List (Addr × Obj)} (N : News g L h (a :: b :: c :: r)) : News g L h [a, b, c] := fun q hq => N q (by
  simp only [List.mem_cons, List.not_mem_nil, or_false] at hq ⊢
  rcases hq with h | h | h
  · exact .inl h
  · exact .inr (.inl h)
  · exact .inr (.inr (.inl h)))
/-- the eight names -/
def eightNames : List Str := [Str.ofString "error", Str.ofString "user-error", Str.ofString "quit", Str.ofString "wrong-type-argument", Str.ofString "file-missing", Str.ofString "scan-error", Str.ofString "no-such", Str.ofString "text-read-only"]
def IsName (v : Value) : Prop := ∃ x t, v = .str x t ∧ x ∈ eightNames
section
local macro_rules | `(tactic| walk_at "call ref") => `(tactic| (k_here; (with_reducible show wpAny _ _ (call (Value.ref 99) _) _ _ _); k_dflt ((refine dip_call (by assumption) (by assumption) (by assumption) (by assumption) (by assumption) ?z1 ?z2 ?z3 ?z4 ?_); (case z1 => k_all); (case z2 => decide); (case z3 => exact rfl); (case z4 => (refine lt_of_depth ?_; (try dsimp only [Around.deeper]); omega)); intro k t h' tk' hk0 hk1 F' N' PO' KP')))
local macro_rules | `(tactic| walk_at "eval Name") => `(tactic| (k_here; (with_reducible show wpAny _ _ (eval (Expr.Name _ _) (compEnvC _ _ _ _)) _ _ _); k_dflt (first
  | (refine' nameC_F ?i ?l ?_ ?a ?b ?c; (case b => with_unfolding_all rfl); (case a => with_unfolding_all rfl); (case c => decide); (case l => with_unfolding_all rfl); (case i => first | with_reducible assumption | (with_reducible show Heap.IsCell _ _ _; (with_reducible rename Heap.IsCell _ _ _ => ci9); exact ci9)))
  | (refine' nameC_L ?F ?v ?_ ?a ?b ?c; (case b => with_unfolding_all rfl); (case a => with_unfolding_all rfl); (case c => decide); (case F => assumption); (case v => assumption))
  | (refine' nameC_K ?F ?X ?T ?e ?_ ?g ?a ?b ?c; (case b => with_unfolding_all rfl); (case a => with_unfolding_all rfl); (case c => decide); (case g => with_unfolding_all rfl); (case F => assumption); (case X => assumption); (case T => exact topRead_of (by assumption)); (case e => k_is)))))
set_option maxHeartbeats 8000000 in
theorem names_code {w : World} {loose : List Str} {mean : ExcName → Option Value} {mg mb : Str → Option Value} {h₀ : Heap} {A : Around} {s : Shared} {R : Result → Shared → Prop} {P C : Addr}
    (B : Bs w loose mean mg mb h₀ s.heap) (hp : PotOk h₀ s.heap P C) (hh : A.handled = none) (hd : A.depth < 890)
    (ret : ∀ h' tk' D ys, s.heap.get? D = none → h'.PlainList D (List.toArray ys) → (∀ y ∈ ys, IsName y) → ys.length ≤ 6 → PotOk h₀ h' P C → Kept s.heap h' [P] → R (.ok (.ret (.ref D))) { s with heap := h', toks := tk' }) :
    codeAny (model Challenge.rw_oj0014_01.prog w) A (.call (.ref 116) ⟨[.ref P], []⟩) R s := by
  obtain ⟨hnd, dp, fr, gd, un⟩ := A
  dsimp only at hh hd
  subst hh
  have KX := B.K
  revert KX; k_fill; intro KX
  refine enter_cellsH B [P, C] ?_ ?_ (by k_is) (by k_is) (BindsTo.of_eq (binds := [(Str.ofString "pot", .ref P)]) rfl) rfl (by decide +kernel) ?_ rfl rfl rfl
  · intro q hq
    simp only [List.mem_cons, List.not_mem_nil, or_false] at hq
    rcases hq with rfl | rfl
    · exact hp.1
    · exact hp.2.1
  · simp only [recursionLimit]; omega
  intro g L' h₁ tk cells F N Y X T kp lt hg hk
  have hY := CellsAre.two Y; obtain ⟨o', o2', hE', d1', d2'⟩ := hY; subst hE'; clear Y
  have hPL := ltN (PotOk.ltOf hp lt)
  obtain ⟨hP0, hC0, hCP, at_, r, t1, t2, n, n', vs, ns, ⟨e1, e2, hi, h0, hr0, hr1, hsz⟩⟩ := id hp
  have hCL := ltN (lt _ _ e2)
  have hCP' := neN hCP
  have N : News g L' h₁ [(L' + 1 + 1, o'), (L' + 1, o2'), (P, listOf #[.ref C, .int at_ t1, .int r t2] n), (C, listOf vs.toArray n')] := by
    intro q hq
    simp only [List.mem_cons, List.not_mem_nil, or_false] at hq
    rcases hq with rfl | rfl | rfl | rfl
    · exact N _ (.head _)
    · exact N _ (.tail _ (.head _))
    · exact ⟨kp _ _ e1, Nat.ne_of_lt hPL, hg P (by simp)⟩
    · exact ⟨kp _ _ e2, Nat.ne_of_lt hCL, hg C (by simp)⟩
  (try dsimp only)
  repeat ((fail_if_success (with_reducible show wpAny _ _ (exec (Stmt.Return _ _) _) _ _ _)); walk1)
  (with_reducible rename Fr _ _ _ _ => Fz)
  (with_reducible rename News _ _ _ _ => Nz)
  rename_i l hz0 l1 hz1 ok dk tkz hz
  have PO : PotOk g hz P C := ⟨hg P (by simp), hg C (by simp), hCP, at_, r, t1, t2, n, n', vs, ns, ⟨(Nz _ (.tail _ (.tail _ (.tail _ (.head _))))).1, (Nz _ (.tail _ (.tail _ (.tail _ (.tail _ (.head _)))))).1, hi, h0, hr0, hr1, hsz⟩⟩
  have Kz : Kept s.heap hz [P] := fun b o e q => by
    by_cases hb : b = C
    · subst hb
      rw [e2] at e; cases e
      exact (Nz _ (.tail _ (.tail _ (.tail _ (.tail _ (.head _)))))).1
    · exact Fz.keep b o (hk b o e (by simp only [List.mem_cons, List.not_mem_nil, or_false] at q ⊢; exact not_or.mpr ⟨q, hb⟩))
  have Nk := News.three Nz
  clear Nz
  refine wpAny_Return_some ?_
  refine' ListComp_inv (cl := ?cl) ?c1 ?c2 ?c3 ?c4 ?c5 ?_
  case c1 => with_unfolding_all rfl
  case c2 => decide
  case c3 => rfl
  case c4 => decide
  case c5 => rfl
  repeat ((fail_if_success (with_reducible show wpAny _ _ (pyIter _) _ _ _)); walk1)
  rename_i k t h3 tk3 hk0 hk1 F3 N3 PO3 KP3 h2 tk2 ta ua va hr F2 N2 kr
  have PO2 : PotOk g h2 P C := PO3.up (Kept.of_up kr)
  refine range_iter hr (by decide) (by decide) (by omega) (by omega) ?_
  intro h5 I hI K5 fI nI sI
  have PO5 := PO2.up K5
  have F5 := Mine.Fr.kept F2 K5 (by simp) (by simp)
  have N5 := Mine.News.kept N2 K5 (by simp)
  have hPI : P ≠ I := by obtain ⟨_, _, _, _, _, _, _, _, _, _, _, q⟩ := PO2; exact nI _ _ q.pot
  have hCI : C ≠ I := by obtain ⟨_, _, _, _, _, _, _, _, _, _, _, q⟩ := PO2; exact nI _ _ q.cells
  have gI : g.get? I = none := by
    cases e : g.get? I with
    | none => rfl
    | some o => rw [F2.keep _ _ e] at fI; cases fI
  have hlP : l ≠ P := by (refine neN ?_; omega)
  refine ⟨I, [I], [I], [P], (1 + k - 0).toNat, _, _, fun i ys h => PotOk g h P C ∧ ys.length ≤ i ∧ ∀ y ∈ ys, IsName y, rfl, Walks.range rfl I 0 1 _, hI, ?_, ?_⟩
  · refine ⟨?_, ?_, ?_, ?_, ?_, ?_, ?_⟩
    · intro b hb; simp only [List.mem_singleton] at hb; subst hb; exact sI
    · intro b hb; simp only [List.mem_singleton] at hb; subst hb; exact PO5.lt.1
    · intro b hb; simp only [List.mem_singleton] at hb ⊢; subst hb; exact Ne.symm hPI
    · have : (1 + k - 0).toNat ≤ 6 := by omega
      exact Nat.le_trans this (by decide)
    · intro i ys h h' hj hk'
      refine ⟨hj.1.keeps hj.1.1 hj.1.2.1 fun b o e hb => hk' b o ?_ ?_ e, hj.2⟩
      · rcases hb with rfl | rfl
        · exact PO5.lt.1
        · exact PO5.lt.2
      · rcases hb with rfl | rfl
        · simpa using hPI
        · simpa using hCI
    · exact ⟨PO5, Nat.le_refl _, fun _ h => nomatch h⟩
    · intro C' i v ys h tk m₂ E' hC' hi hv hj hn hm hk'
      refine tests_nil ⟨h, tk, rfl, Kept.of_up fun _ _ e => e, ?_⟩
      rw [if_pos rfl]
      have ext : ∀ b o, g.get? b = some o → h.get? b = some o := fun b o e => hk' b o (F5.keep b o e) (by
        intro q
        simp only [List.cons_append, List.nil_append, List.mem_cons, List.not_mem_nil, or_false] at q
        rcases q with rfl | rfl
        · rw [gI] at e; cases e
        · rw [hg _ (by simp)] at e; cases e)
      have Fc : Fr g C' h m₂ := ⟨hn, ext, Nat.le_trans F5.above (Nat.le_trans (Nat.le_of_lt F5.ns.lt) hC')⟩
      have up : ∀ b o, h2.get? b = some o → b ≠ P → h.get? b = some o := fun b o e hb => hk' b o (K5.up _ _ e) (by
        simp only [List.cons_append, List.nil_append, List.mem_cons, List.not_mem_nil, or_false, not_or]
        exact ⟨nI _ _ e, hb⟩)
      have cI : h.IsCell (L' + 1) (some (.ref P)) := ⟨_, up _ _ (N2 _ (.tail _ (.tail _ (.head _)))).1 (by refine neN ?_; omega), d2'⟩
      have cK : h.IsCell (L' + 1 + 1) (some (.ref l)) := ⟨_, up _ _ (N2 _ (.tail _ (.head _))).1 (by refine neN ?_; omega), dk⟩
      have eL := up _ _ (N2 _ (.head _)).1 hlP
      have POc := hj.1
      have Nc : News g C' h [] := News.nil
      clear N2 N3 N5 F3 F2 Fz
      repeat ((fail_if_success (with_reducible show wpAny _ _ (subscriptTail _ _ _ _) _ _ _)); walk1)
      rename_i ce kk tt h7 tk7 hk70 hk71 F7 N7 PO7 KP7
      refine pick_list (its := _) (KP7 _ _ eL (by simpa using hlP)) hk70 hk71 (by simp) ?_
      intro v' hv'
      refine ⟨_, _, rfl, KP7, PO7, ?_, ?_⟩
      · rw [List.length_append, List.length_singleton]; omega
      · intro y hy
        rcases List.mem_append.mp hy with hy | hy
        · exact hj.2.2 y hy
        · rw [List.mem_singleton.mp hy]
          simp only [List.push_toArray, List.cons_append, List.nil_append, List.mem_cons, List.not_mem_nil, or_false] at hv'
          rcases hv' with rfl | rfl | rfl | rfl | rfl | rfl | rfl | rfl
          all_goals exact ⟨_, _, rfl, by decide⟩
  · intro D h' tk ys hD hDs hpl hj hlen hkk
    have Kc : Kept s.heap h2 [P] := fun b o e n => kr b o (KP3 b o (Kz b o e n) n)
    have hDP : D ≠ P := by
      rintro rfl
      obtain ⟨_, _, _, _, _, _, _, _, _, _, _, q⟩ := PO5
      rw [q.pot] at hD; cases hD
    refine ret h' tk D ys ?_ hpl hj.2.2 (by omega) (hj.1.keeps hp.1 hp.2.1 fun _ _ e _ => e) fun b o e n => ?_
    · cases e : s.heap.get? D with
      | none => rfl
      | some o => have := K5.up _ _ (Kc _ _ e (by simpa using hDP)); rw [hD] at this; cases this
    · have q := Kc b o e n
      refine hkk b o (K5.up _ _ q) ?_
      simp only [List.cons_append, List.nil_append, List.mem_cons, List.not_mem_nil, or_false, not_or] at n ⊢
      exact ⟨nI _ _ q, n⟩
end
end Mine
end

section
open PySem PySem.W PySem.Calls PyProof.Rows
namespace Mine
section
variable {prog : Program} {w : World} {K : Type} [DecidableEq K] {knd : KeyKind prog w K} {A : Around} {E : Value → Shared → Prop} {s : Shared}
theorem dictPut_pairs {d : Addr} {kvs : List (K × Value)} {k : K} {key v : Value} {Q : Unit → Shared → Prop} (hkey : knd.is k key = true) (hm : s.heap.DictOf knd d kvs)
    (hQ : ∀ h', h'.DictOf knd d (stored kvs k v) → Heap.SameBut d s.heap h' → Q () { s with heap := h' })
    (hsz : kvs.length ≤ sizeLine) :
    wpAny (model prog w) A (dictPut d (knd.hash k) key v) Q E s := by
  obtain ⟨o, es, ep, ho, hc, hd, hk, hp, hn⟩ := hm
  have hes : es.size ≤ sizeLine := by have e1 := hp.length; have e2 : es.toList.length = es.size := by simp
                                      omega
  unfold dictPut
  refine wpAny_bind (wpAny_dictFind_of hkey ho hd hk ?_)
  have hidx : (es.findIdx? fun e => knd.is k e.key) = kvs.findIdx? fun kv => decide (kv.1 = k) := by
    rw [← hp.findIdx k]; obtain ⟨l⟩ := es; simp
  cases hi : es.findIdx? fun e => knd.is k e.key with
  | some i =>
    refine wpAny_updateDict ho hd (hQ _ ⟨_, _, ep, Heap.get?_update_self _ ho (Obj.isFreed_of_dict (Obj.data_mapDict hd _)),
      hc.mapDict _, Obj.data_mapDict hd _, hk.modify _ _, ?_, ?_⟩ (Heap.SameBut.update ..))
    · rw [stored, if_pos (any_of_findIdx_some (hidx ▸ hi))]
      have hl : (es.toList.findIdx? fun e => knd.is k e.key) = some i := by rw [← hi]; obtain ⟨l⟩ := es; simp
      have := hp.modify hn hl v
      obtain ⟨l⟩ := es
      simpa using this
    · rw [stored, if_pos (any_of_findIdx_some (hidx ▸ hi)), keys_map_store]; exact hn
  | none =>
    have hnot : k ∉ kvs.map (·.1) := not_mem_of_findIdx_none (hidx ▸ hi)
    have hany : ¬ (kvs.any fun kv => decide (kv.1 = k)) = true := by
      rw [List.any_eq_true]; rintro ⟨kv, hkv, he⟩
      exact hnot (List.mem_map.mpr ⟨kv, hkv, of_decide_eq_true he⟩)
    refine wpAny_updateDictKeys (hz := hes) ho hd (hQ _ ⟨_, _, ep + 1, Heap.get?_update_self _ ho (Obj.isFreed_of_dict (Obj.data_mapDictKeys hd _)),
      hc.mapDictKeys _, Obj.data_mapDictKeys hd _, hk.push hkey _, ?_, ?_⟩ (Heap.SameBut.update ..))
    · rw [stored, if_neg hany]
      have := hp.append hkey (knd.hash k) v
      obtain ⟨l⟩ := es
      simpa using this
    · rw [stored, if_neg hany, List.map_append, List.nodup_append]
      refine ⟨hn, by simp, ?_⟩
      intro a ha b hb
      simp only [List.map_cons, List.map_nil, List.mem_singleton] at hb
      subst hb
      exact fun e => hnot (e ▸ ha)
theorem mergeMapping_pairs {d o : Addr} {kvs more : List (K × Value)} {Q : Unit → Shared → Prop} (hdo : d ≠ o) (hoS : (o == sysModules) = false)
    (hd : s.heap.DictOf knd d kvs) (hne : kvs ≠ []) (ho : s.heap.DictOf knd o more)
    (hQ : ∀ h', h'.DictOf knd d (merged kvs more) → Heap.SameBut d s.heap h' → Q () { s with heap := h' })
    (hsz : kvs.length + more.length ≤ sizeLine) :
    wpAny (model prog w) A (mergeMapping d (.ref o) false) Q E s := by
  obtain ⟨od, esd, epd, hod, hcd, hdd, hkd, hpd, hnd⟩ := id hd
  obtain ⟨oo, eso, epo, hoo, hco, hdo', hko, hpo, hno⟩ := id ho
  unfold mergeMapping
  refine wpAny_bind (wpAny_isInstance ho.typeIs isSubtype_dict_dict ?_)
  simp only [if_true]
  refine wpAny_bind (wpAny_specialOf ho.typeIs F.slot_dict_iter.lookup ?_)
  simp only [beq_self_eq_true]
  refine wpAny_bind (wpAny_pure ?_)
  dsimp only
  rw [if_neg (by rw [hoS]; exact Bool.false_ne_true)]
  refine wpAny_bind (wpAny_dictEntries hod hdd ?_)
  have hem : ¬ esd.isEmpty = true := by
    intro hemp
    have h0 : esd = #[] := Array.isEmpty_iff.mp hemp
    have := hpd.length; rw [h0] at this
    exact hne (List.length_eq_zero_iff.mp (by simpa using this.symm))
  rw [if_neg hem]
  have hlen : more.length = eso.size := by rw [← hpo.length]; simp
  refine wpAny_bind (wpAny_dictEntries hoo hdo' ?_)
  refine wpAny_bind (wpAny_dictEpoch hoo hdo' ?_)
  refine wpAny_bind ?_
  rw [List.range_eq_range']
  refine wpAny_forIn_list _
      (fun rest _ s' => ∃ h' i, s' = { s with heap := h' } ∧ rest = List.range' i (eso.size - i) ∧ i ≤ eso.size ∧ h'.DictOf knd d (merged kvs (more.take i)) ∧ h'.get? o = some oo ∧ Heap.SameBut d s.heap h')
      _ ?_ ?_ _ _ ⟨s.heap, 0, rfl, by simp, Nat.zero_le _, by simpa [merged] using hd, hoo, Heap.SameBut.refl _ _⟩
  · rintro x rest b s' ⟨h', i, rfl, hr, hi, hd', hoo', hs'⟩
    have hlt : i < eso.size := by
      rcases Nat.lt_or_ge i eso.size with h | h
      · exact h
      · rw [Nat.sub_eq_zero_of_le h] at hr; simp at hr
    obtain ⟨rfl, hrest⟩ : x = i ∧ rest = List.range' (i + 1) (eso.size - (i + 1)) := by
      have e : eso.size - i = (eso.size - (i + 1)) + 1 := by omega
      rw [e, List.range'_succ] at hr
      injection hr with h1 h2
      exact ⟨h1, h2⟩
    refine wpAny_bind (wpAny_dictEntries hoo' hdo' ?_)
    rw [Array.getElem?_eq_getElem hlt]
    obtain ⟨kv, hkv⟩ : ∃ kv, more[x]? = some kv := ⟨more[x]'(by rw [hlen]; exact hlt), List.getElem?_eq_getElem _⟩
    obtain ⟨k, v⟩ := kv
    obtain ⟨hkey, hval⟩ := hpo.get? (e := eso[x]) (by simp [hlt]) hkv
    obtain ⟨k', hkey', hhash⟩ := hko eso[x] (Array.getElem_mem hlt)
    obtain rfl : k' = k := knd.inj _ _ _ hkey' hkey
    dsimp only
    rw [if_neg Bool.false_ne_true]
    rw [hhash, hval]
    have hmx : (merged kvs (more.take x)).length ≤ sizeLine := by
      have e1 := merged_length_le kvs (more.take x)
      have e2 : (more.take x).length ≤ more.length := by rw [List.length_take]; omega
      omega
    refine wpAny_bind (wpAny_holding (dictPut_pairs (hsz := hmx) hkey hd' fun h'' hd'' hs'' => ?_))
    have hoo'' : h''.get? o = some oo := (hs''.2 o (Ne.symm hdo)).trans hoo'
    refine wpAny_bind (wpAny_dictEpoch hoo'' hdo' ?_)
    rw [if_neg (by simp)]
    exact wpAny_pure ⟨h'', x + 1, rfl, hrest, hlt, by rw [merged_take_succ kvs more x (k', v) hkv]; exact hd'', hoo'', hs'.trans hs''⟩
  · rintro b s' ⟨h', i, rfl, hr, hi, hd', hoo', hs'⟩
    have hin : i = eso.size := by
      rcases Nat.lt_or_ge i eso.size with h | h
      · have e : eso.size - i = (eso.size - (i + 1)) + 1 := by omega
        rw [e, List.range'_succ] at hr; exact nomatch hr
      · exact Nat.le_antisymm hi h
    refine wpAny_pure (hQ h' ?_ hs')
    rw [hin, ← hlen, List.take_length] at hd'; exact hd'
/-- a pair of a display whose key is a written text, its value told -/
structure CP (prog : Program) (w : World) (p : Sem Value × Sem Value) (k : Str) (V : Value → Prop) : Prop where
  key : ∀ (A : Around) (E : Value → Shared → Prop) (s : Shared) (Q : Value → Shared → Prop), (∀ t tk, Q (.str k t) { s with toks := tk }) → wpAny (model prog w) A p.1 Q E s
  val : ∀ (A : Around) (E : Value → Shared → Prop) (s : Shared) (Q : Value → Shared → Prop), (∀ v tk, V v → Q v { s with toks := tk }) → wpAny (model prog w) A p.2 Q E s
/-- the entries told: a table of texts -/
inductive CPs (prog : Program) (w : World) : List (Sem Value × Sem Value) → List (Str × Str) → Prop
  | nil : CPs prog w [] []
  | cons {p k v ps D} : CP prog w p k (fun x => ∃ t, x = .str v t) → CPs prog w ps D → CPs prog w (p :: ps) ((k, v) :: D)
inductive TabS : List (Str × Value) → List (Str × Str) → Prop
  | nil : TabS [] []
  | cons {k v t l D} : TabS l D → TabS ((k, .str v t) :: l) ((k, v) :: D)
theorem CPs.length {ps D} (h : CPs prog w ps D) : ps.length = D.length := by induction h with | nil => rfl | cons _ _ ih => simp [ih]
theorem TabS.length {l D} (h : TabS l D) : l.length = D.length := by induction h with | nil => rfl | cons _ ih => simp [ih]
theorem TabS.keys {l D} (h : TabS l D) : l.map (·.1) = D.map (·.1) := by induction h with | nil => rfl | cons _ ih => simp [ih]
theorem TabS.append {l D l' D'} (h : TabS l D) (h' : TabS l' D') : TabS (l ++ l') (D ++ D') := by induction h with | nil => exact h' | cons _ ih => exact .cons ih
theorem CPs.append {l D l' D'} (h : CPs prog w l D) (h' : CPs prog w l' D') : CPs prog w (l ++ l') (D ++ D') := by induction h with | nil => exact h' | cons a _ ih => exact .cons a ih
theorem evalPairs_texts : ∀ {ps : List (Sem Value × Sem Value)} {D : List (Str × Str)}, CPs prog w ps D → ∀ (E : Value → Shared → Prop) (s : Shared) (Q : List (Value × Value) → Shared → Prop),
    (∀ vs kvs tk, TabS kvs D → Carries (strKind prog w) vs kvs → Q vs { s with toks := tk }) → wpAny (model prog w) A (evalPairs ps) Q E s
  | _, _, .nil, E, s, Q, h => evalPairs_nil (h [] [] s.toks .nil trivial)
  | _, _, .cons c r, E, s, Q, h => by
    refine evalPairs_cons (c.key _ _ _ _ fun t tk => c.val _ _ _ _ fun v tk' hv => evalPairs_texts r _ _ _ fun vs kvs tk'' ht hc => ?_)
    obtain ⟨t', rfl⟩ := hv
    exact h _ _ _ (.cons ht) ⟨strKind_is prog w _ _, rfl, hc⟩
theorem storeTexts {d : Addr} : ∀ {ps : List (Sem Value × Sem Value)} {D : List (Str × Str)}, CPs prog w ps D → ∀ (E : Value → Shared → Prop) (s : Shared) (Q : PUnit → Shared → Prop) (acc : List (Str × Value)) (D₀ : List (Str × Str)), TabS acc D₀ → s.heap.DictOf (strKind prog w) d acc →
    ((D₀ ++ D).map (·.1)).Nodup → (D₀ ++ D).length ≤ sizeLine →
    (∀ h' tk kvs, TabS kvs (D₀ ++ D) → h'.DictOf (strKind prog w) d kvs → Heap.SameBut d s.heap h' → Q PUnit.unit { s with heap := h', toks := tk }) →
    wpAny (model prog w) A (forIn ps PUnit.unit fun (x : Sem Value × Sem Value) (_ : PUnit) => (do let kv ← x.1; let vv ← holding [kv] x.2; holding [kv, vv] (dictSet d kv vv); pure (ForInStep.yield PUnit.unit) : Sem (ForInStep PUnit))) Q E s
  | _, _, .nil, E, s, Q, acc, D₀, ha, hd, _, _, h => by
    rw [List.forIn_nil]
    exact wpAny_pure (h s.heap s.toks acc (by simpa using ha) hd (Heap.SameBut.refl _ _))
  | _ :: ps, (k, v) :: D, .cons c r, E, s, Q, acc, D₀, ha, hd, hn, hsz, h => by
    rw [List.forIn_cons]
    refine wpAny_bind (wpAny_bind (c.key _ _ _ _ fun t tk => wpAny_bind (wpAny_holding (c.val _ _ _ _ fun vv tk' hv => wpAny_bind (wpAny_holding ?_)))))
    obtain ⟨t', rfl⟩ := hv
    have hfresh : stored acc k (.str v t') = acc ++ [(k, .str v t')] := by
      unfold stored
      rw [if_neg]
      rw [List.any_eq_true]
      rintro ⟨kv, hkv, he⟩
      have e1 : k ∈ D₀.map (·.1) := by rw [← ha.keys]; exact List.mem_map.mpr ⟨kv, hkv, of_decide_eq_true he⟩
      rw [List.map_append, List.nodup_append] at hn
      exact hn.2.2 k e1 k (by simp) rfl
    refine wpAny_dictSet_pairs (hsz := by rw [ha.length]; simp only [List.length_append] at hsz; omega) (strKind_is prog w k t) hd fun h' hd' hs' => wpAny_pure ?_
    rw [hfresh] at hd'
    have e : D₀ ++ (k, v) :: D = (D₀ ++ [(k, v)]) ++ D := by simp
    refine storeTexts r E _ Q (acc ++ [(k, .str v t')]) (D₀ ++ [(k, v)]) (ha.append (.cons .nil)) hd' (e ▸ hn) (e ▸ hsz) fun h'' tk'' kvs ht hd'' hs'' => ?_
    exact h h'' tk'' kvs (e ▸ ht) hd'' (hs'.trans hs'')
theorem subDict_texts {ps : List (Sem Value × Sem Value)} {D : List (Str × Str)} (c : CPs prog w ps D) (hn : (D.map (·.1)).Nodup) (hsz : D.length ≤ sizeLine) {Q : Addr → Shared → Prop}
    (h : ∀ d h' tk kvs, TabS kvs D → h'.DictOf (strKind prog w) d kvs → Kept s.heap h' [] → s.heap.get? d = none → d = s.heap.objs.size → Q d { s with heap := h', toks := tk }) : wpAny (model prog w) A (subDict ps) Q E s := by
  by_cases hl : ps.length ≤ 15
  · refine wpAny_subDict (knd := strKind prog w) hl (evalPairs_texts c _ _ _ fun vs kvs tk ht hc => ⟨kvs, hc, Heap.DictOf.new _, fun h' hd hs => ?_⟩)
    rw [merged_nil_of_nodup kvs (by rw [ht.keys]; exact hn)] at hd
    exact h _ h' _ kvs ht hd (fun b o e _ => (hs.2 b (fun q => by subst q; exact absurd (Heap.lt_size e) (Nat.lt_irrefl _))).trans (Heap.get?_push_of_some _ e)) (get_fresh _) rfl
  · unfold subDict
    refine wpAny_bind (wpAny_alloc ?_)
    refine wpAny_bind (wpAny_holding ?_)
    rw [if_neg hl]
    refine wpAny_bind (wpAny_rule ?_)
    refine wpAny_bind (storeTexts c _ _ _ [] [] .nil (Heap.DictOf.new _) (by simpa using hn) (by simpa using hsz) fun h' tk kvs ht hd hs => ?_)
    exact wpAny_pure (wpAny_pure (h _ h' _ kvs (by simpa using ht) hd (fun b o e _ => (hs.2 b (fun q => by subst q; exact absurd (Heap.lt_size e) (Nat.lt_irrefl _))).trans (Heap.get?_push_of_some _ e)) (get_fresh _) rfl))
end
end Mine
end

section
open PySem PySem.W PySem.Calls PyProof.Rows
namespace Mine
section
variable {prog : Program} {w : World} {A : Around} {E : Value → Shared → Prop} {env : Env}
theorem list_iter {s : Shared} {D : Addr} {items : Array Value} {Q : Value → Shared → Prop} (hl : s.heap.IsList D items)
    (h : ∀ h' I, h'.IsListIter I D 0 → h'.IsList D items → Kept s.heap h' [] → s.heap.get? I = none → (∀ b o, s.heap.get? b = some o → b ≠ I) → I < h'.objs.size → s.heap.objs.size ≤ I → Q (.ref I) { s with heap := h' }) :
    wpAny (model prog w) A (pyIter (.ref D)) Q E s := by
  refine wpAny_pyIter_list hl ?_
  exact h _ _ ⟨_, Heap.get?_push_size _ rfl, rfl, rfl⟩ (hl.push _) (fun b o e _ => Heap.get?_push_of_some _ e) (get_fresh _) (fun b o e q => by subst q; exact absurd (Heap.lt_size e) (Nat.lt_irrefl _)) (by rw [Heap.size_push]; exact Nat.lt_succ_self _) (Nat.le_refl _)
theorem ListComp_list {s : Shared} {elt iter : Expr} {x : Str} {px : Pos} {ifs : List Expr} {scope : Scope} {cl : List (Str × Addr)} {pos : Pos} {Q : Value → Shared → Prop} (F : Nat → List Value → Prop) {vs : List Value}
    (hclos : closureFor scope env = pure cl) (hcell : ∀ y ∈ scope.names, y.2 ≠ .cell) (hkind : scope.kind = .function)
    (hnames : ∀ y ∈ scope.names, y.2 = .local → scope.names.lookup y.1 = some .local) (hx : scope.names.lookup x = some .local) (hh : A.handled = none) (hlen : vs.length ≤ 1000)
    (h : wpAny (model prog w) A (eval iter env) (fun xv s₁ => ∃ D, xv = .ref D ∧ s₁.heap.IsList D vs.toArray ∧ F 0 [] ∧
      (∀ C i v ys h tk m₂ E', s₁.heap.objs.size < C → vs[i]? = some v → F i ys → h.Ns C m₂ → m₂ x = some v → (∀ b o, s₁.heap.get? b = some o → h.get? b = some o) →
        wpAny (model prog w) A (testsOf ifs (compEnvC scope cl C env)) (fun ok s₃ => ∃ h₃ tk₃, s₃ = { s₁ with heap := h₃, toks := tk₃ } ∧ Kept h h₃ [] ∧
          if ok = true then wpAny (model prog w) A (eval elt (compEnvC scope cl C env)) (fun y s₄ => ∃ h₄ tk₄, s₄ = { s₁ with heap := h₄, toks := tk₄ } ∧ Kept h₃ h₄ [] ∧ F (i + 1) (ys ++ [y])) E' s₃
          else F (i + 1) ys) E' { s₁ with heap := h, toks := tk }) ∧
      (∀ R h' tk ys, s₁.heap.get? R = none → h'.PlainList R (List.toArray ys) → F vs.length ys → ys.length ≤ vs.length → Kept s₁.heap h' [] → Q (.ref R) { s₁ with heap := h', toks := tk })) E s)
    (hs : ∀ x, foldedSetIterable iter env x = pure x := by intro _; rfl) :
    wpAny (model prog w) A (eval (.ListComp elt [⟨.Name x px, iter, ifs, 0⟩] scope pos) env) Q E s := by
  refine ListComp_inv hclos hcell hkind hnames hx (wpAny_mono h (fun xv s₁ h₁ => ?_) fun _ _ e => e) hs
  obtain ⟨D, rfl, hl, h0, turn, fin⟩ := h₁
  refine list_iter hl fun h' I hI hD K fI nI sI gI => ?_
  have hDI : D ≠ I := by obtain ⟨o, e, _⟩ := hl; exact nI _ _ e
  have hI' : h'.IsListIter I D 0 := hI
  refine ⟨I, [I, D], [I], [], vs.toArray.size, _, _, fun i ys _ => F i ys, rfl, Walks.list hh I D hDI vs.toArray, ⟨hI', hD⟩, ?_, ?_⟩
  · refine ⟨?_, by simp, by simp, ?_, fun _ _ _ _ hj _ => hj, h0, ?_⟩
    · intro b hb
      simp only [List.mem_cons, List.not_mem_nil, or_false] at hb
      rcases hb with rfl | rfl
      · exact sI
      · obtain ⟨o, e, _⟩ := hD; exact Heap.lt_size e
    · rw [List.size_toArray, sizeLine_eq]; omega
    · intro C i v ys h tk m₂ E' hC hi hv hj hn hm hk
      have up : ∀ b o, s₁.heap.get? b = some o → h.get? b = some o := fun b o e => hk b o (K.up _ _ e) (by simpa using nI _ _ e)
      refine turn C i v ys h tk m₂ E' ?_ (by simpa using hv) hj hn hm up
      exact Nat.lt_of_le_of_lt gI (Nat.lt_of_lt_of_le sI hC)
  · intro R h'' tk ys hR hRs hpl hj hlen' hk
    have hR' : s₁.heap.get? R = none := by
      cases e : s₁.heap.get? R with
      | none => rfl
      | some o => rw [K.up _ _ e] at hR; cases hR
    refine fin R h'' tk ys hR' hpl (by simpa using hj) (by simpa using hlen') fun b o e _ => hk b o (K.up _ _ e) (by simpa using nI _ _ e)
end
end Mine
end

section
open PySem PySem.W PySem.Calls PyProof.Rows
namespace Mine
set_option maxHeartbeats 8000000 in
theorem shown_code {w : World} {loose : List Str} {mean : ExcName → Option Value} {mg mb : Str → Option Value} {h₀ : Heap} {A : Around} {s : Shared} {R : Result → Shared → Prop} {i : Int} {t : Tok}
    (B : Bs w loose mean mg mb h₀ s.heap) (h0 : 0 ≤ i) (h1 : i < 100) (hh : A.handled = none) (hd : A.depth < 800) (hu : A.units < 2000)
    (ret : ∀ h' tk' u, Kept s.heap h' [] → R (.ok (.ret (.str (Str.ofString "<" ++ Str.ofString (toString i) ++ Str.ofString ">") u))) { s with heap := h', toks := tk' }) :
    codeAny (model Challenge.rw_oj0014_01.prog w) A (.call (.ref 106) ⟨[.int i t], []⟩) R s := by
  obtain ⟨hnd, dp, fr, gd, un⟩ := A
  dsimp only at hh hd hu
  subst hh
  have KX := B.K
  revert KX; k_fill; intro KX
  refine enter_plain B [] (by simp) ?_ (by k_is) (by k_is) (BindsTo.of_eq (binds := [(Str.ofString "thing", .int i t)]) rfl) (locs rfl) ?_ rfl rfl rfl (by decide)
  · simp only [recursionLimit]; omega
  intro g L' h₁ F N X T hlt hk
  (try dsimp only)
  (try k_unmd); k_fold
  k_steps
  exact ret _ _ _ (fun b o e _ => F.keep b o (hk b o e (by simp)))
theorem shown_call {w : World} {loose : List Str} {mean : ExcName → Option Value} {mg mb : Str → Option Value} {g : Heap} {L : Addr} {m : Str → Option Value} {nw : List (Addr × Obj)} {A : Around} {s : Shared} {Q E : Value → Shared → Prop} {i : Int} {t : Tok}
    (F : Fr g L s.heap m) (N : News g L s.heap nw) (X : (hd.heap_39 w.params).In g) (T : Top hd.view_39 loose mean mg mb g) (h0 : 0 ≤ i) (h1 : i < 100) (hh : A.handled = none) (hd : A.depth < 800) (hu : A.units < 2000)
    (ret : ∀ h' tk' u, Fr g L h' m → News g L h' nw → Kept s.heap h' [] → Q (.str (Str.ofString "<" ++ Str.ofString (toString i) ++ Str.ofString ">") u) { s with heap := h', toks := tk' }) :
    wpAny (model Challenge.rw_oj0014_01.prog w) A (call (.ref 106) [.int i t]) Q E s := by
  refine wpAny_call (shown_code ⟨X, T, F.keep⟩ h0 h1 hh hd hu fun h' tk' u hk => ?_)
  exact ret h' tk' u (Mine.Fr.kept F hk (by simp) (by simp)) (Mine.News.kept N hk (by simp)) hk
end Mine
end

section
open PySem PySem.W PySem.Calls PyProof.Rows
namespace Mine
theorem off_msg : True := by
  w_top off
  exact True.intro
def dtext : Value → Str
  | .str x _ => x
  | .int i _ => Str.ofString "<" ++ Str.ofString (toString i) ++ Str.ofString ">"
  | _ => Str.empty
def mw (head : Str) (ts : List Str) : Str :=
  if head = Str.ofString "" then Txt.join (Str.ofString ", ") ts else if Txt.join (Str.ofString ", ") ts = Str.ofString "" then head else head ++ Str.ofString ": " ++ Txt.join (Str.ofString ", ") ts
theorem strs_snoc {vs : List Value} {ts : List Str} {x : Str} {t : Tok} (h : StrsAre vs ts) : StrsAre (vs ++ [.str x t]) (ts ++ [x]) := by
  induction h with
  | nil => exact .cons _ _ .nil
  | cons y t _ ih => exact .cons _ _ ih
theorem take_next {α β : Type} {f : α → β} {xs : List α} {i : Nat} {v : α} (h : xs[i]? = some v) : (xs.take (i + 1)).map f = (xs.take i).map f ++ [f v] := by
  rw [List.take_add_one, h]; simp
theorem strs_next {ys zs : List Value} {i : Nat} {v : Value} {u : Tok} (hz : StrsAre zs ((ys.take i).map dtext)) (hi : ys[i]? = some v) : StrsAre (zs ++ [.str (dtext v) u]) ((ys.take (i + 1)).map dtext) := by
  rw [take_next hi]; exact strs_snoc hz
theorem toString_len {j : Int} (h0 : 0 ≤ j) (h1 : j < 100) : (Str.ofString (toString j)).length ≤ 10 := by
  obtain ⟨n, rfl⟩ := Int.eq_ofNat_of_zero_le h0
  have hn : n < 100 := by omega
  have : ∀ n : Fin 100, (Str.ofString (toString (n.val : Int))).length ≤ 10 := by decide +kernel
  exact this ⟨n, hn⟩
theorem dtext_len {y : Value} (h : IsDatum y) : (dtext y).length ≤ 20 := by
  obtain ⟨x, t, rfl, hx⟩ | ⟨j, t, rfl, h0, h1⟩ := h
  · exact hx.1
  · have := toString_len h0 h1
    simp only [dtext, Str.length_append]
    have e1 : (Str.ofString "<").length = 1 := by decide +kernel
    have e2 : (Str.ofString ">").length = 1 := by decide +kernel
    omega
theorem weight_sum {ys : List Value} (hy : ∀ y ∈ ys, IsDatum y) : ((ys.map dtext).map (·.length)).sum ≤ 20 * ys.length := by
  induction ys with
  | nil => simp
  | cons y r ih =>
    have h1 := dtext_len (hy y (by simp))
    have h2 := ih fun z hz => hy z (by simp [hz])
    simp only [List.map_cons, List.sum_cons, List.length_cons] at h2 ⊢
    omega
theorem weight_data {ys : List Value} (hy : ∀ y ∈ ys, IsDatum y) (hl : ys.length ≤ 4) : ((ys.map dtext).map (·.length)).sum + (ys.map dtext).length ≤ 1048576 := by
  have := weight_sum hy
  simp only [List.length_map] at this ⊢
  omega
theorem sjoin_len (sep : Str) : ∀ ts : List Str, (Str.join sep ts).length ≤ (ts.map (·.length)).sum + ts.length * sep.length
  | [] => by rw [PyProof.Rows.join_nil]; simp; decide
  | [x] => by rw [join_one]; simp
  | x :: y :: r => by
    have ih := sjoin_len sep (y :: r)
    rw [join_cons_cons, Str.length_append, Str.length_append]
    simp only [List.map_cons, List.sum_cons, List.length_cons, Nat.add_mul] at ih ⊢
    omega
theorem join_len (sep : Str) (ts : List Str) : (Txt.join sep ts).length ≤ (ts.map (·.length)).sum + ts.length * sep.length := by
  have : Txt.join sep ts = Str.join sep ts := StrLaws.glued_eq_join sep ts
  rw [this]; exact sjoin_len sep ts
theorem join_data {ys : List Value} (hy : ∀ y ∈ ys, IsDatum y) (hl : ys.length ≤ 4) : (Txt.join (Str.ofString ", ") (ys.map dtext)).length ≤ 200 := by
  have h1 := join_len (Str.ofString ", ") (ys.map dtext)
  have h2 := weight_sum hy
  have h3 : (Str.ofString ", ").length = 2 := by decide +kernel
  rw [h3, List.length_map] at h1
  omega
section
local macro_rules | `(tactic| walk_at "eval Name") => `(tactic| (k_here; (with_reducible show wpAny _ _ (eval (Expr.Name _ _) (compEnvC _ _ _ _)) _ _ _); k_dflt (first
  | (refine' nameC_F ?i ?l ?_ ?a ?b ?c; (case b => with_unfolding_all rfl); (case a => with_unfolding_all rfl); (case c => decide); (case l => with_unfolding_all rfl); (case i => first | with_reducible assumption | (with_reducible show Heap.IsCell _ _ _; (with_reducible rename Heap.IsCell _ _ _ => ci9); exact ci9)))
  | (refine' nameC_L ?F ?v ?_ ?a ?b ?c; (case b => with_unfolding_all rfl); (case a => with_unfolding_all rfl); (case c => decide); (case F => assumption); (case v => assumption))
  | (refine' nameC_K ?F ?X ?T ?e ?_ ?g ?a ?b ?c; (case b => with_unfolding_all rfl); (case a => with_unfolding_all rfl); (case c => decide); (case g => with_unfolding_all rfl); (case F => assumption); (case X => assumption); (case T => exact topRead_of (by assumption)); (case e => k_is)))))
set_option maxHeartbeats 8000000 in
theorem with_code {w : World} {loose : List Str} {mean : ExcName → Option Value} {mg mb : Str → Option Value} {h₀ : Heap} {A : Around} {s : Shared} {R : Result → Shared → Prop} {D : Addr} {ys : List Value} {hd : Str} {t : Tok}
    (B : Bs w loose mean mg mb h₀ s.heap) (hD : s.heap.IsList D ys.toArray) (hy : ∀ y ∈ ys, IsDatum y) (hl : ys.length ≤ 4) (hhd : hd.length ≤ 200) (hh : A.handled = none) (hdp : A.depth < 700) (hu : A.units < 1900)
    (ret : ∀ h' tk' u, Kept s.heap h' [] → R (.ok (.ret (.str (mw hd (ys.map dtext)) u))) { s with heap := h', toks := tk' }) :
    codeAny (model Challenge.rw_oj0014_01.prog w) A (.call (.ref 80) ⟨[.str hd t, .ref D, .ref 106], []⟩) R s := by
  obtain ⟨hnd, dp, fr, gd, un⟩ := A
  dsimp only at hh hdp hu
  subst hh
  have KX := B.K
  revert KX; k_fill; intro KX
  refine enter_cellsH B [] (by simp) ?_ (by k_is) (by k_is) (BindsTo.of_eq (binds := [(Str.ofString "head", .str hd t), (Str.ofString "data", .ref D), (Str.ofString "shown", .ref 106)]) rfl) rfl (by decide +kernel) ?_ rfl rfl rfl
  · simp only [recursionLimit]; omega
  intro g L' h₁ tk cells F N Y X T kp lt hg hk
  k_cells Y
  (try dsimp only)
  repeat ((fail_if_success (with_reducible show wpAny _ _ (eval (Expr.ListComp _ _ _ _) _) _ _ _)); walk1)
  refine' ListComp_list (cl := [(Str.ofString "shown", L' + 1)]) (fun i zs => StrsAre zs ((ys.take i).map dtext)) (vs := ys) ?c1 ?c2 ?c3 ?c4 ?c5 ?c6 ?c7 ?_
  case c1 => with_unfolding_all rfl
  case c2 => decide
  case c3 => rfl
  case c4 => decide
  case c5 => rfl
  case c6 => rfl
  case c7 => omega
  walk1
  refine ⟨D, rfl, hD.at fun o e => kp D o e, StrsAre.nil, ?_, ?_⟩
  · intro C i v zs h tk₂ m₂ E' hC hi hz hn hm up
    refine tests_nil ⟨h, tk₂, rfl, Kept.of_up fun _ _ e => e, ?_⟩
    rw [if_pos rfl]
    have ext : ∀ b o, g.get? b = some o → h.get? b = some o := fun b o e => up b o (F.keep b o e)
    have Fc : Fr g C h m₂ := ⟨hn, ext, Nat.le_trans F.above (Nat.le_trans (Nat.le_of_lt F.ns.lt) (Nat.le_of_lt hC))⟩
    have Nc : News g C h [] := News.nil
    have cI : h.IsCell (L' + 1) (some (.ref 106)) := ⟨_, up _ _ (N _ (.head _)).1, by assumption⟩
    have hv : IsDatum v := hy v (List.mem_of_getElem? hi)
    obtain ⟨x, tx, rfl, hx⟩ | ⟨j, tx, rfl, hj0, hj1⟩ := hv
    · repeat walk1
      · exact Kept.of_up fun _ _ e => e
      · exact strs_next hz hi
    · repeat ((fail_if_success (with_reducible show wpAny _ _ (call (Value.ref 106) _) _ _ _)); walk1)
      refine shown_call (by assumption) (by assumption) (by assumption) (by assumption) hj0 hj1 rfl ?_ ?_ fun h' tk' u F' N' K' => ?_
      · refine lt_of_depth ?_
        dsimp only [Around.deeper]
        omega
      · refine lt_of_depth ?_
        dsimp only [Around.deeper]
        omega
      repeat walk1
      · exact K'
      · exact strs_next hz hi
  · intro V h' tk₃ zs hV hpl hz hzl K'
    have F' := Mine.Fr.kept F K' (by simp) (by simp)
    have N' := Mine.News.kept N K' (by simp)
    rw [List.take_length] at hz
    have hw := weight_data hy hl
    clear F N
    repeat ((fail_if_success (with_reducible show wpAny _ _ (call (Value.builtin "str.join") _) _ _ _)); walk1)
    refine join_listW hpl.isList (by simpa using hz) (by decide) hw fun t' k => ?_
    have hjl := join_data hy hl
    k_steps
    all_goals (dsimp only; (with_reducible rename Fr _ _ _ _ => F2))
    all_goals (rename (hd == _) = _ => q1)
    all_goals (have K2 := fun b o (e : s.heap.get? b = some o) (_ : b ∉ ([] : List Addr)) => F2.keep b o (hk b o e (by simp)))
    · have e : mw hd (ys.map dtext) = Txt.join (Str.ofString ", ") (ys.map dtext) := if_pos (by simpa using q1)
      rw [← e]; exact ret _ _ _ K2
    · rename (Txt.join _ _ == _) = _ => q2
      have e : mw hd (ys.map dtext) = hd := (if_neg (by simpa using q1)).trans (if_pos (by simpa using q2))
      have := ret _ (tk + 1) t K2
      rw [e] at this; exact this
    · rename (Txt.join _ _ == _) = _ => q2
      have e : mw hd (ys.map dtext) = hd ++ Str.ofString ": " ++ Txt.join (Str.ofString ", ") (ys.map dtext) := (if_neg (by simpa using q1)).trans (if_neg (by simpa using q2))
      rw [← e]; exact ret _ _ _ K2
end
theorem with_call {w : World} {loose : List Str} {mean : ExcName → Option Value} {mg mb : Str → Option Value} {g : Heap} {L : Addr} {m : Str → Option Value} {nw : List (Addr × Obj)} {A : Around} {s : Shared} {Q E : Value → Shared → Prop} {D : Addr} {ys : List Value} {hs : Str} {t : Tok}
    (F : Fr g L s.heap m) (N : News g L s.heap nw) (X : (hd.heap_39 w.params).In g) (T : Top hd.view_39 loose mean mg mb g) (hD : s.heap.IsList D ys.toArray) (hy : ∀ y ∈ ys, IsDatum y) (hl : ys.length ≤ 4) (hhd : hs.length ≤ 200) (hh : A.handled = none) (hdp : A.depth < 700) (hu : A.units < 1900)
    (ret : ∀ h' tk' u, Fr g L h' m → News g L h' nw → Kept s.heap h' [] → Q (.str (mw hs (ys.map dtext)) u) { s with heap := h', toks := tk' }) :
    wpAny (model Challenge.rw_oj0014_01.prog w) A (call (.ref 80) [.str hs t, .ref D, .ref 106]) Q E s := by
  refine wpAny_call (with_code ⟨X, T, F.keep⟩ hD hy hl hhd hh hdp hu fun h' tk' u hk => ?_)
  exact ret h' tk' u (Mine.Fr.kept F hk (by simp) (by simp)) (Mine.News.kept N hk (by simp)) hk
end Mine
end

section
open PySem PySem.W PySem.Calls PyProof.Rows
namespace Mine
theorem off_dis : True := by
  w_top off
  exact True.intro
def cstr (e : Expr) : Option Str :=
  match e with
  | .Constant c _ _ => match c with
    | .str v => some v
    | _ => none
  | _ => none
theorem cstr_inv {e : Expr} {v : Str} (h : cstr e = some v) : ∃ j q, e = .Constant (.str v) j q := by
  cases e with
  | Constant c j q =>
    cases c with
    | str x => cases h; exact ⟨_, _, rfl⟩
    | _ => cases h
  | _ => cases h
def kstr (e : Option Expr) : Option Str := e.bind cstr
def tabOf : List (Option Expr) → List Expr → Option (List (Str × Str))
  | [], [] => some []
  | k :: ks, v :: vs => (kstr k).bind fun x => (cstr v).bind fun y => (tabOf ks vs).map ((x, y) :: ·)
  | _, _ => none
section
variable {prog : Program} {w : World} {A : Around} {E : Value → Shared → Prop} {s : Shared} {env : Env}
theorem cps_of {pos : Pos} : ∀ (ks : List (Option Expr)) (vs : List Expr) (D : List (Str × Str)), tabOf ks vs = some D → CPs prog w (pairTrees ks vs env pos) D
  | [], [], D, h => by cases h; exact .nil
  | [], _ :: _, D, h => by cases h
  | _ :: _, [], D, h => by cases h
  | ok :: ks, ov :: vs, D, h => by
    simp only [tabOf, Option.bind_eq_some_iff, Option.map_eq_some_iff] at h
    obtain ⟨x, hx, y, hy, D', h', rfl⟩ := h
    obtain ⟨e, rfl, hx⟩ := Option.bind_eq_some_iff.mp hx
    obtain ⟨i, p, rfl⟩ := cstr_inv hx
    obtain ⟨j, q, rfl⟩ := cstr_inv hy
    refine .cons ⟨fun A E s Q hq => ?_, fun A E s Q hq => ?_⟩ (cps_of ks vs D' h')
    · exact wpAny_Constant_str (k := i) (pos := p) (env := env) (hq _ _)
    · exact wpAny_bind (wpAny_Constant_str (wpAny_bind (wpAny_standAt (wpAny_pure (hq _ _ ⟨_, rfl⟩)))))
theorem CPs.take {ps : List (Sem Value × Sem Value)} {D : List (Str × Str)} (h : CPs prog w ps D) : ∀ n, CPs prog w (ps.take n) (D.take n) := by
  induction h with
  | nil => intro n; simp; exact .nil
  | cons a _ ih => intro n; cases n with
    | zero => exact .nil
    | succ n => exact .cons a (ih n)
theorem CPs.drop {ps : List (Sem Value × Sem Value)} {D : List (Str × Str)} (h : CPs prog w ps D) : ∀ n, CPs prog w (ps.drop n) (D.drop n) := by
  induction h with
  | nil => intro n; simp; exact .nil
  | cons a r ih => intro n; cases n with
    | zero => exact .cons a r
    | succ n => exact ih n
theorem gather (f : (Option (Sem Value) × Sem Value) → (Option Addr × List (Sem Value × Sem Value)) → Sem (ForInStep (Option Addr × List (Sem Value × Sem Value)))) (m : Option Addr)
    (hf : ∀ (p : Sem Value × Sem Value) (run : List (Sem Value × Sem Value)), run.length + 1 < 17 → f (some p.1, p.2) (m, run) = pure (.yield (m, run ++ [p]))) :
    ∀ (items run : List (Sem Value × Sem Value)) (rest : List (Option (Sem Value) × Sem Value)), run.length + items.length < 17 →
      forIn ((items.map fun p => (some p.1, p.2)) ++ rest) (m, run) f = forIn rest (m, run ++ items) f
  | [], run, rest, _ => by simp
  | p :: r, run, rest, h => by
    have h1 : run.length + 1 < 17 := by simp at h; omega
    rw [List.map_cons, List.cons_append, List.forIn_cons, hf p run h1, pure_bind]
    have := gather f m hf r (run ++ [p]) rest (by simp at h ⊢; omega)
    simpa using this
theorem TabS.split : ∀ {D₁ D₂ : List (Str × Str)} {l : List (Str × Value)}, TabS l (D₁ ++ D₂) → True := fun _ => trivial
theorem dictDisplay_long {p1 p2 : List (Sem Value × Sem Value)} {q : Sem Value × Sem Value} {D1 D2 : List (Str × Str)} {Q : Value → Shared → Prop} (h1 : p1.length = 16) (h0 : p2 ≠ []) (h2 : p2.length < 17)
    (c1 : CPs prog w (p1 ++ [q]) D1) (c2 : CPs prog w p2 D2) (hn : ((D1 ++ D2).map (·.1)).Nodup) (hlow : ∀ a, s.heap.objs.size ≤ a → (a == sysModules) = false)
    (h : ∀ d h' tk kvs, TabS kvs (D1 ++ D2) → h'.DictOf (strKind prog w) d kvs → Kept s.heap h' [] → s.heap.get? d = none → s.heap.objs.size ≤ d → Q (.ref d) { s with heap := h', toks := tk }) :
    wpAny (model prog w) A (dictDisplay ((p1.map fun p => (some p.1, p.2)) ++ (some q.1, q.2) :: ((p2.map fun p => (some p.1, p.2)) ++ []))) Q E s := by
  have l1 := c1.length
  have l2 := c2.length
  rw [List.length_append, List.length_singleton, h1] at l1
  have hn' := hn
  rw [List.map_append, List.nodup_append] at hn'
  unfold dictDisplay
  dsimp only
  rw [gather _ none (fun p run h => by
    have hne : ((run ++ [(p.1, p.2)]).length == 17) = false := by simp; omega
    simp only [hne, Bool.false_eq_true, if_false]) p1 [] _ (by rw [h1]; decide)]
  rw [List.forIn_cons, List.nil_append]
  have he : ((p1 ++ [(q.1, q.2)]).length == 17) = true := by simp [h1]
  have hne : (p1 ++ [(q.1, q.2)]).isEmpty = false := by simp
  simp only [he, hne, if_true, Bool.false_eq_true, if_false]
  refine wpAny_bind (wpAny_bind (wpAny_bind (wpAny_bind (subDict_texts c1 hn'.1 (by rw [← l1, sizeLine_eq]; omega) fun d h₁ tk₁ kvs₁ ht₁ hd₁ hk₁ hn₁ hs₁ => wpAny_pure (wpAny_pure ?_)))))
  dsimp only
  rw [gather _ (some d) (fun p run h => by
    have hne : ((run ++ [(p.1, p.2)]).length == 17) = false := by simp; omega
    simp only [hne, Bool.false_eq_true, if_false]) p2 [] _ (by rw [List.length_nil]; omega)]
  rw [List.forIn_nil, List.nil_append]
  refine wpAny_pure ?_
  have he2 : p2.isEmpty = false := by cases p2 with | nil => exact absurd rfl h0 | cons _ _ => rfl
  simp only [he2, Bool.false_eq_true, if_false]
  subst hs₁
  refine wpAny_bind (wpAny_bind (wpAny_holding (subDict_texts c2 hn'.2.1 (by rw [← l2, sizeLine_eq]; omega) fun d₂ h₂ tk₂ kvs₂ ht₂ hd₂ hk₂ hn₂ hs₂ => wpAny_bind (wpAny_onRaise (wpAny_holding ?_)))))
  have eD : ∃ o, h₁.get? s.heap.objs.size = some o := by obtain ⟨o, es, ep, e, _⟩ := hd₁; exact ⟨o, e⟩
  obtain ⟨oD, eD⟩ := eD
  have hlt := Heap.lt_size eD
  have hne₂ : s.heap.objs.size ≠ d₂ := by rintro rfl; rw [hn₂] at eD; cases eD
  have hdd : h₂.DictOf (strKind prog w) s.heap.objs.size kvs₁ := by obtain ⟨o, es, ep, e, r⟩ := hd₁; exact ⟨o, es, ep, hk₂.up _ _ e, r⟩
  have hl₁ := ht₁.length
  have hl₂ := ht₂.length
  refine mergeMapping_pairs hne₂ (by subst hs₂; exact hlow _ (Nat.le_of_lt hlt)) hdd (by rintro rfl; rw [List.length_nil] at hl₁; omega) hd₂ (fun h' hd' hs' => wpAny_pure (wpAny_pure ?_)) (by rw [sizeLine_eq]; omega)
  have ht : TabS (kvs₁ ++ kvs₂) (D1 ++ D2) := ht₁.append ht₂
  rw [merged_append_of_fresh kvs₁ kvs₂ (by rw [ht.keys]; exact hn)] at hd'
  exact h _ h' _ _ ht hd' (fun b o e _ => (hs'.2 b (Nat.ne_of_lt (Heap.lt_size e))).trans (hk₂.up _ _ (hk₁.up _ _ e))) hn₁ (Nat.le_refl _)
theorem tabOf_all : ∀ (ks : List (Option Expr)) (vs : List Expr) (D : List (Str × Str)), tabOf ks vs = some D → ks.all (·.isSome) = true ∧ ks.length = vs.length ∧ ks.length = D.length
  | [], [], D, h => by cases h; exact ⟨rfl, rfl, rfl⟩
  | [], _ :: _, D, h => by cases h
  | _ :: _, [], D, h => by cases h
  | ok :: ks, ov :: vs, D, h => by
    simp only [tabOf, Option.bind_eq_some_iff, Option.map_eq_some_iff] at h
    obtain ⟨x, hx, y, hy, D', h', rfl⟩ := h
    obtain ⟨e, rfl, hx⟩ := Option.bind_eq_some_iff.mp hx
    have ih := tabOf_all ks vs D' h'
    refine ⟨?_, ?_, ?_⟩
    · simpa using ih.1
    · simp [ih.2.1]
    · simp [ih.2.2]
theorem split17 {α : Type} (l : List α) (h : 16 < l.length) : l = l.take 16 ++ l[16] :: l.drop 17 := by
  have e : l.drop 16 = l[16] :: l.drop 17 := List.drop_eq_getElem_cons h
  rw [← e, List.take_append_drop]
theorem Dict_long {keys : List (Option Expr)} {values : List Expr} {pos : Pos} {Q : Value → Shared → Prop} (D : List (Str × Str)) (hD : tabOf keys values = some D) (h1 : 17 < D.length) (h2 : D.length < 34)
    (hn : (D.map (·.1)).Nodup) (hlow : ∀ a, s.heap.objs.size ≤ a → (a == sysModules) = false)
    (h : ∀ d h' tk kvs, TabS kvs D → h'.DictOf (strKind prog w) d kvs → Kept s.heap h' [] → s.heap.get? d = none → s.heap.objs.size ≤ d → Q (.ref d) { s with heap := h', toks := tk }) :
    wpAny (model prog w) A (eval (.Dict keys values pos) env) Q E s := by
  obtain ⟨a1, a2, a3⟩ := tabOf_all keys values D hD
  rw [arm_eval_Dict, zip_pairTrees keys values env pos a1 a2]
  refine wpAny_bind (wpAny_standAt ?_)
  have hl := pairTrees_length keys values env pos a1 a2
  have c := cps_of (prog := prog) (w := w) (env := env) (pos := pos) keys values D hD
  generalize pairTrees keys values env pos = ps at hl c ⊢
  have hps : 17 < ps.length := by omega
  have e := split17 ps (by omega)
  have eD : D.take 17 ++ D.drop 17 = D := List.take_append_drop 17 D
  have e17 : ps.take 16 ++ [(ps[16].1, ps[16].2)] = ps.take 17 := by
    rw [List.take_add_one (i := 16), List.getElem?_eq_getElem (by omega)]; rfl
  have key : (ps.map fun p => (some p.1, p.2)) = ((ps.take 16).map fun p => (some p.1, p.2)) ++ (some ps[16].1, ps[16].2) :: (((ps.drop 17).map fun p => (some p.1, p.2)) ++ []) := by
    have e2 := congrArg (List.map fun p : Sem Value × Sem Value => (some p.1, p.2)) e
    rw [List.map_append, List.map_cons] at e2
    rw [List.append_nil]; exact e2
  rw [key]
  refine dictDisplay_long (q := ps[16]) (D1 := D.take 17) (D2 := D.drop 17) (by rw [List.length_take]; omega) ?_ (by rw [List.length_drop]; omega) ?_ (c.drop 17) (by rw [eD]; exact hn) hlow (by rw [eD]; exact h)
  · intro q; have := congrArg List.length q; rw [List.length_drop, List.length_nil] at this; omega
  · have := c.take 17; rw [← e17] at this; exact this
end
end Mine
end

section
open PySem PySem.W PySem.Calls PyProof.Rows
namespace Mine
theorem off_mes : True := by
  w_top off
  exact True.intro
/-- the table of messages -/
def msgTable : List (Str × Str) := [
  (Str.ofString "error", Str.ofString "error"),
  (Str.ofString "quit", Str.ofString "Quit"),
  (Str.ofString "user-error", Str.ofString ""),
  (Str.ofString "wrong-type-argument", Str.ofString "Wrong type argument"),
  (Str.ofString "args-out-of-range", Str.ofString "Args out of range"),
  (Str.ofString "void-function", Str.ofString "Symbol's function definition is void"),
  (Str.ofString "void-variable", Str.ofString "Symbol's value as variable is void"),
  (Str.ofString "cyclic-function-indirection", Str.ofString "Symbol's chain of function indirections contains a loop"),
  (Str.ofString "cyclic-variable-indirection", Str.ofString "Symbol's chain of variable indirections contains a loop"),
  (Str.ofString "circular-list", Str.ofString "List contains a loop"),
  (Str.ofString "setting-constant", Str.ofString "Attempt to set a constant symbol"),
  (Str.ofString "invalid-read-syntax", Str.ofString "Invalid read syntax"),
  (Str.ofString "invalid-function", Str.ofString "Invalid function"),
  (Str.ofString "wrong-number-of-arguments", Str.ofString "Wrong number of arguments"),
  (Str.ofString "end-of-file", Str.ofString "End of file during parsing"),
  (Str.ofString "arith-error", Str.ofString "Arithmetic error"),
  (Str.ofString "beginning-of-buffer", Str.ofString "Beginning of buffer"),
  (Str.ofString "end-of-buffer", Str.ofString "End of buffer"),
  (Str.ofString "buffer-read-only", Str.ofString "Buffer is read-only"),
  (Str.ofString "text-read-only", Str.ofString "Text is read-only"),
  (Str.ofString "mark-inactive", Str.ofString "The mark is not active now"),
  (Str.ofString "search-failed", Str.ofString "Search failed"),
  (Str.ofString "invalid-regexp", Str.ofString "Invalid regexp"),
  (Str.ofString "scan-error", Str.ofString "Scan error"),
  (Str.ofString "file-error", Str.ofString "File error"),
  (Str.ofString "file-already-exists", Str.ofString "File already exists"),
  (Str.ofString "file-missing", Str.ofString "File is missing"),
  (Str.ofString "file-locked", Str.ofString "File is locked"),
  (Str.ofString "no-catch", Str.ofString "No catch for tag"),
  (Str.ofString "overflow-error", Str.ofString "Arithmetic overflow error"),
  (Str.ofString "minibuffer-quit", Str.ofString "Quit")]
theorem msg_nodup : (msgTable.map (·.1)).Nodup := by decide +kernel
theorem msg_len : msgTable.length = 31 := rfl
set_option maxHeartbeats 8000000 in
theorem messages_code {w : World} {loose : List Str} {mean : ExcName → Option Value} {mg mb : Str → Option Value} {h₀ : Heap} {A : Around} {s : Shared} {R : Result → Shared → Prop}
    (B : Bs w loose mean mg mb h₀ s.heap) (hh : A.handled = none) (hd : A.depth < 800) (hu : A.units < 2000)
    (ret : ∀ d h' tk' kvs, TabS kvs msgTable → h'.DictOf (strKind Challenge.rw_oj0014_01.prog w) d kvs → Kept s.heap h' [] → s.heap.get? d = none → (d == sysModules) = false → R (.ok (.ret (.ref d))) { s with heap := h', toks := tk' }) :
    codeAny (model Challenge.rw_oj0014_01.prog w) A (.call (.ref 75) ⟨[], []⟩) R s := by
  obtain ⟨hnd, dp, fr, gd, un⟩ := A
  dsimp only at hh hd hu
  subst hh
  have KX := B.K
  revert KX; k_fill; intro KX
  refine enter_plainH B [] (by simp) ?_ (by k_is) (by k_is) (BindsTo.of_eq (binds := []) rfl) (locs rfl) ?_ rfl rfl rfl (by decide)
  · simp only [recursionLimit]; omega
  intro g L' h₁ F N X T kp lt hg hk
  (try dsimp only)
  iterate 3 walk1
  have low : ∀ a, h₁.objs.size ≤ a → (a == sysModules) = false := fun a ha => by
    have := modules_low T.nolimit
    exact beq_eq_false_iff_ne.mpr (Nat.ne_of_gt (Nat.lt_of_lt_of_le this (Nat.le_trans (Nat.le_trans F.above (Nat.le_of_lt F.ns.lt)) ha)))
  with_reducible refine Dict_long msgTable ?q1 ?q2 ?q3 ?q4 ?_ ?_
  case q1 => rfl
  case q2 => rw [msg_len]; decide
  case q3 => rw [msg_len]; decide
  case q4 => exact msg_nodup
  · exact low
  · intro d h' tk' kvs ht hd' hk' hn hs
    refine ret d h' tk' kvs ht hd' (fun b o e n => hk' b o (kp b o e) n) ?_ (low _ hs)
    cases e : s.heap.get? d with
    | none => rfl
    | some o => rw [kp _ _ e] at hn; cases hn
theorem messages_call {w : World} {loose : List Str} {mean : ExcName → Option Value} {mg mb : Str → Option Value} {g : Heap} {L : Addr} {m : Str → Option Value} {nw : List (Addr × Obj)} {A : Around} {s : Shared} {Q E : Value → Shared → Prop}
    (F : Fr g L s.heap m) (N : News g L s.heap nw) (X : (hd.heap_39 w.params).In g) (T : Top hd.view_39 loose mean mg mb g) (hh : A.handled = none) (hd : A.depth < 800) (hu : A.units < 2000)
    (ret : ∀ d h' tk' kvs, TabS kvs msgTable → h'.DictOf (strKind Challenge.rw_oj0014_01.prog w) d kvs → Fr g L h' m → News g L h' nw → Kept s.heap h' [] → s.heap.get? d = none → (d == sysModules) = false → Q (.ref d) { s with heap := h', toks := tk' }) :
    wpAny (model Challenge.rw_oj0014_01.prog w) A (call (.ref 75) []) Q E s := by
  refine wpAny_call (messages_code ⟨X, T, F.keep⟩ hh hd hu fun d h' tk' kvs ht hd' hk hn lo => ?_)
  exact ret d h' tk' kvs ht hd' (Mine.Fr.kept F hk (by simp) (by simp)) (Mine.News.kept N hk (by simp)) hk hn lo
end Mine
end

section
open PySem PySem.W PySem.Calls PyProof.Rows
namespace Mine
section
variable {prog : Program} {w : World} {A : Around} {E : Value → Shared → Prop} {s : Shared} {d : Addr} {kvs : List (Str × Value)}
theorem dict_getM {pl : Sem Bool} {Q : Value × List Value → Shared → Prop} (hd : s.heap.DictOf (strKind prog w) d kvs) (h : Q (.builtin "dict.get", [.ref d]) s) : wpAny (model prog w) A (getMethod (.ref d) "get" pl) Q E s :=
  getMethod_builtin hd.typeIs PySem.F.plainAttrs_dict PySem.F.slot_dict_get PySem.F.type_dict_get hd.mapOf.noDict h
theorem dict_get2 {x : Str} {t : Tok} {dflt : Value} {Q : Value → Shared → Prop} (hd : s.heap.DictOf (strKind prog w) d kvs) (lo : (d == sysModules) = false) (h : Q ((valueAt kvs x).getD dflt) { s with toks := s.toks + 1 }) :
    wpAny (model prog w) A (call (.builtin "dict.get") [.ref d, .str x t, dflt]) Q E s :=
  call_meetsIn PySem.F.slot_dict_get hd.typeIs PySem.F.entry_dict_get (PySem.F.args_dict_get_3 _ _ _) (meets_dict_get_default (strKind prog w) d (strKind_is prog w x t) lo dflt) ⟨_, hd.mapOf, h⟩
theorem dict_item {value slice : Expr} {x : Str} {t : Tok} {v : Value} {Q : Value → Shared → Prop} (hd : s.heap.DictOf (strKind prog w) d kvs) (hv : valueAt kvs x = some v) (h : Q v { s with toks := s.toks + 1 })
    (hs : subscripted slice false (.ref d) (.str x t) = operate [.ref d, .str x t] (getItem (.ref d) (.str x t)) := by with_unfolding_all rfl) (hg : ∀ r, letTemporaryGo value (.ref d) r = pure () := by intro _; with_unfolding_all rfl) :
    wpAny (model prog w) A (subscriptTail value slice (.ref d) (.str x t)) Q E s :=
  subscriptTail_builtin hd.typeIs slot_dict_getitem.lookup (wpAny_getItem_of (strKind_is prog w x t) hd.mapOf hv h) hs hg
theorem dict_item_t {value slice : Expr} {x : Str} {t : Tok} {v : Value} {Q : Value → Shared → Prop} (hd : s.heap.DictOf (strKind prog w) d kvs) (hv : valueAt kvs x = some v) (h : Q v { s with toks := s.toks + 1 })
    (hs : subscripted slice false (.ref d) (.str x t) = operate [.ref d, .str x t] (getItem (.ref d) (.str x t)) := by with_unfolding_all rfl) :
    wpAny (model prog w) A (subscriptTail value slice (.ref d) (.str x t)) Q E s :=
  tail_any hd.typeIs slot_dict_getitem.lookup (wpAny_getItem_of (strKind_is prog w x t) hd.mapOf hv h) hs
theorem dict_notin {x : Str} {t : Tok} {Q : Value → Shared → Prop} (hd : s.heap.DictOf (strKind prog w) d kvs) (lo : (d == sysModules) = false) (h : Q (.bool (!(valueAt kvs x).isSome)) { s with toks := s.toks + 1 }) :
    wpAny (model prog w) A (compareOp .NotIn (.str x t) (.ref d)) Q E s := wpAny_notIn_of (strKind_is prog w x t) lo hd.mapOf h
end
/-- a table of texts, looked up -/
def look (D : List (Str × Str)) (x : Str) : Option Str := (D.find? fun p => p.1 = x).map (·.2)
theorem TabS.value {kvs : List (Str × Value)} {D : List (Str × Str)} (h : TabS kvs D) (x : Str) : (∃ y t, look D x = some y ∧ valueAt kvs x = some (.str y t)) ∨ (look D x = none ∧ valueAt kvs x = none) := by
  induction h with
  | nil => exact .inr ⟨rfl, rfl⟩
  | cons h ih =>
    rename_i k v t l D
    unfold look valueAt at ih ⊢
    by_cases hk : k = x
    · subst hk; exact .inl ⟨v, t, by simp, by simp⟩
    · simp only [List.find?_cons, hk, decide_false]; exact ih
theorem TabS.getD {kvs : List (Str × Value)} {D : List (Str × Str)} (h : TabS kvs D) (x y : Str) (u : Tok) : ∃ t, (valueAt kvs x).getD (.str y u) = .str ((look D x).getD y) t := by
  obtain ⟨y', t, e1, e2⟩ | ⟨e1, e2⟩ := h.value x
  · rw [e1, e2]; exact ⟨t, rfl⟩
  · rw [e1, e2]; exact ⟨u, rfl⟩
/-- the head of a condition's message -/
def headOf (nm : Str) : Str := (look msgTable nm).getD (Str.ofString "peculiar error")
def msgOf (nm : Str) (ys : List Value) : Str :=
  if nm = Str.ofString "error" ∨ nm = Str.ofString "user-error" then
    match ys with
    | .str x _ :: r => mw x (r.map dtext)
    | _ => mw (headOf nm) (ys.map dtext)
  else mw (headOf nm) (ys.map dtext)
theorem headOf_len {nm : Str} (h : nm ∈ eightNames) : (headOf nm).length ≤ 200 := by
  have : ∀ n ∈ eightNames, (headOf n).length ≤ 200 := by decide +kernel
  exact this nm h
theorem pick_from1 (v : Value) (r : List Value) : slicePick (v :: r).toArray (some 1) none none = r.toArray := by
  have e := kmk_pick_nat (lo := some 1) (hi := none) (v :: r).toArray (a := 1) (b := (v :: r).length) (by
    simp only [sliceBounds, Option.getD_none, List.size_toArray, List.length_cons]
    simp
    omega)
  rw [e]
  simp
/-- a statement apart from what follows -/
theorem execs_split {M : Model} {A : Around} {E : Value → Shared → Prop} {s : Shared} {env : Env} {st : Stmt} {rest : List Stmt} {Q : Flow → Shared → Prop} (P : Shared → Prop)
    (h1 : wpAny M A (exec st env) (fun f s' => (f = .next ∧ P s') ∨ (f ≠ .next ∧ Q f s')) E s) (h2 : ∀ s', P s' → wpAny M A (execs rest env) Q E s') : wpAny M A (execs (st :: rest) env) Q E s := by
  refine wpAny_execs_cons (wpAny_mono h1 (fun f s' h => ?_) fun _ _ e => e)
  rcases h with ⟨rfl, h⟩ | ⟨hn, h⟩
  · exact h2 s' h
  · cases f <;> first | exact absurd rfl hn | exact h
/-- a test apart from its two blocks -/
theorem If_split {M : Model} {A : Around} {E : Value → Shared → Prop} {s : Shared} {env : Env} {test : Expr} {body orelse : List Stmt} {pos : Pos} {Q : Flow → Shared → Prop} (C : Bool → Shared → Prop)
    (h1 : wpAny M A (isTrue test env (eval test env)) C E s) (h2 : ∀ s', C true s' → wpAny M A (execs body env) Q E s') (h3 : ∀ s', C false s' → wpAny M A (execs orelse env) Q E s') :
    wpAny M A (exec (.If test body orelse pos) env) Q E s := by
  refine wpAny_If (wpAny_mono h1 (fun c s' h => ?_) fun _ _ e => e)
  cases c with
  | true => exact h2 s' h
  | false => exact h3 s' h
end Mine
end

section
open PySem PySem.W PySem.Calls PyProof.Rows
namespace Mine
theorem off_mof : True := by
  w_top off
  exact True.intro
theorem any_two {a b nm : Str} : ([a, b].any fun x => x == nm) = true ↔ nm = a ∨ nm = b := by
  simp only [List.any_cons, List.any_nil, Bool.or_false, Bool.or_eq_true, beq_iff_eq]
  constructor
  · rintro (h | h)
    · exact .inl h.symm
    · exact .inr h.symm
  · rintro (h | h)
    · exact .inl h.symm
    · exact .inr h.symm
section
local macro_rules | `(tactic| walk_at "call builtin:len") => `(tactic| (k_here; (with_reducible show wpAny _ _ (call (Value.builtin "len") [Value.ref _]) _ _ _); k_dflt (refine' len_list ?k1 ?k2 ?_; (case k1 => is_list); (case k2 => ((simp only [List.size_toArray, List.length_cons, List.length_nil] at *); omega)))))
local macro_rules | `(tactic| walk_at "subscriptTail") => `(tactic| (k_here; (with_reducible show wpAny _ _ (subscriptTail _ _ (Value.ref _) (Value.int _ _)) _ _ _); k_dflt (refine' item_listL ?k1 ?k2 ?k3 ?k4 ?_; (case k1 => is_list); (case k2 => decide); (case k3 => decide); (case k4 => rfl))))
set_option maxHeartbeats 8000000 in
theorem of_code {w : World} {loose : List Str} {mean : ExcName → Option Value} {mg mb : Str → Option Value} {h₀ : Heap} {A : Around} {s : Shared} {R : Result → Shared → Prop} {D : Addr} {ys : List Value} {nm : Str} {t : Tok}
    (B : Bs w loose mean mg mb h₀ s.heap) (hD : s.heap.IsList D ys.toArray) (hy : ∀ y ∈ ys, IsDatum y) (hl : ys.length ≤ 4) (hnm : nm ∈ eightNames) (hh : A.handled = none) (hdp : A.depth < 690) (hu : A.units < 1800)
    (ret : ∀ h' tk' u, Kept s.heap h' [] → R (.ok (.ret (.str (msgOf nm ys) u))) { s with heap := h', toks := tk' }) :
    codeAny (model Challenge.rw_oj0014_01.prog w) A (.call (.ref 87) ⟨[.str nm t, .ref D, .ref 106], []⟩) R s := by
  obtain ⟨hnd, dp, fr, gd, un⟩ := A
  dsimp only at hh hdp hu
  subst hh
  have KX := B.K
  revert KX; k_fill; intro KX
  refine enter_plainH B [] (by simp) ?_ (by k_is) (by k_is) (BindsTo.of_eq (binds := [(Str.ofString "name", .str nm t), (Str.ofString "data", .ref D), (Str.ofString "shown", .ref 106)]) rfl) (locs rfl) ?_ rfl rfl rfl (by decide)
  · simp only [recursionLimit]; omega
  intro g L' h₁ F N X T kp lt hg hk
  (try dsimp only)
  have hD' : g.IsList D ys.toArray := hD.at fun o e => hk D o e (by simp)
  refine execs_split (fun s' => ∃ h₂ tk₂, s' = { s with heap := h₂, toks := tk₂ } ∧ Fr g L' h₂ (fun y => [(Str.ofString "name", Value.str nm t), (Str.ofString "data", .ref D), (Str.ofString "shown", .ref 106)].reverse.lookup y) ∧ msgOf nm ys = mw (headOf nm) (ys.map dtext)) ?_ ?_
  · rcases ys with _ | ⟨v, r⟩
    · have e2 : msgOf nm [] = mw (headOf nm) (([] : List Value).map dtext) := by unfold msgOf; split <;> rfl
      k_steps
      all_goals (dsimp only; (with_reducible rename Fr _ _ _ _ => F2); exact .inl ⟨rfl, _, _, rfl, F2, e2⟩)
    · obtain ⟨x, tx, rfl, hx, hok⟩ | ⟨j, tx, rfl, hj0, hj1⟩ := hy v (by simp)
      · k_steps
        · rename ([_, _].any _) = true => c
          have e2 : msgOf nm (Value.str x tx :: r) = mw x (r.map dtext) := by
            unfold msgOf; rw [if_pos (any_two.mp c)]
          (with_reducible rename Fr _ _ _ _ => F2)
          (with_reducible rename News _ _ _ _ => N2)
          have o2 := (N2 _ (.head _)).1
          rw [pick_from1] at o2
          refine with_call F2 N2 X T ⟨_, o2, rfl, _, rfl⟩ (fun y hy' => hy y (by simp [hy'])) (by simp only [List.length_cons] at hl; omega) (by omega) rfl ?_ ?_ fun h' tk' u F3 N3 K3 => ?_
          · refine lt_of_depth ?_; dsimp only [Around.deeper]; omega
          · refine lt_of_depth ?_; dsimp only [Around.deeper]; omega
          · rw [← e2]
            exact .inr ⟨(fun q => by cases q), ret _ _ _ fun b o e n => F3.keep b o (hk b o e n)⟩
        · rename ¬ _ => c
          exfalso; apply c
          simp only [List.size_toArray, List.length_cons]; omega
        · rename ([_, _].any _) = false => c
          have e2 : msgOf nm (Value.str x tx :: r) = mw (headOf nm) ((Value.str x tx :: r).map dtext) := by
            unfold msgOf; rw [if_neg fun q => by rw [any_two.mpr q] at c; cases c]
          (with_reducible rename Fr _ _ _ _ => F2)
          exact .inl ⟨rfl, _, _, rfl, F2, e2⟩
      · have e2 : msgOf nm (Value.int j tx :: r) = mw (headOf nm) ((Value.int j tx :: r).map dtext) := by unfold msgOf; split <;> rfl
        k_steps
        all_goals (dsimp only; (with_reducible rename Fr _ _ _ _ => F2); exact .inl ⟨rfl, _, _, rfl, F2, e2⟩)
  · rintro s' ⟨h₂, tk₂, rfl, F2, e2⟩
    have N2 : News g L' h₂ [] := News.nil
    clear F N
    repeat ((fail_if_success (with_reducible show wpAny _ _ (call (Value.ref 75) _) _ _ _)); walk1)
    refine messages_call (by assumption) (by assumption) X T rfl ?_ ?_ fun d h' tk' kvs ht hd' F' N' K' hn lo => ?_
    · refine lt_of_depth ?_; dsimp only [Around.deeper]; omega
    · refine lt_of_depth ?_; dsimp only [Around.deeper]; omega
    refine dict_getM hd' ?_
    repeat ((fail_if_success (with_reducible show wpAny _ _ (call (Value.builtin "dict.get") _) _ _ _)); walk1)
    refine dict_get2 hd' lo ?_
    obtain ⟨tv, ev⟩ := ht.getD nm (Str.ofString "peculiar error") _
    rw [ev]
    have hhd := headOf_len hnm
    have hD2 : h'.IsList D ys.toArray := Fr.lst F' hD'
    repeat ((fail_if_success (with_reducible show wpAny _ _ (call (Value.ref 80) _) _ _ _)); walk1)
    refine with_call F' N' X T hD2 hy hl hhd rfl ?_ ?_ fun h' tk' u F3 N3 K3 => ?_
    · refine lt_of_depth ?_; dsimp only [Around.deeper]; omega
    · refine lt_of_depth ?_; dsimp only [Around.deeper]; omega
    have := ret h' tk' u fun b o e n => F3.keep b o (hk b o e n)
    rw [e2] at this
    exact this
theorem of_call {w : World} {loose : List Str} {mean : ExcName → Option Value} {mg mb : Str → Option Value} {g : Heap} {L : Addr} {m : Str → Option Value} {nw : List (Addr × Obj)} {A : Around} {s : Shared} {Q E : Value → Shared → Prop} {D : Addr} {ys : List Value} {nm : Str} {t : Tok}
    (F : Fr g L s.heap m) (N : News g L s.heap nw) (X : (hd.heap_39 w.params).In g) (T : Top hd.view_39 loose mean mg mb g) (hD : s.heap.IsList D ys.toArray) (hy : ∀ y ∈ ys, IsDatum y) (hl : ys.length ≤ 4) (hnm : nm ∈ eightNames) (hh : A.handled = none) (hdp : A.depth < 690) (hu : A.units < 1800)
    (ret : ∀ h' tk' u, Fr g L h' m → News g L h' nw → Kept s.heap h' [] → Q (.str (msgOf nm ys) u) { s with heap := h', toks := tk' }) :
    wpAny (model Challenge.rw_oj0014_01.prog w) A (call (.ref 87) [.str nm t, .ref D, .ref 106]) Q E s := by
  refine wpAny_call (of_code ⟨X, T, F.keep⟩ hD hy hl hnm hh hdp hu fun h' tk' u hk => ?_)
  exact ret h' tk' u (Mine.Fr.kept F hk (by simp) (by simp)) (Mine.News.kept N hk (by simp)) hk
end
end Mine
end

section
open PySem PySem.W PySem.Calls PyProof.Rows
namespace Mine
section
variable {prog : Program} {w : World} {A : Around} {E : Value → Shared → Prop} {env : Env}
/-- a comprehension that a local name takes at once -/
theorem Assign_ListComp_inv {s : Shared} {elt iter : Expr} {x y : Str} {px py : Pos} {ifs : List Expr} {scope : Scope} {cl : List (Str × Addr)} {pos spos : Pos} {Q : Flow → Shared → Prop}
    (hsw : swapsWith (.ListComp elt [⟨.Name x px, iter, ifs, 0⟩] scope pos) (some (.Name y py)) spos.line env = pure true)
    (hclos : closureFor scope env = pure cl) (hcell : ∀ y ∈ scope.names, y.2 ≠ .cell) (hkind : scope.kind = .function)
    (hnames : ∀ y ∈ scope.names, y.2 = .local → scope.names.lookup y.1 = some .local) (hx : scope.names.lookup x = some .local)
    (hy : env.kindOf y = some .local) (hp : (env.scope.kind == .class || (env.scope.kind == .module && env.locals != env.globals)) = false)
    (h : wpAny (model prog w) A (eval iter env) (fun xv s₁ => wpAny (model prog w) A (pyIter xv) (fun it s₂ => ∃ I fp wr wrE n P St J m, it = .ref I ∧ Walks prog w A I fp wr n P St ∧ St 0 s₂.heap ∧
      Turns prog w A env scope cl x ifs elt fp wr wrE n P J s₂ ∧ s₂.heap.Ns env.locals m ∧ env.locals ∉ wr ∧ env.locals ∉ wrE ∧
      (∀ D h' tk ys, s₂.heap.get? D = none → s₂.heap.objs.size ≤ D → h'.PlainList D (List.toArray ys) → ys.length ≤ n → h'.Ns env.locals (fun z => if z = y then some (.ref D) else m z) →
        (∃ h₁, J n ys h₁) → Kept s₂.heap h' (env.locals :: (wr ++ wrE)) → Q .next { s₂ with heap := h', toks := tk })) E s₁) E s)
    (hs : ∀ x, foldedSetIterable iter env x = pure x := by intro _; rfl) :
    wpAny (model prog w) A (exec (.Assign [.Name y py] (.ListComp elt [⟨.Name x px, iter, ifs, 0⟩] scope pos) spos) env) Q E s := by
  rw [exec_Assign_Name_used _ _ _ _ hsw]
  refine wpAny_bind (wpAny_standAt (wpAny_bind ?_))
  show wpAny _ A (do let _ ← comprehension (.ListComp elt [⟨.Name x px, iter, ifs, 0⟩] scope pos) scope env _ (newList []) false (eval iter env) (some (assign (.Name y py) env))) _ _ s
  refine wpAny_bind (wpAny_mono (wpAny_comprehension_free (use := some (assign (.Name y py) env)) (Q := fun _ s' => Q .next s') rfl hs hclos hkind hnames
    (wpAny_mono h (fun xv s₁ h₁ => wpAny_mono h₁ (fun it s₂ h₂ => ?_) fun _ _ e => e) fun _ _ e => e)) (fun _ s' hq => wpAny_pure (wpAny_pure hq)) fun _ _ e => e)
  obtain ⟨I, fp, wr, wrE, n, P, St, J, m, rfl, W, hst, hq, hm, hLw, hLE, hQ⟩ := h₂
  refine block_inv (RR := fun acc C => compPost (model prog w) A E (some (assign (.Name y py) env)) (fun _ s' => Q .next s') acc C) W hcell hkind hx hst hq ?_
  intro D C h' tk m' ys hD hC hDs hCs hDC hn hpl hj hlen hk
  have hLo : ∃ o, s₂.heap.get? env.locals = some o := by obtain ⟨o, _, _, e, _⟩ := hm; exact ⟨o, e⟩
  obtain ⟨oL, eL⟩ := hLo
  have hLC : env.locals ≠ C := by intro q; rw [q, hC] at eL; cases eL
  have hLD : env.locals ≠ D := by intro q; rw [q, hD] at eL; cases eL
  have hm' : h'.Ns env.locals m := hm.at' fun o e => hk _ o e (by simp [hLw, hLE])
  show wpAny _ A (assign (.Name y py) env (.ref D)) _ _ _
  refine wpAny_assign_Name (wpAny_storeName_local hy hm' (fun h₂ hn₂ hs₂ => ?_) hp)
  refine ⟨m', hn.sameBut hs₂ (Ne.symm hLC), fun h'' hs'' => hQ D h'' (tk + 1) ys hD hDs ?_ hlen (hn₂.sameBut hs'' hLC) ⟨h', hj⟩ ?_⟩
  · exact hpl.at fun o e => hs''.extBut D o hDC (hs₂.extBut D o (Ne.symm hLD) e)
  · intro b o e n
    simp only [List.mem_cons, not_or] at n
    exact hs''.extBut b o (by rintro rfl; rw [hC] at e; cases e) (hs₂.extBut b o n.1 (hk b o e n.2))
theorem Assign_ListComp_list {s : Shared} {elt iter : Expr} {x y : Str} {px py : Pos} {ifs : List Expr} {scope : Scope} {cl : List (Str × Addr)} {pos spos : Pos} {Q : Flow → Shared → Prop} (F : Nat → List Value → Prop) {vs : List Value} {m : Str → Option Value}
    (hsw : swapsWith (.ListComp elt [⟨.Name x px, iter, ifs, 0⟩] scope pos) (some (.Name y py)) spos.line env = pure true)
    (hclos : closureFor scope env = pure cl) (hcell : ∀ y ∈ scope.names, y.2 ≠ .cell) (hkind : scope.kind = .function)
    (hnames : ∀ y ∈ scope.names, y.2 = .local → scope.names.lookup y.1 = some .local) (hx : scope.names.lookup x = some .local)
    (hy : env.kindOf y = some .local) (hp : (env.scope.kind == .class || (env.scope.kind == .module && env.locals != env.globals)) = false) (hh : A.handled = none) (hlen : vs.length ≤ 1000)
    (h : wpAny (model prog w) A (eval iter env) (fun xv s₁ => ∃ D, xv = .ref D ∧ s₁.heap.IsList D vs.toArray ∧ F 0 [] ∧ s₁.heap.Ns env.locals m ∧
      (∀ C i v ys h tk m₂ E', s₁.heap.objs.size < C → vs[i]? = some v → F i ys → h.Ns C m₂ → m₂ x = some v → (∀ b o, s₁.heap.get? b = some o → h.get? b = some o) →
        wpAny (model prog w) A (testsOf ifs (compEnvC scope cl C env)) (fun ok s₃ => ∃ h₃ tk₃, s₃ = { s₁ with heap := h₃, toks := tk₃ } ∧ Kept h h₃ [] ∧
          if ok = true then wpAny (model prog w) A (eval elt (compEnvC scope cl C env)) (fun y s₄ => ∃ h₄ tk₄, s₄ = { s₁ with heap := h₄, toks := tk₄ } ∧ Kept h₃ h₄ [] ∧ F (i + 1) (ys ++ [y])) E' s₃
          else F (i + 1) ys) E' { s₁ with heap := h, toks := tk }) ∧
      (∀ R h' tk ys, s₁.heap.get? R = none → h'.PlainList R (List.toArray ys) → F vs.length ys → ys.length ≤ vs.length → h'.Ns env.locals (fun z => if z = y then some (.ref R) else m z) → Kept s₁.heap h' [env.locals] → Q .next { s₁ with heap := h', toks := tk })) E s)
    (hs : ∀ x, foldedSetIterable iter env x = pure x := by intro _; rfl) :
    wpAny (model prog w) A (exec (.Assign [.Name y py] (.ListComp elt [⟨.Name x px, iter, ifs, 0⟩] scope pos) spos) env) Q E s := by
  refine Assign_ListComp_inv hsw hclos hcell hkind hnames hx hy hp (wpAny_mono h (fun xv s₁ h₁ => ?_) fun _ _ e => e) hs
  obtain ⟨D, rfl, hl, h0, hm, turn, fin⟩ := h₁
  refine list_iter hl fun h' I hI hD K fI nI sI gI => ?_
  have hDI : D ≠ I := by obtain ⟨o, e, _⟩ := hl; exact nI _ _ e
  have hI' : h'.IsListIter I D 0 := hI
  have hm' : h'.Ns env.locals m := hm.at' fun o e => K.up _ _ e
  have hLI : env.locals ≠ I := by obtain ⟨o, _, _, e, _⟩ := hm; exact nI _ _ e
  refine ⟨I, [I, D], [I], [], vs.toArray.size, _, _, fun i ys _ => F i ys, m, rfl, Walks.list hh I D hDI vs.toArray, ⟨hI', hD⟩, ?_, hm', by simpa using hLI, by simp, ?_⟩
  · refine ⟨?_, by simp, by simp, ?_, fun _ _ _ _ hj _ => hj, h0, ?_⟩
    · intro b hb
      simp only [List.mem_cons, List.not_mem_nil, or_false] at hb
      rcases hb with rfl | rfl
      · exact sI
      · obtain ⟨o, e, _⟩ := hD; exact Heap.lt_size e
    · rw [List.size_toArray, sizeLine_eq]; omega
    · intro C i v ys h tk m₂ E' hC hi hv hj hn hm hk
      have up : ∀ b o, s₁.heap.get? b = some o → h.get? b = some o := fun b o e => hk b o (K.up _ _ e) (by simpa using nI _ _ e)
      refine turn C i v ys h tk m₂ E' ?_ (by simpa using hv) hj hn hm up
      exact Nat.lt_of_le_of_lt gI (Nat.lt_of_lt_of_le sI hC)
  · intro R h'' tk ys hR hRs hpl hlen' hns hj hk
    obtain ⟨_, hj⟩ := hj
    have hR' : s₁.heap.get? R = none := by
      cases e : s₁.heap.get? R with
      | none => rfl
      | some o => rw [K.up _ _ e] at hR; cases hR
    refine fin R h'' tk ys hR' hpl (by simpa using hj) (by simpa using hlen') hns fun b o e n => hk b o (K.up _ _ e) ?_
    simp only [List.mem_singleton, List.mem_cons, List.append_nil, List.not_mem_nil, or_false, not_or] at n ⊢
    exact ⟨n, nI _ _ e⟩
end
end Mine
end

section
open PySem PySem.W PySem.Calls PyProof.Rows PySem.Spec
namespace Mine
def pyd : Value → PyData
  | .str x _ => .str x
  | .int i _ => .int i
  | _ => .none
theorem datum_carried {v : Value} (h : IsDatum v) : Carried v (pyd v) := by
  obtain ⟨x, t, rfl, _⟩ | ⟨i, t, rfl, _⟩ := h
  · exact .str x t
  · exact .int i t
theorem data_carried : ∀ {ys : List Value}, (∀ y ∈ ys, IsDatum y) → CarriedAll ys (ys.map pyd)
  | [], _ => .nil
  | y :: r, h => .cons (datum_carried (h y (by simp))) (data_carried fun z hz => h z (by simp [hz]))
theorem datum_lay {v : Value} (h : IsDatum v) : (pyd v).canLay0 = true ∧ (pyd v).depth = 0 ∧ PyData.eqv (pyd v) (pyd v) = true := by
  obtain ⟨x, t, rfl, _, hx⟩ | ⟨i, t, rfl, _⟩ := h
  · exact ⟨by simpa [pyd, PyData.canLay0] using hx, by simp [pyd, PyData.depth], by simp [pyd, PyData.eqv]⟩
  · exact ⟨by simp [pyd, PyData.canLay0], by simp [pyd, PyData.depth], by simp [pyd, PyData.eqv]⟩
theorem data_lay : ∀ {ys : List Value}, (∀ y ∈ ys, IsDatum y) → PyData.canLayAll0 (ys.map pyd) = true ∧ PyData.depthAll (ys.map pyd) = 0 ∧ PyData.eqvAll (ys.map pyd) (ys.map pyd) = true
  | [], _ => ⟨by simp [PyData.canLayAll0], by simp [PyData.depthAll], by simp [PyData.eqvAll]⟩
  | y :: r, h => by
    have a := datum_lay (h y (by simp))
    have b := data_lay (ys := r) fun z hz => h z (by simp [hz])
    refine ⟨?_, ?_, ?_⟩
    · simp [PyData.canLayAll0, a.1, b.1]
    · simp [PyData.depthAll, a.2.1, b.2.1]
    · simp [PyData.eqvAll, a.2.2, b.2.2]
theorem data_shaped {ys : List Value} (h : ∀ y ∈ ys, IsDatum y) : SeqAt.shaped (.list (ys.map pyd)) = true := by
  have a := data_lay h
  simp [SeqAt.shaped, PyData.canLay0, PyData.depth, a.1, a.2.1]
section
variable {prog : Program} {w : World} {A : Around} {E : Value → Shared → Prop} {s : Shared} {Q : Value → Shared → Prop}
/-- data against an empty list -/
theorem ne_empty {D l : Addr} {ys : List Value} (hD : s.heap.IsList D ys.toArray) (hl : s.heap.IsList l (#[] : Array Value)) (hy : ∀ y ∈ ys, IsDatum y) (hu : A.units + 64 < cLine) (h : Q (.bool (decide (ys ≠ []))) s) :
    wpAny (model prog w) A (compareOp .NotEq (.ref D) (.ref l)) Q E s := by
  refine ne_dataH (reads_newData hD (data_carried hy)) (reads_newData (ys := []) hl .nil) (data_shaped hy) (by decide) hu ?_
  have e : (!PyData.eqv (.list (ys.map pyd)) (.list [])) = decide (ys ≠ []) := by
    cases ys with
    | nil => simp [PyData.eqv, PyData.eqvAll]
    | cons v r => simp [PyData.eqv, PyData.eqvAll]
  rw [e]; exact h
end
end Mine
end

section
open PySem PySem.W PySem.Calls PyProof.Rows
namespace Mine
theorem off_lm : True := by
  w_top off
  exact True.intro
theorem mw_both {hs : Str} {ts : List Str} (h1 : hs ≠ Str.ofString "") (h2 : Txt.join (Str.ofString ", ") ts ≠ Str.ofString "") : mw hs ts = hs ++ Str.ofString ": " ++ Txt.join (Str.ofString ", ") ts := by
  unfold mw; rw [if_neg h1, if_neg h2]
theorem str_nil_app (x : Str) : Str.ofString "" ++ x = x := by
  have : Str.ofString "" = Str.empty := by decide +kernel
  rw [this, Str.empty_append]
theorem str_app_nil (x : Str) : x ++ Str.ofString "" = x := by
  have : Str.ofString "" = Str.empty := by decide +kernel
  rw [this, Str.append_empty]
theorem mw_head {hs : Str} {ts : List Str} (h1 : hs ≠ Str.ofString "") (h2 : Txt.join (Str.ofString ", ") ts = Str.ofString "") : mw hs ts = hs ++ Str.ofString "" ++ Txt.join (Str.ofString ", ") ts := by
  unfold mw; rw [if_neg h1, if_pos h2, h2, str_app_nil, str_app_nil]
theorem mw_tail {hs : Str} {ts : List Str} (h1 : hs = Str.ofString "") : mw hs ts = hs ++ Str.ofString "" ++ Txt.join (Str.ofString ", ") ts := by
  unfold mw; rw [if_pos h1, h1, str_nil_app, str_nil_app]
def mapHW (hs : Str) (th : Tok) (V : Addr) (m : Str → Option Value) : Str → Option Value := fun y => if y = Str.ofString "head" then some (.str hs th) else if y = Str.ofString "words" then some (.ref V) else m y
theorem fr_congr {g h : Heap} {L : Addr} {m m' : Str → Option Value} (F : Fr g L h m) (e : ∀ y, m y = m' y) : Fr g L h m' := by
  have : m = m' := funext e
  rw [← this]; exact F
theorem hw_map1 {hs : Str} {th : Tok} {V W : Addr} {m : Str → Option Value} (y : Str) : (if y = Str.ofString "head" then some (Value.str hs th) else if y = Str.ofString "words" then some (.ref V) else if y = Str.ofString "words" then some (.ref W) else m y) = mapHW hs th V m y := by
  unfold mapHW
  by_cases h1 : y = Str.ofString "head"
  · simp [h1]
  · by_cases h2 : y = Str.ofString "words"
    · simp [h2]
    · simp [h1, h2]
theorem hw_map2 {hs : Str} {th : Tok} {v : Value} {V : Addr} {m : Str → Option Value} (y : Str) : (if y = Str.ofString "head" then some (Value.str hs th) else if y = Str.ofString "head" then some v else if y = Str.ofString "words" then some (.ref V) else m y) = mapHW hs th V m y := by
  unfold mapHW
  by_cases h1 : y = Str.ofString "head"
  · simp [h1]
  · simp [h1]
theorem strs_cons {zs : List Value} {x : Str} {ts : List Str} (h : StrsAre zs (x :: ts)) : ∃ t zr, zs = .str x t :: zr ∧ StrsAre zr ts := by
  cases h with
  | cons y t r => exact ⟨t, _, rfl, r⟩
theorem datum_str_len {x : Str} {t : Tok} (h : IsDatum (.str x t)) : x.length ≤ 200 := by
  obtain ⟨x', t', e, hx, _⟩ | ⟨j, t', e, _⟩ := h
  · cases e; omega
  · cases e
set_option maxHeartbeats 2000000 in
theorem get4 {nm : Str} {v : Value} {t1 t2 t3 t4 t5 t6 t7 t8 : Tok} (h : nm ∈ eightNames)
    (hv : PyProof.V.Flat v ((Spec.lookup (PyData.str nm) (strData [(.str (Str.ofString "user-error") t1, .str (Str.ofString "") t2), (.str (Str.ofString "error") t3, .str (Str.ofString "error") t4), (.str (Str.ofString "quit") t5, .str (Str.ofString "Quit") t6), (.str (Str.ofString "no-such") t7, .str (Str.ofString "peculiar error") t8)])).getD .none)) :
    (∃ t, v = .str (headOf nm) t) ∨ (v = .none ∧ look msgTable nm = some (headOf nm)) := by
  simp only [eightNames, List.mem_cons, List.not_mem_nil, or_false] at h
  rcases h with rfl | rfl | rfl | rfl | rfl | rfl | rfl | rfl
  · have hv2 : PyProof.V.Flat v (.str (Str.ofString "error")) := hv
    have e : headOf (Str.ofString "error") = Str.ofString "error" := by decide +kernel
    obtain ⟨t, rfl⟩ := PyProof.V.Flat.str_inv hv2
    rw [e]
    exact .inl ⟨t, rfl⟩
  · have hv2 : PyProof.V.Flat v (.str (Str.ofString "")) := hv
    have e : headOf (Str.ofString "user-error") = Str.ofString "" := by decide +kernel
    obtain ⟨t, rfl⟩ := PyProof.V.Flat.str_inv hv2
    rw [e]
    exact .inl ⟨t, rfl⟩
  · have hv2 : PyProof.V.Flat v (.str (Str.ofString "Quit")) := hv
    have e : headOf (Str.ofString "quit") = Str.ofString "Quit" := by decide +kernel
    obtain ⟨t, rfl⟩ := PyProof.V.Flat.str_inv hv2
    rw [e]
    exact .inl ⟨t, rfl⟩
  · have hv2 : PyProof.V.Flat v .none := hv
    exact .inr ⟨PyProof.V.Flat.none_inv hv2, by decide +kernel⟩
  · have hv2 : PyProof.V.Flat v .none := hv
    exact .inr ⟨PyProof.V.Flat.none_inv hv2, by decide +kernel⟩
  · have hv2 : PyProof.V.Flat v .none := hv
    exact .inr ⟨PyProof.V.Flat.none_inv hv2, by decide +kernel⟩
  · have hv2 : PyProof.V.Flat v (.str (Str.ofString "peculiar error")) := hv
    have e : headOf (Str.ofString "no-such") = Str.ofString "peculiar error" := by decide +kernel
    obtain ⟨t, rfl⟩ := PyProof.V.Flat.str_inv hv2
    rw [e]
    exact .inl ⟨t, rfl⟩
  · have hv2 : PyProof.V.Flat v .none := hv
    exact .inr ⟨PyProof.V.Flat.none_inv hv2, by decide +kernel⟩
section
local macro_rules | `(tactic| walk_at "subscriptTail") => `(tactic| (k_here; (with_reducible show wpAny _ _ (subscriptTail _ _ (Value.ref _) (Value.int _ _)) _ _ _); k_dflt (refine' item_listL ?k1 ?k2 ?k3 ?k4 ?_; (case k1 => is_list); (case k2 => decide); (case k3 => decide); (case k4 => rfl))))
local macro_rules | `(tactic| walk_at "eval Name") => `(tactic| (k_here; (with_reducible show wpAny _ _ (eval (Expr.Name _ _) (compEnvC _ _ _ _)) _ _ _); k_dflt (first
  | (refine' nameC_L ?F ?v ?_ ?a ?b ?c; (case b => with_unfolding_all rfl); (case a => with_unfolding_all rfl); (case c => decide); (case F => assumption); (case v => assumption))
  | (refine' nameC_K ?F ?X ?T ?e ?_ ?g ?a ?b ?c; (case b => with_unfolding_all rfl); (case a => with_unfolding_all rfl); (case c => decide); (case g => with_unfolding_all rfl); (case F => assumption); (case X => assumption); (case T => exact topRead_of (by assumption)); (case e => k_is)))))
local macro_rules | `(tactic| walk_at "exec Assign cons ListComp") => `(tactic| (k_here; (with_reducible show wpAny _ _ (exec (Stmt.Assign [Expr.Name _ _] (Expr.ListComp _ _ _ _) _) _) _ _ _); k_dflt (refine wpAny_Assign_Name ?_)))
set_option maxHeartbeats 8000000 in
theorem lawm_code {w : World} {loose : List Str} {mean : ExcName → Option Value} {mg mb : Str → Option Value} {h₀ : Heap} {A : Around} {s : Shared} {R : Result → Shared → Prop} {D : Addr} {ys : List Value} {nm : Str} {t : Tok}
    (B : Bs w loose mean mg mb h₀ s.heap) (hD : s.heap.IsList D ys.toArray) (hy : ∀ y ∈ ys, IsDatum y) (hl : ys.length ≤ 4) (hnm : nm ∈ eightNames) (hh : A.handled = none) (hdp : A.depth < 690) (hu : A.units < 1800)
    (ret : ∀ h' tk' u, Kept s.heap h' [] → R (.ok (.ret (.str (msgOf nm ys) u))) { s with heap := h', toks := tk' }) :
    codeAny (model Challenge.rw_oj0014_01.prog w) A (.call (.ref 121) ⟨[.str nm t, .ref D], []⟩) R s := by
  obtain ⟨hnd, dp, fr, gd, un⟩ := A
  dsimp only at hh hdp hu
  subst hh
  have KX := B.K
  revert KX; k_fill; intro KX
  refine enter_plainH B [] (by simp) ?_ (by k_is) (by k_is) (BindsTo.of_eq (binds := [(Str.ofString "name", .str nm t), (Str.ofString "data", .ref D)]) rfl) (locs rfl) ?_ rfl rfl rfl (by decide)
  · simp only [recursionLimit]; omega
  intro g L' h₁ F N X T kp lt hg hk
  (try dsimp only)
  have hD' : g.IsList D ys.toArray := hD.at fun o e => hk D o e (by simp)
  refine wpAny_execs_cons ?_
  refine' Assign_ListComp_list (cl := []) (m := fun y => [(Str.ofString "name", Value.str nm t), (Str.ofString "data", .ref D)].reverse.lookup y) (fun i zs => StrsAre zs ((ys.take i).map dtext)) (vs := ys) ?c0 ?c1 ?c2 ?c3 ?c4 ?c5 ?c8 ?c9 ?c6 ?c7 ?_
  case c0 => with_unfolding_all rfl
  case c1 => with_unfolding_all rfl
  case c2 => decide
  case c3 => rfl
  case c4 => decide
  case c5 => rfl
  case c6 => rfl
  case c7 => omega
  case c8 => rfl
  case c9 => rfl
  walk1
  refine ⟨D, rfl, hD.at fun o e => kp D o e, StrsAre.nil, F.ns, ?_, ?_⟩
  · intro C i v zs h tk₂ m₂ E' hC hi hz hn hm up
    refine tests_nil ⟨h, tk₂, rfl, Kept.of_up fun _ _ e => e, ?_⟩
    rw [if_pos rfl]
    have ext : ∀ b o, g.get? b = some o → h.get? b = some o := fun b o e => up b o (F.keep b o e)
    have Fc : Fr g C h m₂ := ⟨hn, ext, Nat.le_trans F.above (Nat.le_trans (Nat.le_of_lt F.ns.lt) (Nat.le_of_lt hC))⟩
    have Nc : News g C h [] := News.nil
    have hv : IsDatum v := hy v (List.mem_of_getElem? hi)
    obtain ⟨x, tx, rfl, hx, hok⟩ | ⟨j, tx, rfl, hj0, hj1⟩ := hv
    · repeat walk1
      · exact Kept.of_up fun _ _ e => e
      · exact strs_next hz hi
    · repeat ((fail_if_success (with_reducible show wpAny _ _ (call (Value.ref 106) _) _ _ _)); walk1)
      refine shown_call (by assumption) (by assumption) (by assumption) (by assumption) hj0 hj1 rfl ?_ ?_ fun h' tk' u F' N' K' => ?_
      · refine lt_of_depth ?_; dsimp only [Around.deeper]; omega
      · refine lt_of_depth ?_; dsimp only [Around.deeper]; omega
      repeat walk1
      · exact K'
      · exact strs_next hz hi
  · intro V h' tk₃ zs hV hpl hz hzl hns K'
    have F' : Fr g L' h' _ := ⟨hns, fun b o e => K' b o (F.keep b o e) (by
      intro q; simp only [List.mem_singleton] at q; subst q
      exact absurd (Heap.lt_size e) (Nat.not_lt.mpr F.above)), F.above⟩
    rw [List.take_length] at hz
    obtain ⟨nV, hpl⟩ := hpl
    have NV : News g L' h' [(V, W.listOf zs.toArray nV)] := by
      intro q hq
      rw [List.mem_singleton] at hq; subst hq
      refine ⟨hpl, ?_, ?_⟩
      · intro q; subst q
        obtain ⟨o, _, _, e, _⟩ := F.ns
        exact absurd (e.symm.trans hV) (by simp)
      · cases e : g.get? V with
        | none => rfl
        | some o => rw [F.keep _ _ e] at hV; cases hV
    clear F N
    dsimp only
    refine execs_split (fun s' => ∃ h₂ tk₂ V' n' zs' ts hs th, s' = { s with heap := h₂, toks := tk₂ } ∧ Fr g L' h₂ (mapHW hs th V' (fun z => [(Str.ofString "name", Value.str nm t), (Str.ofString "data", .ref D)].reverse.lookup z)) ∧
      News g L' h₂ [(V', W.listOf (List.toArray zs') n')] ∧ StrsAre zs' ts ∧ msgOf nm ys = mw hs ts ∧ hs.length ≤ 200 ∧ ((ts.map (·.length)).sum + ts.length ≤ 1048576) ∧ (Txt.join (Str.ofString ", ") ts).length ≤ 200) ?_ ?_
    · refine If_split (fun c s' => ∃ h₂ tk₂, s' = { s with heap := h₂, toks := tk₂ } ∧ Fr g L' h₂ (fun z => if z = Str.ofString "words" then some (.ref V) else [(Str.ofString "name", Value.str nm t), (Str.ofString "data", .ref D)].reverse.lookup z) ∧
        News g L' h₂ [(V, W.listOf zs.toArray nV)] ∧ (c = true → (nm = Str.ofString "error" ∨ nm = Str.ofString "user-error") ∧ ∃ x tx r, ys = .str x tx :: r) ∧ (c = false → msgOf nm ys = mw (headOf nm) (ys.map dtext))) ?_ ?_ ?_
      · iterate 13 walk1
        · iterate 6 walk1
          (with_reducible rename Fr _ _ _ _ => F4)
          (with_reducible rename News _ _ _ _ => N4)
          rename ([_, _].any _) = true => c
          have c2 := any_two.mp c
          refine ne_empty (Fr.lst F4 hD') (News.isList N4 (.head _)) hy ?_ ?_
          · refine lt_of_depth ?_; (try dsimp only [Around.deeper]); rw [cLine_is]; omega
          have N5 : News g L' _ [(V, W.listOf zs.toArray nV)] := fun q hq => N4 q (.tail _ (.tail _ hq))
          rcases ys with _ | ⟨v, r⟩
          · rw [show decide (([] : List Value) ≠ []) = false from rfl]
            repeat walk1
            · exact F4
            · exact ⟨N5, (fun q => by cases q), fun _ => by unfold msgOf; split <;> rfl⟩
          · rw [show decide ((v :: r) ≠ []) = true from by simp]
            obtain ⟨x, tx, rfl, hx, hok⟩ | ⟨j, tx, rfl, hj0, hj1⟩ := hy v (by simp)
            · repeat walk1
              · exact F4
              · exact ⟨N5, fun _ => ⟨c2, x, tx, r, rfl⟩, fun q => by cases q⟩
            · repeat walk1
              · exact F4
              · exact ⟨N5, (fun q => by cases q), fun _ => by unfold msgOf; split <;> rfl⟩
        · dsimp only
          (with_reducible rename Fr _ _ _ _ => F4)
          (with_reducible rename News _ _ _ _ => N4)
          rename ([_, _].any _) = false => c
          refine ⟨_, _, rfl, F4, ?_, (fun q => by cases q), fun _ => by unfold msgOf; rw [if_neg fun q => by rw [any_two.mpr q] at c; cases c]⟩
          first | exact N4 | exact fun q hq => N4 q (.tail _ hq)
      · rintro s' ⟨h₂, tk₂, rfl, F2, N2, q1, -⟩
        obtain ⟨c, x, tx, r, rfl⟩ := q1 rfl
        have e2 : msgOf nm (Value.str x tx :: r) = mw x (r.map dtext) := by unfold msgOf; rw [if_pos c]
        clear F' NV
        repeat walk1
        dsimp only
        (with_reducible rename Fr _ _ _ _ => F4)
        (with_reducible rename News _ _ _ _ => N4)
        have o2 := N4 _ (.tail _ (.head _))
        have hz2 : StrsAre (slicePick zs.toArray (some 1) none none).toList (r.map dtext) := by
          obtain ⟨tz, zr, rfl, hzr⟩ := strs_cons hz
          rw [pick_from1]; simpa using hzr
        have hw2 := weight_data (ys := r) (fun y hy' => hy y (by simp [hy'])) (by simp only [List.length_cons] at hl; omega)
        have hj2 := join_data (ys := r) (fun y hy' => hy y (by simp [hy'])) (by simp only [List.length_cons] at hl; omega)
        have hxl := datum_str_len (hy _ (List.mem_cons_self))
        refine .inl ⟨rfl, _, _, _, 0, (slicePick zs.toArray (some 1) none none).toList, r.map dtext, x, tx, rfl, fr_congr F4 hw_map1, ?_, hz2, e2, hxl, hw2, hj2⟩
        intro q hq
        rw [List.mem_singleton] at hq; subst hq
        exact o2
      · rintro s' ⟨h₂, tk₂, rfl, F2, N2, -, q2⟩
        have e2 := q2 rfl
        clear F' NV hns K' hV kp
        repeat walk1
        rename PyProof.V.Flat _ _ => hv
        have hv2 := get4 hnm hv
        (with_reducible rename Fr _ _ _ _ => F4)
        (with_reducible rename News _ _ _ _ => N4)
        obtain ⟨th, ev⟩ | ⟨ev, hlk⟩ := hv2
        · subst ev
          repeat walk1
          dsimp only
          (with_reducible rename Fr _ _ _ _ => F5)
          (with_reducible rename News _ _ _ _ => N5)
          refine .inl ⟨rfl, _, _, _, nV, zs, ys.map dtext, headOf nm, _, rfl, fr_congr F5 hw_map2, ?_, hz, e2, headOf_len hnm, weight_data hy hl, join_data hy hl⟩
          intro q hq
          exact N5 q (.tail _ hq)
        · subst ev
          repeat ((fail_if_success (with_reducible show wpAny _ _ (call (Value.ref 75) _) _ _ _)); walk1)
          (with_reducible rename Fr _ _ _ _ => F5)
          (with_reducible rename News _ _ _ _ => N5)
          refine messages_call F5 N5 X T rfl ?_ ?_ fun d h' tk' kvs ht hd' F' N' K' hn lo => ?_
          · refine lt_of_depth ?_; dsimp only [Around.deeper]; omega
          · refine lt_of_depth ?_; dsimp only [Around.deeper]; omega
          repeat ((fail_if_success (with_reducible show wpAny _ _ (subscriptTail _ _ _ _) _ _ _)); walk1)
          obtain ⟨y, ty, e1, e3⟩ | ⟨e1, _⟩ := ht.value nm
          · rw [hlk] at e1
            cases e1
            refine dict_item_t hd' e3 ?_
            repeat walk1
            dsimp only
            (with_reducible rename Fr _ _ _ _ => F6)
            (with_reducible rename News _ _ _ _ => N6)
            refine .inl ⟨rfl, _, _, _, nV, zs, ys.map dtext, headOf nm, _, rfl, fr_congr F6 hw_map2, ?_, hz, e2, headOf_len hnm, weight_data hy hl, join_data hy hl⟩
            intro q hq
            exact N6 q (.tail _ hq)
          · rw [hlk] at e1; cases e1
    · rintro s' ⟨h₂, tk₂, V', n', zs', ts, hs, th, rfl, F2, N2, hz', e2, hh2, hw2, hj2⟩
      unfold mapHW at F2
      clear F' NV
      repeat ((fail_if_success (with_reducible show wpAny _ _ (call (Value.builtin "str.join") _) _ _ _)); walk1)
      refine join_listW ⟨_, (N2 _ (.head _)).1, rfl, _, rfl⟩ (by simpa using hz') (by decide) hw2 fun t' k => ?_
      k_steps
      all_goals dsimp only
      all_goals (with_reducible rename Fr _ _ _ _ => F3)
      all_goals (have K3 := fun b o (e : s.heap.get? b = some o) (_ : b ∉ ([] : List Addr)) => F3.keep b o (hk b o e (by simp)))
      all_goals (rename (hs != _) = _ => p1)
      · rename (Txt.join _ _ != _) = _ => p2
        rw [← mw_both (by simpa using p1) (by simpa using p2), ← e2]
        exact ret _ _ _ K3
      · rename (Txt.join _ _ != _) = _ => p2
        rw [← mw_head (by simpa using p1) (by simpa using p2), ← e2]
        exact ret _ _ _ K3
      · rw [← mw_tail (by simpa using p1), ← e2]
        exact ret _ _ _ K3
theorem lawm_call {w : World} {loose : List Str} {mean : ExcName → Option Value} {mg mb : Str → Option Value} {g : Heap} {L : Addr} {m : Str → Option Value} {nw : List (Addr × Obj)} {A : Around} {s : Shared} {Q E : Value → Shared → Prop} {D : Addr} {ys : List Value} {nm : Str} {t : Tok}
    (F : Fr g L s.heap m) (N : News g L s.heap nw) (X : (hd.heap_39 w.params).In g) (T : Top hd.view_39 loose mean mg mb g) (hD : s.heap.IsList D ys.toArray) (hy : ∀ y ∈ ys, IsDatum y) (hl : ys.length ≤ 4) (hnm : nm ∈ eightNames) (hh : A.handled = none) (hdp : A.depth < 690) (hu : A.units < 1800)
    (ret : ∀ h' tk' u, Fr g L h' m → News g L h' nw → Kept s.heap h' [] → Q (.str (msgOf nm ys) u) { s with heap := h', toks := tk' }) :
    wpAny (model Challenge.rw_oj0014_01.prog w) A (call (.ref 121) [.str nm t, .ref D]) Q E s := by
  refine wpAny_call (lawm_code ⟨X, T, F.keep⟩ hD hy hl hnm hh hdp hu fun h' tk' u hk => ?_)
  exact ret h' tk' u (Mine.Fr.kept F hk (by simp) (by simp)) (Mine.News.kept N hk (by simp)) hk
end
end Mine
end

section
open PySem PySem.W PySem.Calls PyProof.Rows Builtin Builtin.ObjectAttr
namespace Mine
/-- an own exception class: its object, its names -/
structure OwnExc (h : Heap) (C N fI : Addr) (mN : Str → Option Value) : Prop where
  cls : ∃ nm q sn sub col dd k0 k1 k2 k3 k5, h.get? C = some (excClassObj nm q C N [.type "Exception"] [.type "Exception", .type "BaseException", .type "object"] true sn sub false col dd k0 k1 k2 k3 k5 "Exception.__new__")
  ns : h.Ns N mN
  init : mN "__init__" = some (.ref fI)
  sa : mN "__setattr__" = none
  ga : mN "__getattribute__" = none
theorem OwnExc.keeps {h h' : Heap} {C N fI : Addr} {mN : Str → Option Value} (x : OwnExc h C N fI mN) (k : ∀ b o, h.get? b = some o → h'.get? b = some o) : OwnExc h' C N fI mN := by
  obtain ⟨⟨a1, a2, a3, a4, a5, a6, a7, a8, a9, a10, a11, e⟩, n, i, s, g⟩ := x
  exact ⟨⟨a1, a2, a3, a4, a5, a6, a7, a8, a9, a10, a11, k _ _ e⟩, n.at' fun o q => k _ o q, i, s, g⟩
def namesOf (K : Frag) (N : Addr) (y : Str) : Option Value := match K.lookup N with
  | some ⟨_, _, .dict es _, _⟩ => nsFind es y
  | _ => none
theorem lisp_cls {w : World} {h : Heap} (KX : (hd.heap_39 w.params).In h) : OwnExc h 31 30 28 (namesOf (hd.heap_39 w.params) 30) := by
  have H0 : Challenge.rw_oj0014_01.prog = Challenge.rw_oj0014_01.prog := rfl
  revert H0 KX; k_fill; intro KX _
  refine ⟨⟨_, _, _, _, _, _, _, _, _, _, _, KX 31 _ (by k_is)⟩, ?_, ?_, ?_, ?_⟩
  · have e := KX 30 _ (by k_is)
    refine ⟨_, _, _, e, rfl, ?_, fun y => rfl⟩
    intro e he
    simp only [List.mem_toArray, List.mem_cons, List.not_mem_nil, or_false] at he
    rcases he with rfl | rfl | rfl | rfl | rfl | rfl <;> exact ⟨_, _, rfl⟩
  · rfl
  · rfl
  · rfl
theorem steps_cls {w : World} {h : Heap} (KX : (hd.heap_39 w.params).In h) : OwnExc h 51 50 48 (namesOf (hd.heap_39 w.params) 50) := by
  have H0 : Challenge.rw_oj0014_01.prog = Challenge.rw_oj0014_01.prog := rfl
  revert H0 KX; k_fill; intro KX _
  refine ⟨⟨_, _, _, _, _, _, _, _, _, _, _, KX 51 _ (by k_is)⟩, ?_, ?_, ?_, ?_⟩
  · have e := KX 50 _ (by k_is)
    refine ⟨_, _, _, e, rfl, ?_, fun y => rfl⟩
    intro e he
    simp only [List.mem_toArray, List.mem_cons, List.not_mem_nil, or_false] at he
    rcases he with rfl | rfl | rfl | rfl | rfl | rfl <;> exact ⟨_, _, rfl⟩
  · rfl
  · rfl
  · rfl
end Mine
end

section
open PySem PySem.W PySem.Calls PyProof.Rows Builtin Builtin.ObjectAttr
namespace Mine
section
variable {prog : Program} {w : World} {A : Around} {E : Value → Shared → Prop} {s : Shared} {C N fI x : Addr} {mN : Str → Option Value} {o : Obj} {name : Str} {v : Value}
/-- the dict that an instance keeps for itself, known or made -/
theorem inst_dict {Q : Option Addr → Shared → Prop} (Y : OwnExc s.heap C N fI mN) (hx : s.heap.get? x = some o) (hc : o.cls = .ref C) (hnc : ∀ c, o.data ≠ .cls c)
    (hq : ∀ dx h', h'.get? x = some { o with dict := some dx } → dx ≠ x → (o.dict = some dx ∧ h' = s.heap ∨ o.dict = none ∧ s.heap.get? dx = none ∧ h'.Ns1 dx (fun _ => none)) →
      (∀ b o', b ≠ x → s.heap.get? b = some o' → h'.get? b = some o') → Q (some dx) { s with heap := h' }) (hdx : ∀ dx, o.dict = some dx → dx ≠ x) :
    wpAny (model prog w) A (instanceDict x true) Q E s := by
  obtain ⟨⟨nm, q, sn, sub, col, dd, k0, k1, k2, k3, k5, hC⟩, _⟩ := Y
  unfold instanceDict
  refine wpAny_bind (wpAny_loadPart hx ?_)
  rw [hc]
  dsimp only
  refine wpAny_bind ?_
  unfold classData
  refine wpAny_bind (wpAny_load hC (wpAny_pure ?_))
  simp only [Bool.not_true, Bool.false_eq_true, if_false]
  cases hd : o.dict with
  | some dx =>
    exact wpAny_pure (hq dx s.heap (by rw [hx]; congr 1; rw [← hd]) (hdx dx hd) (.inl ⟨hd, rfl⟩) fun _ _ _ e => e)
  | none =>
    have hxs : x ≠ s.heap.objs.size := Nat.ne_of_lt (Heap.lt_size hx)
    have hx₁ : (s.heap.push { cls := .type "dict", data := .dict #[] }).get? x = some o := Heap.get?_push_of_some _ hx
    have hfr := (Heap.get?_some_iff.mp hx).2
    have fin : wpAny (model prog w) A (do
        let d ← alloc { cls := .type "dict", data := .dict #[] }
        update x fun o => { o with dict := some d }
        dictMade (.ref C) x d) Q E s := by
      refine wpAny_bind (wpAny_alloc (wpAny_bind (wpAny_update hx₁ ?_)))
      refine wpAny_pure (hq _ _ ?_ (Ne.symm hxs) (.inr ⟨hd, get_fresh _, ?_⟩) fun b o' hb e => (Heap.get?_update_other _ _ (Ne.symm hb)).trans (Heap.get?_push_of_some _ e))
      · refine (Heap.get?_update_self _ hx₁ ?_)
        obtain ⟨oc, od, odt, osl⟩ := o
        cases odt <;> first | rfl | exact hfr
      · refine Heap.Ns1.of_empty ⟨_, #[], _, (Heap.get?_update_other _ _ hxs).trans (Heap.get?_push_size _ rfl), rfl, fun e he => absurd he (by simp), fun _ => rfl⟩
    obtain ⟨oc, od, odt, osl⟩ := o
    dsimp only at hd hc hnc ⊢
    subst hd
    cases odt <;> first | exact fin | exact absurd rfl (hnc _)
/-- object.__setattr__ upon an own exception -/
theorem osa_exc {mA : Str → Option Value} {ns : List Str} {tk : Tok} {Q : Fin → Shared → Prop} (Y : OwnExc s.heap C N fI mN) (hx : s.heap.get? x = some o) (hc : o.cls = .ref C) (hnc : ∀ c, o.data ≠ .cls c)
    (hd : (o.dict = none ∧ ∀ y, mA y = none) ∨ ∃ dx, o.dict = some dx ∧ dx ≠ x ∧ s.heap.Ns1 dx mA) (hw : Within mA ns) (hsz : ns.length ≤ 100) (hna : mN name = none) (hB : typeLookup (.type "Exception") name = pure none)
    (hq : ∀ dx h' tk, h'.get? x = some { o with dict := some dx } → dx ≠ x → h'.Ns1 dx (fun y => if y = name then some v else mA y) → (o.dict = some dx ∨ o.dict = none ∧ s.heap.get? dx = none) →
      (∀ b o', b ≠ x → b ≠ dx → s.heap.get? b = some o' → h'.get? b = some o') → Q (.done (.ret .none)) { s with heap := h', toks := tk }) :
    wpAny (model prog w) A (Builtin.«object.__setattr__» ⟨[.ref x, .str name tk, v], []⟩) Q E s := by
  have Y' := Y
  obtain ⟨⟨nm, q, sn, sub, col, dd, k0, k1, k2, k3, k5, hC⟩, hn, _, hsa, _⟩ := Y
  have SF := F.store_Exception
  have hT : ∀ {Q' : Value → Shared → Prop}, Q' (.ref C) s → wpAny (model prog w) A (typeOf (.ref x)) Q' E s := fun h => by
    rw [← hc] at h; exact wpAny_typeOf_ref hx h
  rw [osa_eq, refuse_eq]
  refine wpAny_bind (wpAny_bind (hT (wpAny_bind ?_)))
  obtain ⟨h, g, d, t, os⟩ := s
  refine wpAny_mroOf_exc hC ?_
  rw [refuseLoop_ref, SF.passes]
  refine wpAny_pure (wpAny_bind (hT (wpAny_bind ?_)))
  refine wpAny_typeLookup_exc hC hn SF.mro hB ?_
  rw [hna]
  refine wpAny_bind (wpAny_pure (a := none) ?_)
  refine wpAny_bind (wpAny_pure (wpAny_bind ?_))
  refine inst_dict Y' hx hc hnc (fun dx h' e1 ne e2 keep => ?_) ?_
  · have hns : h'.Ns1 dx mA := by
      rcases e2 with ⟨e2, rfl⟩ | ⟨e2, _, e3⟩
      · rcases hd with ⟨e', _⟩ | ⟨dx', e', _, n'⟩
        · rw [e2] at e'; cases e'
        · rw [e2] at e'; cases e'; exact n'
      · rcases hd with ⟨_, e'⟩ | ⟨dx', e', _⟩
        · have : mA = fun _ => none := funext e'
          rw [this]; exact e3
        · rw [e2] at e'; cases e'
    show wpAny _ _ (storeInDict dx (.str name tk) name v) _ _ _
    unfold storeInDict newKeyGuard
    refine wpAny_bind (wpAny_pure (wpAny_bind (wpAny_nsSet1 hns fun h₂ hn₂ hs₂ => ?_)))
    obtain ⟨oD, esD, epD, hoD, hdD, hcD⟩ := hn₂.count (Within.cons name v hw)
    refine wpAny_bind (wpAny_lookBehind hoD (by rw [hdD]; exact pastItsLine_dict (Nat.le_trans hcD (by rw [List.length_cons, sizeLine_eq]; omega))) ?_)
    refine wpAny_pure (hq dx h₂ _ ((hs₂.2 x (Ne.symm ne)).trans e1) ne hn₂ ?_ fun b o' hb hbd e => (hs₂.2 b hbd).trans (keep b o' hb e))
    rcases e2 with ⟨e2, _⟩ | ⟨e2, e3, _⟩
    · exact .inl e2
    · exact .inr ⟨e2, e3⟩
  · intro dx e
    rcases hd with ⟨e', _⟩ | ⟨dx', e', ne, _⟩
    · rw [e] at e'; cases e'
    · rw [e] at e'; cases e'; exact ne
theorem set_exc {K : Frag} {mA : Str → Option Value} {ns : List Str} {Q : Unit → Shared → Prop} (X : K.In s.heap) (hs : findIn K (.ref C) "__setattr__" = some (some (.builtin "object.__setattr__"))) (Y : OwnExc s.heap C N fI mN) (hx : s.heap.get? x = some o) (hc : o.cls = .ref C) (hnc : ∀ c, o.data ≠ .cls c)
    (hd : (o.dict = none ∧ ∀ y, mA y = none) ∨ ∃ dx, o.dict = some dx ∧ dx ≠ x ∧ s.heap.Ns1 dx mA) (hw : Within mA ns) (hsz : ns.length ≤ 100) (hna : mN name = none) (hB : typeLookup (.type "Exception") name = pure none)
    (hq : ∀ dx h' tk, h'.get? x = some { o with dict := some dx } → dx ≠ x → h'.Ns1 dx (fun y => if y = name then some v else mA y) → (o.dict = some dx ∨ o.dict = none ∧ s.heap.get? dx = none) →
      (∀ b o', b ≠ x → b ≠ dx → s.heap.get? b = some o' → h'.get? b = some o') → Q () { s with heap := h', toks := tk }) :
    wpAny (model prog w) A (setAttr (.ref x) name v) Q E s := by
  have Y' := Y
  obtain ⟨⟨nm, q, sn, sub, col, dd, k0, k1, k2, k3, k5, hC⟩, hn, _, hsa, _⟩ := Y
  have SF := F.store_Exception
  have hnc' : notCls o = true := by
    unfold notCls
    split
    · rename_i c e; exact absurd e (hnc c)
    · rfl
  have I : ∃ od, InstAt s.heap x o C od := by
    rcases hd with ⟨e, _⟩ | ⟨dx, e, _, n⟩
    · exact ⟨none, hx, hc, hnc', by rw [e]; trivial⟩
    · obtain ⟨o', _, _, e', _⟩ := n
      exact ⟨some o', hx, hc, hnc', by rw [e]; exact e'⟩
  obtain ⟨od, I⟩ := I
  refine set_plain X I hs ?_
  refine codeAny_call_builtin SF.slot.plain SF.entry ?_
  with_reducible refine wpAny_check_sa SF hC hx hc ?_
  exact osa_exc (s := { s with toks := s.toks + 1 }) Y' hx hc hnc hd hw hsz hna hB fun dx h' tk e1 ne e2 e3 keep => hq dx h' tk e1 ne e2 e3 keep
theorem get_exc {K : Frag} {od : Obj} {expr : Bool} {Q : Value → Shared → Prop} (X : K.In s.heap) (Y : OwnExc s.heap C N fI mN) (I : InstAt s.heap x o C (some od)) (hga : findIn K (.ref C) "__getattribute__" = some (some (.builtin "BaseException.__getattribute__")))
    (hgh : findIn K (.ref C) "__getattr__" = some none) (hf : findObj K C (some od) name = some (.value v)) (hh : handedIn v = true) (hq : Q v { s with toks := s.toks + 1 }) : wpAny (model prog w) A (getAttr (.ref x) name expr) Q E s := by
  obtain ⟨⟨nm, q, sn, sub, col, dd, k0, k1, k2, k3, k5, hC⟩, hn, _, hsa, _⟩ := Y
  have L0 := I.type (M := model prog w)
  have L1 := looks_findIn (M := model prog w) X hga
  have L2 := looks_findIn (M := model prog w) X hgh
  have L3 := looks_find (M := model prog w) X I hf
  obtain ⟨h, g, d, t, os⟩ := s
  have FB := F.attrBase_Exception
  unfold getAttr getAttrBy
  refine wpAny_bind (wpAny_mkText (wpAny_holding (wpAny_bind (L0.at (wpAny_bind (L1.at ?_))))))
  show wpAny _ _ (if onTheHeap (.ref C) && Value.builtin "BaseException.__getattribute__" == .builtin "object.__getattribute__" then _ else getAttrByItsOwn _ _ _ _ _ _) _ _ _
  rw [if_neg (by rw [show (Value.builtin "BaseException.__getattribute__" == Value.builtin "object.__getattribute__") = false by decide +kernel]; simp)]
  unfold getAttrByItsOwn
  dsimp only
  refine wpAny_bind ?_
  show wpAny _ _ (typeLookup (.ref C) "__getattr__") _ _ _
  refine L2.at (wpAny_bind (wpAny_attempt (wpAny_holding ?_ )))
  have hx0 : (expr && onTheHeap (Value.builtin "BaseException.__getattribute__")) = false := by cases expr <;> rfl
  unfold callGetattribute
  rw [if_neg (by rw [hx0]; simp)]
  unfold boundAndCalled
  rw [FB.ga.bind]
  refine wpAny_bind (wpAny_pure (wpAny_call ?_))
  simp only [List.cons_append, List.nil_append]
  refine codeAny_call_builtin FB.ga.plain F.entry_bexc_ga ?_
  with_reducible refine wpAny_check_ga_own FB hC ?_ I.at_ I.cls ?_
  · constructor
  refine wpAny_bind (wpAny_pure (wpAny_bind (wpAny_pure (wpAny_bind (L0.at (wpAny_bind (L3.at ?_)))))))
  refine wpAny_pure ?_
  show wpAny _ _ (handedOut v) _ _ _
  rw [handedOut_of hh]; exact wpAny_pure hq
end
end Mine
end

section
open PySem PySem.W PySem.Calls PyProof.Rows Builtin Builtin.ObjectAttr
namespace Mine
theorem off_ex3 : True := by
  w_top off
  exact True.intro
theorem fr_but {g h h' : Heap} {L x dx : Addr} {m : Str → Option Value} (F : Fr g L h m) (keep : ∀ b o, b ≠ x → b ≠ dx → h.get? b = some o → h'.get? b = some o) (h1 : L ≠ x) (h2 : L ≠ dx) (g1 : g.get? x = none) (g2 : g.get? dx = none) : Fr g L h' m :=
  ⟨F.ns.at' fun o e => keep _ o h1 h2 e, fun b o e => keep b o (by rintro rfl; rw [g1] at e; cases e) (by rintro rfl; rw [g2] at e; cases e) (F.keep b o e), F.above⟩
theorem none_of {h h' : Heap} {b : Addr} (k : ∀ b o, h.get? b = some o → h'.get? b = some o) (e : h'.get? b = none) : h.get? b = none := by
  cases q : h.get? b with
  | none => rfl
  | some o => rw [k _ _ q] at e; cases e
theorem tl_sym : typeLookup (.type "Exception") (Str.ofString "symbol") = pure none := by rw [typeLookup_type, builtinLookup_eq_fast]; kernel_rfl
theorem tl_data : typeLookup (.type "Exception") (Str.ofString "data") = pure none := by rw [typeLookup_type, builtinLookup_eq_fast]; kernel_rfl
theorem tl_limit : typeLookup (.type "Exception") (Str.ofString "limit") = pure none := by rw [typeLookup_type, builtinLookup_eq_fast]; kernel_rfl
set_option maxHeartbeats 4000000 in
theorem lisp_init {w : World} {loose : List Str} {mean : ExcName → Option Value} {mg mb : Str → Option Value} {h₀ : Heap} {A : Around} {s : Shared} {R : Result → Shared → Prop} {e : Addr} {vs : Array Value} {v1 v2 : Value}
    (B : Bs w loose mean mg mb h₀ s.heap) (hx : s.heap.get? e = some ⟨.ref 31, none, .fields vs, #[]⟩) (he0 : h₀.get? e = none) (hh : A.handled = none) (hd : A.depth < 700) (hu : A.units < 1900)
    (ret : ∀ h' tk' dx, h'.get? e = some ⟨.ref 31, some dx, .fields vs, #[]⟩ → dx ≠ e → h'.Ns1 dx (fun y => if y = Str.ofString "data" then some v2 else if y = Str.ofString "symbol" then some v1 else none) → s.heap.get? dx = none →
      Kept s.heap h' [e] → R (.ok (.ret .none)) { s with heap := h', toks := tk' }) :
    codeAny (model Challenge.rw_oj0014_01.prog w) A (.call (.ref 28) ⟨[.ref e, v1, v2], []⟩) R s := by
  obtain ⟨hnd, dp, fr, gd, un⟩ := A
  dsimp only at hh hd hu
  subst hh
  have KX := B.K
  revert KX; k_fill; intro KX
  refine enter_plainH B [e] ?_ ?_ (by k_is) (by k_is) (BindsTo.of_eq (binds := [(Str.ofString "self", .ref e), (Str.ofString "symbol", v1), (Str.ofString "data", v2)]) rfl) (locs rfl) ?_ rfl rfl rfl (by decide)
  · intro q hq; rw [List.mem_singleton] at hq; subst hq; exact he0
  · simp only [recursionLimit]; omega
  intro g L' h₁ F N X T kp lt hg hk
  (try dsimp only)
  have hx₁ := kp _ _ hx
  have heL : e ≠ L' := Nat.ne_of_lt (lt _ _ hx)
  have ge : g.get? e = none := hg e (by simp)
  have Y := lisp_cls X
  refine wpAny_execs_cons (plainObj_wpAny_Assign_Attribute ?_)
  repeat walk1
  refine set_exc (ns := []) (mA := fun _ => none) (X.keeps F.keep) (by k_is) (Y.keeps F.keep) hx₁ rfl (fun c q => by cases q) (.inl ⟨rfl, fun _ => rfl⟩) Within.nil (by decide) (by rfl) tl_sym fun dx h₂ tk₂ e1 ne n1 d1 keep₁ => ?_
  have dn : h₁.get? dx = none := by rcases d1 with q | ⟨_, dn⟩ <;> first | exact dn | cases q
  have hLdx : L' ≠ dx := by
    rintro rfl
    obtain ⟨o, _, _, q, _⟩ := F.ns
    exact absurd (dn.symm.trans q) (by simp)
  have gdx : g.get? dx = none := none_of F.keep dn
  have F₂ := fr_but F keep₁ (Ne.symm heL) hLdx ge gdx
  have N₂ : News g L' h₂ [] := News.nil
  clear F N
  dsimp only
  refine wpAny_execs_cons (plainObj_wpAny_Assign_Attribute ?_)
  repeat walk1
  refine set_exc (ns := [Str.ofString "symbol"]) (mA := fun y => if y = Str.ofString "symbol" then some v1 else none) (X.keeps F₂.keep) (by k_is) (Y.keeps F₂.keep) e1 rfl (fun c q => by cases q) (.inr ⟨dx, rfl, ne, n1⟩) (Within.cons _ _ Within.nil) (by decide) (by rfl) tl_data fun dx' h₃ tk₃ e3 ne3 n3 d3 keep₃ => ?_
  rcases d3 with q | ⟨q, _⟩
  · cases q
    dsimp only
    refine wpAny_execs_nil ?_
    refine ret h₃ _ dx e3 ne n3 (none_of kp dn) fun b o eb nb => ?_
    have hbe : b ≠ e := by simpa using nb
    have hbd : b ≠ dx := by rintro rfl; rw [none_of kp dn] at eb; cases eb
    exact keep₃ b o hbe hbd (keep₁ b o hbe hbd (kp b o eb))
  · cases q
set_option maxHeartbeats 4000000 in
theorem steps_init {w : World} {loose : List Str} {mean : ExcName → Option Value} {mg mb : Str → Option Value} {h₀ : Heap} {A : Around} {s : Shared} {R : Result → Shared → Prop} {e : Addr} {vs : Array Value} {v1 : Value}
    (B : Bs w loose mean mg mb h₀ s.heap) (hx : s.heap.get? e = some ⟨.ref 51, none, .fields vs, #[]⟩) (he0 : h₀.get? e = none) (hh : A.handled = none) (hd : A.depth < 700) (hu : A.units < 1900)
    (ret : ∀ h' tk' dx, h'.get? e = some ⟨.ref 51, some dx, .fields vs, #[]⟩ → dx ≠ e → h'.Ns1 dx (fun y => if y = Str.ofString "limit" then some v1 else none) → s.heap.get? dx = none →
      Kept s.heap h' [e] → R (.ok (.ret .none)) { s with heap := h', toks := tk' }) :
    codeAny (model Challenge.rw_oj0014_01.prog w) A (.call (.ref 48) ⟨[.ref e, v1], []⟩) R s := by
  obtain ⟨hnd, dp, fr, gd, un⟩ := A
  dsimp only at hh hd hu
  subst hh
  have KX := B.K
  revert KX; k_fill; intro KX
  refine enter_plainH B [e] ?_ ?_ (by k_is) (by k_is) (BindsTo.of_eq (binds := [(Str.ofString "self", .ref e), (Str.ofString "limit", v1)]) rfl) (locs rfl) ?_ rfl rfl rfl (by decide)
  · intro q hq; rw [List.mem_singleton] at hq; subst hq; exact he0
  · simp only [recursionLimit]; omega
  intro g L' h₁ F N X T kp lt hg hk
  (try dsimp only)
  have hx₁ := kp _ _ hx
  have heL : e ≠ L' := Nat.ne_of_lt (lt _ _ hx)
  have ge : g.get? e = none := hg e (by simp)
  have Y := steps_cls X
  refine wpAny_execs_cons (plainObj_wpAny_Assign_Attribute ?_)
  repeat walk1
  refine set_exc (ns := []) (mA := fun _ => none) (X.keeps F.keep) (by k_is) (Y.keeps F.keep) hx₁ rfl (fun c q => by cases q) (.inl ⟨rfl, fun _ => rfl⟩) Within.nil (by decide) (by rfl) tl_limit fun dx h₂ tk₂ e1 ne n1 d1 keep₁ => ?_
  have dn : h₁.get? dx = none := by rcases d1 with q | ⟨_, dn⟩ <;> first | exact dn | cases q
  dsimp only
  refine wpAny_execs_nil ?_
  refine ret h₂ _ dx e1 ne n1 (none_of kp dn) fun b o eb nb => ?_
  have hbe : b ≠ e := by simpa using nb
  have hbd : b ≠ dx := by rintro rfl; rw [none_of kp dn] at eb; cases eb
  exact keep₁ b o hbe hbd (kp b o eb)
/-- a new exception of an own class -/
structure NewOwn (h h' : Heap) (C e dx t : Addr) (mA : Str → Option Value) : Prop where
  at_ : h'.get? e = some ⟨.ref C, some dx, .fields #[.ref t, .none, .none, .none, .bool false, .none], #[]⟩
  ne : dx ≠ e
  ns : h'.Ns1 dx mA
  newE : h.get? e = none
  newD : h.get? dx = none
  keep : ∀ b o, h.get? b = some o → h'.get? b = some o
set_option maxHeartbeats 4000000 in
theorem make_lisp {w : World} {loose : List Str} {mean : ExcName → Option Value} {mg mb : Str → Option Value} {g : Heap} {L : Addr} {m : Str → Option Value} {A : Around} {s : Shared} {Q E : Value → Shared → Prop} {v1 v2 : Value}
    (F : Fr g L s.heap m) (X : (hd.heap_39 w.params).In g) (T : Top hd.view_39 loose mean mg mb g) (hh : A.handled = none) (hd : A.depth < 690) (hu : A.units < 1800)
    (ret : ∀ e h' tk' dx t, NewOwn s.heap h' 31 e dx t (fun y => if y = Str.ofString "data" then some v2 else if y = Str.ofString "symbol" then some v1 else none) → Q (.ref e) { s with heap := h', toks := tk' }) :
    wpAny (model Challenge.rw_oj0014_01.prog w) A (call (.ref 31) [v1, v2]) Q E s := by
  have Y := (lisp_cls X).keeps F.keep
  obtain ⟨⟨nm, q, sn, sub, col, dd, k0, k1, k2, k3, k5, hC⟩, hn, hi, _⟩ := Y
  have H0 : Challenge.rw_oj0014_01.prog = Challenge.rw_oj0014_01.prog := rfl
  revert H0 X; k_fill; intro X _
  have hfI := F.keep _ _ (X 28 _ (by k_is))
  obtain ⟨h, gs, d, t, os⟩ := s
  refine wpAny_call_exc_init PySem.F.excBase_Exception hC hn hi hfI rfl (fun h' e M => ?_) (by simp only [List.length_cons, List.length_nil]; decide)
  obtain ⟨tt, he, ht, hT⟩ := M.there
  refine wpAny_call (lisp_init (h₀ := g) (s := ⟨h', gs, d, t, os⟩) ⟨X, T, fun b o q => M.keeps b o (F.keep b o q)⟩ he (none_of F.keep M.new) ?_ ?_ ?_ fun h₂ tk₂ dx e1 ne n1 dn keep => ⟨rfl, ?_⟩)
  · exact hh
  · rw [depth_under_make]; omega
  · rw [units_under_make]; omega
  exact ret e h₂ tk₂ dx tt ⟨e1, ne, n1, M.new, none_of M.keeps dn, fun b o q => keep b o (M.keeps b o q) (by
    rw [List.mem_singleton]; rintro rfl; rw [M.new] at q; cases q)⟩
set_option maxHeartbeats 4000000 in
theorem make_steps {w : World} {loose : List Str} {mean : ExcName → Option Value} {mg mb : Str → Option Value} {g : Heap} {L : Addr} {m : Str → Option Value} {A : Around} {s : Shared} {Q E : Value → Shared → Prop} {v1 : Value}
    (F : Fr g L s.heap m) (X : (hd.heap_39 w.params).In g) (T : Top hd.view_39 loose mean mg mb g) (hh : A.handled = none) (hd : A.depth < 690) (hu : A.units < 1800)
    (ret : ∀ e h' tk' dx t, NewOwn s.heap h' 51 e dx t (fun y => if y = Str.ofString "limit" then some v1 else none) → Q (.ref e) { s with heap := h', toks := tk' }) :
    wpAny (model Challenge.rw_oj0014_01.prog w) A (call (.ref 51) [v1]) Q E s := by
  have Y := (steps_cls X).keeps F.keep
  obtain ⟨⟨nm, q, sn, sub, col, dd, k0, k1, k2, k3, k5, hC⟩, hn, hi, _⟩ := Y
  have H0 : Challenge.rw_oj0014_01.prog = Challenge.rw_oj0014_01.prog := rfl
  revert H0 X; k_fill; intro X _
  have hfI := F.keep _ _ (X 48 _ (by k_is))
  obtain ⟨h, gs, d, t, os⟩ := s
  refine wpAny_call_exc_init PySem.F.excBase_Exception hC hn hi hfI rfl (fun h' e M => ?_) (by simp only [List.length_cons, List.length_nil]; decide)
  obtain ⟨tt, he, ht, hT⟩ := M.there
  refine wpAny_call (steps_init (h₀ := g) (s := ⟨h', gs, d, t, os⟩) ⟨X, T, fun b o q => M.keeps b o (F.keep b o q)⟩ he (none_of F.keep M.new) ?_ ?_ ?_ fun h₂ tk₂ dx e1 ne n1 dn keep => ⟨rfl, ?_⟩)
  · exact hh
  · rw [depth_under_make]; omega
  · rw [units_under_make]; omega
  exact ret e h₂ tk₂ dx tt ⟨e1, ne, n1, M.new, none_of M.keeps dn, fun b o q => keep b o (M.keeps b o q) (by
    rw [List.mem_singleton]; rintro rfl; rw [M.new] at q; cases q)⟩
end Mine
end

section
open PySem PySem.W PySem.Calls PyProof.Rows Builtin Builtin.ObjectAttr
namespace Mine
section
variable {prog : Program} {w : World} {A : Around} {E : Value → Shared → Prop} {s : Shared} {env : Env}
set_option maxHeartbeats 1000000 in
theorem Raise_own {exc : Expr} {pos : Pos} {Q : Flow → Shared → Prop} (hh : A.handled = none)
    (h : wpAny (model prog w) A (eval exc env) (fun v s₁ => ∃ e C N fI mN o vs, v = .ref e ∧ OwnExc s₁.heap C N fI mN ∧ s₁.heap.get? e = some o ∧ o.cls = .ref C ∧ o.data = .fields vs ∧ vs[1]? = some .none ∧ E (.ref e) s₁) E s) :
    wpAny (model prog w) A (exec (.Raise (some exc) none pos) env) Q E s := by
  rw [arm_exec_Raise]
  refine wpAny_bind (wpAny_standAt ?_)
  unfold raiseStmt
  refine wpAny_bind (wpAny_bind (wpAny_mono h (fun v s₁ h₁ => wpAny_bind (wpAny_standAt (wpAny_pure ?_))) fun _ _ x => x))
  obtain ⟨e, C, N, fI, mN, o, vs, rfl, Y, he, hc, hd, h1, hE⟩ := h₁
  have Y' := Y
  obtain ⟨⟨nm, q, sn, sub, col, dd, k0, k1, k2, k3, k5, hC⟩, hn, _, hsa, _⟩ := Y
  obtain ⟨hp, gs, d, t, os⟩ := s₁
  have hT : ∀ {t'} {Q' : Value → Shared → Prop}, Q' (.ref C) ⟨hp, gs, d, t', os⟩ → wpAny (model prog w) A (typeOf (.ref e)) Q' E ⟨hp, gs, d, t', os⟩ := fun h' => by
    rw [← hc] at h'; exact wpAny_typeOf_ref (s := ⟨hp, gs, d, _, os⟩) he h'
  have hTC : ∀ {t'} {Q' : Value → Shared → Prop}, Q' (.type "type") ⟨hp, gs, d, t', os⟩ → wpAny (model prog w) A (typeOf (.ref C)) Q' E ⟨hp, gs, d, t', os⟩ := fun h' => wpAny_typeOf_ref (s := ⟨hp, gs, d, _, os⟩) hC h'
  have hI : ∀ {t'} {Q' : Bool → Shared → Prop}, Q' false ⟨hp, gs, d, t', os⟩ → wpAny (model prog w) A (isType (.ref e)) Q' E ⟨hp, gs, d, t', os⟩ := fun h' => by
    unfold isType
    refine wpAny_bind (wpAny_loadPart (s := ⟨hp, gs, d, _, os⟩) he (wpAny_pure ?_))
    rw [hd]; exact h'
  refine wpAny_bind (wpAny_pure ?_)
  refine wpAny_bind (wpAny_holding ?_)
  unfold excFromValue isExcClass isInstance
  refine wpAny_bind (wpAny_bind (hI ?_))
  rw [if_neg Bool.false_ne_true]
  refine wpAny_pure ?_
  rw [if_neg Bool.false_ne_true]
  refine wpAny_bind (wpAny_bind (hT ?_))
  with_reducible refine wpAny_isSubtype_exc hC ?_
  rw [if_pos (by simp)]
  refine wpAny_pure ?_
  dsimp only
  refine wpAny_bind (hI ?_)
  rw [if_neg Bool.false_ne_true]
  refine wpAny_bind ?_
  unfold raisedInstance
  refine wpAny_bind (hT (wpAny_bind (hTC ?_)))
  rw [if_pos (by decide)]
  refine wpAny_pure ?_
  unfold setFlight
  refine wpAny_bind (wpAny_bind (wpAny_field (s := ⟨hp, gs, d, _, os⟩) he hd h1 ?_))
  rw [if_neg (by decide)]
  refine wpAny_pure ?_
  exact wpAny_raiseNew_none hh hE
/-- an exception with its trace -/
structure Traced (h : Heap) (e T : Addr) (c : Value) (dd : Option Addr) (vs : Array Value) : Prop where
  at_ : h.get? e = some ⟨c, dd, .fields (vs.setIfInBounds 1 (.ref T)), #[]⟩
  tb : ∃ ts fl, h.get? T = some ⟨.type "traceback", none, .fields ts, #[]⟩ ∧ ts[3]? = some fl
  ne : T ≠ e
  sz : 1 < vs.size
theorem flight_none {e T : Addr} {c : Value} {dd : Option Addr} {vs : Array Value} {Q : Unit → Shared → Prop} (Z : Traced s.heap e T c dd vs)
    (h : ∀ h', Traced h' e T c dd vs → (∀ b o, b ≠ T → s.heap.get? b = some o → h'.get? b = some o) → Q () { s with heap := h' }) : wpAny (model prog w) A (setFlight (.ref e) none) Q E s := by
  obtain ⟨he, ⟨ts, fl, hT, h3⟩, ne, sz⟩ := Z
  have hsz3 : 3 < ts.size := (Array.getElem?_eq_some_iff.mp h3).1
  unfold setFlight
  refine wpAny_bind (wpAny_field he rfl (x := .ref T) (by simp [sz]) ?_)
  rw [if_pos (show (Value.ref T != Value.none) = true from by simp)]
  refine wpAny_setField hT rfl hsz3 (h _ ⟨(Heap.get?_update_other _ _ ne).trans he, ⟨_, .none, Heap.get?_update_self _ hT rfl, ?_⟩, ne, sz⟩ fun b o hb e => (Heap.get?_update_other _ _ (Ne.symm hb)).trans e)
  simp [hsz3]
theorem note_first {base : Heap} {outer : List Env} {L e : Addr} {c : Value} {dd : Option Addr} {vs : Array Value} {Q : Unit → Shared → Prop}
    (hfr : A.frames = some (env :: outer)) (hl : s.heap.FunFrames base (env :: outer)) (hf : env.frame = some L)
    (he : s.heap.get? e = some ⟨c, dd, .fields vs, #[]⟩) (h1 : vs[1]? = some .none)
    (h : ∀ h' T, Traced h' e T c dd vs → s.heap.get? T = none → (∀ b o, b ∉ (env :: outer).filterMap (·.frame) → b ≠ e → s.heap.get? b = some o → h'.get? b = some o) →
      (∀ b o, b ≠ e → s.heap.get? b = some o → ∃ sl, h'.get? b = some { o with slots := sl }) → Q () { s with heap := h' }) :
    wpAny (model prog w) A (noteFrame (.ref e) env) Q E s := by
  have hsz := (Array.getElem?_eq_some_iff.mp h1).1
  have hene : e ∉ (env :: outer).filterMap (·.frame) := fun hm => by
    obtain ⟨_, o, ho, hnf⟩ := hl.mem hm
    rw [he] at ho; injection ho with ho; subst ho; exact hnf vs rfl
  unfold noteFrame
  simp only [hf]
  refine wpAny_bind (wpAny_field he rfl h1 ?_)
  rw [if_neg (by decide)]
  refine wpAny_bind (wpAny_frameOf_fun hfr hl hf fun h₁ hs₁ => ?_)
  refine wpAny_bind (wpAny_entryPlaceOf fun pl hpl => ?_)
  unfold EntryCells.newEntry newFields
  refine wpAny_bind (wpAny_newObj_type ?_ (hpl.sizeOk5 _ _ _ _ _))
  have he₁ : h₁.get? e = some ⟨c, dd, .fields vs, #[]⟩ := (hs₁.2.1 e hene).trans he
  have up : ∀ b o, h₁.get? b = some o → (h₁.push { cls := .type "traceback", dict := none, data := .fields ([Value.none, .ref L, .none, rawInt L, .none] ++ (if pl.isEmpty then List.replicate 6 Value.none else pl)).toArray }).get? b = some o := fun b o q => Heap.get?_push_of_some _ q
  have hTe : h₁.objs.size ≠ e := Nat.ne_of_gt (Heap.lt_size he₁)
  refine wpAny_setField (up _ _ he₁) rfl hsz (h _ h₁.objs.size ⟨Heap.get?_update_self _ (up _ _ he₁) rfl, ⟨_, rawInt L, (Heap.get?_update_other _ _ (Ne.symm hTe)).trans (Heap.get?_push_size h₁ rfl), ?_⟩, hTe, hsz⟩ ?_ ?_ ?_)
  · first | (simp; done) | (rcases hpl with rfl | ⟨_, _, _, _, _, _, _, rfl⟩ <;> simp)
  · have := get_fresh s.heap
    rw [← hs₁.1] at this; exact this
  · intro b o hb hbe q
    exact (Heap.get?_update_other _ _ (Ne.symm hbe)).trans (up _ _ ((hs₁.2.1 b hb).trans q))
  · intro b o hbe q
    obtain ⟨sl, e₂⟩ := hs₁.2.2 b o q
    exact ⟨sl, (Heap.get?_update_other _ _ (Ne.symm hbe)).trans (up _ _ e₂)⟩
theorem handle_own {K : Frag} {e C C' : Addr} {b : Bool} {t : Expr} {n : Str} {b₀ : Stmt} {suite : List Stmt} {pos : Pos} {rest : List ExceptHandler} {Q : Flow → Shared → Prop} (hb : exmOne K (.ref C) (.ref C') = some b)
    (h : ∀ E', wpAny (model prog w) (A.mark (some (.ref e))) (eval t env) (fun c s₁ => c = .ref C' ∧ K.In s₁.heap ∧ (∃ o, s₁.heap.get? e = some o ∧ o.cls = .ref C) ∧
      if b = true then (∀ E1 E2, wpAny (model prog w) (A.mark (some (.ref e))) (setFlight (.ref e) none) (fun _ s₂ => wpAny (model prog w) (A.mark (some (.ref e))) (storeName env n (.ref e)) (fun _ s₃ =>
          wpAny (model prog w) (A.mark (some (.ref e))) (execs (b₀ :: suite) env) (fun f s₄ => wpAny (model prog w) A (do bindName env n .none; unbindBehindTheSuite env n pos) (fun _ s₅ => Q f s₅) E s₄) E2 s₃) E1 s₂) E1 s₁)
      else wpAny (model prog w) A (handleBy (.ref e) env rest) Q E s₁) E' s) :
    wpAny (model prog w) A (handleBy (.ref e) env (.ExceptHandler (some t) (some n) (b₀ :: suite) pos :: rest)) Q E s := by
  refine wpAny_handleBy_cons (codeAny_handlers_test (wpAny_mono (h _) (fun c s₁ h₁ => ?_) fun _ _ x => x)) (by intro q; cases q)
  obtain ⟨rfl, X, ⟨o, ho, hc⟩, hk⟩ := h₁
  have LT : Looks (model prog w) s₁.heap (typeOf (.ref e)) (.ref C) := by
    rw [← hc]; exact (Looks.ld ho).andThen .now
  refine (exm_one X LT hb).here ?_
  cases b with
  | true => exact codeAny_handlers_suite_as (hk _ _)
  | false => exact hk
end
end Mine
end

section
open PySem PySem.W PySem.Calls PyProof.Rows Builtin Builtin.ObjectAttr
namespace Mine
theorem off_ct : True := by
  w_top off
  exact True.intro
theorem fun_base {g base h h' : Heap} : ∀ {l : List Env}, h.FunFrames base l → (∀ b ∈ l.filterMap (·.frame), g.get? b = none) → (∀ b o, h.get? b = some o → h'.get? b = some o) → h'.FunFrames g l
  | [], _, _, _ => trivial
  | env :: r, hl, hg, k => by
    obtain ⟨hk, ⟨L, o, hf, hn, ho, hd⟩, hr⟩ := hl
    refine ⟨hk, ⟨L, o, hf, hg L (by rw [List.filterMap_cons, hf]; simp), k _ _ ho, hd⟩, fun_base hr (fun b hb => hg b ?_) k⟩
    rw [List.filterMap_cons, hf]; exact List.mem_cons_of_mem _ hb
theorem lookIn_ns {h : Heap} {d : Addr} {m : Str → Option Value} {name : Str} {v : Value} {od : Obj} (n : h.Ns1 d m) (e : h.get? d = some od) (hv : m name = some v) : lookIn name od = some (some v) := by
  obtain ⟨o, es, ep, e', hd, _, _, hf⟩ := n
  rw [e] at e'; cases e'
  obtain ⟨oc, odd, odt, osl⟩ := od
  dsimp only at hd; subst hd
  have := hf name
  rw [hv] at this
  unfold nsFind findBy at this
  unfold lookIn
  dsimp only
  cases q : es.find? (fun e => e.key.isStr name) with
  | none => rw [q] at this; cases this
  | some e => rw [q] at this; cases this; rw [← Array.find?_toList] at q; rw [q]
theorem fr_noted {g h h' : Heap} {L e : Addr} {S : List Addr} {m : Str → Option Value} (F : Fr g L h m) (keep : ∀ b o, b ∉ S → b ≠ e → h.get? b = some o → h'.get? b = some o) (slots : ∀ b o, b ≠ e → h.get? b = some o → ∃ sl, h'.get? b = some { o with slots := sl })
    (gS : ∀ b ∈ S, g.get? b = none) (ge : g.get? e = none) (hL : L ≠ e) : Fr g L h' m := by
  refine ⟨?_, fun b o q => keep b o (fun hb => by rw [gS b hb] at q; cases q) (by rintro rfl; rw [ge] at q; cases q) (F.keep b o q), F.above⟩
  obtain ⟨o, es, ep, e1, hd, k, f⟩ := F.ns
  obtain ⟨sl, e2⟩ := slots L o hL e1
  exact ⟨_, es, ep, e2, hd, k, f⟩
theorem fx {P : Params} : findIn (hd.heap_39 P) (.ref 31) (Str.ofString "symbol") = some none := by rfl
theorem fx2 {P : Params} : findIn (hd.heap_39 P) (.ref 31) (Str.ofString "data") = some none := by rfl
theorem fx3 {P : Params} : findIn (hd.heap_39 P) (.ref 51) (Str.ofString "limit") = some none := by rfl
theorem fd {P : Params} : hasDictIn (hd.heap_39 P) 31 = true := by rfl
theorem fga {P : Params} : findIn (hd.heap_39 P) (.ref 31) "__getattribute__" = some (some (.builtin "BaseException.__getattribute__")) := by rfl
theorem fgh {P : Params} : findIn (hd.heap_39 P) (.ref 31) "__getattr__" = some none := by rfl
theorem fd5 {P : Params} : hasDictIn (hd.heap_39 P) 51 = true := by rfl
theorem fga5 {P : Params} : findIn (hd.heap_39 P) (.ref 51) "__getattribute__" = some (some (.builtin "BaseException.__getattribute__")) := by rfl
theorem fgh5 {P : Params} : findIn (hd.heap_39 P) (.ref 51) "__getattr__" = some none := by rfl
theorem exm11 {P : Params} : exmOne (hd.heap_39 P) (.ref 31) (.ref 31) = some true := by rfl
theorem exm51 {P : Params} : exmOne (hd.heap_39 P) (.ref 51) (.ref 31) = some false := by rfl
theorem exm55 {P : Params} : exmOne (hd.heap_39 P) (.ref 51) (.ref 51) = some true := by rfl
set_option maxHeartbeats 8000000 in
theorem caught0_code {w : World} {loose : List Str} {mean : ExcName → Option Value} {mg mb : Str → Option Value} {h₀ : Heap} {A : Around} {s : Shared} {R : Result → Shared → Prop} {D : Addr} {nm : Str} {t t0 : Tok} {outer : List Env}
    (B : Bs w loose mean mg mb h₀ s.heap) (hh : A.handled = none) (hdp : A.depth < 600) (hu : A.units < 1700) (hfr : A.frames = some outer) (hfun : s.heap.FunFrames h₀ outer)
    (ret : ∀ h' tk' U u n, h'.get? U = some ⟨.type "tuple", none, .seq #[.str nm u, .ref D] n, #[]⟩ → s.heap.get? U = none → Kept s.heap h' (outer.filterMap (·.frame)) → (∀ b o, s.heap.get? b = some o → ∃ sl, h'.get? b = some { o with slots := sl }) →
      R (.ok (.ret (.ref U))) { s with heap := h', toks := tk' }) :
    codeAny (model Challenge.rw_oj0014_01.prog w) A (.call (.ref 133) ⟨[.str nm t, .ref D, .int 0 t0], []⟩) R s := by
  obtain ⟨hnd, dp, fr, gd, un⟩ := A
  dsimp only at hh hdp hu hfr
  subst hh hfr
  have KX := B.K
  revert KX; k_fill; intro KX
  refine enter_plainH B (outer.filterMap (·.frame)) (fun q hq => (hfun.mem hq).1) ?_ (by k_is) (by k_is) (BindsTo.of_eq (binds := [(Str.ofString "name", .str nm t), (Str.ofString "data", .ref D), (Str.ofString "limit", .int 0 t0)]) rfl) (locs rfl) ?_ rfl rfl rfl (by decide)
  · simp only [recursionLimit]; omega
  intro g L' h₁ F N X T kp lt hg hk
  (try dsimp only)
  have FF := fun_base hfun hg kp
  refine wpAny_execs_cons (wpAny_Try_except ?_)
  repeat ((fail_if_success (with_reducible show wpAny _ _ (exec (Stmt.Raise _ _ _) _) _ _ _)); walk1)
  refine Raise_own rfl ?_
  repeat ((fail_if_success (with_reducible show wpAny _ _ (call (Value.ref 31) _) _ _ _)); walk1)
  (with_reducible rename Fr _ _ _ _ => F1)
  refine make_lisp F1 X T rfl ?_ ?_ fun e h₂ tk₂ dx tt Z => ?_
  · refine lt_of_depth ?_; dsimp only [Around.deeper]; omega
  · refine lt_of_depth ?_; dsimp only [Around.deeper]; omega
  have ge : g.get? e = none := none_of F1.keep Z.newE
  have gdx : g.get? dx = none := none_of F1.keep Z.newD
  have F2 := F1.keeps Z.keep
  have hLe : L' ≠ e := by
    rintro rfl
    obtain ⟨o, _, _, q, _⟩ := F1.ns
    exact absurd (Z.newE.symm.trans q) (by simp)
  have hLdx : dx ≠ L' := by
    rintro rfl
    obtain ⟨o, _, _, q, _⟩ := F1.ns
    exact absurd (Z.newD.symm.trans q) (by simp)
  have kp2 : ∀ b o, s.heap.get? b = some o → h₂.get? b = some o := fun b o q => Z.keep b o (kp b o q)
  clear F1
  refine ⟨e, 31, 30, 28, _, _, _, rfl, (lisp_cls X).keeps F2.keep, Z.at_, rfl, rfl, rfl, ?_⟩
  have gL : g.get? L' = none := Heap.get?_none_of_le F2.above
  have FF2 : ∀ env' : Env, env'.scope.kind ≠ .module → env'.frame = some L' → h₂.FunFrames g (env' :: outer) := fun env' k q => by
    obtain ⟨oL, es, ep, e1, hd1, _⟩ := F2.ns
    exact ⟨k, ⟨L', oL, q, gL, e1, fun vs q => by rw [hd1] at q; cases q⟩, fun_base hfun hg kp2⟩
  have gS : ∀ b ∈ L' :: outer.filterMap (·.frame), g.get? b = none := fun b hb => by
    rcases List.mem_cons.mp hb with rfl | hb
    · exact gL
    · exact hg b hb
  refine note_first (base := g) (L := L') rfl (FF2 _ (by intro q; cases q) rfl) rfl Z.at_ rfl fun h₃ TT Zt nT keep3 slots3 => ?_
  replace keep3 : ∀ b o, b ∉ L' :: outer.filterMap (·.frame) → b ≠ e → h₂.get? b = some o → h₃.get? b = some o := keep3
  have F3 := fr_noted F2 keep3 slots3 gS ge hLe
  refine flight_none Zt fun h₄ Zt4 keep4 => ?_
  have gT : g.get? TT = none := none_of F2.keep nT
  have hLT : L' ≠ TT := by
    rintro rfl
    obtain ⟨o, _, _, q, _⟩ := F2.ns
    exact absurd (nT.symm.trans q) (by simp)
  have F4 : Fr g L' h₄ _ := fr_but F3 (fun b o h1 _ q => keep4 b o h1 q) hLT hLT gT gT
  clear F2 F3
  refine handle_own (K := hd.heap_39 w.params) (C := 31) (C' := 31) (b := true) exm11 fun E' => ?_
  walk1
  refine ⟨rfl, X.keeps F4.keep, ⟨_, Zt4.at_, rfl⟩, ?_⟩
  rw [if_pos rfl]
  intro E1 E2
  refine flight_none Zt4 fun h₅ Zt5 keep5 => ?_
  have F5 : Fr g L' h₅ _ := fr_but F4 (fun b o h1 _ q => keep5 b o h1 q) hLT hLT gT gT
  have N5 : News g L' h₅ [] := News.nil
  clear F4
  have kp5 : ∀ b o, b ∉ L' :: outer.filterMap (·.frame) → b ≠ e → h₂.get? b = some o → h₅.get? b = some o := fun b o h1 h2 q => by
    have hb : b ≠ TT := by rintro rfl; rw [nT] at q; cases q
    exact keep5 b o hb (keep4 b o hb (keep3 b o h1 h2 q))
  have sl5 : ∀ b o, b ≠ e → h₂.get? b = some o → ∃ sl, h₅.get? b = some { o with slots := sl } := fun b o h2 q => by
    have hb : b ≠ TT := by rintro rfl; rw [nT] at q; cases q
    obtain ⟨sl, q3⟩ := slots3 b o h2 q
    exact ⟨sl, keep5 b _ hb (keep4 b _ hb q3)⟩
  clear keep3 keep4 keep5 slots3
  have hdS : dx ∉ L' :: outer.filterMap (·.frame) := by
    intro hm
    rcases List.mem_cons.mp hm with rfl | hm
    · exact hLdx rfl
    · obtain ⟨_, o, q, _⟩ := FF.mem hm
      exact absurd (Z.newD.symm.trans q) (by simp)
  have nd5 := Z.ns.at fun o q => kp5 dx o hdS Z.ne q
  refine wpAny_storeName_local (m := fun y => [(Str.ofString "name", Value.str nm t), (Str.ofString "data", .ref D), (Str.ofString "limit", .int 0 t0)].reverse.lookup y) rfl F5.ns (fun h₆ hn₆ hs₆ => ?_) rfl
  have kp6 : ∀ b o, b ≠ L' → h₅.get? b = some o → h₆.get? b = some o := fun b o hb q => hs₆.extBut b o hb q
  have F6 : Fr g L' h₆ _ := ⟨hn₆, fun b o q => kp6 b o (by rintro rfl; rw [gL] at q; cases q) (F5.keep b o q), F5.above⟩
  have N6 : News g L' h₆ [] := News.nil
  have e6 := kp6 _ _ (Ne.symm hLe) Zt5.at_
  have nd6 := nd5.at fun o q => kp6 dx o hLdx q
  obtain ⟨od, ed6⟩ : ∃ od, h₆.get? dx = some od := by obtain ⟨o, _, _, q, _⟩ := nd6; exact ⟨o, q⟩
  clear F5 N5
  repeat ((fail_if_success (with_reducible show wpAny _ _ (getAttr _ _ _) _ _ _)); walk1)
  refine get_exc (X.keeps F6.keep) ((lisp_cls X).keeps F6.keep) ⟨e6, rfl, rfl, ed6⟩ fga fgh (findObj_own fd fx rfl (lookIn_ns nd6 ed6 rfl)) rfl ?_
  repeat ((fail_if_success (with_reducible show wpAny _ _ (getAttr _ _ _) _ _ _)); walk1)
  refine get_exc (X.keeps F6.keep) ((lisp_cls X).keeps F6.keep) ⟨e6, rfl, rfl, ed6⟩ fga fgh (findObj_own fd fx2 rfl (lookIn_ns nd6 ed6 rfl)) rfl ?_
  repeat ((fail_if_success (with_reducible show wpAny _ _ (newTuple _) _ _ _)); walk1)
  refine wpAny_newObj_type ?_ (by show (2 : Nat) ≤ sizeLine; decide)
  have eU := Heap.get?_push_size h₆ (o := { cls := .type "tuple", data := .seq #[Value.str nm t, Value.ref D] }) rfl
  have up7 : ∀ b o, h₆.get? b = some o → (h₆.push { cls := .type "tuple", data := .seq #[Value.str nm t, Value.ref D] }).get? b = some o := fun b o q => Heap.get?_push_of_some _ q
  have n7 := F6.ns.at' fun o q => up7 _ o q
  have hUL : h₆.objs.size ≠ L' := by rintro rfl; exact Nat.lt_irrefl _ F6.ns.lt
  dsimp only
  refine wpAny_nameGoes rfl n7 rfl fun h₈ m₈ hn₈ hs₈ => ?_
  dsimp only
  have kp8 : ∀ b o, b ≠ L' → h₆.get? b = some o → h₈.get? b = some o := fun b o hb q => hs₈.extBut b o hb (up7 b o q)
  have eU8 := hs₈.extBut _ _ hUL eU
  have hes : ∀ b o, s.heap.get? b = some o → b ≠ e := fun b o q => by rintro rfl; rw [none_of kp Z.newE] at q; cases q
  refine ret h₈ _ h₆.objs.size t _ eU8 ?_ ?_ ?_
  · cases q : s.heap.get? h₆.objs.size with
    | none => rfl
    | some o =>
      have hbL : h₆.objs.size ≠ L' := hUL
      obtain ⟨sl, q5⟩ := sl5 _ o (hes _ o q) (kp2 _ o q)
      exact absurd (Heap.lt_size (kp6 _ _ hbL q5)) (Nat.lt_irrefl _)
  · intro b o q nb
    have hbL : b ≠ L' := Nat.ne_of_lt (lt b o q)
    exact kp8 b o hbL (kp6 b o hbL (kp5 b o (by simp only [List.mem_cons, not_or]; exact ⟨hbL, nb⟩) (hes b o q) (kp2 b o q)))
  · intro b o q
    have hbL : b ≠ L' := Nat.ne_of_lt (lt b o q)
    obtain ⟨sl, q5⟩ := sl5 b o (hes b o q) (kp2 b o q)
    exact ⟨sl, kp8 b _ hbL (kp6 b _ hbL q5)⟩
set_option maxHeartbeats 8000000 in
theorem caught7_code {w : World} {loose : List Str} {mean : ExcName → Option Value} {mg mb : Str → Option Value} {h₀ : Heap} {A : Around} {s : Shared} {R : Result → Shared → Prop} {D : Addr} {nm : Str} {t t0 : Tok} {outer : List Env}
    (B : Bs w loose mean mg mb h₀ s.heap) (hh : A.handled = none) (hdp : A.depth < 600) (hu : A.units < 1700) (hfr : A.frames = some outer) (hfun : s.heap.FunFrames h₀ outer)
    (ret : ∀ h' tk' U u n, h'.get? U = some ⟨.type "tuple", none, .seq #[.str (Str.ofString "steps") u, .int 7 t0] n, #[]⟩ → s.heap.get? U = none → Kept s.heap h' (outer.filterMap (·.frame)) → (∀ b o, s.heap.get? b = some o → ∃ sl, h'.get? b = some { o with slots := sl }) →
      R (.ok (.ret (.ref U))) { s with heap := h', toks := tk' }) :
    codeAny (model Challenge.rw_oj0014_01.prog w) A (.call (.ref 133) ⟨[.str nm t, .ref D, .int 7 t0], []⟩) R s := by
  obtain ⟨hnd, dp, fr, gd, un⟩ := A
  dsimp only at hh hdp hu hfr
  subst hh hfr
  have KX := B.K
  revert KX; k_fill; intro KX
  refine enter_plainH B (outer.filterMap (·.frame)) (fun q hq => (hfun.mem hq).1) ?_ (by k_is) (by k_is) (BindsTo.of_eq (binds := [(Str.ofString "name", .str nm t), (Str.ofString "data", .ref D), (Str.ofString "limit", .int 7 t0)]) rfl) (locs rfl) ?_ rfl rfl rfl (by decide)
  · simp only [recursionLimit]; omega
  intro g L' h₁ F N X T kp lt hg hk
  (try dsimp only)
  have FF := fun_base hfun hg kp
  refine wpAny_execs_cons (wpAny_Try_except ?_)
  repeat ((fail_if_success (with_reducible show wpAny _ _ (exec (Stmt.Raise _ _ _) _) _ _ _)); walk1)
  refine Raise_own rfl ?_
  repeat ((fail_if_success (with_reducible show wpAny _ _ (call (Value.ref 51) _) _ _ _)); walk1)
  (with_reducible rename Fr _ _ _ _ => F1)
  refine make_steps F1 X T rfl ?_ ?_ fun e h₂ tk₂ dx tt Z => ?_
  · refine lt_of_depth ?_; dsimp only [Around.deeper]; omega
  · refine lt_of_depth ?_; dsimp only [Around.deeper]; omega
  have ge : g.get? e = none := none_of F1.keep Z.newE
  have gdx : g.get? dx = none := none_of F1.keep Z.newD
  have F2 := F1.keeps Z.keep
  have hLe : L' ≠ e := by
    rintro rfl
    obtain ⟨o, _, _, q, _⟩ := F1.ns
    exact absurd (Z.newE.symm.trans q) (by simp)
  have hLdx : dx ≠ L' := by
    rintro rfl
    obtain ⟨o, _, _, q, _⟩ := F1.ns
    exact absurd (Z.newD.symm.trans q) (by simp)
  have kp2 : ∀ b o, s.heap.get? b = some o → h₂.get? b = some o := fun b o q => Z.keep b o (kp b o q)
  clear F1
  refine ⟨e, 51, 50, 48, _, _, _, rfl, (steps_cls X).keeps F2.keep, Z.at_, rfl, rfl, rfl, ?_⟩
  have gL : g.get? L' = none := Heap.get?_none_of_le F2.above
  have FF2 : ∀ env' : Env, env'.scope.kind ≠ .module → env'.frame = some L' → h₂.FunFrames g (env' :: outer) := fun env' k q => by
    obtain ⟨oL, es, ep, e1, hd1, _⟩ := F2.ns
    exact ⟨k, ⟨L', oL, q, gL, e1, fun vs q => by rw [hd1] at q; cases q⟩, fun_base hfun hg kp2⟩
  have gS : ∀ b ∈ L' :: outer.filterMap (·.frame), g.get? b = none := fun b hb => by
    rcases List.mem_cons.mp hb with rfl | hb
    · exact gL
    · exact hg b hb
  refine note_first (base := g) (L := L') rfl (FF2 _ (by intro q; cases q) rfl) rfl Z.at_ rfl fun h₃ TT Zt nT keep3 slots3 => ?_
  replace keep3 : ∀ b o, b ∉ L' :: outer.filterMap (·.frame) → b ≠ e → h₂.get? b = some o → h₃.get? b = some o := keep3
  have F3 := fr_noted F2 keep3 slots3 gS ge hLe
  refine flight_none Zt fun h₄ Zt4 keep4 => ?_
  have gT : g.get? TT = none := none_of F2.keep nT
  have hLT : L' ≠ TT := by
    rintro rfl
    obtain ⟨o, _, _, q, _⟩ := F2.ns
    exact absurd (nT.symm.trans q) (by simp)
  have F4 : Fr g L' h₄ _ := fr_but F3 (fun b o h1 _ q => keep4 b o h1 q) hLT hLT gT gT
  clear F2 F3
  refine handle_own (K := hd.heap_39 w.params) (C := 51) (C' := 31) (b := false) exm51 fun E' => ?_
  walk1
  refine ⟨rfl, X.keeps F4.keep, ⟨_, Zt4.at_, rfl⟩, ?_⟩
  rw [if_neg Bool.false_ne_true]
  refine handle_own (K := hd.heap_39 w.params) (C := 51) (C' := 51) (b := true) exm55 fun E' => ?_
  walk1
  refine ⟨rfl, X.keeps F4.keep, ⟨_, Zt4.at_, rfl⟩, ?_⟩
  rw [if_pos rfl]
  intro E1 E2
  refine flight_none Zt4 fun h₅ Zt5 keep5 => ?_
  have F5 : Fr g L' h₅ _ := fr_but F4 (fun b o h1 _ q => keep5 b o h1 q) hLT hLT gT gT
  have N5 : News g L' h₅ [] := News.nil
  clear F4
  have kp5 : ∀ b o, b ∉ L' :: outer.filterMap (·.frame) → b ≠ e → h₂.get? b = some o → h₅.get? b = some o := fun b o h1 h2 q => by
    have hb : b ≠ TT := by rintro rfl; rw [nT] at q; cases q
    exact keep5 b o hb (keep4 b o hb (keep3 b o h1 h2 q))
  have sl5 : ∀ b o, b ≠ e → h₂.get? b = some o → ∃ sl, h₅.get? b = some { o with slots := sl } := fun b o h2 q => by
    have hb : b ≠ TT := by rintro rfl; rw [nT] at q; cases q
    obtain ⟨sl, q3⟩ := slots3 b o h2 q
    exact ⟨sl, keep5 b _ hb (keep4 b _ hb q3)⟩
  clear keep3 keep4 keep5 slots3
  have hdS : dx ∉ L' :: outer.filterMap (·.frame) := by
    intro hm
    rcases List.mem_cons.mp hm with rfl | hm
    · exact hLdx rfl
    · obtain ⟨_, o, q, _⟩ := FF.mem hm
      exact absurd (Z.newD.symm.trans q) (by simp)
  have nd5 := Z.ns.at fun o q => kp5 dx o hdS Z.ne q
  refine wpAny_storeName_local (m := fun y => [(Str.ofString "name", Value.str nm t), (Str.ofString "data", .ref D), (Str.ofString "limit", .int 7 t0)].reverse.lookup y) rfl F5.ns (fun h₆ hn₆ hs₆ => ?_) rfl
  have kp6 : ∀ b o, b ≠ L' → h₅.get? b = some o → h₆.get? b = some o := fun b o hb q => hs₆.extBut b o hb q
  have F6 : Fr g L' h₆ _ := ⟨hn₆, fun b o q => kp6 b o (by rintro rfl; rw [gL] at q; cases q) (F5.keep b o q), F5.above⟩
  have N6 : News g L' h₆ [] := News.nil
  have e6 := kp6 _ _ (Ne.symm hLe) Zt5.at_
  have nd6 := nd5.at fun o q => kp6 dx o hLdx q
  obtain ⟨od, ed6⟩ : ∃ od, h₆.get? dx = some od := by obtain ⟨o, _, _, q, _⟩ := nd6; exact ⟨o, q⟩
  clear F5 N5
  repeat ((fail_if_success (with_reducible show wpAny _ _ (getAttr _ _ _) _ _ _)); walk1)
  refine get_exc (X.keeps F6.keep) ((steps_cls X).keeps F6.keep) ⟨e6, rfl, rfl, ed6⟩ fga5 fgh5 (findObj_own fd5 fx3 rfl (lookIn_ns nd6 ed6 rfl)) rfl ?_
  repeat ((fail_if_success (with_reducible show wpAny _ _ (newTuple _) _ _ _)); walk1)
  refine wpAny_newObj_type ?_ (by show (2 : Nat) ≤ sizeLine; decide)
  have eU := Heap.get?_push_size h₆ (o := { cls := .type "tuple", data := .seq #[Value.str (Str.ofString "steps") (tk₂ + 1), Value.int 7 t0] }) rfl
  have up7 : ∀ b o, h₆.get? b = some o → (h₆.push { cls := .type "tuple", data := .seq #[Value.str (Str.ofString "steps") (tk₂ + 1), Value.int 7 t0] }).get? b = some o := fun b o q => Heap.get?_push_of_some _ q
  have n7 := F6.ns.at' fun o q => up7 _ o q
  have hUL : h₆.objs.size ≠ L' := by rintro rfl; exact Nat.lt_irrefl _ F6.ns.lt
  dsimp only
  refine wpAny_nameGoes rfl n7 rfl fun h₈ m₈ hn₈ hs₈ => ?_
  dsimp only
  have kp8 : ∀ b o, b ≠ L' → h₆.get? b = some o → h₈.get? b = some o := fun b o hb q => hs₈.extBut b o hb (up7 b o q)
  have eU8 := hs₈.extBut _ _ hUL eU
  have hes : ∀ b o, s.heap.get? b = some o → b ≠ e := fun b o q => by rintro rfl; rw [none_of kp Z.newE] at q; cases q
  refine ret h₈ _ h₆.objs.size (tk₂ + 1) _ eU8 ?_ ?_ ?_
  · cases q : s.heap.get? h₆.objs.size with
    | none => rfl
    | some o =>
      have hbL : h₆.objs.size ≠ L' := hUL
      obtain ⟨sl, q5⟩ := sl5 _ o (hes _ o q) (kp2 _ o q)
      exact absurd (Heap.lt_size (kp6 _ _ hbL q5)) (Nat.lt_irrefl _)
  · intro b o q nb
    have hbL : b ≠ L' := Nat.ne_of_lt (lt b o q)
    exact kp8 b o hbL (kp6 b o hbL (kp5 b o (by simp only [List.mem_cons, not_or]; exact ⟨hbL, nb⟩) (hes b o q) (kp2 b o q)))
  · intro b o q
    have hbL : b ≠ L' := Nat.ne_of_lt (lt b o q)
    obtain ⟨sl, q5⟩ := sl5 b o (hes b o q) (kp2 b o q)
    exact ⟨sl, kp8 b _ hbL (kp6 b _ hbL q5)⟩
theorem caught_after {g h h' : Heap} {L : Addr} {m : Str → Option Value} {nw : List (Addr × Obj)} (F : Fr g L h m) (N : News g L h nw) (k : Kept h h' [L]) (sl : ∀ b o, h.get? b = some o → ∃ sl, h'.get? b = some { o with slots := sl }) : Fr g L h' m ∧ News g L h' nw := by
  refine ⟨⟨?_, fun b o q => k b o (F.keep b o q) (by
    rw [List.mem_singleton]; rintro rfl
    exact absurd (Heap.lt_size q) (Nat.not_lt.mpr F.above)), F.above⟩, fun p hp => ⟨k _ _ (N p hp).1 (by rw [List.mem_singleton]; exact (N p hp).2.1), (N p hp).2⟩⟩
  obtain ⟨o, es, ep, e1, hd, k', f⟩ := F.ns
  obtain ⟨s', e2⟩ := sl L o e1
  exact ⟨_, es, ep, e2, hd, k', f⟩
section
variable {w : World} {loose : List Str} {mean : ExcName → Option Value} {mg mb : Str → Option Value} {g : Heap} {L : Addr} {m : Str → Option Value} {nw : List (Addr × Obj)} {A : Around} {s : Shared} {Q E : Value → Shared → Prop} {D : Addr} {nm : Str} {t t0 : Tok} {env : Env}
theorem fun_one (F : Fr g L s.heap m) (hf : env.frame = some L) (hk : env.scope.kind ≠ .module) : s.heap.FunFrames g [env] := by
  obtain ⟨o, es, ep, e1, hd, _⟩ := F.ns
  exact ⟨hk, ⟨L, o, hf, Heap.get?_none_of_le F.above, e1, fun vs q => by rw [hd] at q; cases q⟩, trivial⟩
theorem caught0_call (F : Fr g L s.heap m) (N : News g L s.heap nw) (X : (hd.heap_39 w.params).In g) (T : Top hd.view_39 loose mean mg mb g) (hh : A.handled = none) (hdp : A.depth < 600) (hu : A.units < 1700) (hfr : A.frames = some [env]) (hf : env.frame = some L) (hk : env.scope.kind ≠ .module)
    (ret : ∀ h' tk' U u n, h'.get? U = some ⟨.type "tuple", none, .seq #[.str nm u, .ref D] n, #[]⟩ → s.heap.get? U = none → Fr g L h' m → News g L h' nw → Kept s.heap h' [L] → Q (.ref U) { s with heap := h', toks := tk' }) :
    wpAny (model Challenge.rw_oj0014_01.prog w) A (call (.ref 133) [.str nm t, .ref D, .int 0 t0]) Q E s := by
  refine wpAny_call (caught0_code ⟨X, T, F.keep⟩ hh hdp hu hfr (fun_one F hf hk) fun h' tk' U u n eU nU kp sl => ?_)
  have kp' : Kept s.heap h' [L] := by simpa [hf] using kp
  obtain ⟨F', N'⟩ := caught_after F N kp' sl
  exact ret h' tk' U u n eU nU F' N' kp'
theorem caught7_call (F : Fr g L s.heap m) (N : News g L s.heap nw) (X : (hd.heap_39 w.params).In g) (T : Top hd.view_39 loose mean mg mb g) (hh : A.handled = none) (hdp : A.depth < 600) (hu : A.units < 1700) (hfr : A.frames = some [env]) (hf : env.frame = some L) (hk : env.scope.kind ≠ .module)
    (ret : ∀ h' tk' U u n, h'.get? U = some ⟨.type "tuple", none, .seq #[.str (Str.ofString "steps") u, .int 7 t0] n, #[]⟩ → s.heap.get? U = none → Fr g L h' m → News g L h' nw → Kept s.heap h' [L] → Q (.ref U) { s with heap := h', toks := tk' }) :
    wpAny (model Challenge.rw_oj0014_01.prog w) A (call (.ref 133) [.str nm t, .ref D, .int 7 t0]) Q E s := by
  refine wpAny_call (caught7_code ⟨X, T, F.keep⟩ hh hdp hu hfr (fun_one F hf hk) fun h' tk' U u n eU nU kp sl => ?_)
  have kp' : Kept s.heap h' [L] := by simpa [hf] using kp
  obtain ⟨F', N'⟩ := caught_after F N kp' sl
  exact ret h' tk' U u n eU nU F' N' kp'
end
end Mine
end

section
open PySem PySem.W PySem.Calls PyProof.Rows
namespace Mine
section
variable {prog : Program} {w : World} {A : Around} {E : Value → Shared → Prop} {env : Env}
theorem none_below {h h' : Heap} {b : Addr} (k : ∀ b o, h.get? b = some o → h'.get? b = some o) (e : h'.get? b = none) : h.get? b = none := by
  cases q : h.get? b with
  | none => rfl
  | some o => rw [k _ _ q] at e; cases e
/-- a for loop by an invariant over the turn's number, the frame's map and the heap -/
theorem For_inv {s : Shared} {iter : Expr} {x : Str} {px pos : Pos} {body : List Stmt} {Q : Flow → Shared → Prop} (hx : env.kindOf x = some .local) (hp : (env.scope.kind == .class || (env.scope.kind == .module && env.locals != env.globals)) = false)
    (h : wpAny (model prog w) A (eval iter env) (fun xv s₁ => wpAny (model prog w) A (pyIter xv) (fun it s₂ => ∃ (I : Addr) (fp wr : List Addr) (n : Nat) (P : Nat → Value → Prop) (St : Nat → Heap → Prop) (J : Nat → (Str → Option Value) → Heap → Prop) (m : Str → Option Value), it = .ref I ∧ Walks prog w A I fp wr n P St ∧ St 0 s₂.heap ∧
      env.locals ∉ fp ∧ s₂.heap.Ns env.locals m ∧ J 0 m s₂.heap ∧
      (∀ i m h h', J i m h → (∀ b o, b ≠ env.locals → b ∉ wr → h.get? b = some o → h'.get? b = some o) → J i m h') ∧
      (∀ i v m h tk E', i < n → P i v → St (i + 1) h → J i m h → h.Ns env.locals (fun y => if y = x then some v else m y) →
        wpAny (model prog w) A (execs body env) (fun f s₃ => (f = .next ∧ ∃ m' h₃ tk₃, s₃ = { s₂ with heap := h₃, toks := tk₃ } ∧ h₃.Ns env.locals m' ∧ J (i + 1) m' h₃ ∧ (∀ b ∈ fp, ∀ o, h.get? b = some o → h₃.get? b = some o)) ∨ ∃ v, f = .ret v ∧ Q (.ret v) s₃) E' { s₂ with heap := h, toks := tk }) ∧
      (∀ m h tk, h.Ns env.locals m → J n m h → Q .next { s₂ with heap := h, toks := tk })) E s₁) E s)
    (hs : ∀ x, foldedSetIterable iter env x = pure x := by intro _; rfl) :
    wpAny (model prog w) A (exec (.For (.Name x px) iter body [] pos) env) Q E s := by
  refine wpAny_For (wpAny_mono h (fun xv s₁ h₁ => wpAny_mono h₁ (fun it s₂ h₂ => ?_) fun _ _ e => e) fun _ _ e => e) hs
  obtain ⟨I, fp, wr, n, P, St, J, m, rfl, W, hst, hLf, hn, hJ, jm, turn, fin⟩ := h₂
  refine codeAny_forLoop (fun k s' => ∃ i m' h' tk, s' = { s₂ with heap := h', toks := tk } ∧ St i h' ∧ h'.Ns env.locals m' ∧ J i m' h' ∧ i ≤ n ∧ k = n + 1 - i) ?_ (n + 1) ⟨0, m, s₂.heap, s₂.toks, rfl, hst, hn, hJ, Nat.zero_le _, rfl⟩
  rintro k s' ⟨i, m', h', tk, rfl, hst', hn', hJ', hi, rfl⟩
  have hLw : env.locals ∉ wr := fun q => hLf (W.sub _ q)
  by_cases hlt : i < n
  · refine W.item i _ _ _ hlt hst' fun v h₁ tk₁ hPv hst₁ hk₁ => ?_
    have hn₁ := hn'.at' fun o e => hk₁ _ o hLw e
    refine wpAny_assign_Name (wpAny_storeName_local hx hn₁ (fun h₂ hn₂ hs₂ => ?_) hp)
    have hJ₂ : J i m' h₂ := jm i m' _ _ hJ' fun b o hb hbw e => hs₂.extBut b o hb (hk₁ b o hbw e)
    have hst₂ : St i.succ h₂ := W.frame _ _ _ hst₁ fun b hb o e => hs₂.extBut b o (fun q => hLf (q ▸ hb)) e
    refine wpAny_mono (turn i v m' h₂ _ _ hlt hPv hst₂ hJ₂ hn₂) (fun f s₃ h₃ => ?_) fun _ _ e => e
    rcases h₃ with ⟨rfl, m₃, h₃, tk₃, rfl, hn₃, hJ₃, kf⟩ | ⟨v', rfl, hq⟩
    · exact ⟨n + 1 - (i + 1), by omega, i + 1, m₃, h₃, tk₃, rfl, W.frame _ _ _ hst₂ fun b hb o e => kf b hb o e, hn₃, hJ₃, hlt, rfl⟩
    · exact hq
  · have hin : i = n := by omega
    subst hin
    refine W.done _ _ _ hst' fun h₁ tk₁ hk₁ => wpAny_execs_nil ?_
    exact fin m' h₁ _ (hn'.at' fun o e => hk₁ _ o hLw e) (jm _ _ _ _ hJ' fun b o _ hbw e => hk₁ b o hbw e)
end
end Mine
end

section
open PySem PySem.W PySem.Calls PyProof.Rows
namespace Mine
/-- the table of conditions -/
def condTable : List (Str × List Str) := [
  (Str.ofString "error", [Str.ofString "error"]),
  (Str.ofString "quit", [Str.ofString "quit"]),
  (Str.ofString "user-error", [Str.ofString "user-error", Str.ofString "error"]),
  (Str.ofString "wrong-type-argument", [Str.ofString "wrong-type-argument", Str.ofString "error"]),
  (Str.ofString "args-out-of-range", [Str.ofString "args-out-of-range", Str.ofString "error"]),
  (Str.ofString "void-function", [Str.ofString "void-function", Str.ofString "error"]),
  (Str.ofString "void-variable", [Str.ofString "void-variable", Str.ofString "error"]),
  (Str.ofString "cyclic-function-indirection", [Str.ofString "cyclic-function-indirection", Str.ofString "error"]),
  (Str.ofString "cyclic-variable-indirection", [Str.ofString "cyclic-variable-indirection", Str.ofString "error"]),
  (Str.ofString "circular-list", [Str.ofString "circular-list", Str.ofString "error"]),
  (Str.ofString "setting-constant", [Str.ofString "setting-constant", Str.ofString "error"]),
  (Str.ofString "invalid-read-syntax", [Str.ofString "invalid-read-syntax", Str.ofString "error"]),
  (Str.ofString "invalid-function", [Str.ofString "invalid-function", Str.ofString "error"]),
  (Str.ofString "wrong-number-of-arguments", [Str.ofString "wrong-number-of-arguments", Str.ofString "error"]),
  (Str.ofString "end-of-file", [Str.ofString "end-of-file", Str.ofString "error"]),
  (Str.ofString "arith-error", [Str.ofString "arith-error", Str.ofString "error"]),
  (Str.ofString "beginning-of-buffer", [Str.ofString "beginning-of-buffer", Str.ofString "error"]),
  (Str.ofString "end-of-buffer", [Str.ofString "end-of-buffer", Str.ofString "error"]),
  (Str.ofString "buffer-read-only", [Str.ofString "buffer-read-only", Str.ofString "error"]),
  (Str.ofString "mark-inactive", [Str.ofString "mark-inactive", Str.ofString "error"]),
  (Str.ofString "search-failed", [Str.ofString "search-failed", Str.ofString "error"]),
  (Str.ofString "invalid-regexp", [Str.ofString "invalid-regexp", Str.ofString "error"]),
  (Str.ofString "scan-error", [Str.ofString "scan-error", Str.ofString "error"]),
  (Str.ofString "file-error", [Str.ofString "file-error", Str.ofString "error"]),
  (Str.ofString "no-catch", [Str.ofString "no-catch", Str.ofString "error"]),
  (Str.ofString "coding-system-error", [Str.ofString "coding-system-error", Str.ofString "error"]),
  (Str.ofString "text-read-only", [Str.ofString "text-read-only", Str.ofString "buffer-read-only", Str.ofString "error"]),
  (Str.ofString "overflow-error", [Str.ofString "overflow-error", Str.ofString "range-error", Str.ofString "arith-error", Str.ofString "error"]),
  (Str.ofString "file-already-exists", [Str.ofString "file-already-exists", Str.ofString "file-error", Str.ofString "error"]),
  (Str.ofString "file-missing", [Str.ofString "file-missing", Str.ofString "file-error", Str.ofString "error"]),
  (Str.ofString "file-locked", [Str.ofString "file-locked", Str.ofString "file-error", Str.ofString "error"]),
  (Str.ofString "minibuffer-quit", [Str.ofString "minibuffer-quit", Str.ofString "quit"])]
def condNames : List Str := [Str.ofString "user-error", Str.ofString "wrong-type-argument", Str.ofString "args-out-of-range", Str.ofString "void-function", Str.ofString "void-variable", Str.ofString "cyclic-function-indirection", Str.ofString "cyclic-variable-indirection", Str.ofString "circular-list", Str.ofString "setting-constant", Str.ofString "invalid-read-syntax", Str.ofString "invalid-function", Str.ofString "wrong-number-of-arguments", Str.ofString "end-of-file", Str.ofString "arith-error", Str.ofString "beginning-of-buffer", Str.ofString "end-of-buffer", Str.ofString "buffer-read-only", Str.ofString "mark-inactive", Str.ofString "search-failed", Str.ofString "invalid-regexp", Str.ofString "scan-error", Str.ofString "file-error", Str.ofString "no-catch", Str.ofString "coding-system-error"]
theorem cond_len : condTable.length = 32 := rfl
theorem cond_row : ∀ i : Fin 24, condTable[2 + i.val]? = (condNames[i.val]?).map fun n => (n, [n, Str.ofString "error"]) := by decide +kernel
theorem cond_fresh : ∀ j : Fin 32, (condTable.take j.val).all (fun p => decide (p.1 ≠ (condTable[j.val]'(by rw [cond_len]; exact j.isLt)).1)) = true := by decide +kernel
/-- rows of texts, each a list of its own -/
inductive TabL (h : Heap) (bad : Addr → Prop) : List (Str × Value) → List (Str × List Str) → Prop
  | nil : TabL h bad [] []
  | cons {k : Str} {a : Addr} {n : Nat} {vs : List Value} {ts : List Str} {l D} : h.get? a = some (listOf vs.toArray n) → StrsAre vs ts → ¬ bad a → TabL h bad l D → TabL h bad ((k, .ref a) :: l) ((k, ts) :: D)
theorem TabL.keeps {h h' : Heap} {bad : Addr → Prop} {l D} (x : TabL h bad l D) (k : ∀ b o, ¬ bad b → h.get? b = some o → h'.get? b = some o) : TabL h' bad l D := by
  induction x with
  | nil => exact .nil
  | cons e s nb _ ih => exact .cons (k _ _ nb e) s nb ih
theorem TabL.mono {h : Heap} {bad bad' : Addr → Prop} {l D} (x : TabL h bad l D) (k : ∀ a, (∃ o, h.get? a = some o) → bad' a → bad a) : TabL h bad' l D := by
  induction x with
  | nil => exact .nil
  | cons e s nb _ ih => exact .cons e s (fun q => nb (k _ ⟨_, e⟩ q)) ih
theorem TabL.keysL {h : Heap} {bad : Addr → Prop} {l D} (x : TabL h bad l D) : l.map (·.1) = D.map (·.1) := by induction x with | nil => rfl | cons _ _ _ _ ih => simp [ih]
theorem TabL.lengthL {h : Heap} {bad : Addr → Prop} {l D} (x : TabL h bad l D) : l.length = D.length := by have := congrArg List.length x.keysL; simpa using this
theorem TabL.append {h : Heap} {bad : Addr → Prop} {l D l' D'} (x : TabL h bad l D) (y : TabL h bad l' D') : TabL h bad (l ++ l') (D ++ D') := by
  induction x with
  | nil => exact y
  | cons e s nb _ ih => exact .cons e s nb ih
/-- the dict that is filled: its first j rows -/
structure CS (prog : Program) (w : World) (g h : Heap) (bad : Addr → Prop) (d : Addr) (j : Nat) : Prop where
  tab : ∃ kvs, h.DictOf (strKind prog w) d kvs ∧ TabL h (fun a => bad a ∨ a = d) kvs (condTable.take j)
  nd : ¬ bad d
  gd : g.get? d = none
variable {prog : Program} {w : World}
theorem CS.keeps {g h h' : Heap} {bad : Addr → Prop} {d : Addr} {j : Nat} (x : CS prog w g h bad d j) (k : ∀ b o, ¬ bad b → h.get? b = some o → h'.get? b = some o) : CS prog w g h' bad d j := by
  obtain ⟨⟨kvs, hd, t⟩, nd, gd⟩ := x
  exact ⟨⟨kvs, hd.at fun o e => k _ o nd e, t.keeps fun b o nb e => k b o (fun q => nb (.inl q)) e⟩, nd, gd⟩
theorem CS.mono {g h : Heap} {bad bad' : Addr → Prop} {d : Addr} {j : Nat} (x : CS prog w g h bad d j) (k : ∀ a, (∃ o, h.get? a = some o) → bad' a → bad a) : CS prog w g h bad' d j := by
  obtain ⟨⟨kvs, hd, t⟩, nd, gd⟩ := x
  refine ⟨⟨kvs, hd, t.mono fun a e q => q.elim (fun z => .inl (k a e z)) .inr⟩, fun q => nd (k d ?_ q), gd⟩
  obtain ⟨o, _, _, e, _⟩ := hd
  exact ⟨o, e⟩
theorem cond_next {h : Heap} {bad : Addr → Prop} {kvs : List (Str × Value)} {j : Nat} {x : Str} {ts : List Str} {v : Value} (t : TabL h bad kvs (condTable.take j)) (hj : condTable[j]? = some (x, ts)) : stored kvs x v = kvs ++ [(x, v)] := by
  have hlt : j < 32 := by have := (List.getElem?_eq_some_iff.mp hj).1; rw [cond_len] at this; exact this
  have hf := cond_fresh ⟨j, hlt⟩
  obtain ⟨hl, he⟩ := List.getElem?_eq_some_iff.mp hj
  unfold stored
  rw [if_neg]
  intro q
  rw [List.any_eq_true] at q
  obtain ⟨kv, hkv, e⟩ := q
  have e1 : kv.1 = x := of_decide_eq_true e
  have e2 : x ∈ (condTable.take j).map (·.1) := by rw [← t.keysL, ← e1]; exact List.mem_map_of_mem hkv
  obtain ⟨p, hp, e3⟩ := List.mem_map.mp e2
  have := List.all_eq_true.mp hf p hp
  have e4 : (condTable[j]'hl).1 = x := by rw [he]
  exact (of_decide_eq_true this) (e3.trans e4.symm)
/-- one row more -/
theorem CS.store {A : Around} {E : Value → Shared → Prop} {s : Shared} {g : Heap} {bad : Addr → Prop} {d l : Addr} {j n : Nat} {x : Str} {t : Tok} {vs : List Value} {ts : List Str} {Q : Unit → Shared → Prop}
    (c : CS prog w g s.heap bad d j) (hj : condTable[j]? = some (x, ts)) (hl : s.heap.get? l = some (listOf vs.toArray n)) (hv : StrsAre vs ts) (nb : ¬ bad l) (hld : l ≠ d)
    (h : ∀ h', CS prog w g h' bad d (j + 1) → Heap.SameBut d s.heap h' → Q () { s with heap := h', toks := s.toks + 1 }) :
    wpAny (model prog w) A (setItem (.ref d) (.str x t) (.ref l)) Q E s := by
  obtain ⟨⟨kvs, hd, tb⟩, nd, gd⟩ := c
  have hlt : j < 32 := by have := (List.getElem?_eq_some_iff.mp hj).1; rw [cond_len] at this; exact this
  have hlen : kvs.length ≤ 32 := by rw [tb.lengthL, List.length_take]; omega
  refine wpAny_setItem_pairs (strKind_is prog w x t) hd (fun h' hd' hs' => ?_) (by rw [sizeLine_eq]; omega)
  rw [cond_next tb hj] at hd'
  have k : ∀ b o, ¬ (bad b ∨ b = d) → s.heap.get? b = some o → h'.get? b = some o := fun b o q e => hs'.extBut b o (fun z => q (.inr z)) e
  refine h h' ⟨⟨_, hd', ?_⟩, nd, gd⟩ hs'
  rw [List.take_add_one, hj]
  exact (tb.keeps k).append (.cons (k l _ (fun q => q.elim nb hld) hl) hv (fun q => q.elim nb hld) .nil)
end Mine
end

section
open PySem PySem.W PySem.Calls PyProof.Rows
namespace Mine
theorem off_sc : True := by
  w_top off
  exact True.intro
theorem tuple_iter {prog : Program} {w : World} {A : Around} {E : Value → Shared → Prop} {s : Shared} {D : Addr} {items : Array Value} {Q : Value → Shared → Prop} (hl : s.heap.IsTuple D items)
    (h : ∀ h' I, h'.IsTupleIter I D 0 → h'.IsTuple D items → Kept s.heap h' [] → s.heap.get? I = none → (∀ b o, s.heap.get? b = some o → b ≠ I) → I < h'.objs.size → s.heap.objs.size ≤ I → Q (.ref I) { s with heap := h' }) :
    wpAny (model prog w) A (pyIter (.ref D)) Q E s := by
  refine wpAny_pyIter_tuple hl ?_
  exact h _ _ ⟨_, Heap.get?_push_size _ rfl, rfl, rfl⟩ (hl.at fun o e => Heap.get?_push_of_some _ e) (fun b o e _ => Heap.get?_push_of_some _ e) (get_fresh _) (fun b o e q => by subst q; exact absurd (Heap.lt_size e) (Nat.lt_irrefl _)) (by rw [Heap.size_push]; exact Nat.lt_succ_self _) (Nat.le_refl _)
theorem strs_get {vs : List Value} {ts : List Str} (h : StrsAre vs ts) {i : Nat} {v : Value} (e : vs[i]? = some v) : ∃ x t, v = .str x t ∧ ts[i]? = some x := by
  induction h generalizing i with
  | nil => simp at e
  | cons y t _ ih => cases i with
    | zero => simp at e; subst e; exact ⟨y, t, rfl, rfl⟩
    | succ i => exact ih (by simpa using e)
theorem fresh_facts {prog : Program} {w : World} {g h : Heap} {L l d : Addr} {m : Str → Option Value} {bad : Addr → Prop} {j : Nat} (F : Fr g L h m) (c : CS prog w g h bad d j) (f : h.get? l = none) : l ≠ L ∧ l ≠ d ∧ g.get? l = none := by
  refine ⟨?_, ?_, none_below F.keep f⟩
  · rintro rfl; obtain ⟨o, _, _, e, _⟩ := F.ns; exact absurd (f.symm.trans e) (by simp)
  · rintro rfl; obtain ⟨kvs, ⟨o, _, _, e, _⟩, _⟩ := c.tab; exact absurd (f.symm.trans e) (by simp)
theorem cs_frame {g h h' : Heap} {L d : Addr} {m : Str → Option Value} (F : Fr g L h m) (gd : g.get? d = none) (s : Heap.SameBut d h h') (hd : d ≠ L) : Fr g L h' m :=
  ⟨F.ns.at' fun o e => s.extBut _ o (Ne.symm hd) e, fun b o e => s.extBut b o (by rintro rfl; rw [gd] at e; cases e) (F.keep b o e), F.above⟩
set_option maxHeartbeats 8000000 in
theorem conds_code {w : World} {loose : List Str} {mean : ExcName → Option Value} {mg mb : Str → Option Value} {h₀ : Heap} {A : Around} {s : Shared} {R : Result → Shared → Prop}
    (B : Bs w loose mean mg mb h₀ s.heap) (hh : A.handled = none) (hd : A.depth < 800) (hu : A.units < 2000)
    (ret : ∀ d h' tk' kvs, h'.DictOf (strKind Challenge.rw_oj0014_01.prog w) d kvs → TabL h' (fun a => ∃ o, s.heap.get? a = some o) kvs condTable → s.heap.get? d = none → (d == sysModules) = false → Kept s.heap h' [] → R (.ok (.ret (.ref d))) { s with heap := h', toks := tk' }) :
    codeAny (model Challenge.rw_oj0014_01.prog w) A (.call (.ref 61) ⟨[], []⟩) R s := by
  obtain ⟨hnd, dp, fr, gd, un⟩ := A
  dsimp only at hh hd hu
  subst hh
  have KX := B.K
  revert KX; k_fill; intro KX
  refine enter_plainH B [] (by simp) ?_ (by k_is) (by k_is) (BindsTo.of_eq (binds := []) rfl) (locs rfl) ?_ rfl rfl rfl (by decide)
  · simp only [recursionLimit]; omega
  intro g L' h₁ F N X T kp lt hg hk
  (try dsimp only)
  refine wpAny_execs_cons ?_
  repeat ((fail_if_success (with_reducible show wpAny _ _ (execs _ _) _ _ _)); walk1)
  (with_reducible rename Fr _ _ _ _ => F1)
  (with_reducible rename News _ _ _ _ => N1)
  rename_i d _ _ lod _ _ l1 _ lt1 l2 _ lt2 _ oD hdD h₂
  dsimp only
  with_reducible refine wpAny_execs_cons ?_
  with_reducible refine For_inv ?hx ?hp ?_ ?hs
  case hx => rfl
  case hp => rfl
  case hs => intro _; rfl
  repeat ((fail_if_success (with_reducible show wpAny _ _ (pyIter _) _ _ _)); walk1)
  (with_reducible rename Fr _ _ _ _ => F3)
  (with_reducible rename News _ _ _ _ => N3)
  rename_i TT h₃ ltT
  have cs3 : CS Challenge.rw_oj0014_01.prog w g h₃ (fun a => a = L' ∨ ∃ o, g.get? a = some o) d 2 := by
    have e1 := N3 _ (.tail _ (.head _))
    have e2 := N3 _ (.tail _ (.tail _ (.head _)))
    have e3 := N3 _ (.tail _ (.tail _ (.tail _ (.head _))))
    have fresh : ∀ a, a ≠ L' → g.get? a = none → ¬ (a = L' ∨ ∃ o, g.get? a = some o) := fun a h1 h2 q => by
      rcases q with q | ⟨o, q⟩
      · exact h1 q
      · rw [h2] at q; cases q
    refine ⟨⟨_, Heap.dictOf_iff.mpr ⟨_, e3.1, hdD⟩, ?_⟩, fresh _ e3.2.1 e3.2.2, e3.2.2⟩
    refine .cons e2.1 (.cons _ _ .nil) ?_ (.cons e1.1 (.cons _ _ .nil) ?_ .nil)
    · intro q; rcases q with q | q
      · exact fresh _ e2.2.1 e2.2.2 q
      · have := ltN lt1; exact (neN (b := d) (a := l1) (by omega)) q
    · intro q; rcases q with q | q
      · exact fresh _ e1.2.1 e1.2.2 q
      · have := ltN lt2.2; exact (neN (b := d) (a := l2) (by omega)) q
  have eT := (N3 _ (.head _)).1
  have nT := (N3 _ (.head _)).2
  generalize hits : (#[_, _, _, _, _, _, _, _, _, _, _, _, _, _, _, _, _, _, _, _, _, _, _, _] : Array Value) = items at eT
  have hst : StrsAre items.toList condNames := by
    subst hits
    repeat (first | exact StrsAre.nil | refine StrsAre.cons _ _ ?_)
  clear hits
  refine tuple_iter ⟨_, eT, rfl, _, rfl⟩ fun h₄ I hI hT4 K4 fI nI sI gI => ?_
  have F4 := Mine.Fr.kept F3 K4 (by simp) (by simp)
  have hIT : TT ≠ I := nI _ _ eT
  have hLI : L' ≠ I := by obtain ⟨o, _, _, e, _⟩ := F3.ns; exact nI _ _ e
  have hdI : d ≠ I := by obtain ⟨⟨kvs, ⟨o, _, _, e, _⟩, _⟩, _⟩ := cs3; exact nI _ _ e
  have gIn : g.get? I = none := none_below F3.keep fI
  refine ⟨I, [I, TT], [I], items.size, _, _, fun i m h => (∃ o, m = fun y => if y = Str.ofString "name" then o else if y = Str.ofString "found" then some (.ref d) else List.lookup y [].reverse) ∧ (∀ b o, g.get? b = some o → h.get? b = some o) ∧
    CS Challenge.rw_oj0014_01.prog w g h (fun a => (a = L' ∨ ∃ o, g.get? a = some o) ∨ a = I) d (2 + i), fun y => if y = Str.ofString "name" then none else if y = Str.ofString "found" then some (.ref d) else List.lookup y [].reverse,
    rfl, Walks.tuple rfl I TT hIT items, ⟨hI, hT4⟩, ?_, ?_, ⟨⟨_, rfl⟩, F4.keep, ?_⟩, ?_, ?_, ?_⟩
  · intro q
    simp only [List.mem_cons, List.not_mem_nil, or_false] at q
    rcases q with q | q
    · exact hLI q
    · exact nT.1 q.symm
  · have e : (fun y => if y = Str.ofString "found" then some (Value.ref d) else List.lookup y [].reverse) = fun y => if y = Str.ofString "name" then none else if y = Str.ofString "found" then some (.ref d) else List.lookup y [].reverse := by
      funext y
      by_cases hy : y = Str.ofString "name"
      · subst hy; rfl
      · rw [if_neg hy]
    have := F4.ns
    rw [e] at this; exact this
  · refine (cs3.mono fun a e q => ?_).keeps fun b o _ e => K4.up b o e
    rcases q with q | rfl
    · exact q
    · obtain ⟨o, e⟩ := e
      exact absurd (fI.symm.trans e) (by simp)
  · intro i m h h' hj k
    refine ⟨hj.1, fun b o e => k b o ?_ ?_ (hj.2.1 b o e), hj.2.2.keeps fun b o nb e => k b o ?_ ?_ e⟩
    · rintro rfl; rw [Heap.get?_none_of_le F4.above] at e; cases e
    · rw [List.mem_singleton]; rintro rfl; rw [gIn] at e; cases e
    · rintro rfl; exact nb (.inl (.inl rfl))
    · rw [List.mem_singleton]; rintro rfl; exact nb (.inr rfl)
  · rintro i v m h tk E' hi hP hSt ⟨⟨o, rfl⟩, keep, cs⟩ hn
    obtain ⟨x, tx, rfl, hx⟩ := strs_get hst (i := i) (v := v) (by simpa using hP)
    have em : (fun y => if y = Str.ofString "name" then some (Value.str x tx) else if y = Str.ofString "name" then o else if y = Str.ofString "found" then some (Value.ref d) else List.lookup y [].reverse) =
        fun y => if y = Str.ofString "name" then some (Value.str x tx) else if y = Str.ofString "found" then some (Value.ref d) else List.lookup y [].reverse := by
      funext y
      by_cases hy : y = Str.ofString "name"
      · rw [if_pos hy, if_pos hy]
      · rw [if_neg hy, if_neg hy, if_neg hy]
    replace hn : h.Ns L' (fun y => if y = Str.ofString "name" then some (Value.str x tx) else if y = Str.ofString "found" then some (Value.ref d) else List.lookup y [].reverse) := by
      rw [← em]; exact hn
    have Fh : Fr g L' h _ := ⟨hn, keep, F4.above⟩
    have Nh : News g L' h [] := News.nil
    clear F3 N3
    repeat ((fail_if_success (with_reducible show wpAny _ _ (newList _) _ _ _)); walk1)
    with_reducible refine newList_Kp Fh Nh (fun l h' F5 N5 K5 el fl => ?_) ?_
    rotate_left
    · simp only [List.length_cons, List.length_nil]; decide
    have hi24 : i < 24 := by
      have := (List.getElem?_eq_some_iff.mp hx).1
      simpa [condNames] using this
    have hrow : condTable[2 + i]? = some (x, [x, Str.ofString "error"]) := by
      have := cond_row ⟨i, hi24⟩
      dsimp only at this
      rw [this, hx]; rfl
    have csl := cs.keeps fun b o _ e => K5.up b o e
    have hlL : l ≠ L' := by rintro rfl; obtain ⟨o, _, _, e, _⟩ := hn; exact absurd (fl.symm.trans e) (by simp)
    have hlI : l ≠ I := by rintro rfl; obtain ⟨o, e, _⟩ := hSt.1; exact absurd (fl.symm.trans e) (by simp)
    have hld : l ≠ d := by rintro rfl; obtain ⟨kvs, ⟨o, _, _, e, _⟩, _⟩ := cs.tab; exact absurd (fl.symm.trans e) (by simp)
    have hgl : g.get? l = none := none_below keep fl
    repeat ((fail_if_success (with_reducible show wpAny _ _ (setItem _ _ _) _ _ _)); walk1)
    refine csl.store hrow el (.cons _ _ (.cons _ _ .nil)) ?_ hld fun h₆ c₆ s₆ => ?_
    · intro q
      rcases q with (q | ⟨o, q⟩) | q
      · exact hlL q
      · rw [hgl] at q; cases q
      · exact hlI q
    have hdg := c₆.gd
    dsimp only
    refine wpAny_execs_nil (.inl ⟨rfl, _, h₆, _, rfl, ?_, ⟨⟨some (.str x tx), rfl⟩, fun b o e => ?_, ?_⟩, fun b hb o e => ?_⟩)
    · have hdL : L' ≠ d := fun q => cs.nd (.inl (.inl q.symm))
      exact F5.ns.at' fun o e => s₆.extBut _ o hdL e
    · exact s₆.extBut b o (by rintro rfl; rw [hdg] at e; cases e) (F5.keep b o e)
    · exact c₆
    · have hbd : b ≠ d := by
        simp only [List.mem_cons, List.not_mem_nil, or_false] at hb
        rcases hb with rfl | rfl
        · exact fun q => cs.nd (.inr q.symm)
        · have := ltN ltT.2.2; exact neN (by omega)
      exact s₆.extBut b o hbd (K5.up b o e)
  · rintro m h tk hn ⟨⟨o, rfl⟩, keep, cs⟩
    have hitems : items.size = 24 := by
      have := hst.length
      simpa [condNames] using this
    rw [hitems] at cs
    have Fh : Fr g L' h _ := ⟨hn, keep, F4.above⟩
    have Nh : News g L' h [] := News.nil
    replace cs := cs.mono (bad' := fun a => a = L' ∨ ∃ o, g.get? a = some o) fun a _ q => .inl q
    clear F3 N3 F4
    dsimp only
    have cs0 : CS Challenge.rw_oj0014_01.prog w g h (fun a => a = L' ∨ ∃ o, g.get? a = some o) d 26 := cs
    have F0 := Fh
    have N0 := Nh
    clear Fh Nh cs
    have hdL : d ≠ L' := fun q => cs0.nd (.inl q)
    repeat ((fail_if_success (with_reducible show wpAny _ _ (newList _) _ _ _)); walk1)
    with_reducible refine newList_Kp F0 N0 (fun l k1 G1 M1 K1 el fl => ?_) ?_
    rotate_left
    · simp only [List.length_cons, List.length_nil]; decide
    have cl := cs0.keeps fun b o _ e => K1.up b o e
    obtain ⟨hlL, hld, hgl⟩ := fresh_facts F0 cs0 fl
    clear F0 N0 cs0
    repeat ((fail_if_success (with_reducible show wpAny _ _ (setItem _ _ _) _ _ _)); walk1)
    refine cl.store (by rfl) el (by repeat (first | exact StrsAre.nil | refine StrsAre.cons _ _ ?_)) (fun q => q.elim hlL fun ⟨o, q⟩ => by rw [hgl] at q; cases q) hld fun h1 cs1 sb => ?_
    have F1 := cs_frame G1 cs1.gd sb hdL
    have N1 : News g L' h1 [] := News.nil
    clear G1 M1 cl el fl hlL hld hgl sb
    dsimp only
    repeat ((fail_if_success (with_reducible show wpAny _ _ (newList _) _ _ _)); walk1)
    with_reducible refine newList_Kp F1 N1 (fun l k2 G2 M2 K2 el fl => ?_) ?_
    rotate_left
    · simp only [List.length_cons, List.length_nil]; decide
    have cl := cs1.keeps fun b o _ e => K2.up b o e
    obtain ⟨hlL, hld, hgl⟩ := fresh_facts F1 cs1 fl
    clear F1 N1 cs1
    repeat ((fail_if_success (with_reducible show wpAny _ _ (setItem _ _ _) _ _ _)); walk1)
    refine cl.store (by rfl) el (by repeat (first | exact StrsAre.nil | refine StrsAre.cons _ _ ?_)) (fun q => q.elim hlL fun ⟨o, q⟩ => by rw [hgl] at q; cases q) hld fun h2 cs2 sb => ?_
    have F2 := cs_frame G2 cs2.gd sb hdL
    have N2 : News g L' h2 [] := News.nil
    clear G2 M2 cl el fl hlL hld hgl sb
    dsimp only
    repeat ((fail_if_success (with_reducible show wpAny _ _ (newList _) _ _ _)); walk1)
    with_reducible refine newList_Kp F2 N2 (fun l k3 G3 M3 K3 el fl => ?_) ?_
    rotate_left
    · simp only [List.length_cons, List.length_nil]; decide
    have cl := cs2.keeps fun b o _ e => K3.up b o e
    obtain ⟨hlL, hld, hgl⟩ := fresh_facts F2 cs2 fl
    clear F2 N2 cs2
    repeat ((fail_if_success (with_reducible show wpAny _ _ (setItem _ _ _) _ _ _)); walk1)
    refine cl.store (by rfl) el (by repeat (first | exact StrsAre.nil | refine StrsAre.cons _ _ ?_)) (fun q => q.elim hlL fun ⟨o, q⟩ => by rw [hgl] at q; cases q) hld fun h3 cs3 sb => ?_
    have F3 := cs_frame G3 cs3.gd sb hdL
    have N3 : News g L' h3 [] := News.nil
    clear G3 M3 cl el fl hlL hld hgl sb
    dsimp only
    repeat ((fail_if_success (with_reducible show wpAny _ _ (newList _) _ _ _)); walk1)
    with_reducible refine newList_Kp F3 N3 (fun l k4 G4 M4 K4 el fl => ?_) ?_
    rotate_left
    · simp only [List.length_cons, List.length_nil]; decide
    have cl := cs3.keeps fun b o _ e => K4.up b o e
    obtain ⟨hlL, hld, hgl⟩ := fresh_facts F3 cs3 fl
    clear F3 N3 cs3
    repeat ((fail_if_success (with_reducible show wpAny _ _ (setItem _ _ _) _ _ _)); walk1)
    refine cl.store (by rfl) el (by repeat (first | exact StrsAre.nil | refine StrsAre.cons _ _ ?_)) (fun q => q.elim hlL fun ⟨o, q⟩ => by rw [hgl] at q; cases q) hld fun h4 cs4 sb => ?_
    have F4 := cs_frame G4 cs4.gd sb hdL
    have N4 : News g L' h4 [] := News.nil
    clear G4 M4 cl el fl hlL hld hgl sb
    dsimp only
    repeat ((fail_if_success (with_reducible show wpAny _ _ (newList _) _ _ _)); walk1)
    with_reducible refine newList_Kp F4 N4 (fun l k5 G5 M5 K5 el fl => ?_) ?_
    rotate_left
    · simp only [List.length_cons, List.length_nil]; decide
    have cl := cs4.keeps fun b o _ e => K5.up b o e
    obtain ⟨hlL, hld, hgl⟩ := fresh_facts F4 cs4 fl
    clear F4 N4 cs4
    repeat ((fail_if_success (with_reducible show wpAny _ _ (setItem _ _ _) _ _ _)); walk1)
    refine cl.store (by rfl) el (by repeat (first | exact StrsAre.nil | refine StrsAre.cons _ _ ?_)) (fun q => q.elim hlL fun ⟨o, q⟩ => by rw [hgl] at q; cases q) hld fun h5 cs5 sb => ?_
    have F5 := cs_frame G5 cs5.gd sb hdL
    have N5 : News g L' h5 [] := News.nil
    clear G5 M5 cl el fl hlL hld hgl sb
    dsimp only
    repeat ((fail_if_success (with_reducible show wpAny _ _ (newList _) _ _ _)); walk1)
    with_reducible refine newList_Kp F5 N5 (fun l k6 G6 M6 K6 el fl => ?_) ?_
    rotate_left
    · simp only [List.length_cons, List.length_nil]; decide
    have cl := cs5.keeps fun b o _ e => K6.up b o e
    obtain ⟨hlL, hld, hgl⟩ := fresh_facts F5 cs5 fl
    clear F5 N5 cs5
    repeat ((fail_if_success (with_reducible show wpAny _ _ (setItem _ _ _) _ _ _)); walk1)
    refine cl.store (by rfl) el (by repeat (first | exact StrsAre.nil | refine StrsAre.cons _ _ ?_)) (fun q => q.elim hlL fun ⟨o, q⟩ => by rw [hgl] at q; cases q) hld fun h6 cs6 sb => ?_
    have F6 := cs_frame G6 cs6.gd sb hdL
    have N6 : News g L' h6 [] := News.nil
    clear G6 M6 cl el fl hlL hld hgl sb
    dsimp only
    repeat walk1
    dsimp only
    obtain ⟨kvs, hd', tb⟩ := cs6.tab
    have e32 : condTable.take 32 = condTable := rfl
    rw [e32] at tb
    refine ret d h6 _ kvs hd' (tb.mono fun a _ q => .inl (.inr ?_)) ?_ lod fun b o e _ => F6.keep b o (hk b o e (by simp))
    · obtain ⟨o, q⟩ := q
      exact ⟨o, hk a o q (by simp)⟩
    · exact none_below (fun b o e => hk b o e (by simp)) cs6.gd
theorem conds_call {w : World} {loose : List Str} {mean : ExcName → Option Value} {mg mb : Str → Option Value} {g : Heap} {L : Addr} {m : Str → Option Value} {nw : List (Addr × Obj)} {A : Around} {s : Shared} {Q E : Value → Shared → Prop}
    (F : Fr g L s.heap m) (N : News g L s.heap nw) (X : (hd.heap_39 w.params).In g) (T : Top hd.view_39 loose mean mg mb g) (hh : A.handled = none) (hd : A.depth < 800) (hu : A.units < 2000)
    (ret : ∀ d h' tk' kvs, h'.DictOf (strKind Challenge.rw_oj0014_01.prog w) d kvs → TabL h' (fun a => ∃ o, s.heap.get? a = some o) kvs condTable → Fr g L h' m → News g L h' nw → Kept s.heap h' [] → s.heap.get? d = none → (d == sysModules) = false → Q (.ref d) { s with heap := h', toks := tk' }) :
    wpAny (model Challenge.rw_oj0014_01.prog w) A (call (.ref 61) []) Q E s := by
  refine wpAny_call (conds_code ⟨X, T, F.keep⟩ hh hd hu fun d h' tk' kvs hd' ht hn lo hk => ?_)
  exact ret d h' tk' kvs hd' ht (Mine.Fr.kept F hk (by simp) (by simp)) (Mine.News.kept N hk (by simp)) hk hn lo
end Mine
end

section
open PySem PySem.W PySem.Calls PyProof.Rows
namespace Mine
theorem off_co : True := by
  w_top off
  exact True.intro
def condLook (x : Str) : Option (List Str) := (condTable.find? fun p => p.1 = x).map (·.2)
def condsOf (x : Str) : List Str := (condLook x).getD [x]
theorem TabL.value {h : Heap} {bad : Addr → Prop} {kvs : List (Str × Value)} {D : List (Str × List Str)} (t : TabL h bad kvs D) (x : Str) :
    (∃ a n vs ts, (D.find? fun p => p.1 = x).map (·.2) = some ts ∧ valueAt kvs x = some (.ref a) ∧ h.get? a = some (listOf vs.toArray n) ∧ StrsAre vs ts ∧ ¬ bad a) ∨ ((D.find? fun p => p.1 = x).map (·.2) = none ∧ valueAt kvs x = none) := by
  induction t with
  | nil => exact .inr ⟨rfl, rfl⟩
  | cons e s nb _ ih =>
    rename_i k a n vs ts l D _
    unfold valueAt at ih ⊢
    by_cases hk : k = x
    · subst hk; exact .inl ⟨a, n, vs, ts, by simp, by simp, e, s, nb⟩
    · simp only [List.find?_cons, hk, decide_false]; exact ih
set_option maxHeartbeats 8000000 in
theorem condof_code {w : World} {loose : List Str} {mean : ExcName → Option Value} {mg mb : Str → Option Value} {h₀ : Heap} {A : Around} {s : Shared} {R : Result → Shared → Prop} {x : Str} {t : Tok}
    (B : Bs w loose mean mg mb h₀ s.heap) (hh : A.handled = none) (hdp : A.depth < 790) (hu : A.units < 1900)
    (ret : ∀ h' tk' l n vs, h'.get? l = some (listOf (List.toArray vs) n) → StrsAre vs (condsOf x) → s.heap.get? l = none → Kept s.heap h' [] → R (.ok (.ret (.ref l))) { s with heap := h', toks := tk' }) :
    codeAny (model Challenge.rw_oj0014_01.prog w) A (.call (.ref 68) ⟨[.str x t], []⟩) R s := by
  obtain ⟨hnd, dp, fr, gd, un⟩ := A
  dsimp only at hh hdp hu
  subst hh
  have KX := B.K
  revert KX; k_fill; intro KX
  refine enter_plainH B [] (by simp) ?_ (by k_is) (by k_is) (BindsTo.of_eq (binds := [(Str.ofString "name", .str x t)]) rfl) (locs rfl) ?_ rfl rfl rfl (by decide)
  · simp only [recursionLimit]; omega
  intro g L' h₁ F N X T kp lt hg hk
  (try dsimp only)
  repeat ((fail_if_success (with_reducible show wpAny _ _ (call (Value.ref 61) _) _ _ _)); walk1)
  refine conds_call (by assumption) (by assumption) X T rfl ?_ ?_ fun d h' tk' kvs hd' ht F' N' K' hn lo => ?_
  · refine lt_of_depth ?_; dsimp only [Around.deeper]; omega
  · refine lt_of_depth ?_; dsimp only [Around.deeper]; omega
  refine dict_getM hd' ?_
  repeat ((fail_if_success (with_reducible show wpAny _ _ (newList _) _ _ _)); walk1)
  with_reducible refine newList_Kp F' N' (fun l h₅ F5 N5 K5 el fl => ?_) ?_
  rotate_left
  · simp only [List.length_cons, List.length_nil]; decide
  have hd5 := hd'.at fun o e => K5.up d o e
  repeat ((fail_if_success (with_reducible show wpAny _ _ (call (Value.builtin "dict.get") _) _ _ _)); walk1)
  refine dict_get2 hd5 lo ?_
  obtain ⟨a, n, vs, ts, e1, e2, e3, e4, e5⟩ | ⟨e1, e2⟩ := ht.value x
  · rw [e2]
    have ec : condsOf x = ts := by unfold condsOf condLook; rw [e1]; rfl
    repeat walk1
    dsimp only
    refine ret h₅ _ a n vs (K5.up _ _ e3) (by rw [ec]; exact e4) ?_ fun b o e _ => F5.keep b o (hk b o e (by simp))
    cases q : s.heap.get? a with
    | none => rfl
    | some o => exact absurd ⟨o, kp a o q⟩ e5
  · rw [e2]
    have ec : condsOf x = [x] := by unfold condsOf condLook; rw [e1]; rfl
    repeat walk1
    dsimp only
    refine ret h₅ _ l 0 [.str x t] el (by rw [ec]; exact .cons _ _ .nil) ?_ fun b o e _ => F5.keep b o (hk b o e (by simp))
    exact none_below (fun b o e => K'.up b o (kp b o e)) fl
theorem condof_call {w : World} {loose : List Str} {mean : ExcName → Option Value} {mg mb : Str → Option Value} {g : Heap} {L : Addr} {m : Str → Option Value} {nw : List (Addr × Obj)} {A : Around} {s : Shared} {Q E : Value → Shared → Prop} {x : Str} {t : Tok}
    (F : Fr g L s.heap m) (N : News g L s.heap nw) (X : (hd.heap_39 w.params).In g) (T : Top hd.view_39 loose mean mg mb g) (hh : A.handled = none) (hdp : A.depth < 790) (hu : A.units < 1900)
    (ret : ∀ h' tk' l n vs, h'.get? l = some (listOf (List.toArray vs) n) → StrsAre vs (condsOf x) → s.heap.get? l = none → Fr g L h' m → News g L h' nw → Kept s.heap h' [] → Q (.ref l) { s with heap := h', toks := tk' }) :
    wpAny (model Challenge.rw_oj0014_01.prog w) A (call (.ref 68) [.str x t]) Q E s := by
  refine wpAny_call (condof_code ⟨X, T, F.keep⟩ hh hdp hu fun h' tk' l n vs e1 e2 e3 hk => ?_)
  exact ret h' tk' l n vs e1 e2 e3 (Mine.Fr.kept F hk (by simp) (by simp)) (Mine.News.kept N hk (by simp)) hk
end Mine
end

section
open PySem PySem.W PySem.Calls PyProof.Rows
namespace Mine
def condKeys : List Str := condTable.map (·.1)
section
variable {prog : Program} {w : World} {A : Around} {E : Value → Shared → Prop} {env : Env} {s : Shared}
/-- a comprehension over the keys of a dict; the heap only grows -/
theorem ListComp_dict {elt iter : Expr} {x : Str} {px : Pos} {ifs : List Expr} {scope : Scope} {cl : List (Str × Addr)} {pos : Pos} {Q : Value → Shared → Prop} (F : Nat → List Value → Prop) {kvs : List (Str × Value)}
    (hclos : closureFor scope env = pure cl) (hcell : ∀ y ∈ scope.names, y.2 ≠ .cell) (hkind : scope.kind = .function)
    (hnames : ∀ y ∈ scope.names, y.2 = .local → scope.names.lookup y.1 = some .local) (hx : scope.names.lookup x = some .local) (hh : A.handled = none) (hlen : kvs.length ≤ 1000)
    (h : wpAny (model prog w) A (eval iter env) (fun xv s₁ => ∃ D, xv = .ref D ∧ s₁.heap.DictOf (strKind prog w) D kvs ∧ (D == sysModules) = false ∧ F 0 [] ∧
      (∀ C i k t u ys h tk m₂ E', s₁.heap.objs.size < C → kvs[i]? = some (k, u) → F i ys → h.Ns C m₂ → m₂ x = some (.str k t) → (∀ b o, s₁.heap.get? b = some o → h.get? b = some o) →
        wpAny (model prog w) A (testsOf ifs (compEnvC scope cl C env)) (fun ok s₃ => ∃ h₃ tk₃, s₃ = { s₁ with heap := h₃, toks := tk₃ } ∧ Kept h h₃ [] ∧
          if ok = true then wpAny (model prog w) A (eval elt (compEnvC scope cl C env)) (fun y s₄ => ∃ h₄ tk₄, s₄ = { s₁ with heap := h₄, toks := tk₄ } ∧ Kept h₃ h₄ [] ∧ F (i + 1) (ys ++ [y])) E' s₃
          else F (i + 1) ys) E' { s₁ with heap := h, toks := tk }) ∧
      (∀ R h' tk ys, s₁.heap.get? R = none → h'.PlainList R (List.toArray ys) → F kvs.length ys → ys.length ≤ kvs.length → Kept s₁.heap h' [] → Q (.ref R) { s₁ with heap := h', toks := tk })) E s)
    (hs : ∀ x, foldedSetIterable iter env x = pure x := by intro _; rfl) :
    wpAny (model prog w) A (eval (.ListComp elt [⟨.Name x px, iter, ifs, 0⟩] scope pos) env) Q E s := by
  refine ListComp_inv hclos hcell hkind hnames hx (wpAny_mono h (fun xv s₁ h₁ => ?_) fun _ _ e => e) hs
  obtain ⟨D, rfl, hD, lo, h0, turn, fin⟩ := h₁
  obtain ⟨ep, hm⟩ := hD.dictAt
  refine wpAny_pyIter_dict lo hm ?_
  have hne : D ≠ s₁.heap.objs.size := Nat.ne_of_lt hm.lt_size
  refine ⟨s₁.heap.objs.size, [s₁.heap.objs.size, D], [s₁.heap.objs.size], [], kvs.length, _, _, fun i ys _ => F i ys, rfl, Walks.dictKeys hh _ D hne kvs ep, ⟨⟨_, Heap.get?_push_size _ rfl, rfl, rfl⟩, hm.push _⟩, ?_, ?_⟩
  · refine ⟨?_, by simp, by simp, ?_, fun _ _ _ _ hj _ => hj, h0, ?_⟩
    · intro b hb
      simp only [List.mem_cons, List.not_mem_nil, or_false] at hb
      rcases hb with rfl | rfl
      · show _ < (s₁.heap.push _).objs.size; rw [Heap.size_push]; exact Nat.lt_succ_self _
      · show _ < (s₁.heap.push _).objs.size; rw [Heap.size_push]; exact Nat.lt_succ_of_lt hm.lt_size
    · rw [sizeLine_eq]; omega
    · intro C i v ys h tk m₂ E' hC hi hv hj hn hmx hk
      obtain ⟨k, u, hkv, hv'⟩ := hv
      obtain ⟨t, rfl⟩ := Value.isStrOf_shape hv'
      have up : ∀ b o, s₁.heap.get? b = some o → h.get? b = some o := fun b o e => hk b o (Heap.get?_push_of_some _ e) (by simpa using Nat.ne_of_lt (Heap.lt_size e))
      refine turn C i k t u ys h tk m₂ E' ?_ hkv hj hn hmx up
      have hC' : (s₁.heap.push _).objs.size ≤ C := hC
      rw [Heap.size_push] at hC'
      exact hC'
  · intro R h'' tk ys hR hRs hpl hj hlen' hk
    have hR' : s₁.heap.get? R = none := by
      cases e : s₁.heap.get? R with
      | none => rfl
      | some o => have := Heap.get?_push_of_some { cls := .type "dict_keyiterator", data := .fields #[.ref D, .int 0 0, .int kvs.length 0, .int ep 0] } e; rw [this] at hR; cases hR
    exact fin R h'' tk ys hR' hpl hj hlen' fun b o e _ => hk b o (Heap.get?_push_of_some _ e) (by simpa using Nat.ne_of_lt (Heap.lt_size e))
/-- the same, the dict told by the walk -/
theorem ListComp_dict' {elt iter : Expr} {x : Str} {px : Pos} {ifs : List Expr} {scope : Scope} {cl : List (Str × Addr)} {pos : Pos} {Q : Value → Shared → Prop}
    (hclos : closureFor scope env = pure cl) (hcell : ∀ y ∈ scope.names, y.2 ≠ .cell) (hkind : scope.kind = .function)
    (hnames : ∀ y ∈ scope.names, y.2 = .local → scope.names.lookup y.1 = some .local) (hx : scope.names.lookup x = some .local) (hh : A.handled = none)
    (h : wpAny (model prog w) A (eval iter env) (fun xv s₁ => ∃ D kvs, ∃ (F : Nat → List Value → Prop), xv = .ref D ∧ s₁.heap.DictOf (strKind prog w) D kvs ∧ (D == sysModules) = false ∧ kvs.length ≤ 1000 ∧ F 0 [] ∧
      (∀ C i k t u ys h tk m₂ E', s₁.heap.objs.size < C → kvs[i]? = some (k, u) → F i ys → h.Ns C m₂ → m₂ x = some (.str k t) → (∀ b o, s₁.heap.get? b = some o → h.get? b = some o) →
        wpAny (model prog w) A (testsOf ifs (compEnvC scope cl C env)) (fun ok s₃ => ∃ h₃ tk₃, s₃ = { s₁ with heap := h₃, toks := tk₃ } ∧ Kept h h₃ [] ∧
          if ok = true then wpAny (model prog w) A (eval elt (compEnvC scope cl C env)) (fun y s₄ => ∃ h₄ tk₄, s₄ = { s₁ with heap := h₄, toks := tk₄ } ∧ Kept h₃ h₄ [] ∧ F (i + 1) (ys ++ [y])) E' s₃
          else F (i + 1) ys) E' { s₁ with heap := h, toks := tk }) ∧
      (∀ R h' tk ys, s₁.heap.get? R = none → h'.PlainList R (List.toArray ys) → F kvs.length ys → ys.length ≤ kvs.length → Kept s₁.heap h' [] → Q (.ref R) { s₁ with heap := h', toks := tk })) E s)
    (hs : ∀ x, foldedSetIterable iter env x = pure x := by intro _; rfl) :
    wpAny (model prog w) A (eval (.ListComp elt [⟨.Name x px, iter, ifs, 0⟩] scope pos) env) Q E s := by
  refine ListComp_inv hclos hcell hkind hnames hx (wpAny_mono h (fun xv s₁ h₁ => ?_) fun _ _ e => e) hs
  obtain ⟨D, kvs, F, rfl, hD, lo, hlen, h0, turn, fin⟩ := h₁
  obtain ⟨ep, hm⟩ := hD.dictAt
  refine wpAny_pyIter_dict lo hm ?_
  have hne : D ≠ s₁.heap.objs.size := Nat.ne_of_lt hm.lt_size
  refine ⟨s₁.heap.objs.size, [s₁.heap.objs.size, D], [s₁.heap.objs.size], [], kvs.length, _, _, fun i ys _ => F i ys, rfl, Walks.dictKeys hh _ D hne kvs ep, ⟨⟨_, Heap.get?_push_size _ rfl, rfl, rfl⟩, hm.push _⟩, ?_, ?_⟩
  · refine ⟨?_, by simp, by simp, ?_, fun _ _ _ _ hj _ => hj, h0, ?_⟩
    · intro b hb
      simp only [List.mem_cons, List.not_mem_nil, or_false] at hb
      rcases hb with rfl | rfl
      · show _ < (s₁.heap.push _).objs.size; rw [Heap.size_push]; exact Nat.lt_succ_self _
      · show _ < (s₁.heap.push _).objs.size; rw [Heap.size_push]; exact Nat.lt_succ_of_lt hm.lt_size
    · rw [sizeLine_eq]; omega
    · intro C i v ys h tk m₂ E' hC hi hv hj hn hmx hk
      obtain ⟨k, u, hkv, hv'⟩ := hv
      obtain ⟨t, rfl⟩ := Value.isStrOf_shape hv'
      have up : ∀ b o, s₁.heap.get? b = some o → h.get? b = some o := fun b o e => hk b o (Heap.get?_push_of_some _ e) (by simpa using Nat.ne_of_lt (Heap.lt_size e))
      refine turn C i k t u ys h tk m₂ E' ?_ hkv hj hn hmx up
      have hC' : (s₁.heap.push _).objs.size ≤ C := hC
      rw [Heap.size_push] at hC'
      exact hC'
  · intro R h'' tk ys hR hRs hpl hj hlen' hk
    have hR' : s₁.heap.get? R = none := by
      cases e : s₁.heap.get? R with
      | none => rfl
      | some o => have := Heap.get?_push_of_some { cls := .type "dict_keyiterator", data := .fields #[.ref D, .int 0 0, .int kvs.length 0, .int ep 0] } e; rw [this] at hR; cases hR
    exact fin R h'' tk ys hR' hpl hj hlen' fun b o e _ => hk b o (Heap.get?_push_of_some _ e) (by simpa using Nat.ne_of_lt (Heap.lt_size e))
theorem strs_carried {vs : List Value} {ts : List Str} (h : StrsAre vs ts) : CarriedAll vs (ts.map PyData.str) := by
  induction h with
  | nil => exact .nil
  | cons y t _ ih => exact .cons (.str y t) ih
theorem strs_lay : ∀ {ts : List Str}, (∀ x ∈ ts, PyData.strOk x = true) → PyData.canLayAll0 (ts.map PyData.str) = true ∧ PyData.depthAll (ts.map PyData.str) = 0
  | [], _ => ⟨by simp [PyData.canLayAll0], by simp [PyData.depthAll]⟩
  | y :: r, h => by
    have b := strs_lay (ts := r) fun z hz => h z (by simp [hz])
    have c := h y (by simp)
    exact ⟨by simp [PyData.canLayAll0, PyData.canLay0, b.1, c], by simp [PyData.depthAll, PyData.depth, b.2]⟩
theorem strs_shaped {ts : List Str} (h : ∀ x ∈ ts, PyData.strOk x = true) : SeqAt.shaped (.list (ts.map PyData.str)) = true := by
  have a := strs_lay h
  simp [SeqAt.shaped, PyData.canLay0, PyData.depth, a.1, a.2]
theorem strs_eqv : ∀ {ts us : List Str}, PyData.eqvAll (ts.map PyData.str) (us.map PyData.str) = decide (ts = us)
  | [], [] => by simp [PyData.eqvAll]
  | [], _ :: _ => by simp [PyData.eqvAll]
  | _ :: _, [] => by simp [PyData.eqvAll]
  | a :: r, b :: q => by
    have := strs_eqv (ts := r) (us := q)
    simp only [List.map_cons, PyData.eqvAll, PyData.eqv, this, List.cons.injEq, Bool.decide_and]
    congr 1
theorem eq_strsH {D l : Addr} {vs ws : List Value} {ts us : List Str} {Q : Value → Shared → Prop} (hD : s.heap.IsList D vs.toArray) (hl : s.heap.IsList l ws.toArray) (hv : StrsAre vs ts) (hw : StrsAre ws us)
    (ht : ∀ x ∈ ts, PyData.strOk x = true) (hu : ∀ x ∈ us, PyData.strOk x = true) (hA : A.units + 64 < cLine) (h : Q (.bool (decide (ts = us))) s) : wpAny (model prog w) A (compareOp .Eq (.ref D) (.ref l)) Q E s := by
  refine eq_dataH (reads_newData hD (strs_carried hv)) (reads_newData hl (strs_carried hw)) (strs_shaped ht) (strs_shaped hu) hA ?_
  rw [PyData.eqv, strs_eqv]; exact h
theorem ne_strsH {D l : Addr} {vs ws : List Value} {ts us : List Str} {Q : Value → Shared → Prop} (hD : s.heap.IsList D vs.toArray) (hl : s.heap.IsList l ws.toArray) (hv : StrsAre vs ts) (hw : StrsAre ws us)
    (ht : ∀ x ∈ ts, PyData.strOk x = true) (hu : ∀ x ∈ us, PyData.strOk x = true) (hA : A.units + 64 < cLine) (h : Q (.bool (!decide (ts = us))) s) : wpAny (model prog w) A (compareOp .NotEq (.ref D) (.ref l)) Q E s := by
  refine ne_dataH (reads_newData hD (strs_carried hv)) (reads_newData hl (strs_carried hw)) (strs_shaped ht) (strs_shaped hu) hA ?_
  rw [PyData.eqv, strs_eqv]; exact h
end
theorem strs_at {vs : List Value} {ts : List Str} (h : StrsAre vs ts) {i : Nat} {y : Str} (e : ts[i]? = some y) : ∃ t, vs[i]? = some (.str y t) := by
  induction h generalizing i with
  | nil => simp at e
  | cons y' t _ ih => cases i with
    | zero => simp at e; subst e; exact ⟨t, rfl⟩
    | succ i => exact ih (by simpa using e)
section
variable {prog : Program} {w : World} {A : Around} {E : Value → Shared → Prop} {s : Shared}
theorem item_at {value slice : Expr} {l : Addr} {vs : List Value} {k : Int} {u : Tok} {x : Value} {Q : Value → Shared → Prop} (hl : s.heap.IsList l vs.toArray) (h0 : 0 ≤ k) (hfit : k < 2 ^ 63) (hx : vs[k.toNat]? = some x) (h : Q x s)
    (hs : subscripted slice false (.ref l) (.int k u) = operate [.ref l, .int k u] (getItem (.ref l) (.int k u)) := by with_unfolding_all rfl) :
    wpAny (model prog w) A (subscriptTail value slice (.ref l) (.int k u)) Q E s :=
  tail_any hl.typeIs slot_list_getitem.lookup (wpAny_getItem_list hl h0 hfit (by simpa using hx) h) hs
theorem item_last {value slice : Expr} {l : Addr} {vs : List Value} {u : Tok} {x : Value} {Q : Value → Shared → Prop} (hl : s.heap.IsList l vs.toArray) (h1 : 1 ≤ vs.length) (hx : vs[vs.length - 1]? = some x) (h : Q x s)
    (hs : subscripted slice false (.ref l) (.int (-1) u) = operate [.ref l, .int (-1) u] (getItem (.ref l) (.int (-1) u)) := by with_unfolding_all rfl) :
    wpAny (model prog w) A (subscriptTail value slice (.ref l) (.int (-1) u)) Q E s := by
  have e : ((-1 : Int) + (vs.toArray.size : Int)).toNat = vs.length - 1 := by rw [List.size_toArray]; omega
  refine tail_any hl.typeIs slot_list_getitem.lookup (wpAny_getItem_list_neg hl (by decide) (by rw [List.size_toArray]; omega) (by decide) (by rw [e]; simpa using hx) h) hs
end
theorem strs_drop {vs : List Value} {ts : List Str} (h : StrsAre vs ts) (a : Nat) : StrsAre (vs.drop a) (ts.drop a) := by
  induction h generalizing a with
  | nil => simpa using StrsAre.nil
  | cons y t h ih => cases a with
    | zero => exact .cons y t h
    | succ a => exact ih a
theorem pick_drop (vs : List Value) {k : Int} {a : Nat} (e : k = (a : Int)) : (slicePick vs.toArray (some k) none none) = (vs.drop a).toArray := by
  subst e; exact slicePick_from' _ _
theorem If_splitF {M : Model} {A : Around} {E : Value → Shared → Prop} {s : Shared} {env : Env} {test : Expr} {body orelse : List Stmt} {pos : Pos} {Q : Flow → Shared → Prop} {g h : Heap} {L : Addr} {m : Str → Option Value} (F : Fr g L h m) (nw : List (Addr × Obj)) (b : Bool)
    (h1 : wpAny M A (isTrue test env (eval test env)) (fun b' s₁ => b' = b ∧ ∃ h' tk, s₁ = { s with heap := h', toks := tk } ∧ Fr g L h' m ∧ News g L h' nw) E s)
    (h2 : b = true → ∀ h' tk, Fr g L h' m → News g L h' nw → wpAny M A (execs body env) Q E { s with heap := h', toks := tk })
    (h3 : b = false → ∀ h' tk, Fr g L h' m → News g L h' nw → wpAny M A (execs orelse env) Q E { s with heap := h', toks := tk }) :
    wpAny M A (exec (.If test body orelse pos) env) Q E s := by
  refine wpAny_If (wpAny_mono h1 (fun c s' h => ?_) fun _ _ e => e)
  obtain ⟨rfl, h', tk, rfl, F', N'⟩ := h
  cases c with
  | true => exact h2 rfl h' tk F' N'
  | false => exact h3 rfl h' tk F' N'
theorem nosuch_conds : condsOf (Str.ofString "no-such") = [Str.ofString "no-such"] := by decide +kernel
theorem nosuch_not : Str.ofString "no-such" ∉ condKeys := by decide +kernel
theorem nosuch_ok : PyData.strOk (Str.ofString "no-such") = true := by decide +kernel
theorem conds_ok : ∀ x ∈ condKeys, ∀ y ∈ condsOf x, PyData.strOk y = true := by decide +kernel
def manyOf (x : Str) : Nat := (condKeys.filter fun k => (condsOf x).any (· == k)).length
theorem conds_head : ∀ x ∈ condKeys, (condsOf x)[0]? = some x := by decide +kernel
theorem conds_last : ∀ x ∈ condKeys, ∃ y, y ∈ [Str.ofString "error", Str.ofString "quit"] ∧ (condsOf x)[(condsOf x).length - 1]? = some y := by decide +kernel
theorem conds_len : ∀ x ∈ condKeys, 1 ≤ (condsOf x).length ∧ (condsOf x).length ≤ 4 := by decide +kernel
theorem conds_many : ∀ x ∈ condKeys, (condsOf x).length ≠ manyOf x → (condsOf x).length = 4 ∧ PySem.Spec.countIn (PyData.str (Str.ofString "range-error")) ((condsOf x).map PyData.str) = 1 := by decide +kernel
theorem conds_tail : ∀ x ∈ condKeys, (condsOf x).length = manyOf x → ∀ i : Fin 4, ∀ y, (condsOf x)[i.val]? = some y → condsOf y = (condsOf x).drop i.val ∧ ∀ z ∈ condsOf y, PyData.strOk z = true := by decide +kernel
theorem key_valueAt {kvs : List (Str × Value)} (h : kvs.map (·.1) = condKeys) (x : Str) : (valueAt kvs x).isSome = decide (x ∈ condKeys) := by
  rw [← h]
  unfold valueAt
  rw [Bool.eq_iff_iff]
  simp [List.find?_isSome]
end Mine
end

section
open PySem PySem.W PySem.Calls PyProof.Rows
namespace Mine
theorem off_nr : True := by
  w_top off
  exact True.intro
local macro_rules | `(tactic| walk_at "eval Name") => `(tactic| (k_here; (with_reducible show wpAny _ _ (eval (Expr.Name _ _) (compEnvC _ _ _ _)) _ _ _); k_dflt (first
  | (refine' nameC_F ?i ?l ?_ ?a ?b ?c; (case b => with_unfolding_all rfl); (case a => with_unfolding_all rfl); (case c => decide); (case l => with_unfolding_all rfl); (case i => first | with_reducible assumption | (with_reducible show Heap.IsCell _ _ _; (with_reducible rename Heap.IsCell _ _ _ => ci9); exact ci9)))
  | (refine' nameC_L ?F ?v ?_ ?a ?b ?c; (case b => with_unfolding_all rfl); (case a => with_unfolding_all rfl); (case c => decide); (case F => assumption); (case v => assumption))
  | (refine' nameC_K ?F ?X ?T ?e ?_ ?g ?a ?b ?c; (case b => with_unfolding_all rfl); (case a => with_unfolding_all rfl); (case c => decide); (case g => with_unfolding_all rfl); (case F => assumption); (case X => assumption); (case T => exact topRead_of (by assumption)); (case e => k_is)))))
set_option maxHeartbeats 8000000 in
theorem right_code {w : World} {loose : List Str} {mean : ExcName → Option Value} {mg mb : Str → Option Value} {h₀ : Heap} {A : Around} {s : Shared} {R : Result → Shared → Prop} {x : Str} {t : Tok}
    (B : Bs w loose mean mg mb h₀ s.heap) (hx : x ∈ condKeys ∨ x = Str.ofString "no-such") (hh : A.handled = none) (hdp : A.depth < 780) (hu : A.units < 1800)
    (ret : ∀ h' tk', Kept s.heap h' [] → R (.ok (.ret (.bool true))) { s with heap := h', toks := tk' }) :
    codeAny (model Challenge.rw_oj0014_01.prog w) A (.call (.ref 126) ⟨[.str x t], []⟩) R s := by
  obtain ⟨hnd, dp, fr, gd, un⟩ := A
  dsimp only at hh hdp hu
  subst hh
  have KX := B.K
  revert KX; k_fill; intro KX
  refine enter_cellsH B [] (by simp) ?_ (by k_is) (by k_is) (BindsTo.of_eq (binds := [(Str.ofString "name", .str x t)]) rfl) rfl (by decide +kernel) ?_ rfl rfl rfl
  · simp only [recursionLimit]; omega
  intro g L' h₁ tk cells F N Y X T kp lt hg hk
  k_cells Y
  rename_i oc dc
  (try dsimp only)
  repeat ((fail_if_success (with_reducible show wpAny _ _ (call (Value.ref 68) _) _ _ _)); walk1)
  refine condof_call (by assumption) (by assumption) X T rfl ?_ ?_ fun h' tk' l n vs el hv fl F' N' K' => ?_
  · refine lt_of_depth ?_; dsimp only [Around.deeper]; omega
  · refine lt_of_depth ?_; dsimp only [Around.deeper]; omega
  repeat ((fail_if_success (with_reducible show wpAny _ _ (call (Value.ref 61) _) _ _ _)); walk1)
  refine conds_call (by assumption) (by assumption) X T rfl ?_ ?_ fun d h₃ tk₃ kvs hd' ht F3 N3 K3 hn lo => ?_
  · refine lt_of_depth ?_; dsimp only [Around.deeper]; omega
  · refine lt_of_depth ?_; dsimp only [Around.deeper]; omega
  obtain ⟨od, eod, hod⟩ := Heap.dictOf_iff.mp hd'
  have hkeys : kvs.map (·.1) = condKeys := ht.keysL
  have hlL : l ≠ L' := by rintro rfl; obtain ⟨o, _, _, e, _⟩ := F.ns; exact absurd (fl.symm.trans e) (by simp)
  have hdL : d ≠ L' := by rintro rfl; obtain ⟨o, _, _, e, _⟩ := F'.ns; exact absurd (hn.symm.trans e) (by simp)
  have hlc : l ≠ L' + 1 := by rintro rfl; exact absurd (fl.symm.trans (N _ (.head _)).1) (by simp)
  have hdc : d ≠ L' + 1 := by rintro rfl; exact absurd (hn.symm.trans (N' _ (.head _)).1) (by simp)
  have hdl : l ≠ d := by rintro rfl; exact absurd (hn.symm.trans el) (by simp)
  have gl : g.get? l = none := none_below F.keep fl
  have gd' : g.get? d = none := none_below F'.keep hn
  have N4 : News g L' h₃ [(l, W.listOf vs.toArray n), (d, od), (L' + 1, oc)] := by
    intro q hq
    simp only [List.mem_cons, List.not_mem_nil, or_false] at hq
    rcases hq with rfl | rfl | rfl
    · exact ⟨K3.up _ _ el, hlL, gl⟩
    · exact ⟨eod, hdL, gd'⟩
    · exact N3 _ (.head _)
  have q1 := neN hlL
  have q2 := neN hdL
  have q3 := neN hlc
  have q4 := neN hdc
  have q5 := neN hdl
  clear F F' N N' N3 K' K3 hn fl ht hd' eod el
  repeat ((fail_if_success (with_reducible show wpAny _ _ (exec (Stmt.If _ _ _ _) _) _ _ _)); walk1)
  rename_i D1 hh3 lt1 hh2 hh1 oF dF hF F5 N5
  refine If_split (C := fun b s₁ => b = (!decide (x ∈ condKeys)) ∧ ∃ tk, s₁ = { s with heap := hF, toks := tk }) ?_ ?_ ?_
  · repeat ((fail_if_success (with_reducible show wpAny _ _ (compareOp CmpOp.NotIn _ _) _ _ _)); walk1)
    refine dict_notin (Heap.dictOf_iff.mpr ⟨od, (N5 _ (.tail _ (.tail _ (.head _)))).1, hod⟩) lo ?_
    rw [key_valueAt hkeys]
    repeat walk1
  · rintro _ ⟨hb, tk9, rfl⟩
    repeat ((fail_if_success (with_reducible show wpAny _ _ (compareOp CmpOp.Eq _ _) _ _ _)); walk1)
    (with_reducible rename Fr _ _ _ _ => F6)
    (with_reducible rename News _ _ _ _ => N6)
    have hxk : x ∉ condKeys := by simpa using hb
    have hxn : x = Str.ofString "no-such" := hx.resolve_left hxk
    have hxc : condsOf x = [x] := by rw [hxn]; exact nosuch_conds
    have hxo : ∀ y ∈ [x], PyData.strOk y = true := fun y hy => by rw [List.mem_singleton.mp hy, hxn]; exact nosuch_ok
    refine eq_strsH (News.isList N6 (.tail _ (.tail _ (.head _)))) (News.isList N6 (.head _)) hv (.cons x t .nil) (by rw [hxc]; exact hxo) hxo ?_ ?_
    · rw [cLine_is]; dsimp only [Around.deeper]; omega
    rw [hxc, decide_eq_true (rfl : [x] = [x])]
    repeat walk1
    dsimp only
    exact ret _ _ fun b o e _ => F6.keep b o (hk b o e (by simp))
  · rintro _ ⟨hb, tk9, rfl⟩
    have hxk : x ∈ condKeys := by simpa using hb
    repeat ((fail_if_success (with_reducible show wpAny _ _ (eval (Expr.ListComp _ _ _ _) _) _ _ _)); walk1)
    refine ListComp_dict (kvs := kvs) (cl := [(Str.ofString "found", L' + 1)]) (fun i ys => ys.length = ((condKeys.take i).filter fun k => (condsOf x).any (· == k)).length) ?c1 ?c2 ?c3 ?c4 ?c5 ?c6 ?c7 ?_
    case c1 => with_unfolding_all rfl
    case c2 => decide
    case c3 => rfl
    case c4 => decide
    case c5 => rfl
    case c6 => rfl
    case c7 => have := congrArg List.length hkeys; rw [List.length_map] at this; rw [this]; decide
    walk1
    have hD5 : hF.DictOf (strKind Challenge.rw_oj0014_01.prog w) d kvs := Heap.dictOf_iff.mpr ⟨od, (N5 _ (.tail _ (.tail _ (.head _)))).1, hod⟩
    refine ⟨d, rfl, hD5, lo, rfl, ?_, ?_⟩
    · intro C i k t' u ys h tk m₂ E' hC hi hj hn hm up
      have hki : condKeys[i]? = some k := by rw [← hkeys, List.getElem?_map, hi]; rfl
      have Fc : Fr g C h m₂ := ⟨hn, fun b o e => up b o (F5.keep b o e), Nat.le_trans F5.above (Nat.le_trans (Nat.le_of_lt F5.ns.lt) (Nat.le_of_lt hC))⟩
      have cI : h.IsCell (L' + 1) (some (.ref l)) := ⟨oF, up _ _ (N5 _ (.tail _ (.tail _ (.tail _ (.head _))))).1, dF⟩
      have hl : h.IsList l vs.toArray := ⟨_, up _ _ (N5 _ (.tail _ (.head _))).1, rfl, n, rfl⟩
      have Nc : News g C h [] := News.nil
      refine tests_one ?_
      repeat ((fail_if_success (with_reducible show wpAny _ _ (compareOp CmpOp.In _ _) _ _ _)); walk1)
      refine in_list_strs hl hv ?_
      repeat walk1
      · exact Kept.of_up fun _ _ e => e
      have st : condKeys.take (i + 1) = condKeys.take i ++ [k] := by rw [List.take_add_one, hki]; rfl
      cases hb2 : (condsOf x).any (fun y => y == k) with
      | true =>
        rw [if_pos rfl]
        walk1
        refine ⟨_, _, rfl, Kept.of_up fun _ _ e => e, ?_⟩
        rw [st, List.filter_append, List.length_append, List.length_append, hj]
        simp [hb2]
      | false =>
        rw [if_neg (by simp)]
        rw [st, List.filter_append, List.length_append, hj]
        simp [hb2]
    · intro R h7 tk7 ys hR hpl hj hlen K7
      have hck : condKeys.length = 32 := rfl
      have hkl : kvs.length = 32 := by have := congrArg List.length hkeys; rw [List.length_map] at this; rw [this]; rfl
      rw [hkl, ← hck, List.take_length] at hj
      have F7 := Mine.Fr.kept F5 K7 (by simp) (by simp)
      have N7 := Mine.News.kept N5 K7 (by simp)
      clear F5 N5 K7
      repeat ((fail_if_success (with_reducible show wpAny _ _ (call (Value.builtin "len") _) _ _ _)); walk1)
      refine len_list hpl.isList (by rw [List.size_toArray]; omega) ?_
      rw [List.size_toArray, show ys.length = manyOf x from hj]
      change wpAny _ _ _ _ _ _
      repeat ((fail_if_success (with_reducible show wpAny _ _ (exec (Stmt.If _ _ _ _) _) _ _ _)); walk1)
      (with_reducible rename Fr _ _ _ _ => F8)
      (with_reducible rename News _ _ _ _ => N8)
      rename_i h8
      obtain ⟨c1, c4⟩ := conds_len x hxk
      have hvl : vs.length = (condsOf x).length := hv.length
      refine If_splitF F8 [(l, W.listOf vs.toArray n), (d, od), (L' + 1, oF)] (!decide ((condsOf x).length = manyOf x)) ?_ ?_ ?_
      · repeat ((fail_if_success (with_reducible show wpAny _ _ (subscriptTail _ _ _ _) _ _ _)); walk1)
        obtain ⟨t0, e0⟩ := strs_at hv (conds_head x hxk)
        refine item_at (News.isList N8 (.tail _ (.head _))) (by decide) (by decide) e0 ?_
        repeat ((fail_if_success (with_reducible show wpAny _ _ (compareOp _ _ _) _ _ _)); walk1)
        refine PyProof.Rows.ne_str ?_
        rw [bne_self_eq_false]
        repeat ((fail_if_success (with_reducible show wpAny _ _ (subscriptTail _ _ _ _) _ _ _)); walk1)
        obtain ⟨y, hy, ey⟩ := conds_last x hxk
        obtain ⟨t1, e1⟩ := strs_at hv ey
        refine item_last (News.isList N8 (.tail _ (.head _))) (by omega) (by rw [hvl]; exact e1) ?_
        repeat ((fail_if_success (with_reducible show wpAny _ _ (compareOp _ _ _) _ _ _)); walk1)
        (with_reducible rename Fr _ _ _ _ => F9)
        (with_reducible rename News _ _ _ _ => N9)
        refine notin_tuple_strs (News.isTup N9 (.head _)) (.cons _ _ (.cons _ _ .nil)) ?_
        rw [show ([Str.ofString "error", Str.ofString "quit"].any (· == y)) = true from by simp only [List.mem_cons, List.not_mem_nil, or_false] at hy; rcases hy with rfl | rfl <;> decide]
        rw [Bool.not_true]
        repeat ((fail_if_success (with_reducible show wpAny _ _ (call (Value.builtin "len") _) _ _ _)); walk1)
        refine len_list (News.isList N9 (.tail _ (.tail _ (.head _)))) (by rw [List.size_toArray]; omega) ?_
        rw [List.size_toArray, hvl]
        change wpAny _ _ _ _ _ _
        repeat ((fail_if_success (with_reducible show wpAny _ _ (compareOp _ _ _) _ _ _)); walk1)
        refine PyProof.Rows.ne_int ?_
        repeat ((fail_if_success (with_reducible show And _ _)); walk1)
        · refine ⟨?_, _, _, rfl, F9, fun q hq => N9 q (.tail _ (.tail _ hq))⟩
          rename_i ha
          rw [decide_eq_false (by omega)]; rfl
        · walk1
          refine ⟨?_, _, _, rfl, F9, fun q hq => N9 q (.tail _ (.tail _ hq))⟩
          rename_i ha
          rw [decide_eq_true (by omega)]; rfl
      · intro hb1 h9 tk9 F9 N9
        have hne : (condsOf x).length ≠ manyOf x := by simpa using hb1
        obtain ⟨m4, m1⟩ := conds_many x hxk hne
        clear F8 N8
        repeat ((fail_if_success (with_reducible show wpAny _ _ (call (Value.builtin "list.count") _) _ _ _)); walk1)
        refine count_list_strs (News.isList N9 (.head _)) hv ?_
        rw [m1]
        change wpAny _ _ _ _ _ _
        repeat ((fail_if_success (with_reducible show wpAny _ _ (compareOp _ _ _) _ _ _)); walk1)
        refine PyProof.Rows.eq_int ?_
        rw [show ((1 : Int) == 1) = true from rfl]
        repeat ((fail_if_success (with_reducible show wpAny _ _ (call (Value.builtin "len") _) _ _ _)); walk1)
        refine len_list (News.isList N9 (.head _)) (by rw [List.size_toArray]; omega) ?_
        rw [List.size_toArray, hvl, m4]
        change wpAny _ _ _ _ _ _
        repeat ((fail_if_success (with_reducible show wpAny _ _ (compareOp _ _ _) _ _ _)); walk1)
        refine PyProof.Rows.eq_int ?_
        rw [show (((4 : Nat) : Int) == 4) = true from rfl]
        repeat walk1
        dsimp only
        exact ret _ _ fun b o e _ => F9.keep b o (hk b o e (by simp))
      · intro hb1 h9 tk9 F9 N9
        have heq : (condsOf x).length = manyOf x := by simpa using hb1
        clear F8 N8
        walk1
        with_reducible refine wpAny_execs_cons ?_
        with_reducible refine For_inv ?a ?b ?_ ?d
        case a => rfl
        case b => rfl
        case d => intro _; rfl
        repeat ((fail_if_success (with_reducible show wpAny _ _ (call (Value.builtin "len") _) _ _ _)); walk1)
        refine len_list (News.isList N9 (.head _)) (by rw [List.size_toArray]; omega) ?_
        rw [List.size_toArray, hvl]
        change wpAny _ _ _ _ _ _
        repeat ((fail_if_success (with_reducible show wpAny _ _ (pyIter _) _ _ _)); walk1)
        (with_reducible rename IsRange _ _ _ _ _ _ _ _ => rg)
        (with_reducible rename Fr _ _ _ _ => F10)
        (with_reducible rename News _ _ _ _ => N10)
        refine range_iter rg (by decide) (by decide) (by omega) (by omega) fun h11 I hI K11 fI nI sI => ?_
        have F11 := Mine.Fr.kept F10 K11 (by simp) (by simp)
        have N11 := Mine.News.kept N10 K11 (by simp)
        have hLI : L' ≠ I := by obtain ⟨o, _, _, e, _⟩ := F10.ns; exact nI _ _ e
        have gI : g.get? I = none := none_below F10.keep fI
        have hlI : l ≠ I := nI _ _ (N10 _ (.head _)).1
        have hdI : d ≠ I := nI _ _ (N10 _ (.tail _ (.head _))).1
        have hcI : L' + 1 ≠ I := nI _ _ (N10 _ (.tail _ (.tail _ (.head _)))).1
        obtain ⟨mR, F11⟩ : ∃ mR, Fr g L' h11 mR := ⟨_, F11⟩
        clear F10 N10 rg K11
        refine ⟨I, [I], [I], (((condsOf x).length : Int) - 1).toNat, _, _, fun i m h => (∃ o, m = fun y => if y = Str.ofString "place" then o else mR y) ∧ (∀ b o, g.get? b = some o → h.get? b = some o) ∧ News g L' h [(l, W.listOf vs.toArray n), (d, od), (L' + 1, oF)], mR,
          rfl, Walks.range rfl I 1 1 _, hI, ?_, F11.ns, ⟨⟨mR (Str.ofString "place"), ?_⟩, F11.keep, N11⟩, ?_, ?_, ?_⟩
        · exact fun q => hLI (List.mem_singleton.mp q)
        · funext y; split
          · rename_i e; rw [e]
          · rfl
        · intro i m h h' hj hk'
          refine ⟨hj.1, fun b o e => hk' b o ?_ ?_ (hj.2.1 b o e), fun q hq => ⟨hk' _ _ (hj.2.2 q hq).2.1 ?_ (hj.2.2 q hq).1, (hj.2.2 q hq).2⟩⟩
          · rintro rfl; exact absurd (Heap.lt_size e) (Nat.not_lt.mpr F11.above)
          · intro q; rw [List.mem_singleton.mp q, gI] at e; cases e
          · simp only [List.mem_cons, List.not_mem_nil, or_false] at hq
            rcases hq with rfl | rfl | rfl
            · simpa using hlI
            · simpa using hdI
            · simpa using hcI
        · intro i v m h tk E' hi hv' hst hj hns
          obtain ⟨⟨o, rfl⟩, jk, jn⟩ := hj
          have F12 : Fr g L' h (fun y => if y = Str.ofString "place" then some v else mR y) := ⟨by
            have e : (fun y => if y = Str.ofString "place" then some v else if y = Str.ofString "place" then o else mR y) = fun y => if y = Str.ofString "place" then some v else mR y := by funext y; split <;> rfl
            rw [← e]; exact hns, jk, F11.above⟩
          obtain ⟨oI, hoI⟩ : ∃ o, h.get? I = some o := ⟨_, hst⟩
          have N12 : News g L' h [(I, oI), (l, W.listOf vs.toArray n), (d, od), (L' + 1, oF)] := by
            intro q hq
            rcases List.mem_cons.mp hq with rfl | hq
            · exact ⟨hoI, Ne.symm hLI, gI⟩
            · exact jn q hq
          obtain ⟨tv, rfl⟩ := hv'
          have q6 := neN hLI
          have q7 := neN hlI
          have q8 := neN hdI
          have q9 := neN hcI
          clear F11 N11 jn jk hns hst hI
          have hi1 : 1 + i < (condsOf x).length := by omega
          have hi4 : 1 + i < 4 := by omega
          obtain ⟨y, ey⟩ : ∃ y, (condsOf x)[1 + i]? = some y := ⟨_, List.getElem?_eq_getElem hi1⟩
          obtain ⟨ty, ty'⟩ := conds_tail x hxk heq ⟨1 + i, hi4⟩ y ey
          obtain ⟨t1, e1⟩ := strs_at hv ey
          have ek : (1 + (i : Int) * 1).toNat = 1 + i := by omega
          walk1
          refine If_splitF F12 [(I, oI), (l, W.listOf vs.toArray n), (d, od), (L' + 1, oF)] false ?_ ?_ ?_
          · repeat ((fail_if_success (with_reducible show wpAny _ _ (subscriptTail _ _ _ _) _ _ _)); walk1)
            refine item_at (News.isList N12 (.tail _ (.head _))) (by omega) (by omega) (by rw [ek]; exact e1) ?_
            repeat ((fail_if_success (with_reducible show wpAny _ _ (call (Value.ref 68) _) _ _ _)); walk1)
            refine condof_call (by assumption) (by assumption) X T rfl ?_ ?_ fun h13 tk13 l2 n2 vs2 el2 hv2 fl2 F13 N13 K13 => ?_
            · refine lt_of_depth ?_; dsimp only [Around.deeper]; omega
            · refine lt_of_depth ?_; dsimp only [Around.deeper]; omega
            have hl2L : l2 ≠ L' := by rintro rfl; obtain ⟨o, _, _, e, _⟩ := F12.ns; exact absurd (fl2.symm.trans e) (by simp)
            have gl2 : g.get? l2 = none := none_below F12.keep fl2
            have N14 : News g L' h13 [(l2, W.listOf vs2.toArray n2), (I, oI), (l, W.listOf vs.toArray n), (d, od), (L' + 1, oF)] := by
              intro q hq
              rcases List.mem_cons.mp hq with rfl | hq
              · exact ⟨el2, hl2L, gl2⟩
              · exact N13 q hq
            have q10 : l2 ≠ I := by rintro rfl; exact absurd (fl2.symm.trans (N12 _ (.head _)).1) (by simp)
            have q11 : l2 ≠ l := by rintro rfl; exact absurd (fl2.symm.trans (N12 _ (.tail _ (.head _))).1) (by simp)
            have q12 : l2 ≠ d := by rintro rfl; exact absurd (fl2.symm.trans (N12 _ (.tail _ (.tail _ (.head _)))).1) (by simp)
            have q13 : l2 ≠ L' + 1 := by rintro rfl; exact absurd (fl2.symm.trans (N12 _ (.tail _ (.tail _ (.tail _ (.head _))))).1) (by simp)
            have q14 := neN hl2L
            have q15 := neN q10
            have q16 := neN q11
            have q17 := neN q12
            have q18 := neN q13
            clear F12 N12 N13 K13 fl2 el2
            repeat ((fail_if_success (with_reducible show wpAny _ _ (subscriptTail _ _ _ _) _ _ _)); walk1)
            refine kmk_slice F13 N14 (News.isList N14 (.tail _ (.tail _ (.head _)))) (.int _ _) .none ?_ ?hs ?ht ?hz
            case hs => with_unfolding_all rfl
            case ht => intro _; with_unfolding_all rfl
            case hz => rw [List.size_toArray, sizeLine_eq]; omega
            intro D15 h15 F15 N15 lt15
            have hdr : decide (condsOf y = (condsOf x).drop (1 + i)) = true := decide_eq_true ty
            rw [pick_drop (a := 1 + i) _ (by omega)] at N15
            clear F13 N14
            repeat ((fail_if_success (with_reducible show wpAny _ _ (compareOp _ _ _) _ _ _)); walk1)
            refine ne_strsH (News.isList N15 (.tail _ (.head _))) (News.isList N15 (.head _)) hv2 (strs_drop hv (1 + i)) ty' (by rw [← show condsOf y = (condsOf x).drop (1 + i) from ty]; exact ty') ?_ ?_
            · rw [cLine_is]; dsimp only [Around.deeper]; omega
            rw [hdr, Bool.not_true]
            repeat walk1
            · exact F15
            · exact fun q hq => N15 q (.tail _ (.tail _ hq))
          · intro q; cases q
          · intro _ h16 tk16 F16 N16
            repeat walk1
            refine .inl ⟨rfl, _, h16, tk16, rfl, F16.ns, ⟨⟨_, rfl⟩, F16.keep, fun q hq => N16 q (.tail _ hq)⟩, ?_⟩
            intro b hb o' e'
            rw [List.mem_singleton.mp hb] at e' ⊢
            rw [hoI] at e'; cases e'
            exact (N16 _ (.head _)).1
        · intro m h tk hns hj
          obtain ⟨⟨o, rfl⟩, jk, jn⟩ := hj
          have F12 : Fr g L' h (fun y => if y = Str.ofString "place" then o else mR y) := ⟨hns, jk, F11.above⟩
          clear F11 N11
          repeat walk1
          dsimp only
          exact ret _ _ fun b o e _ => F12.keep b o (hk b o e (by simp))
theorem right_call {w : World} {loose : List Str} {mean : ExcName → Option Value} {mg mb : Str → Option Value} {g : Heap} {L : Addr} {m : Str → Option Value} {nw : List (Addr × Obj)} {A : Around} {s : Shared} {Q E : Value → Shared → Prop} {x : Str} {t : Tok}
    (F : Fr g L s.heap m) (N : News g L s.heap nw) (X : (hd.heap_39 w.params).In g) (T : Top hd.view_39 loose mean mg mb g) (hx : x ∈ condKeys ∨ x = Str.ofString "no-such") (hh : A.handled = none) (hdp : A.depth < 780) (hu : A.units < 1800)
    (ret : ∀ h' tk', Fr g L h' m → News g L h' nw → Kept s.heap h' [] → Q (.bool true) { s with heap := h', toks := tk' }) :
    wpAny (model Challenge.rw_oj0014_01.prog w) A (call (.ref 126) [.str x t]) Q E s := by
  refine wpAny_call (right_code ⟨X, T, F.keep⟩ hx hh hdp hu fun h' tk' hk => ?_)
  exact ret h' tk' (Mine.Fr.kept F hk (by simp) (by simp)) (Mine.News.kept N hk (by simp)) hk
end Mine
end

section
open PySem PySem.W PySem.Calls PyProof.Rows
namespace Mine
theorem depth_in (env : Env) : (callerA.deeper env).depth < 600 := by
  show 1 + claimMargin + 1 < 600
  decide
theorem units_in (env : Env) : (callerA.deeper env).units < 1000 := by
  show 4 + _ < 1000
  decide
theorem PotOk.objs {g h : Heap} {P C : Addr} (p : PotOk g h P C) : ∃ oP oC, h.get? P = some oP ∧ h.get? C = some oC ∧ ∀ h', h'.get? P = some oP → h'.get? C = some oC → PotOk g h' P C := by
  obtain ⟨hP, hC, n, at_, r, t1, t2, n1, n2, vs, ns, q⟩ := p
  exact ⟨_, _, q.pot, q.cells, fun h' e1 e2 => ⟨hP, hC, n, at_, r, t1, t2, n1, n2, vs, ns, ⟨e1, e2, q.isI, q.hat, q.hr0, q.hr1, q.hsz⟩⟩⟩
theorem data_call {w : World} {loose : List Str} {mean : ExcName → Option Value} {mg mb : Str → Option Value} {g : Heap} {L P C : Addr} {m : Str → Option Value} {nw : List (Addr × Obj)} {A : Around} {s : Shared} {Q E : Value → Shared → Prop}
    (F : Fr g L s.heap m) (N : News g L s.heap nw) (X : (hd.heap_39 w.params).In g) (T : Top hd.view_39 loose mean mg mb g) (PO : PotOk g s.heap P C) (hn : ∀ q ∈ nw, q.1 ≠ P) (hh : A.handled = none) (hdp : A.depth < 890)
    (ret : ∀ h' tk' D ys n, h'.get? D = some (W.listOf (List.toArray ys) n) → s.heap.get? D = none → (∀ y ∈ ys, IsDatum y) → ys.length ≤ 4 → PotOk g h' P C → Fr g L h' m → News g L h' nw → Kept s.heap h' [P] → Q (.ref D) { s with heap := h', toks := tk' }) :
    wpAny (model Challenge.rw_oj0014_01.prog w) A (call (.ref 111) [.ref P]) Q E s := by
  refine wpAny_call (data_code ⟨X, T, F.keep⟩ PO hh hdp fun h' tk' D ys e1 e2 e3 e4 e5 hk => ?_)
  obtain ⟨n, e2⟩ := e2
  have hLP := (PO.notFrame F).1
  exact ret h' tk' D ys n e2 e1 e3 e4 e5 (Mine.Fr.kept F hk (by simpa using hLP) (by simpa using PO.1)) (Mine.News.kept N hk fun q hq => by simpa using hn q hq) hk
theorem names_call {w : World} {loose : List Str} {mean : ExcName → Option Value} {mg mb : Str → Option Value} {g : Heap} {L P C : Addr} {m : Str → Option Value} {nw : List (Addr × Obj)} {A : Around} {s : Shared} {Q E : Value → Shared → Prop}
    (F : Fr g L s.heap m) (N : News g L s.heap nw) (X : (hd.heap_39 w.params).In g) (T : Top hd.view_39 loose mean mg mb g) (PO : PotOk g s.heap P C) (hn : ∀ q ∈ nw, q.1 ≠ P) (hh : A.handled = none) (hdp : A.depth < 890)
    (ret : ∀ h' tk' D ys n, h'.get? D = some (W.listOf (List.toArray ys) n) → s.heap.get? D = none → (∀ y ∈ ys, IsName y) → ys.length ≤ 6 → PotOk g h' P C → Fr g L h' m → News g L h' nw → Kept s.heap h' [P] → Q (.ref D) { s with heap := h', toks := tk' }) :
    wpAny (model Challenge.rw_oj0014_01.prog w) A (call (.ref 116) [.ref P]) Q E s := by
  refine wpAny_call (names_code ⟨X, T, F.keep⟩ PO hh hdp fun h' tk' D ys e1 e2 e3 e4 e5 hk => ?_)
  obtain ⟨n, e2⟩ := e2
  have hLP := (PO.notFrame F).1
  exact ret h' tk' D ys n e2 e1 e3 e4 e5 (Mine.Fr.kept F hk (by simpa using hLP) (by simpa using PO.1)) (Mine.News.kept N hk fun q hq => by simpa using hn q hq) hk
section
variable {prog : Program} {w : World} {A : Around} {E : Value → Shared → Prop} {s : Shared} {Q : Value → Shared → Prop}
theorem ne_pair {U V D : Addr} {x : Str} {u t : Tok} {n k n' : Nat} {ys : List Value} (hU : s.heap.get? U = some ⟨.type "tuple", none, .seq #[.str x u, .ref D] n, #[]⟩) (hV : s.heap.get? V = some ⟨.type "tuple", none, .seq #[.str x t, .ref D] n', #[]⟩)
    (hD : s.heap.get? D = some (W.listOf ys.toArray k)) (hy : ∀ y ∈ ys, IsDatum y) (hx : PyData.strOk x = true) (hA : A.units + 64 < cLine) (h : Q (.bool false) s) : wpAny (model prog w) A (compareOp .NotEq (.ref U) (.ref V)) Q E s := by
  have rD : Reads s.heap (.ref D) (.list (ys.map pyd)) [D] := reads_newData ⟨_, hD, rfl, k, rfl⟩ (data_carried hy)
  have sh : SeqAt.shaped (.tuple [.str x, .list (ys.map pyd)]) = true := by
    have a := data_lay hy
    simp [SeqAt.shaped, PyData.canLay0, PyData.canLayAll0, PyData.depth, PyData.depthAll, a.1, a.2.1, hx]
  refine ne_dataH (da := .tuple [.str x, .list (ys.map pyd)]) (db := .tuple [.str x, .list (ys.map pyd)]) (.tuple hU rfl rfl (.cons (.str _ _) (.cons rD .nil))) (.tuple hV rfl rfl (.cons (.str _ _) (.cons rD .nil))) sh sh hA ?_
  have e : (!PyData.eqv (.tuple [.str x, .list (ys.map pyd)]) (.tuple [.str x, .list (ys.map pyd)])) = false := by
    have a := data_lay hy
    simp [PyData.eqv, PyData.eqvAll, a.2.2]
  rw [e]; exact h
theorem ne_steps {U V : Addr} {u t t1 t2 : Tok} {n n' : Nat} (hU : s.heap.get? U = some ⟨.type "tuple", none, .seq #[.str (Str.ofString "steps") u, .int 7 t1] n, #[]⟩) (hV : s.heap.get? V = some ⟨.type "tuple", none, .seq #[.str (Str.ofString "steps") t, .int 7 t2] n', #[]⟩)
    (hA : A.units + 64 < cLine) (h : Q (.bool false) s) : wpAny (model prog w) A (compareOp .NotEq (.ref U) (.ref V)) Q E s := by
  refine ne_dataH (da := .tuple [.str (Str.ofString "steps"), .int 7]) (db := .tuple [.str (Str.ofString "steps"), .int 7]) (.tuple hU rfl rfl (.cons (.str _ _) (.cons (.int _ _) .nil))) (.tuple hV rfl rfl (.cons (.str _ _) (.cons (.int _ _) .nil))) (by decide +kernel) (by decide +kernel) hA ?_
  have e : (!PyData.eqv (.tuple [.str (Str.ofString "steps"), .int 7]) (.tuple [.str (Str.ofString "steps"), .int 7])) = false := by decide +kernel
  rw [e]; exact h
end
theorem If_splitN {M : Model} {A : Around} {E : Value → Shared → Prop} {s : Shared} {env : Env} {test : Expr} {body orelse : List Stmt} {pos : Pos} {Q : Flow → Shared → Prop} {g h : Heap} {L : Addr} {m : Str → Option Value} {nw : List (Addr × Obj)} (F : Fr g L h m) (_N : News g L h nw) (b : Bool)
    (h1 : wpAny M A (isTrue test env (eval test env)) (fun b' s₁ => b' = b ∧ ∃ h' tk, s₁ = { s with heap := h', toks := tk } ∧ Fr g L h' m ∧ News g L h' nw) E s)
    (h2 : b = true → ∀ h' tk, Fr g L h' m → News g L h' nw → wpAny M A (execs body env) Q E { s with heap := h', toks := tk })
    (h3 : b = false → ∀ h' tk, Fr g L h' m → News g L h' nw → wpAny M A (execs orelse env) Q E { s with heap := h', toks := tk }) :
    wpAny M A (exec (.If test body orelse pos) env) Q E s := If_splitF F nw b h1 h2 h3
theorem news_new {g h h' : Heap} {L U : Addr} {o : Obj} {m : Str → Option Value} {nw : List (Addr × Obj)} (F : Fr g L h m) (N : News g L h' nw) (e : h'.get? U = some o) (f : h.get? U = none) : News g L h' ((U, o) :: nw) := by
  intro q hq
  rcases List.mem_cons.mp hq with rfl | hq
  · exact ⟨e, by rintro rfl; obtain ⟨o, _, _, e, _⟩ := F.ns; exact absurd (f.symm.trans e) (by simp), none_below F.keep f⟩
  · exact N q hq
section
variable {prog : Program} {w : World} {A : Around} {E : Value → Shared → Prop} {s : Shared}
theorem lsort_strs {D : Addr} {vs : List Value} {ss : List Str} {n : Nat} {Q : Value → Shared → Prop} (ho : s.heap.get? D = some (seqObj "list" vs.toArray n)) (hS : StrsAre vs ss) (h64 : vs.length < 64)
    (h : ∀ (out : Array Value) (ss' : List Str), StrsAre out.toList ss' → ss'.Perm ss → Q .none { s with heap := sortedHeap s.heap D vs out }) :
    wpAny (model prog w) A (call (.builtin "list.sort") [.ref D]) Q E s := by
  refine wpAny_call_entry PyProof.Rows.slot_list_sort ⟨_, ho, rfl⟩ PyProof.Rows.entry_list_sort (list_sort_treeK strKind_oneLt ho hS.keysOf (fun v₁ v₂ rest e => keyKind_strs (by rw [← e]; exact hS)) h64 fun st' hp hs => ⟨.none, rfl, ?_⟩) (PyProof.Rows.args_list_sort _)
  obtain ⟨ss', h1, h2, h3⟩ := sorted_out_str hS hp hs
  exact h _ ss' h1 h2
theorem strs_of {vs : List Value} {ts : List Str} (hl : vs.length = ts.length) (h : ∀ (j : Nat) (v : Value), vs[j]? = some v → ∃ x t, ts[j]? = some x ∧ v = .str x t) : StrsAre vs ts := by
  induction vs generalizing ts with
  | nil => cases ts with
    | nil => exact .nil
    | cons _ _ => cases hl
  | cons v r ih => cases ts with
    | nil => cases hl
    | cons x q =>
      obtain ⟨y, t, e1, rfl⟩ := h 0 v rfl
      cases e1
      exact .cons _ t (ih (by simpa using hl) fun j v e => h (j + 1) v e)
theorem sorted_dict {g : Heap} {L d : Addr} {m : Str → Option Value} {nw : List (Addr × Obj)} {kvs : List (Str × Value)} {Q : Value → Shared → Prop} (F : Fr g L s.heap m) (N : News g L s.heap nw) (hh : A.handled = none) (hd : s.heap.DictOf (PySem.strKind prog w) d kvs) (lo : (d == sysModules) = false) (hn : kvs.length < 64)
    (h : ∀ (D : Addr) (h' : Heap) (tk : Nat) (vs : List Value) (ss : List Str) (n : Nat), Fr g L h' m → News g L h' ((D, W.listOf vs.toArray n) :: nw) → StrsAre vs ss → ss.Perm (kvs.map (·.1)) → (∀ q ∈ nw, q.1 < D) → Q (.ref D) { s with heap := h', toks := tk }) :
    wpAny (model prog w) A (call (.builtin "sorted") [.ref d]) Q E s := by
  obtain ⟨ep, hat⟩ := hd.dictAt
  refine kdu_sorted (kdl_dict (knd := PySem.strKind prog w) (kvs := kvs) (ep := ep) lo) hh F N hat (by rw [sizeLine_eq]; omega) fun B h' tk vs F' N' l1 hl hv => ?_
  have hS : StrsAre vs (kvs.map (·.1)) := strs_of (by rw [hl, List.length_map]) fun j v e => by
    obtain ⟨k, x, hx, hk⟩ := hv j v e
    obtain ⟨t, rfl⟩ := Value.isStrOf_shape hk
    exact ⟨k, t, by rw [List.getElem?_map, hx]; rfl, rfl⟩
  have eB := (N' _ (.head _)).1
  have nB := (N' _ (.head _)).2
  refine lsort_strs (n := 0) eB hS (by omega) fun out ss h1 h2 => ?_
  obtain ⟨e, he⟩ := sortedHeap_at (out := out) eB
  have old : ∀ b o, b ≠ B → h'.get? b = some o → (sortedHeap h' B vs out).get? b = some o := fun b o hb e => by rw [sortedHeap_old hb (Heap.lt_size e)]; exact e
  refine h B _ _ out.toList ss e ⟨F'.ns.at' fun o e => old _ o nB.1.symm e, fun b o e => old b o (by rintro rfl; rw [nB.2] at e; cases e) (F'.keep b o e), F'.above⟩ ?_ h1 h2 l1
  intro q hq
  rcases List.mem_cons.mp hq with rfl | hq
  · exact ⟨by rw [Array.toArray_toList]; exact he, nB⟩
  · exact ⟨old _ _ (Nat.ne_of_lt (l1 q hq)) (N' _ (.tail _ hq)).1, (N' _ (.tail _ hq)).2⟩
end
def IsCond (v : Value) : Prop := ∃ x t, v = .str x t ∧ (x ∈ condKeys ∨ x = Str.ofString "no-such")
theorem msg_keys : ∀ p ∈ msgTable, p.1 ∈ condKeys := by decide +kernel
theorem over_key : Str.ofString "overflow-error" ∈ condKeys := by decide +kernel
theorem units_c (env : Env) : (callerA.deeper env).units + 64 < cLine := by rw [cLine_is]; have := units_in env; omega
theorem eight_ok : ∀ x ∈ eightNames, PyData.strOk x = true := by decide +kernel
end Mine
end

section
open PySem PySem.W PySem.Calls PyProof.Rows
namespace Mine
theorem off_w1 : True := by
  w_top off
  exact True.intro
local macro_rules | `(tactic| walk_at "zz") => `(tactic| exact True.intro)
local macro_rules | `(tactic| walk_at "eval Name") => `(tactic| (k_here; (with_reducible show wpAny _ _ (eval (Expr.Name _ _) (compEnvC _ _ _ _)) _ _ _); k_dflt (first
  | (refine' nameC_F ?i ?l ?_ ?a ?b ?c; (case b => with_unfolding_all rfl); (case a => with_unfolding_all rfl); (case c => decide); (case l => with_unfolding_all rfl); (case i => first | with_reducible assumption | (with_reducible show Heap.IsCell _ _ _; (with_reducible rename Heap.IsCell _ _ _ => ci9); exact ci9)))
  | (refine' nameC_L ?F ?v ?_ ?a ?b ?c; (case b => with_unfolding_all rfl); (case a => with_unfolding_all rfl); (case c => decide); (case F => assumption); (case v => assumption))
  | (refine' nameC_K ?F ?X ?T ?e ?_ ?g ?a ?b ?c; (case b => with_unfolding_all rfl); (case a => with_unfolding_all rfl); (case c => decide); (case g => with_unfolding_all rfl); (case F => assumption); (case X => assumption); (case T => exact topRead_of (by assumption)); (case e => k_is)))))
set_option maxHeartbeats 8000000 in
theorem holds : Challenge.rw_oj0014_01.Holds := hd (by
  k_fill
  k_go0
  rename_i w s₀ s₁ mg mb G Y fa o pm doc ho hg KX XX V GL T B TE TW w11 w10 M w9 w8 hcd ns hs hlay0 hL hr hl2 w6 w5 S vs w2 hLS ra w1 r0 hI hr2 hc1 hc2 K0 hD h₁ tk₁ F oc2 oc1 dc2 dc1 N0 X0
  generalize hL0 : s₁.heap.objs.size = L at *
  walk1
  repeat ((fail_if_success (with_reducible show wpAny _ _ (storeName _ _ _) _ _ _)); walk1)
  clear F N0 X0
  repeat ((fail_if_success (with_reducible show wpAny _ _ (exec (Stmt.For _ _ _ _ _) _) _ _ _)); walk1)
  (with_reducible rename Fr _ L _ _ => F1)
  (with_reducible rename News _ L _ _ => N1)
  rename_i Da wsa ha hIa hCa hLa la hka1 hka2 ga ys hI8 hL8 Db hb tb o1b hb2 tb2 tb3 P hc Fpot Npot lP Gc kX hh oc1' dc1'
  have hg0 : s₁.heap.get? P = none := (N1 _ (.head _)).2.2
  have PO : PotOk s₁.heap hh P Db := by
    refine ⟨hg0, (N1 _ (.tail _ (.head _))).2.2, ?_, 0, _, _, _, _, _, ys, _, ⟨(N1 _ (.head _)).1, (N1 _ (.tail _ (.head _))).1, hI8, Int.le_refl _, ?_, ?_, ?_⟩⟩
    · have := ltN lP.1; exact neN (by omega)
    · have := Int.fmod_nonneg_of_pos (List.map (fun k' => (if k' < 0 then -k' else k').fmod 1000003) (List.take 48 ns)).sum (b := 65519) (by decide); omega
    · have := Int.fmod_lt_of_pos (List.map (fun k' => (if k' < 0 then -k' else k').fmod 1000003) (List.take 48 ns)).sum (b := 65519) (by decide); omega
    · rw [List.length_map, List.length_take]; omega
  have N2 : News s₁.heap L hh [(L + 1 + 1, oc2), (L + 1, oc1')] := fun q hq => N1 q (.tail _ (.tail _ (.tail _ hq)))
  have e12 := neN (show P ≠ L + 1 from by have := ltN lP.2.2.2; exact neN (by omega))
  have e12' := neN (show L + 1 + 1 ≠ P from by have := ltN lP.2.2.1; exact neN (by omega))
  obtain ⟨mR, F2⟩ : ∃ mR, Fr s₁.heap L hh mR := ⟨_, F1⟩
  have o1b' := o1b.2
  clear F1 N1 Fpot Npot hI8 hL8 lP o1b la hIa hCa hLa
  clear dc1 G Y V GL B TE TW M hcd hs hlay0 hL hr hl2 ra w1 r0 hI hr2 hc1 hc2 hD XX Gc kX
  have hLP : L ≠ P := (PO.notFrame F2).1
  with_reducible refine For_inv ?fv1 ?fv2 ?_ ?fv3
  case fv1 => rfl
  case fv2 => rfl
  case fv3 => intro _; rfl
  repeat ((fail_if_success (with_reducible show wpAny _ _ (call (Value.ref 116) _) _ _ _)); walk1)
  have hn2 : ∀ q ∈ [(L + 1 + 1, oc2), (L + 1, oc1')], q.1 ≠ P := by
    intro q hq
    simp only [List.mem_cons, List.not_mem_nil, or_false] at hq
    rcases hq with rfl | rfl
    · exact e12'
    · exact e12.symm
  refine names_call F2 N2 KX T PO hn2 rfl (Nat.lt_trans (depth_in _) (by decide)) fun h3 tk3 D xs nD eD fD hxs hlen PO3 F3 N3 K3 => ?_
  have hD : h3.IsList D xs.toArray := ⟨_, eD, rfl, _, rfl⟩
  refine list_iter hD fun h4 I hI hD4 K4 fI nI sI gI => ?_
  have PO4 := PO3.up K4
  have F4 := Mine.Fr.kept F3 K4 (by simp) (by simp)
  have N4 := Mine.News.kept N3 K4 (by simp)
  have hDI : D ≠ I := nI _ _ eD
  have hLI : L ≠ I := by obtain ⟨o, _, _, e, _⟩ := F3.ns; exact nI _ _ e
  have hLD : L ≠ D := by rintro rfl; obtain ⟨o, _, _, e, _⟩ := F2.ns; exact absurd (fD.symm.trans e) (by simp)
  have gI0 : s₁.heap.get? I = none := none_below F3.keep fI
  have gD0 : s₁.heap.get? D = none := none_below F2.keep fD
  have hPI : P ≠ I := by obtain ⟨oP, oC, e1, e2, _⟩ := PO3.objs; exact nI _ _ e1
  have hCI : Db ≠ I := by obtain ⟨oP, oC, e1, e2, _⟩ := PO3.objs; exact nI _ _ e2
  have h2I : L + 1 + 1 ≠ I := nI _ _ (N3 _ (.head _)).1
  have h1I : L + 1 ≠ I := nI _ _ (N3 _ (.tail _ (.head _))).1
  refine ⟨I, [I, D], [I], xs.toArray.size, _, _, fun i m h => (∃ o1 o2, m = fun y => if y = Str.ofString "data" then o1 else if y = Str.ofString "name" then o2 else mR y) ∧ (∀ b o, s₁.heap.get? b = some o → h.get? b = some o) ∧ News s₁.heap L h [(L + 1 + 1, oc2), (L + 1, oc1')] ∧ PotOk s₁.heap h P Db, mR,
    rfl, Walks.list rfl I D hDI xs.toArray, ⟨hI, hD4⟩, ?_, F4.ns, ⟨⟨mR (Str.ofString "data"), mR (Str.ofString "name"), ?_⟩, F4.keep, N4, PO4⟩, ?_, ?_, ?_⟩
  · intro q
    rcases List.mem_cons.mp q with q | q
    · exact hLI q
    · exact hLD (List.mem_singleton.mp q)
  · funext y
    split
    · rename_i e; rw [e]
    · split
      · rename_i e; rw [e]
      · rfl
  · intro i m h h' hj hk'
    have kk : ∀ b o, h.get? b = some o → b ≠ L → b ≠ I → h'.get? b = some o := fun b o e h1 h2 => hk' b o h1 (by simpa using h2) e
    refine ⟨hj.1, fun b o e => kk b o (hj.2.1 b o e) ?_ ?_, fun q hq => ⟨kk _ _ (hj.2.2.1 q hq).1 (hj.2.2.1 q hq).2.1 ?_, (hj.2.2.1 q hq).2⟩, ?_⟩
    · rintro rfl; exact absurd (Heap.lt_size e) (Nat.not_lt.mpr F2.above)
    · rintro rfl; rw [gI0] at e; cases e
    · simp only [List.mem_cons, List.not_mem_nil, or_false] at hq
      rcases hq with rfl | rfl
      · exact h2I
      · exact h1I
    · refine hj.2.2.2.keeps hj.2.2.2.1 hj.2.2.2.2.1 fun b o e q => kk b o e ?_ ?_
      · rcases q with rfl | rfl
        · exact hLP.symm
        · exact (PO.notFrame F2).2.symm
      · rcases q with rfl | rfl
        · exact hPI
        · exact hCI
  · intro i v m h tk E' hi hv hst hj hns
    obtain ⟨⟨o1, o2, rfl⟩, jk, jn, jp⟩ := hj
    have F5 : Fr s₁.heap L h (fun y => if y = Str.ofString "name" then some v else if y = Str.ofString "data" then o1 else mR y) := fr_congr ⟨hns, jk, F2.above⟩ fun y => by
      by_cases h1 : y = Str.ofString "name"
      · simp [h1]
      · simp [h1]
    obtain ⟨oI, eI, cI⟩ := hst.1
    obtain ⟨oD, eD', cD⟩ := hst.2
    obtain ⟨x, tx, rfl, hx⟩ := hxs v (by have := List.mem_of_getElem? (by simpa using hv); exact this)
    have N5 : News s₁.heap L h [(I, oI), (D, oD), (L + 1 + 1, oc2), (L + 1, oc1')] := by
      intro q hq
      rcases List.mem_cons.mp hq with rfl | hq
      · exact ⟨eI, hLI.symm, gI0⟩
      rcases List.mem_cons.mp hq with rfl | hq
      · exact ⟨eD', hLD.symm, gD0⟩
      · exact jn q hq
    have hn5 : ∀ q ∈ [(I, oI), (D, oD), (L + 1 + 1, oc2), (L + 1, oc1')], q.1 ≠ P := by
      intro q hq
      rcases List.mem_cons.mp hq with rfl | hq
      · exact hPI.symm
      rcases List.mem_cons.mp hq with rfl | hq
      · intro e; obtain ⟨oP, oC, e1, e2, _⟩ := PO.objs; have e3 : D = P := e; subst e3; exact absurd (fD.symm.trans e1) (by simp)
      · exact hn2 q hq
    clear hst jn jk hns F2 F3 F4 N2 N3 N4
    walk1
    repeat ((fail_if_success (with_reducible show wpAny _ _ (call (Value.ref 111) _) _ _ _)); walk1)
    refine data_call F5 N5 KX T jp hn5 rfl (Nat.lt_trans (depth_in _) (by decide)) fun h6 tk6 D6 ys n6 e6 f6 hys hyl PO6 F6 N6 K6 => ?_
    obtain ⟨oP, oC, eP, eC, backP⟩ := PO6.objs
    have N7 : News s₁.heap L h6 [(D6, W.listOf ys.toArray n6), (P, oP), (Db, oC), (I, oI), (D, oD), (L + 1 + 1, oc2), (L + 1, oc1')] := by
      intro q hq
      rcases List.mem_cons.mp hq with rfl | hq
      · exact ⟨e6, by rintro rfl; obtain ⟨o, _, _, e, _⟩ := F5.ns; exact absurd (f6.symm.trans e) (by simp), none_below F5.keep f6⟩
      rcases List.mem_cons.mp hq with rfl | hq
      · exact ⟨eP, (PO6.notFrame F6).1.symm, PO6.1⟩
      rcases List.mem_cons.mp hq with rfl | hq
      · exact ⟨eC, (PO6.notFrame F6).2.symm, PO6.2.1⟩
      · exact N6 q hq
    clear F5 N5 N6 K6 jp e6 f6 PO4 PO3 PO6
    repeat ((fail_if_success (with_reducible show wpAny _ _ (exec (Stmt.If _ _ _ _) _) _ _ _)); walk1)
    (with_reducible rename Fr _ L _ _ => F8)
    (with_reducible rename News _ L _ _ => N8)
    refine If_splitN F8 N8 false ?_ ?_ ?_
    · repeat ((fail_if_success (with_reducible show wpAny _ _ (call (Value.ref 87) _) _ _ _)); walk1)
      refine of_call F8 N8 KX T (News.isList N8 (.head _)) hys hyl hx rfl (Nat.lt_trans (depth_in _) (by decide)) (Nat.lt_trans (units_in _) (by decide)) fun h9 tk9 u9 F9 N9 K9 => ?_
      clear F8 N8 K9
      repeat ((fail_if_success (with_reducible show wpAny _ _ (call (Value.ref 121) _) _ _ _)); walk1)
      refine lawm_call F9 N9 KX T (News.isList N9 (.head _)) hys hyl hx rfl (Nat.lt_trans (depth_in _) (by decide)) (Nat.lt_trans (units_in _) (by decide)) fun h10 tk10 u10 F10 N10 K10 => ?_
      clear F9 N9 K10
      repeat ((fail_if_success (with_reducible show wpAny _ _ (compareOp _ _ _) _ _ _)); walk1)
      refine PyProof.Rows.ne_str ?_
      rw [bne_self_eq_false]
      repeat walk1
      · exact F10
      · exact N10
    · intro q; cases q
    · intro _ h9 tk9 F9 N9
      clear F8 N8
      repeat ((fail_if_success (with_reducible show wpAny _ _ (exec (Stmt.If _ _ _ _) _) _ _ _)); walk1)
      refine If_splitN F9 N9 false ?_ ?_ ?_
      · repeat ((fail_if_success (with_reducible show wpAny _ _ (call (Value.ref 133) _) _ _ _)); walk1)
        refine caught0_call F9 N9 KX T rfl (depth_in _) (Nat.lt_trans (units_in _) (by decide)) rfl rfl (show ScopeKind.function ≠ ScopeKind.module from by decide) fun h10 tk10 U u10 n10 eU fU F10 N10 K10 => ?_
        have N11 := news_new F9 N10 eU fU
        clear F9 N9 N10 K10 eU fU
        repeat ((fail_if_success (with_reducible show wpAny _ _ (compareOp _ _ _) _ _ _)); walk1)
        (with_reducible rename Fr _ L _ _ => F12)
        (with_reducible rename News _ L _ _ => N12)
        refine ne_pair (N12 _ (.tail _ (.head _))).1 (N12 _ (.head _)).1 (N12 _ (.tail _ (.tail _ (.head _)))).1 hys (eight_ok x hx) (units_c _) ?_
        have N13 : News s₁.heap L _ [(D6, W.listOf ys.toArray n6), (P, oP), (Db, oC), (I, oI), (D, oD), (L + 1 + 1, oc2), (L + 1, oc1')] := fun q hq => N12 q (.tail _ (.tail _ hq))
        clear N12
        repeat ((fail_if_success (with_reducible show wpAny _ _ (call (Value.ref 133) _) _ _ _)); walk1)
        refine caught7_call F12 N13 KX T rfl (depth_in _) (Nat.lt_trans (units_in _) (by decide)) rfl rfl (show ScopeKind.function ≠ ScopeKind.module from by decide) fun h10 tk10 U u10 n10 eU fU F10 N10 K10 => ?_
        have N11 := news_new F12 N10 eU fU
        clear F12 N13 N10 K10 eU fU
        repeat ((fail_if_success (with_reducible show wpAny _ _ (compareOp _ _ _) _ _ _)); walk1)
        (with_reducible rename Fr _ L _ _ => F14)
        (with_reducible rename News _ L _ _ => N14)
        refine ne_steps (N14 _ (.tail _ (.head _))).1 (N14 _ (.head _)).1 (units_c _) ?_
        have N15 : News s₁.heap L _ [(D6, W.listOf ys.toArray n6), (P, oP), (Db, oC), (I, oI), (D, oD), (L + 1 + 1, oc2), (L + 1, oc1')] := fun q hq => N14 q (.tail _ (.tail _ hq))
        clear N14
        repeat walk1
        · exact F14
        · exact N15
      · intro q; cases q
      · intro _ h16 tk16 F16 N16
        clear F9 N9
        repeat walk1
        refine .inl ⟨rfl, _, h16, tk16, rfl, F16.ns, ⟨⟨some (.ref D6), some (.str x tx), ?_⟩, F16.keep, fun q hq => N16 q (.tail _ (.tail _ (.tail _ (.tail _ (.tail _ hq))))), backP _ (N16 _ (.tail _ (.head _))).1 (N16 _ (.tail _ (.tail _ (.head _)))).1⟩, ?_⟩
        · funext y
          by_cases h1 : y = Str.ofString "data"
          · simp only [if_pos h1]
          · simp only [if_neg h1]
        · intro b hb o' e'
          rcases List.mem_cons.mp hb with rfl | hb
          · rw [eI] at e'; cases e'
            exact (N16 _ (.tail _ (.tail _ (.tail _ (.head _))))).1
          · rw [List.mem_singleton.mp hb] at e' ⊢
            rw [eD'] at e'; cases e'
            exact (N16 _ (.tail _ (.tail _ (.tail _ (.tail _ (.head _)))))).1
  · intro m h tk hns hj
    obtain ⟨⟨o1, o2, rfl⟩, jk, jn, jp⟩ := hj
    obtain ⟨mS, F5⟩ : ∃ mS, Fr s₁.heap L h mS := ⟨_, hns, jk, F2.above⟩
    clear hns jk F2 F3 F4 N2 N3 N4 PO PO3 PO4 K3 K4 hD hD4 hI fI nI gI sI eD fD
    repeat ((fail_if_success (with_reducible show wpAny _ _ (callWith _ (Value.ref 61) _ _ _) _ _ _)); walk1)
    refine callWith_K0 (K := hd.heap_39 w.params) (KX.keeps F5.keep) ?fw1 ?_
    case fw1 => k_is
    refine conds_call F5 jn KX T rfl (Nat.lt_trans (depth_in _) (by decide)) (Nat.lt_trans (units_in _) (by decide)) fun d h7 tk7 kvs hd7 ht F7 N7 K7 fd lo => ?_
    have PO7 := jp.up K7
    obtain ⟨oP, oC, eP, eC, backP⟩ := PO7.objs
    obtain ⟨od, eod, hod⟩ := Heap.dictOf_iff.mp hd7
    have N8 : News s₁.heap L h7 [(P, oP), (Db, oC), (L + 1 + 1, oc2), (L + 1, oc1')] := by
      intro q hq
      rcases List.mem_cons.mp hq with rfl | hq
      · exact ⟨eP, (PO7.notFrame F7).1.symm, PO7.1⟩
      rcases List.mem_cons.mp hq with rfl | hq
      · exact ⟨eC, (PO7.notFrame F7).2.symm, PO7.2.1⟩
      · exact N7 q hq
    have hkeys : kvs.map (·.1) = condKeys := ht.keysL
    have hkl : kvs.length = 32 := by have := congrArg List.length hkeys; rw [List.length_map] at this; rw [this]; rfl
    have q1 := neN (show P ≠ L + 1 + 1 from fun e => hn2 _ (.head _) e.symm)
    have q2 := neN (show P ≠ L + 1 from fun e => hn2 _ (.tail _ (.head _)) e.symm)
    have q3 := neN (Ne.symm o1b'.1)
    have q4 := neN (Ne.symm o1b'.2)
    clear N7 F5 jn jp K7 PO7 ht eP eC
    repeat ((fail_if_success (with_reducible show wpAny _ _ (call (Value.builtin "sorted") _) _ _ _)); walk1)
    refine sorted_dict F7 N8 rfl hd7 lo (by omega) fun D9 h9 tk9 vs9 ss9 n9 F9 N9 hv9 hp9 l9 => ?_
    clear F7 N8
    have r1 := ltN (l9 _ (.head _))
    have r2 := ltN (l9 _ (.tail _ (.head _)))
    have r3 := ltN (l9 _ (.tail _ (.tail _ (.head _))))
    have r4 := ltN (l9 _ (.tail _ (.tail _ (.tail _ (.head _)))))
    dsimp only at r1 r2 r3 r4
    repeat ((fail_if_success (with_reducible show wpAny _ _ (eval (Expr.ListComp _ _ _ _) _) _ _ _)); walk1)
    (with_reducible rename Fr _ L _ _ => F10)
    (with_reducible rename News _ L _ _ => N10)
    rename_i h10 oc2' dc2'
    have hvl : vs9.length = 32 := by rw [hv9.length, hp9.length_eq, List.length_map, hkl]
    have hall : ∀ x ∈ ss9, x ∈ condKeys := fun x hx => by rw [← hkeys]; exact hp9.mem_iff.mp hx
    have hall' : ∀ x ∈ condKeys, x ∈ ss9 := fun x hx => hp9.mem_iff.mpr (by rw [hkeys]; exact hx)
    have PO10 := backP _ (N10 _ (.tail _ (.head _))).1 (N10 _ (.tail _ (.tail _ (.head _)))).1
    refine' ListComp_inv (cl := ?cl) ?c1 ?c2 ?c3 ?c4 ?c5 ?_
    case c1 => with_unfolding_all rfl
    case c2 => decide
    case c3 => rfl
    case c4 => decide
    case c5 => rfl
    repeat ((fail_if_success (with_reducible show wpAny _ _ (pyIter _) _ _ _)); walk1)
    (with_reducible rename IsRange _ _ _ _ _ _ _ _ => rg)
    (with_reducible rename Fr _ L _ _ => F11)
    (with_reducible rename News _ L _ _ => N11)
    have PO11 := backP _ (N11 _ (.tail _ (.head _))).1 (N11 _ (.tail _ (.tail _ (.head _)))).1
    refine range_iter rg (by decide) (by decide) (by decide) (by decide) ?_
    intro h12 I hI K12 fI nI sI
    have PO12 := PO11.up K12
    have F12 := Mine.Fr.kept F11 K12 (by simp) (by simp)
    have N12 := Mine.News.kept N11 K12 (by simp)
    have hPI : P ≠ I := nI _ _ (N11 _ (.tail _ (.head _))).1
    have hCI : Db ≠ I := nI _ _ (N11 _ (.tail _ (.tail _ (.head _)))).1
    have gI : s₁.heap.get? I = none := none_below F11.keep fI
    refine ⟨I, [I], [I], [P], ((6 : Int) - 0).toNat, _, _, fun i ys h => PotOk s₁.heap h P Db ∧ ys.length ≤ i ∧ ∀ y ∈ ys, IsCond y, rfl, Walks.range rfl I 0 1 _, hI, ?_, ?_⟩
    · refine ⟨?_, ?_, ?_, ?_, ?_, ?_, ?_⟩
      · intro b hb; simp only [List.mem_singleton] at hb; subst hb; exact sI
      · intro b hb; simp only [List.mem_singleton] at hb; subst hb; exact PO12.lt.1
      · intro b hb; simp only [List.mem_singleton] at hb ⊢; subst hb; exact Ne.symm hPI
      · decide
      · intro i ys h h' hj hk'
        refine ⟨hj.1.keeps hj.1.1 hj.1.2.1 fun b o e hb => hk' b o ?_ ?_ e, hj.2⟩
        · rcases hb with rfl | rfl
          · exact PO12.lt.1
          · exact PO12.lt.2
        · rcases hb with rfl | rfl
          · simpa using hPI
          · simpa using hCI
      · exact ⟨PO12, Nat.le_refl _, fun _ h => nomatch h⟩
      · intro C' i v ys h tk m₂ E' hC' hi hv hj hn hm hk'
        refine tests_nil ⟨h, tk, rfl, Kept.of_up fun _ _ e => e, ?_⟩
        rw [if_pos rfl]
        have ext : ∀ b o, s₁.heap.get? b = some o → h.get? b = some o := fun b o e => hk' b o (F12.keep b o e) (by
          intro q
          simp only [List.cons_append, List.nil_append, List.mem_cons, List.not_mem_nil, or_false] at q
          rcases q with rfl | rfl
          · rw [gI] at e; cases e
          · rw [PO12.1] at e; cases e)
        have Fc : Fr s₁.heap C' h m₂ := ⟨hn, ext, Nat.le_trans F12.above (Nat.le_trans (Nat.le_of_lt F12.ns.lt) hC')⟩
        have up : ∀ q ∈ [(D9, W.listOf vs9.toArray n9), (P, oP), (Db, oC), (L + 1 + 1, oc2'), (L + 1, oc1')], q.1 ≠ P → h.get? q.1 = some q.2 := fun q hq hb => hk' _ _ (N12 q hq).1 (by
          simp only [List.cons_append, List.nil_append, List.mem_cons, List.not_mem_nil, or_false, not_or]
          exact ⟨nI _ _ (N11 q hq).1, hb⟩)
        have hDP : D9 ≠ P := by (refine neN ?_; omega)
        have eL : h.get? D9 = some (W.listOf vs9.toArray n9) := up _ (.head _) hDP
        have cK : h.IsCell (L + 1 + 1) (some (.ref D9)) := ⟨_, up _ (.tail _ (.tail _ (.tail _ (.head _)))) (fun e => q1 e.symm), dc2'⟩
        have cI : h.IsCell (L + 1) (some (.ref P)) := ⟨_, up _ (.tail _ (.tail _ (.tail _ (.tail _ (.head _))))) (fun e => q2 e.symm), dc1'⟩
        have POc := hj.1
        have Nc : News s₁.heap C' h [] := News.nil
        clear N11 N12 F11 F12
        repeat ((fail_if_success (with_reducible show wpAny _ _ (call (Value.builtin "len") _) _ _ _)); walk1)
        refine len_list ⟨_, eL, rfl, _, rfl⟩ (by rw [List.size_toArray, hvl]; decide) ?_
        rw [List.size_toArray, hvl]
        change wpAny _ _ _ _ _ _
        repeat ((fail_if_success (with_reducible show wpAny _ _ (call (Value.ref 99) _) _ _ _)); walk1)
        refine dip_call Fc Nc KX T POc (fun _ h => nomatch h) (by decide) rfl (Nat.lt_trans (depth_in _) (by decide)) fun kk tt h7 tk7 hk70 hk71 F7 N7 PO7 KP7 => ?_
        repeat ((fail_if_success (with_reducible show wpAny _ _ (subscriptTail _ _ _ _) _ _ _)); walk1)
        refine pick_list (its := _) (KP7 _ _ eL (by simpa using hDP)) hk70 (by rw [List.size_toArray, hvl]; exact hk71) (by rw [List.size_toArray, hvl]; decide) ?_
        intro v' hv'
        refine ⟨_, _, rfl, KP7, PO7, ?_, ?_⟩
        · rw [List.length_append, List.length_singleton]; omega
        · intro y hy
          rcases List.mem_append.mp hy with hy | hy
          · exact hj.2.2 y hy
          · rw [List.mem_singleton.mp hy]
            obtain ⟨ix, hix⟩ := List.mem_iff_getElem?.mp hv'
            obtain ⟨x, t, ex, exs⟩ := strs_get hv9 hix
            exact ⟨x, t, ex, .inl (hall x (List.mem_of_getElem? exs))⟩
    · intro R h13 tk13 ys hR hRs hpl hj hlen13 hkk
      have F13 := Mine.Fr.kept F12 hkk (by
        simp only [List.cons_append, List.nil_append, List.mem_cons, List.not_mem_nil, or_false, not_or]
        refine ⟨?_, hLP⟩
        obtain ⟨o, _, _, e, _⟩ := F11.ns; exact nI _ _ e) (by
        intro b hb
        simp only [List.cons_append, List.nil_append, List.mem_cons, List.not_mem_nil, or_false] at hb
        rcases hb with rfl | rfl
        · exact gI
        · exact PO12.1)
      obtain ⟨nR, eR⟩ := hpl
      have N13 : News s₁.heap L h13 [(R, W.listOf ys.toArray nR), (D9, W.listOf vs9.toArray n9), (L + 1 + 1, oc2')] := by
        have up : ∀ q ∈ [(D9, W.listOf vs9.toArray n9), (P, oP), (Db, oC), (L + 1 + 1, oc2'), (L + 1, oc1')], q.1 ≠ P → h13.get? q.1 = some q.2 := fun q hq hb => hkk _ _ (N12 q hq).1 (by
          simp only [List.cons_append, List.nil_append, List.mem_cons, List.not_mem_nil, or_false, not_or]
          exact ⟨nI _ _ (N11 q hq).1, hb⟩)
        refine news_new F12 ?_ eR hR
        intro q hq
        simp only [List.mem_cons, List.not_mem_nil, or_false] at hq
        rcases hq with rfl | rfl
        · exact ⟨up _ (.head _) (by (refine neN ?_; omega)), (N12 _ (.head _)).2⟩
        · exact ⟨up _ (.tail _ (.tail _ (.tail _ (.head _)))) (fun e => q1 e.symm), (N12 _ (.tail _ (.tail _ (.tail _ (.head _))))).2⟩
      have hys := hj.2.2
      have hyl : ys.length ≤ 6 := Nat.le_trans hj.2.1 (by decide)
      clear F11 F12 N11 N12 hj hkk PO12 PO11 hI nI fI K12
      repeat ((fail_if_success (with_reducible show wpAny _ _ (binaryOp _ _ _) _ _ _)); walk1)
      (with_reducible rename Fr _ L _ _ => F14)
      (with_reducible rename News _ L _ _ => N14)
      refine add_lists F14 N14 (News.isList N14 (.tail _ (.head _))) (ws := [_, _]) (News.isList N14 (.head _)) (fun h15 F15 N15 => ?_) (by simp only [List.length_cons, List.length_nil]; rw [sizeLine_eq]; omega)
      have hzs : ∀ z ∈ ys ++ [Value.str (Str.ofString "no-such") tk13, Value.str (Str.ofString "overflow-error") (tk13 + 1)], IsCond z := by
        intro z hz
        rcases List.mem_append.mp hz with hz | hz
        · exact hys z hz
        · simp only [List.mem_cons, List.not_mem_nil, or_false] at hz
          rcases hz with rfl | rfl
          · exact ⟨_, _, rfl, .inr rfl⟩
          · exact ⟨_, _, rfl, .inl over_key⟩
      have hzl : (ys ++ [Value.str (Str.ofString "no-such") tk13, Value.str (Str.ofString "overflow-error") (tk13 + 1)]).length ≤ 1000 := by rw [List.length_append]; simp only [List.length_cons, List.length_nil]; omega
      generalize ys ++ [Value.str (Str.ofString "no-such") tk13, Value.str (Str.ofString "overflow-error") (tk13 + 1)] = zs at N15 hzs hzl
      generalize Array.size (Heap.objs _) = SA at N15 ⊢
      have N16 : News s₁.heap L h15 [(SA, W.listOf zs.toArray 0), (D9, W.listOf vs9.toArray n9), (L + 1 + 1, oc2')] := by
        intro q hq
        rcases List.mem_cons.mp hq with rfl | hq
        · exact N15 _ (.head _)
        · exact N15 q (.tail _ (.tail _ (.tail _ hq)))
      clear F14 N14 N15
      repeat ((fail_if_success (with_reducible show wpAny _ _ (exec (Stmt.If _ _ _ _) _) _ _ _)); walk1)
      (with_reducible rename Fr _ L _ _ => F17)
      (with_reducible rename News _ L _ _ => N17)
      refine If_splitN F17 N17 false ?_ ?_ ?_
      · repeat ((fail_if_success (with_reducible show wpAny _ _ (eval (Expr.ListComp _ _ _ _) _) _ _ _)); walk1)
        refine ListComp_list (vs := zs) (cl := []) (fun i ys => ys = []) ?c1 ?c2 ?c3 ?c4 ?c5 ?c6 ?c7 ?_
        case c1 => with_unfolding_all rfl
        case c2 => decide
        case c3 => rfl
        case c4 => decide
        case c5 => rfl
        case c6 => rfl
        case c7 => exact hzl
        walk1
        refine ⟨SA, rfl, ⟨_, (N17 _ (.head _)).1, rfl, _, rfl⟩, rfl, ?_, ?_⟩
        · intro C i v ys h tk m₂ E' hC hi hj hn hm up
          obtain ⟨x, t, rfl, hx⟩ := hzs v (List.mem_of_getElem? hi)
          have Fc : Fr s₁.heap C h m₂ := ⟨hn, fun b o e => up b o (F17.keep b o e), Nat.le_trans F17.above (Nat.le_trans (Nat.le_of_lt F17.ns.lt) (Nat.le_of_lt hC))⟩
          have Nc : News s₁.heap C h [] := News.nil
          clear F17 N17
          refine tests_one ?_
          repeat ((fail_if_success (with_reducible show wpAny _ _ (call (Value.ref 126) _) _ _ _)); walk1)
          refine right_call Fc Nc KX T hx rfl (Nat.lt_trans (depth_in _) (by decide)) (Nat.lt_trans (units_in _) (by decide)) fun h18 tk18 F18 N18 K18 => ?_
          clear Fc Nc
          repeat walk1
          · exact K18
          · rw [if_neg (by decide)]; exact hj
        · intro R2 h18 tk18 ys2 hR2 hpl2 hj2 hlen2 K18
          subst hj2
          have F18 := Mine.Fr.kept F17 K18 (by simp) (by simp)
          have N18 := Mine.News.kept N17 K18 (by simp)
          obtain ⟨n2, e2⟩ := hpl2
          have N19 := news_new F17 N18 e2 hR2
          clear F17 N17 N18 K18 e2 hR2
          repeat ((fail_if_success (with_reducible show wpAny _ _ (compareOp _ _ _) _ _ _)); walk1)
          (with_reducible rename Fr _ L _ _ => F20)
          (with_reducible rename News _ L _ _ => N20)
          refine ne_strsH (vs := []) (ws := []) (News.isList N20 (.tail _ (.head _))) (News.isList N20 (.head _)) .nil .nil (fun _ h => nomatch h) (fun _ h => nomatch h) (units_c _) ?_
          rw [show (!decide (([] : List Str) = [])) = false from rfl]
          repeat walk1
          · exact F20
          · exact fun q hq => N20 q (.tail _ (.tail _ hq))
      · intro q; cases q
      · intro _ h16 tk16 F16 N16
        clear F17 N17
        repeat ((fail_if_success (with_reducible show wpAny _ _ (eval (Expr.ListComp _ _ _ _) _) _ _ _)); walk1)
        refine ListComp_dict' (cl := [(Str.ofString "name_list", L + 1 + 1)]) ?c1 ?c2 ?c3 ?c4 ?c5 ?c6 ?_
        case c1 => with_unfolding_all rfl
        case c2 => decide
        case c3 => rfl
        case c4 => decide
        case c5 => rfl
        case c6 => rfl
        repeat ((fail_if_success (with_reducible show wpAny _ _ (callWith _ (Value.ref 75) _ _ _) _ _ _)); walk1)
        refine callWith_K0 (K := hd.heap_39 w.params) (KX.keeps F16.keep) ?fw2 ?_
        case fw2 => k_is
        refine messages_call F16 N16 KX T rfl (Nat.lt_trans (depth_in _) (by decide)) (Nat.lt_trans (units_in _) (by decide)) fun d2 h17 tk17 kvs2 ht2 hd2 F17 N17 K17 hn2 lo2 => ?_
        have hk2 : kvs2.map (·.1) = msgTable.map (·.1) := ht2.keys
        have hkl2 : kvs2.length ≤ 1000 := by have := congrArg List.length hk2; rw [List.length_map, List.length_map] at this; rw [this]; decide
        clear F16 N16 K17
        refine ⟨d2, kvs2, fun i ys => ys = [], rfl, hd2, lo2, hkl2, rfl, ?_, ?_⟩
        · intro C i k t u ys h tk m₂ E' hC hi hj hn hm up
          have hkk : k ∈ condKeys := by
            have e : k ∈ msgTable.map (·.1) := by rw [← hk2]; exact List.mem_map.mpr ⟨_, List.mem_of_getElem? hi, rfl⟩
            obtain ⟨p, hp, rfl⟩ := List.mem_map.mp e
            exact msg_keys p hp
          have Fc : Fr s₁.heap C h m₂ := ⟨hn, fun b o e => up b o (F17.keep b o e), Nat.le_trans F17.above (Nat.le_trans (Nat.le_of_lt F17.ns.lt) (Nat.le_of_lt hC))⟩
          have Nc : News s₁.heap C h [] := News.nil
          have cK : h.IsCell (L + 1 + 1) (some (.ref D9)) := ⟨_, up _ _ (N17 _ (.tail _ (.tail _ (.head _)))).1, dc2'⟩
          have hl : h.IsList D9 vs9.toArray := ⟨_, up _ _ (N17 _ (.tail _ (.head _))).1, rfl, _, rfl⟩
          clear F17 N17
          refine tests_one ?_
          repeat ((fail_if_success (with_reducible show wpAny _ _ (compareOp _ _ _) _ _ _)); walk1)
          refine notin_list_strs hl hv9 ?_
          rw [show (ss9.any (· == k)) = true from List.any_eq_true.mpr ⟨k, hall' k hkk, by simp⟩]
          repeat walk1
          · exact Kept.of_up fun _ _ e => e
          · rw [if_neg (by decide)]; exact hj
        · intro R2 h18 tk18 ys2 hR2 hpl2 hj2 hlen2 K18
          subst hj2
          have F18 := Mine.Fr.kept F17 K18 (by simp) (by simp)
          have N18 := Mine.News.kept N17 K18 (by simp)
          obtain ⟨n2, e2⟩ := hpl2
          have N19 := news_new F17 N18 e2 hR2
          clear F17 N17 N18 K18 e2 hR2
          repeat ((fail_if_success (with_reducible show wpAny _ _ (compareOp _ _ _) _ _ _)); walk1)
          (with_reducible rename Fr _ L _ _ => F20)
          (with_reducible rename News _ L _ _ => N20)
          refine eq_strsH (vs := []) (ws := []) (News.isList N20 (.tail _ (.head _))) (News.isList N20 (.head _)) .nil .nil (fun _ h => nomatch h) (fun _ h => nomatch h) (units_c _) ?_
          rw [show decide (([] : List Str) = []) = true from rfl]
          repeat walk1
          dsimp only
          first | (k_end; kc_close) | (k_end; wrow_close))
end Mine
end

theorem PySem.Challenge.cw_oj0014_01_holds : PySem.Challenge.rw_oj0014_01.Holds := by
  exact Mine.holds
