import PyProof.Rows.All
import Wide.All
import OpenK.AllK
import Wide.FinOn
import PySem.Challenge.RW_pq0279_01
set_option Elab.async false
set_option compiler.extract_closed false
set_option linter.unusedVariables false
set_option linter.unusedSimpArgs false
set_option maxRecDepth 100000
set_option maxHeartbeats 8000000
section
open PySem PySem.W PyProof.Rows
namespace Mine
def topT (st : SharedT → Thread → Option (SharedT × Thread)) (ok : Thread → Bool) : Nat → SharedT → Thread → Option SharedT
  | 0, _, _ => none
  | n + 1, s, t => match through t with
    | true => some s
    | false => match ok t with
      | false => none
      | true => match st s t with
        | some (s', t') => topT st ok n s' t'
        | none => none
theorem topT_of {tb : String → Option Builtin} {p : Program} {w : World} {n₀ : Nat} {ann : Option Value} : ∀ {n : Nat} {s s' : SharedT} {t : Thread}, topT (stepT (denote tb) p w) (stepOk n₀ ann) n s t = some s' → topRun tb p w n₀ ann n s.abs t = some s'.abs
  | 0, _, _, _, h => by cases h
  | n + 1, s, s', t, h => by
    unfold topT at h
    unfold topRun
    cases he : through t with
    | true => rw [he] at h; cases h; rfl
    | false =>
      rw [he] at h
      cases hk : stepOk n₀ ann t with
      | false => rw [hk] at h; cases h
      | true =>
        rw [hk] at h
        cases hs : stepT (denote tb) p w s t with
        | none => rw [hs] at h; cases h
        | some r => obtain ⟨s₂, t₂⟩ := r; rw [hs] at h; dsimp only; rw [stepT_spec hs]; exact topT_of h
def fillT : List Obj → Nat → BT → BT
  | [], _, T => T
  | o :: l, i, T => fillT l (i + 1) (T.ins i o)
noncomputable def bootT (P : Params) : BT := fillT (boot_heap P).objs.toList 0 .nil
def hp : Program := (PySem.Challenge.rw_pq0279_01).row.toRowW.prog
theorem bootT_abs : ∀ P, absHeap (bootT P) (boot_heap P).objs.size (boot_heap P).life = boot_heap P := fun P => by kernel_rfl
theorem plain_hp : opening hp = plainProg hp.main.scope.names := by kernel_rfl
theorem fence_hp : ∀ s, fenceModules? hp s = some s := fun s => by kernel_rfl
theorem size_hp : ∀ P, ((boot_heap P).isNs mainGlobals, (boot_heap P).objs.size, (boot_heap P).nsMap mainGlobals "__annotations__") = (true, 11, some (.ref 6)) := fun P => by kernel_rfl
theorem left_tree {q : Program} {loose : List Str} {Xt : Shared → Bool} {α : Type} {Yf : Shared → α} {Ya : World → α} {OS : type_of% @openSeen} (e1 : @openSeen = OS) {TT : String → Option Builtin} (e2 : treeTable = TT) {ST : type_of% @stepT} (e3 : @stepT = ST) {DN : type_of% @denote} (e4 : @denote = DN) {OK : type_of% @stepOk} (e5 : @stepOk = OK) {M : Nat}
    (h1 : ∀ (w : World) (os : OsState), (topT (ST (DN TT) hp w) (OK 11 (some (.ref 6))) M ⟨bootT w.params, 11, (boot_heap w.params).life, Array.mk [], boot_drawn, boot_toks, os⟩ (topStub hp)).map (fun s => (staticsOk (importedModules hp.main.body) (boot_heap w.params) s.abs.heap && namesBound hp s.abs.heap && gensDone s.abs && laidKept (boot_heap w.params) s.abs.heap, (OS q loose (importedModules hp.main.body) Xt true s.abs).1, (OS q loose (importedModules hp.main.body) Xt true s.abs).2.1, (OS q loose (importedModules hp.main.body) Xt true s.abs).2.2.1, (OS q loose (importedModules hp.main.body) Xt true s.abs).2.2.2.1)) = some (true, expectedOf q, bltViewBooted, true, true))
    (h2 : ∀ (w : World) (os : OsState), (topT (ST (DN TT) hp w) (OK 11 (some (.ref 6))) M ⟨bootT w.params, 11, (boot_heap w.params).life, Array.mk [], boot_drawn, boot_toks, os⟩ (topStub hp)).map (fun s => ((OS q loose (importedModules hp.main.body) Xt true s.abs).2.2.2.2.1, (OS q loose (importedModules hp.main.body) Xt true s.abs).2.2.2.2.2.1)) = some (pinGoodD (drecsOf q), plainGoodE q (looseW q loose)))
    (h3 : ∀ (w : World) (os : OsState), (topT (ST (DN TT) hp w) (OK 11 (some (.ref 6))) M ⟨bootT w.params, 11, (boot_heap w.params).life, Array.mk [], boot_drawn, boot_toks, os⟩ (topStub hp)).map (fun s => ((OS q loose (importedModules hp.main.body) Xt true s.abs).2.2.2.2.2.2.1, (OS q loose (importedModules hp.main.body) Xt true s.abs).2.2.2.2.2.2.2.1, (OS q loose (importedModules hp.main.body) Xt true s.abs).2.2.2.2.2.2.2.2)) = some (plainGoodD q loose, wideGood q, clsGoodW q loose))
    (h4 : ∀ (w : World) (os : OsState), (topT (ST (DN TT) hp w) (OK 11 (some (.ref 6))) M ⟨bootT w.params, 11, (boot_heap w.params).life, Array.mk [], boot_drawn, boot_toks, os⟩ (topStub hp)).map (fun s => Yf s.abs) = some (Ya w))
    (hM : Nat.ble 600 M = true) : LeftO hp q loose Xt Yf Ya M := fun w => by
  subst e1 e2 e3 e4 e5
  obtain ⟨⟨hh, gs, d, k, os⟩, e, e'⟩ := Option.map_eq_some_iff.mp (boot_open plain_hp hM fence_hp w)
  obtain ⟨rfl, rfl, rfl, rfl⟩ : hh = boot_heap w.params ∧ gs = Array.mk [] ∧ d = boot_drawn ∧ k = boot_toks := by simpa using e'
  obtain ⟨z1, z2, z3⟩ : _ ∧ _ ∧ _ := by simpa only [Prod.mk.injEq] using size_hp w.params
  obtain ⟨s, hs, l1⟩ := Option.map_eq_some_iff.mp (h1 w os)
  obtain ⟨s2, hs2, l2⟩ := Option.map_eq_some_iff.mp (h2 w os)
  obtain ⟨s3, hs3, l3⟩ := Option.map_eq_some_iff.mp (h3 w os)
  obtain ⟨s4, hs4, l4⟩ := Option.map_eq_some_iff.mp (h4 w os)
  obtain rfl : s = s2 := Option.some.inj (hs.symm.trans hs2)
  obtain rfl : s = s3 := Option.some.inj (hs.symm.trans hs3)
  obtain rfl : s = s4 := Option.some.inj (hs.symm.trans hs4)
  have lo : openSeen q loose (importedModules hp.main.body) Xt true s.abs = openGood q loose :=
    Prod.ext (congrArg (·.2.1) l1) (Prod.ext (congrArg (·.2.2.1) l1) (Prod.ext (congrArg (·.2.2.2.1) l1) (Prod.ext (congrArg (·.2.2.2.2) l1) (Prod.ext (congrArg (·.1) l2) (Prod.ext (congrArg (·.2) l2) (Prod.ext (congrArg (·.1) l3) (Prod.ext (congrArg (·.2.1) l3) (congrArg (·.2.2) l3))))))))
  replace l1 := congrArg (·.1) l1
  dsimp only at l1
  have r := topT_of hs
  have ea : SharedT.abs ⟨bootT w.params, 11, (boot_heap w.params).life, Array.mk [], boot_drawn, boot_toks, os⟩ = ⟨boot_heap w.params, Array.mk [], boot_drawn, boot_toks, os⟩ := by
    show Shared.mk _ _ _ _ _ = _
    exact congrArg (fun h => Shared.mk h _ _ _ _) (bootT_abs w.params)
  rw [ea] at r
  have t : topFrom treeTable hp w M ⟨boot_heap w.params, Array.mk [], boot_drawn, boot_toks, os⟩ = some s.abs := by
    unfold topFrom
    dsimp only
    rw [z1, z2, z3, r]
    show (match staticsOk (importedModules hp.main.body) (boot_heap w.params) s.abs.heap && namesBound hp s.abs.heap && gensDone s.abs && laidKept (boot_heap w.params) s.abs.heap with | true => _ | false => _) = _
    rw [l1]
  unfold openEnds
  rw [e]
  show (topFrom treeTable hp w M _).map _ = _
  rw [t]
  exact congrArg some (Prod.ext lo l4)
def picked (l : List Stmt) (is : List Nat) : List Stmt := is.filterMap fun i => l[i]?
def hd.view : Program := { hp with main := { hp.main with body := picked hp.main.body [0, 2, 4, 5, 6, 8, 9, 10, 11, 12, 13, 14, 15, 16, 18, 19, 20, 21, 22, 23, 24] } }
/- the run of the top, and the looks at what it leaves: each look a kernel step of its own -/
noncomputable def ranT (w : World) (os : OsState) : Option SharedT := topT (PySem.W.Fast.tw10156331382660048174 (PySem.W.Fast.tw11892475500146522536 PySem.W.Fast.tw14364793385576792824) hp w) (PySem.W.Fast.tw6613529449190102663 11 (some (.ref 6))) 4500 ⟨bootT w.params, 11, (boot_heap w.params).life, Array.mk [], boot_drawn, boot_toks, os⟩ (topStub hp)
noncomputable def seenT (s : SharedT) := PySem.W.Fast.tw4187177175401517315 hd.view [] (importedModules hp.main.body) (fun s => xlAt hd.view [] s && recOk (RowW.records (PySem.Challenge.rw_pq0279_01).row.toRowW) s) true s.abs
theorem look1 : ∀ (w : World) (os : OsState), (ranT w os).map (fun s => (staticsOk (importedModules hp.main.body) (boot_heap w.params) s.abs.heap && namesBound hp s.abs.heap && gensDone s.abs && laidKept (boot_heap w.params) s.abs.heap, (seenT s).1, (seenT s).2.1, (seenT s).2.2.1, (seenT s).2.2.2.1)) = some (true, expectedOf hd.view, bltViewBooted, true, true) := by
  intro w os; kernel_rfl
theorem look2 : ∀ (w : World) (os : OsState), (ranT w os).map (fun s => ((seenT s).2.2.2.2.1, (seenT s).2.2.2.2.2.1)) = some (pinGoodD (drecsOf hd.view), plainGoodE hd.view (looseW hd.view [])) := by
  intro w os; kernel_rfl
theorem look3 : ∀ (w : World) (os : OsState), (ranT w os).map (fun s => ((seenT s).2.2.2.2.2.2.1, (seenT s).2.2.2.2.2.2.2.1, (seenT s).2.2.2.2.2.2.2.2)) = some (plainGoodD hd.view [], wideGood hd.view, clsGoodW hd.view []) := by
  intro w os; kernel_rfl
theorem said_hp : (PySem.Challenge.rw_pq0279_01).wellSaid = true := by
  rw [PySem.W.Fast.te9446332074065402090]
  kernel_rfl
local macro_rules | `(tactic| o_law) => `(tactic| refine holds_law said_hp fun said => ?_)
local macro_rules | `(tactic| o_head $H) => `(tactic| (
  refine holds_open (q := hd.view) (loose := []) (Xt := fun s => xlAt hd.view [] s && recOk (RowW.records (PySem.Challenge.rw_pq0279_01).row.toRowW) s) (XP := XL hd.view []) (Yf := Hook.obs $H) (Ya := Hook.val $H) (YP := Hook.says $H) (N := 4500) ?hl (Hook.of $H) (Hook.keeps $H) (fun s e => xl_of s (Bool.and_eq_true_iff.mp e).1) XL.keeps (by rfl) (by rfl) (by rfl) (fun s e => recFacts_of (Bool.and_eq_true_iff.mp e).2) (by rfl) (by first | assumption | decide +kernel) (by decide +kernel) ⟨rfl, rfl, rfl, rfl, rfl, by decide +kernel⟩ ?hw ?hc
  case hl =>
    refine left_tree PySem.W.Fast.te4187177175401517315 PySem.W.Fast.te14364793385576792824 PySem.W.Fast.te10156331382660048174 PySem.W.Fast.te11892475500146522536 PySem.W.Fast.te6613529449190102663 look1 look2 look3 ?_ rfl
    intro w os
    kernel_rfl))
open_top hd for PySem.Challenge.rw_pq0279_01
end Mine
end
section
open PySem PySem.W PyProof.Rows
theorem Mine.offLp : True := by
  w_top off
  trivial
namespace Mine
def Stop (P : Prop) : Prop := P
theorem stop_here {P : Prop} (h : Stop P) : P := h
theorem memShow {α : Type} {a : α} {l : List α} (h : a ∈ l) : List.Mem a l := h
def TEnd (h₀ : Heap) (L : Addr) (J : (Str → Option Value) → List (Addr × Obj) → Prop) (I : Addr) (oI : Obj) (news : List (Addr × Obj)) (s₁ s₂ : Shared) : Prop :=
  ∃ h' tk m' nx', s₂ = { s₁ with heap := h', toks := tk } ∧ Fr h₀ L h' m' ∧ News h₀ L h' (nx' ++ (I, oI) :: news) ∧ (∀ p ∈ nx', p.1 ≠ I) ∧ J m' nx'
def TPost (h₀ : Heap) (L : Addr) (J : (Str → Option Value) → List (Addr × Obj) → Prop) (I : Addr) (oI : Obj) (news : List (Addr × Obj)) (s₁ : Shared) (Q : Flow → Shared → Prop) (f : Flow) (s₂ : Shared) : Prop :=
  match f with
  | .ret v => Q (.ret v) s₂
  | .brk => Q .next s₂
  | _ => TEnd h₀ L J I oI news s₁ s₂
theorem TEnd.intro {h₀ : Heap} {L : Addr} {J : (Str → Option Value) → List (Addr × Obj) → Prop} {I : Addr} {oI : Obj} {news nx' : List (Addr × Obj)} {s₁ : Shared} {h' : Heap} {tk : Nat} {m' : Str → Option Value}
    (F : Fr h₀ L h' m') (N : News h₀ L h' (nx' ++ (I, oI) :: news)) (ho : ∀ p ∈ nx', p.1 ≠ I) (hJ : J m' nx') : TEnd h₀ L J I oI news s₁ { s₁ with heap := h', toks := tk } := ⟨h', tk, m', nx', rfl, F, N, ho, hJ⟩
theorem TEnd.one {h₀ : Heap} {L : Addr} {J : (Str → Option Value) → List (Addr × Obj) → Prop} {I D : Addr} {o oI : Obj} {news l : List (Addr × Obj)} {s₁ : Shared} {h' : Heap} {tk : Nat} {m' : Str → Option Value}
    (F : Fr h₀ L h' m') (N : News h₀ L h' ((D, o) :: l)) (hs : ∀ p ∈ (I, oI) :: news, p ∈ l) (ho : @Ne Nat D I) (hJ : J m' [(D, o)]) : TEnd h₀ L J I oI news s₁ { s₁ with heap := h', toks := tk } :=
  ⟨h', tk, m', [(D, o)], rfl, F, fun p hp => by
    rcases List.mem_cons.mp hp with rfl | hp
    · exact N _ (.head _)
    · exact N _ (.tail _ (hs p hp)), fun p hp => by rw [List.mem_singleton.mp hp]; exact ho, hJ⟩
theorem newsSub {h₀ : Heap} {L : Addr} {h : Heap} {l l' : List (Addr × Obj)} (N : News h₀ L h l) (hs : ∀ p ∈ l', p ∈ l) : News h₀ L h l' := fun p hp => N p (hs p hp)
section
variable {prog : Program} {w : World} {A : Around} {E : Value → Shared → Prop} {s : Shared} {env : Env} {h₀ : Heap} {x : Str} {body : List Stmt} {Q : Flow → Shared → Prop}
theorem loop_t {I : Addr} {fp : List Addr} {n : Nat} {P : Nat → Value → Prop} {St : Nat → Heap → Prop} {m₀ : Str → Option Value} {nx₀ news : List (Addr × Obj)} (J : Nat → (Str → Option Value) → List (Addr × Obj) → Prop)
    (W : Walks prog w A I fp [I] n P St) (hLf : env.locals ∉ fp) (hI : h₀.get? I = none) (hnw : ∀ p ∈ nx₀ ++ news, p.1 ≠ I) (hfp : ∀ b ∈ fp, b = I ∨ (h₀.get? b ≠ none) ∨ ∃ o, (b, o) ∈ news) (hstI : ∀ i h, St i h → ∃ o, h.get? I = some o)
    (hst : St 0 s.heap) (F : Fr h₀ env.locals s.heap m₀) (N : News h₀ env.locals s.heap (nx₀ ++ news)) (hj : J 0 m₀ nx₀)
    (turn : ∀ i v m₁ nx oI h tk, i < n → P i v → J i m₁ nx → (∀ p ∈ news, p.1 ≠ I) → (∀ p ∈ nx, p.1 ≠ I) → Fr h₀ env.locals h (fun y => if y = x then some v else m₁ y) → News h₀ env.locals h (nx ++ (I, oI) :: news) →
      wpAny (model prog w) A (execs body env) (TPost h₀ env.locals (J (i + 1)) I oI news { s with heap := h, toks := tk } Q) E { s with heap := h, toks := tk })
    (done : ∀ m₁ nx h tk, J n m₁ nx → Fr h₀ env.locals h m₁ → News h₀ env.locals h (nx ++ news) → Q .next { s with heap := h, toks := tk }) :
    LoopAtV prog w A h₀ env x body Q E (.ref I) s := by
  have hIfp : I ∈ fp := W.sub I (by simp)
  let J' : Nat → (Str → Option Value) → List (Addr × Obj) → Prop := fun i m₁ n₁ => ∃ nx, n₁ = nx ++ news ∧ J i m₁ nx
  refine ⟨I, fp, [I], n, P, St, m₀, nx₀ ++ news, J', rfl, W, hLf, (fun b hb => by rw [List.mem_singleton.mp hb]; exact hI), (fun p hp h => hnw p hp (List.mem_singleton.mp h)), hst, F, N, ⟨nx₀, rfl, hj⟩, ?_, ?_⟩
  · rintro i v m₁ n₁ s₁ own ⟨hh', tk', rfl⟩ hin hP ⟨nx, rfl, hJ⟩ hoff hown hget hfp' hst' F₁ N₁
    obtain ⟨oI, hoI⟩ := hstI _ _ hst'
    have hoI' : hh'.get? I = some oI := hoI
    have N₂ : News h₀ env.locals hh' (nx ++ (I, oI) :: news) := by
      intro p hp
      rcases List.mem_append.mp hp with h | h
      · exact N₁ p (List.mem_append_right _ (List.mem_append_left _ h))
      · rcases List.mem_cons.mp h with h | h
        · subst h
          exact ⟨hoI', fun e => hLf (e ▸ hIfp), hI⟩
        · exact N₁ p (List.mem_append_right _ (List.mem_append_right _ h))
    refine wpAny_mono (turn i v m₁ nx oI hh' tk' hin hP hJ (fun p hp e => hoff p (List.mem_append_right _ hp) (List.mem_singleton.mpr e)) (fun p hp e => hoff p (List.mem_append_left _ hp) (List.mem_singleton.mpr e)) F₁ N₂) (fun f s₂ p => ?_) fun _ _ e => e
    have fin : TEnd h₀ env.locals (J (i + 1)) I oI news { s with heap := hh', toks := tk' } s₂ → LoopStepU h₀ env.locals [I] own (J' (i + 1)) { s with heap := hh', toks := tk' } .next s₂ := by
      rintro ⟨h', tk, m', nx', e, F', N', ho, hm⟩
      refine ⟨rfl, h', tk, m', nx' ++ news, e, F', ?_, ?_, nx', rfl, hm⟩
      · intro p hp
        rcases List.mem_append.mp hp with h | h
        · have hg : hh'.get? p.1 = some p.2 := hget p h
          rcases hfp p.1 (hown p h) with e1 | e1 | ⟨o, e1⟩
          · rw [e1, hoI'] at hg
            have : p = (I, oI) := Prod.ext e1 (Option.some.inj hg).symm
            rw [this]
            exact N' _ (List.mem_append_right _ (.head _))
          · exact absurd (N₁ p (List.mem_append_left _ h)).2.2 e1
          · have h2 := (N₂ _ (List.mem_append_right _ (.tail _ e1))).1
            have h2' : hh'.get? p.1 = some o := h2
            rw [h2'] at hg
            have : p = (p.1, o) := Prod.ext rfl (Option.some.inj hg).symm
            rw [this]
            exact N' _ (List.mem_append_right _ (.tail _ e1))
        · rcases List.mem_append.mp h with h | h
          · exact N' p (List.mem_append_left _ h)
          · exact N' p (List.mem_append_right _ (.tail _ h))
      · intro p hp hq
        rcases List.mem_append.mp hp with h | h
        · exact ho p h (List.mem_singleton.mp hq)
        · exact hoff p (List.mem_append_right _ h) hq
    cases f with
    | ret v => exact .ret p
    | brk => exact .brk p
    | next => exact .next (fin p)
    | cont => exact .cont (fin p)
  · rintro h' tk m' n' F' N' _ ⟨nx, rfl, hJ⟩
    exact done m' nx h' tk hJ F' N'
theorem it_list {l : Addr} {vs : List Value} {nn : Nat} {m₀ : Str → Option Value} {nx₀ news : List (Addr × Obj)} (J : Nat → (Str → Option Value) → List (Addr × Obj) → Prop)
    (hh : A.handled = none) (hl : (l, listOf vs.toArray nn) ∈ news) (F : Fr h₀ env.locals s.heap m₀) (N : News h₀ env.locals s.heap (nx₀ ++ news)) (hj : J 0 m₀ nx₀)
    (turn : ∀ i v m₁ nx I oI h tk, vs[i]? = some v → J i m₁ nx → (∀ p ∈ news, p.1 ≠ I) → (∀ p ∈ nx, p.1 ≠ I) → Fr h₀ env.locals h (fun y => if y = x then some v else m₁ y) → News h₀ env.locals h (nx ++ (I, oI) :: news) →
      wpAny (model prog w) A (execs body env) (TPost h₀ env.locals (J (i + 1)) I oI news { s with heap := h, toks := tk } Q) E { s with heap := h, toks := tk })
    (done : ∀ m₁ nx h tk, J vs.length m₁ nx → Fr h₀ env.locals h m₁ → News h₀ env.locals h (nx ++ news) → Q .next { s with heap := h, toks := tk }) :
    wpAny (model prog w) A (pyIter (.ref l)) (fun it s₂ => LoopAtV prog w A h₀ env x body Q E it s₂) E s := by
  have hol : s.heap.get? l = some (listOf vs.toArray nn) := (N _ (List.mem_append_right _ hl)).1
  have hls : s.heap.IsList l vs.toArray := ⟨_, hol, rfl, nn, rfl⟩
  have hne : l ≠ s.heap.objs.size := Nat.ne_of_lt (Heap.lt_size hol)
  refine wpAny_pyIter_list hls ?_
  have W := Walks.list (prog := prog) (w := w) hh s.heap.objs.size l hne vs.toArray
  have hlen : vs.toArray.size = vs.length := by simp
  rw [hlen] at W
  have hN2 : ∀ b o, s.heap.get? b = some o → (s.heap.push { cls := .type "list_iterator", data := .fields #[.ref l, rawInt 0] }).get? b = some o := fun b o e => Heap.get?_push_of_some _ e
  refine loop_t (nx₀ := nx₀) (news := news) (m₀ := m₀) J W ?_ (next_is_new F) ?_ ?_ ?_ ⟨⟨_, Heap.get?_push_size _ rfl, rfl, rfl⟩, hls.at fun o e => Heap.get?_push_of_some _ e⟩ (F.push _) (fun p hp => ⟨Heap.get?_push_of_some _ (N p hp).1, (N p hp).2⟩) hj ?_ done
  · intro hm
    rcases List.mem_cons.mp hm with e | hm
    · exact absurd F.ns.lt (e ▸ Nat.lt_irrefl _)
    · exact (N _ (List.mem_append_right _ hl)).2.1 ((List.mem_singleton.mp hm).symm)
  · intro p hp e
    exact absurd (Heap.lt_size (N p hp).1) (e ▸ Nat.lt_irrefl _)
  · intro b hb
    rcases List.mem_cons.mp hb with e | hb
    · exact .inl e
    · exact .inr (.inr ⟨_, (List.mem_singleton.mp hb) ▸ hl⟩)
  · rintro i h ⟨⟨o, ho, _⟩, _⟩
    exact ⟨o, ho⟩
  · intro i v m₁ nx oI h tk hin hP hJ h1 h2 F₁ N₁
    exact turn i v m₁ nx _ oI h tk (by simpa using hP) hJ h1 h2 F₁ N₁
theorem it_range {r : Addr} {a₀ b₀ : Int} {t₀ u₀ v₀ : Tok} {n : Nat} {m₀ : Str → Option Value} {nx₀ news : List (Addr × Obj)} (J : Nat → (Str → Option Value) → List (Addr × Obj) → Prop)
    (hh : A.handled = none) (hr : IsRange s.heap r a₀ b₀ 1 t₀ u₀ v₀) (hsmall : Builtin.Range.small a₀ b₀ 1 = true) (hn : Builtin.Range.rangeSize a₀ b₀ 1 = (n : Int)) (F : Fr h₀ env.locals s.heap m₀) (N : News h₀ env.locals s.heap (nx₀ ++ news)) (hj : J 0 m₀ nx₀)
    (turn : ∀ i t m₁ nx I oI h tk, i < n → J i m₁ nx → (∀ p ∈ news, p.1 ≠ I) → (∀ p ∈ nx, p.1 ≠ I) → Fr h₀ env.locals h (fun y => if y = x then some (.int (a₀ + (i : Int)) t) else m₁ y) → News h₀ env.locals h (nx ++ (I, oI) :: news) →
      wpAny (model prog w) A (execs body env) (TPost h₀ env.locals (J (i + 1)) I oI news { s with heap := h, toks := tk } Q) E { s with heap := h, toks := tk })
    (done : ∀ m₁ nx h tk, J n m₁ nx → Fr h₀ env.locals h m₁ → News h₀ env.locals h (nx ++ news) → Q .next { s with heap := h, toks := tk }) :
    wpAny (model prog w) A (pyIter (.ref r)) (fun it s₂ => LoopAtV prog w A h₀ env x body Q E it s₂) E s := by
  refine wpAny_pyIter_range hr hsmall ?_
  have W : Walks prog w A s.heap.objs.size [s.heap.objs.size] [s.heap.objs.size] n (fun i v => i < n ∧ ∃ t, v = .int (a₀ + i * 1) t)
      (fun i h => IsRangeIter h s.heap.objs.size (a₀ + (i : Nat) * 1) ((n : Int) - (i : Nat)) 1) := (Walks.range hh _ a₀ 1 n).bound
  refine loop_t (nx₀ := nx₀) (news := news) (m₀ := m₀) J W ?_ (next_is_new F) ?_ ?_ ?_ (by show IsRangeIter _ _ _ _ _; rw [hn]; simpa using Heap.get?_push_size _ rfl) (F.push _) (fun p hp => ⟨Heap.get?_push_of_some _ (N p hp).1, (N p hp).2⟩) hj ?_ done
  · intro hm
    exact absurd F.ns.lt ((List.mem_singleton.mp hm) ▸ Nat.lt_irrefl _)
  · intro p hp e
    exact absurd (Heap.lt_size (N p hp).1) (e ▸ Nat.lt_irrefl _)
  · intro b hb
    exact .inl (List.mem_singleton.mp hb)
  · intro i h ho
    exact ⟨_, ho⟩
  · rintro i v m₁ nx oI h tk hin ⟨_, t, rfl⟩ hJ h1 h2 F₁ N₁
    have e1 : a₀ + (i : Int) * 1 = a₀ + (i : Int) := by omega
    rw [e1] at F₁
    exact turn i t m₁ nx _ oI h tk hin hJ h1 h2 F₁ N₁
theorem it_listL {Lx l : Addr} {vs : List Value} {nn : Nat} {m₀ : Str → Option Value} {nx₀ news : List (Addr × Obj)} (J : Nat → (Str → Option Value) → List (Addr × Obj) → Prop)
    (hh : A.handled = none) (hl : (l, listOf vs.toArray nn) ∈ news) (F : Fr h₀ Lx s.heap m₀) (N : News h₀ Lx s.heap (nx₀ ++ news)) (hj : J 0 m₀ nx₀) (hL : env.locals = Lx)
    (turn : ∀ i v m₁ nx I oI h tk, vs[i]? = some v → J i m₁ nx → (∀ p ∈ news, p.1 ≠ I) → (∀ p ∈ nx, p.1 ≠ I) → Fr h₀ Lx h (fun y => if y = x then some v else m₁ y) → News h₀ Lx h (nx ++ (I, oI) :: news) →
      wpAny (model prog w) A (execs body env) (TPost h₀ Lx (J (i + 1)) I oI news { s with heap := h, toks := tk } Q) E { s with heap := h, toks := tk })
    (done : ∀ m₁ nx h tk, J vs.length m₁ nx → Fr h₀ Lx h m₁ → News h₀ Lx h (nx ++ news) → Q .next { s with heap := h, toks := tk }) :
    wpAny (model prog w) A (pyIter (.ref l)) (fun it s₂ => LoopAtV prog w A h₀ env x body Q E it s₂) E s := by
  subst hL
  exact it_list J hh hl F N hj turn done
theorem it_rangeL {Lx r : Addr} {a₀ b₀ : Int} {t₀ u₀ v₀ : Tok} {n : Nat} {m₀ : Str → Option Value} {nx₀ news : List (Addr × Obj)} (J : Nat → (Str → Option Value) → List (Addr × Obj) → Prop)
    (hh : A.handled = none) (hr : IsRange s.heap r a₀ b₀ 1 t₀ u₀ v₀) (hsmall : Builtin.Range.small a₀ b₀ 1 = true) (hn : Builtin.Range.rangeSize a₀ b₀ 1 = (n : Int)) (F : Fr h₀ Lx s.heap m₀) (N : News h₀ Lx s.heap (nx₀ ++ news)) (hj : J 0 m₀ nx₀) (hL : env.locals = Lx)
    (turn : ∀ i t m₁ nx I oI h tk, i < n → J i m₁ nx → (∀ p ∈ news, p.1 ≠ I) → (∀ p ∈ nx, p.1 ≠ I) → Fr h₀ Lx h (fun y => if y = x then some (.int (a₀ + (i : Int)) t) else m₁ y) → News h₀ Lx h (nx ++ (I, oI) :: news) →
      wpAny (model prog w) A (execs body env) (TPost h₀ Lx (J (i + 1)) I oI news { s with heap := h, toks := tk } Q) E { s with heap := h, toks := tk })
    (done : ∀ m₁ nx h tk, J n m₁ nx → Fr h₀ Lx h m₁ → News h₀ Lx h (nx ++ news) → Q .next { s with heap := h, toks := tk }) :
    wpAny (model prog w) A (pyIter (.ref r)) (fun it s₂ => LoopAtV prog w A h₀ env x body Q E it s₂) E s := by
  subst hL
  exact it_range J hh hr hsmall hn F N hj turn done
theorem range_small {b : Int} (h0 : 0 ≤ b) (h1 : b ≤ 100000) : Builtin.Range.small 0 b 1 = true := small_one (by decide) (by decide) (by omega) (by omega)
theorem range_size {b : Int} : Builtin.Range.rangeSize 0 b 1 = ((b.toNat : Nat) : Int) := by rw [rangeSize_nat, Int.sub_zero]
theorem frN {h₀ h : Heap} {L : Addr} {m : Str → Option Value} (F : Fr h₀ L h m) {p : Str} {v : Option Value} (e : m p = v) : Fr h₀ L h (fun y => if y = p then v else m y) := by
  have : (fun y => if y = p then v else m y) = m := funext fun y => by
    by_cases h : y = p
    · rw [if_pos h, h, e]
    · rw [if_neg h]
  rw [this]; exact F
def FirstAt (prog : Program) (w : World) (A : Around) (h₀ : Heap) (env : Env) (x : Str) (body : List Stmt) (Q : Flow → Shared → Prop) (E : Value → Shared → Prop) (xv : Value) (s₁ : Shared) : Prop :=
  ∃ r a b t u v n m news, xv = .ref r ∧ IsRange s₁.heap r a b 1 t u v ∧ Builtin.Range.small a b 1 = true ∧ Builtin.Range.rangeSize a b 1 = ((n : Nat) : Int) ∧ 0 < n ∧ Fr h₀ env.locals s₁.heap m ∧ News h₀ env.locals s₁.heap news ∧
    ∀ t' h tk, Fr h₀ env.locals h (fun y => if y = x then some (.int a t') else m y) → News h₀ env.locals h news →
      wpAny (model prog w) A (execs body env) (fun f s' => match f with | .ret v => Q (.ret v) s' | _ => False) E { s₁ with heap := h, toks := tk }
theorem For_first {px pos : Pos} {iter : Expr} {h₀ : Heap} {m : Str → Option Value} (_F : Fr h₀ env.locals s.heap m) (hx : env.kindOf x = some .local)
    (hp : (env.scope.kind == .class || (env.scope.kind == .module && env.locals != env.globals)) = false)
    (h : wpAny (model prog w) A (eval iter env) (FirstAt prog w A h₀ env x body Q E) E s)
    (hs : ∀ x, foldedSetIterable iter env x = pure x := by intro _; rfl)
    (hE : PassesOwn (model prog w) A env E := by passes_own) :
    wpAny (model prog w) A (exec (.For (.Name x px) iter body [] pos) env) Q E s := by
  refine wpAny_For (wpAny_mono h (fun xv s₁ h₁ => ?_) fun _ _ e => e) hs
  obtain ⟨r, a, b, t, u, v, n, m, news, rfl, hr, hsm, hn, hpos, F, N, hb⟩ := h₁
  refine wpAny_pyIter_range hr hsm ?_
  have hit : IsRangeIter (s₁.heap.push { cls := .type "range_iterator", data := .fields #[rawInt a, rawInt (Builtin.Range.rangeSize a b 1), rawInt 1] }) s₁.heap.objs.size a (Builtin.Range.rangeSize a b 1) 1 := Heap.get?_push_size _ rfl
  have F₁ := F.push { cls := .type "range_iterator", data := .fields #[rawInt a, rawInt (Builtin.Range.rangeSize a b 1), rawInt 1] }
  have N₁ : News h₀ env.locals (s₁.heap.push { cls := .type "range_iterator", data := .fields #[rawInt a, rawInt (Builtin.Range.rangeSize a b 1), rawInt 1] }) news := fun p hp => ⟨Heap.get?_push_of_some _ (N p hp).1, (N p hp).2⟩
  refine codeAny_forLoop (fun k s' => s' = { s₁ with heap := s₁.heap.push { cls := .type "range_iterator", data := .fields #[rawInt a, rawInt (Builtin.Range.rangeSize a b 1), rawInt 1] } }) ?_ 0 rfl
  rintro k s' rfl
  refine wpAny_pyNext_range_item hit (by rw [hn]; omega) fun h' hit' hs' => ?_
  have hLI : env.locals ≠ s₁.heap.objs.size := Nat.ne_of_lt F.ns.lt
  have F₂ : Fr h₀ env.locals h' m := ⟨F₁.ns.sameBut hs' hLI, fun b' o e => (hs'.2 b' (fun q => by rw [q] at e; have := next_is_new F; rw [e] at this; cases this)).trans (F₁.keep b' o e), F₁.above⟩
  have N₂ : News h₀ env.locals h' news := fun p hp => ⟨(hs'.2 _ (fun q => absurd (Heap.lt_size (N p hp).1) (by rw [q]; exact Nat.lt_irrefl _))).trans (N₁ p hp).1, (N p hp).2⟩
  refine wpAny_assign_Name (wpAny_storeName_local hx F₂.ns (fun h₂ hn₂ hs₂ => ?_) hp)
  refine wpAny_passesOwn hE ?_
  refine wpAny_mono (hb _ h₂ _ (F₂.set hn₂ hs₂) (N₂.set hs₂)) (fun f s₃ h₃ => ?_) fun _ _ e => e
  cases f with
  | ret v => exact h₃
  | brk => exact h₃.elim
  | cont => exact h₃.elim
  | next => exact h₃.elim
end
end Mine
end
section
open PySem PySem.W PyProof.Rows
theorem Mine.offSp : True := by
  w_top off
  trivial
namespace Mine
abbrev sl : Str := Str.ofString "/"
def keepStep (acc : List Str) (x : Str) : List Str := if x = Str.ofString ".." then acc.dropLast else if x = Str.ofString "" ∨ x = Str.ofString "." then acc else acc ++ [x]
def plain (l : List Str) : List Str := l.foldl keepStep []
def stepsOf (x : Str) : List Str := plain (Txt.split x sl)
theorem plain_snoc (l : List Str) (x : Str) : plain (l ++ [x]) = keepStep (plain l) x := by simp [plain, List.foldl_append]
theorem sl_eq : sl = (⟨#[47]⟩ : Str) := by decide
/- cutting at the slash, on code points -/
def cut : List Nat → List (List Nat)
  | [] => [[]]
  | c :: r => if c = 47 then [] :: cut r else match cut r with
    | [] => [[c]]
    | p :: ps => (c :: p) :: ps
def joinL : List (List Nat) → List Nat
  | [] => []
  | [p] => p
  | p :: q :: r => p ++ 47 :: joinL (q :: r)
theorem cut_ne (l : List Nat) : cut l ≠ [] := by
  cases l with
  | nil => simp [cut]
  | cons c r =>
    unfold cut
    split
    · simp
    · split <;> simp
theorem cut_free : ∀ p : List Nat, 47 ∉ p → cut p = [p]
  | [], _ => rfl
  | c :: r, h => by
    have h1 : c ≠ 47 := fun e => h (e ▸ .head _)
    have h2 : 47 ∉ r := fun e => h (.tail _ e)
    unfold cut
    rw [if_neg h1, cut_free r h2]
theorem cut_step : ∀ (p t : List Nat), 47 ∉ p → cut (p ++ 47 :: t) = p :: cut t
  | [], t, _ => by simp [cut]
  | c :: r, t, h => by
    have h1 : c ≠ 47 := fun e => h (e ▸ .head _)
    have h2 : 47 ∉ r := fun e => h (.tail _ e)
    show cut (c :: (r ++ 47 :: t)) = _
    conv => lhs; unfold cut
    rw [if_neg h1, cut_step r t h2]
theorem cut_joinL : ∀ ps : List (List Nat), ps ≠ [] → (∀ p ∈ ps, 47 ∉ p) → cut (joinL ps) = ps
  | [], h, _ => absurd rfl h
  | [p], _, h => cut_free p (h p (.head _))
  | p :: q :: r, _, h => by
    show cut (p ++ 47 :: joinL (q :: r)) = _
    rw [cut_step p _ (h p (.head _)), cut_joinL (q :: r) (by simp) fun x hx => h x (.tail _ hx)]
theorem joinL_cut : ∀ l : List Nat, joinL (cut l) = l
  | [] => rfl
  | c :: r => by
    have ih := joinL_cut r
    unfold cut
    by_cases h : c = 47
    · rw [if_pos h]
      cases hc : cut r with
      | nil => exact absurd hc (cut_ne r)
      | cons p ps => rw [hc] at ih; show [] ++ 47 :: joinL (p :: ps) = _; rw [ih, h]; rfl
    · rw [if_neg h]
      cases hc : cut r with
      | nil => exact absurd hc (cut_ne r)
      | cons p ps =>
        rw [hc] at ih
        cases ps with
        | nil => show c :: p = _; rw [show p = r from ih]
        | cons q qs => show (c :: p) ++ 47 :: joinL (q :: qs) = _; rw [← ih]; rfl
theorem cut_all_free : ∀ l : List Nat, ∀ p ∈ cut l, 47 ∉ p
  | [], p, hp => by
    simp only [cut, List.mem_singleton] at hp
    rw [hp]; simp
  | c :: r, p, hp => by
    have ih := cut_all_free r
    unfold cut at hp
    by_cases h : c = 47
    · rw [if_pos h] at hp
      rcases List.mem_cons.mp hp with rfl | hp
      · simp
      · exact ih p hp
    · rw [if_neg h] at hp
      cases hc : cut r with
      | nil => exact absurd hc (cut_ne r)
      | cons q qs =>
        rw [hc] at hp ih
        rcases List.mem_cons.mp hp with rfl | hp
        · intro hm
          rcases List.mem_cons.mp hm with e | hm
          · exact h e.symm
          · exact ih q (.head _) hm
        · exact ih p (.tail _ hp)
theorem join_toL : ∀ ps : List Str, (Str.join sl ps).cps.toList = joinL (ps.map (·.cps.toList))
  | [] => rfl
  | [p] => rfl
  | p :: q :: r => by
    show (p ++ sl ++ Str.join sl (q :: r)).cps.toList = p.cps.toList ++ 47 :: joinL (q.cps.toList :: r.map (·.cps.toList))
    have ih := join_toL (q :: r)
    rw [List.map_cons] at ih
    rw [← ih, Str.cps_append, Str.cps_append]
    simp [sl_eq]
theorem split_ne (x : Str) : Txt.split x sl ≠ [] := by
  have := StrLaws.join_split x sl
  intro h
  rw [h] at this
  have hx : x = Str.ofString "" := by rw [← this]; rfl
  subst hx
  revert h
  decide
theorem split_cut (x : Str) : (Txt.split x sl).map (·.cps.toList) = cut x.cps.toList := by
  have h1 := StrLaws.join_split x sl
  have h2 := join_toL (Txt.split x sl)
  rw [h1] at h2
  rw [h2, cut_joinL]
  · intro h; exact split_ne x (List.map_eq_nil_iff.mp h)
  · intro p hp
    obtain ⟨y, hy, rfl⟩ := List.mem_map.mp hp
    rw [sl_eq] at hy
    exact StrLaws.split_free x 47 y hy
theorem cut_len : ∀ l : List Nat, (cut l).length ≤ l.length + 1
  | [] => Nat.le_refl _
  | c :: r => by
    have ih := cut_len r
    unfold cut
    split
    · simpa using ih
    · split
      · simp
      · rename_i p ps hc
        rw [hc] at ih
        simp only [List.length_cons] at ih ⊢
        omega
theorem split_len (x : Str) : (Txt.split x sl).length ≤ x.length + 1 := by
  have h := congrArg List.length (split_cut x)
  rw [List.length_map] at h
  rw [h]
  exact cut_len _
theorem keepStep_len (acc : List Str) (x : Str) : (keepStep acc x).length ≤ acc.length + 1 := by
  unfold keepStep
  split
  · simp; omega
  · split
    · omega
    · simp
theorem plain_foldl_len : ∀ (l acc : List Str), (l.foldl keepStep acc).length ≤ acc.length + l.length
  | [], acc => Nat.le_refl _
  | x :: r, acc => by
    have := plain_foldl_len r (keepStep acc x)
    have h2 := keepStep_len acc x
    simp only [List.foldl_cons, List.length_cons]
    omega
theorem plain_len (l : List Str) : (plain l).length ≤ l.length := by
  have := plain_foldl_len l []
  simpa [plain] using this
end Mine
end
section
open PySem PySem.W PyProof.Rows
theorem Mine.offC2 : True := by
  w_top off
  trivial
namespace Mine
theorem fill0 (w : World) : PySem.Challenge.rw_pq0279_01.prog = PySem.Challenge.rw_pq0279_01.prog ∧ hd.heap_1 w.params = hd.heap_1 w.params := by k_fill; exact ⟨rfl, rfl⟩
abbrev AR (hdl : Option Value) (dp un : Nat) (gd : Option (List Code)) (cn : Str) (cs : Scope) (L a : Addr) (ccd : Value) (cl : List (Str × Addr)) (outer : List Env) : Around :=
  { handled := hdl, depth := dp, frames := some (envX cn cs L a ccd cl :: outer), guards := gd, units := un }
section
variable {w : World} {mean : ExcName → Option Value} {mg mb : Str → Option Value} {hdl : Option Value} {dp un : Nat} {gd : Option (List Code)} {cn : Str} {cs : Scope} {a : Addr} {ccd : Value} {cl : List (Str × Addr)} {outer : List Env}
variable {A₀ : Around} {base h₀ : Heap} {L : Addr} {m : Str → Option Value} {news : List (Addr × Obj)} {s : Shared} {Q E : Value → Shared → Prop}
theorem c_dir {x : Str} {t : Tok} (B : Below A₀ base outer h₀) (F : Fr h₀ L s.heap m) (X : (hd.heap_1 w.params).In h₀) (N : News h₀ L s.heap news) (T : Top hd.view (looseW hd.view []) mean mg mb h₀) (hk : cs.kind = .function)
    (hdp : dp + 1 < recursionLimit) (hun : un + 8 < cLine) (hpre : 0 ≤ Txt.rfind x (Str.ofString "/")) (hx : x.length ≤ 100000)
    (hret : ∀ t h' tk', Fr h₀ L h' m → News h₀ L h' news → Q (.str (Txt.slice x none (some (Txt.rfind x (Str.ofString "/") + 1))) t) { s with heap := h', toks := tk' }) :
    wpAny (model PySem.Challenge.rw_pq0279_01.row.prog w) (AR hdl dp un gd cn cs L a ccd cl outer) (call (.ref 48) [.str x t]) Q E s := by
  refine wpAny_call ?_
  k_dflt cell_enter
  k_steps
  all_goals exact hret _ _ _ (by k_asm) (by k_asm)
theorem c_last {x : Str} {t : Tok} (B : Below A₀ base outer h₀) (F : Fr h₀ L s.heap m) (X : (hd.heap_1 w.params).In h₀) (N : News h₀ L s.heap news) (T : Top hd.view (looseW hd.view []) mean mg mb h₀) (hk : cs.kind = .function)
    (hdp : dp + 1 < recursionLimit) (hun : un + 8 < cLine) (hx : x.length ≤ 100000)
    (hret : ∀ t h' tk', Fr h₀ L h' m → News h₀ L h' news → Q (.str (Txt.slice x (some (Txt.rfind x (Str.ofString "/") + 1)) none) t) { s with heap := h', toks := tk' }) :
    wpAny (model PySem.Challenge.rw_pq0279_01.row.prog w) (AR hdl dp un gd cn cs L a ccd cl outer) (call (.ref 55) [.str x t]) Q E s := by
  refine wpAny_call ?_
  k_dflt cell_enter
  k_steps
  all_goals exact hret _ _ _ (by k_asm) (by k_asm)
end
end Mine
end
section
open PySem PySem.W PyProof.Rows
theorem Mine.offTab : True := by
  w_top off
  trivial
namespace Mine
/- A dict of the ledger with str keys and any values. -/
section
variable {prog : Program} {w : World} {A : Around} {E : Value → Shared → Prop} {s : Shared} {h₀ : Heap} {L d : Addr} {m : Str → Option Value} {news : List (Addr × Obj)} {o : Obj} {kvs : List (Str × Value)} {x : Str} {t : Tok}
theorem dk_at (N : News h₀ L s.heap news) (hm : (d, o) ∈ news) (hd : o.IsDictOf (PySem.strKind prog w) kvs) : s.heap.DictOf (PySem.strKind prog w) d kvs := Heap.dictOf_iff.mpr ⟨o, (N _ hm).1, hd⟩
theorem dk_getm {pl : Sem Bool} {Q : Value × List Value → Shared → Prop} (N : News h₀ L s.heap news) (hm : (d, o) ∈ news) (hd : o.IsDictOf (PySem.strKind prog w) kvs) (h : Q (.builtin "dict.get", [.ref d]) s) : wpAny (model prog w) A (getMethod (.ref d) "get" pl) Q E s :=
  getMethod_builtin (dk_at N hm hd).typeIs PySem.F.plainAttrs_dict PySem.F.slot_dict_get PySem.F.type_dict_get (dk_at N hm hd).mapOf.noDict h
theorem dk_get {dflt : Value} {Q : Value → Shared → Prop} (N : News h₀ L s.heap news) (hm : (d, o) ∈ news) (hd : o.IsDictOf (PySem.strKind prog w) kvs) (lo : (d == sysModules) = false) (h : Q ((valueAt kvs x).getD dflt) { s with toks := s.toks + 1 }) :
    wpAny (model prog w) A (call (.builtin "dict.get") [.ref d, .str x t, dflt]) Q E s :=
  call_meetsIn PySem.F.slot_dict_get (dk_at N hm hd).typeIs PySem.F.entry_dict_get (PySem.F.args_dict_get_3 _ _ _) (meets_dict_get_default (PySem.strKind prog w) d (strKind_is prog w x t) lo dflt) ⟨_, (dk_at N hm hd).mapOf, h⟩
theorem dk_in {Q : Value → Shared → Prop} (N : News h₀ L s.heap news) (hm : (d, o) ∈ news) (hd : o.IsDictOf (PySem.strKind prog w) kvs) (lo : (d == sysModules) = false) (h : Q (.bool (valueAt kvs x).isSome) { s with toks := s.toks + 1 }) :
    wpAny (model prog w) A (compareOp .In (.str x t) (.ref d)) Q E s := wpAny_in_of (strKind_is prog w x t) lo (dk_at N hm hd).mapOf h
theorem dk_getItem {v : Value} {Q : Value → Shared → Prop} (N : News h₀ L s.heap news) (hm : (d, o) ∈ news) (hd : o.IsDictOf (PySem.strKind prog w) kvs) (hv : valueAt kvs x = some v) (h : Q v { s with toks := s.toks + 1 }) :
    wpAny (model prog w) A (getItem (.ref d) (.str x t)) Q E s := wpAny_getItem_of (strKind_is prog w x t) (dk_at N hm hd).mapOf hv h
theorem dk_item {v : Value} {value slice : PySem.Expr} {Q : Value → Shared → Prop} (N : News h₀ L s.heap news) (hm : (d, o) ∈ news) (hd : o.IsDictOf (PySem.strKind prog w) kvs) (hv : valueAt kvs x = some v) (h : Q v { s with toks := s.toks + 1 })
    (hs : subscripted slice false (.ref d) (.str x t) = operate [.ref d, .str x t] (getItem (.ref d) (.str x t)) := by with_unfolding_all rfl) (hg : ∀ r, letTemporaryGo value (.ref d) r = pure () := by intro _; with_unfolding_all rfl) :
    wpAny (model prog w) A (subscriptTail value slice (.ref d) (.str x t)) Q E s :=
  subscriptTail_builtin (dk_at N hm hd).typeIs PySem.F.slot_dict_getitem.lookup (dk_getItem N hm hd hv h) hs hg
theorem dk_set {v : Value} {g : Obj → List (Addr × Obj)} {Q : Unit → Shared → Prop} (F : Fr h₀ L s.heap m) (N : News h₀ L s.heap news) (U : UpdF d o news g) (hd : o.IsDictOf (PySem.strKind prog w) kvs) (hz : kvs.length ≤ sizeLine)
    (h : ∀ h' o', Fr h₀ L h' m → News h₀ L h' (g o') → o'.IsDictOf (PySem.strKind prog w) (stored kvs x v) → Q () { s with heap := h', toks := s.toks + 1 }) :
    wpAny (model prog w) A (setItem (.ref d) (.str x t) v) Q E s := by
  obtain ⟨pre, post, rfl, hg, a, b⟩ := U.split
  have hm := N (d, o) (List.mem_append_right _ (.head _))
  refine wpAny_setItem_pairs (hsz := hz) (strKind_is prog w x t) (Heap.dictOf_iff.mpr ⟨o, hm.1, hd⟩) fun h' hmm hs => ?_
  obtain ⟨o', ho', hd'⟩ := Heap.dictOf_iff.mp hmm
  exact h h' o' (F.change hs hm.2.1 hm.2.2) (hg o' ▸ N.setIn a b hs ho') hd'
end
end Mine
end
section
open PySem PySem.W PyProof.Rows
theorem Mine.offTr : True := by
  w_top off
  trivial
namespace Mine
/- The tree's state: names with their kinds. -/
inductive Kind
  | dir
  | plain (z : Int)
  | link (x : Str)
deriving DecidableEq
def Kind.code : Kind → Int
  | .dir => 0
  | .plain _ => 1
  | .link _ => 2
abbrev Ents := List (Str × Kind)
def look (g : Ents) (x : Str) : Option Kind := (g.find? fun p => p.1 = x).map (·.2)
def isLink (g : Ents) (x : Str) : Bool := match look g x with
  | some (.link _) => true
  | _ => false
theorem look_cons (g : Ents) (x y : Str) (k : Kind) : look ((x, k) :: g) y = if x = y then some k else look g y := by
  unfold look
  rw [List.find?_cons]
  by_cases h : x = y <;> simp [h]
abbrev dent (w : World) (k : Str) (t : Tok) (v : Value) : DictEntry := ⟨PyData.keyHash w.params k, .str k t, v⟩
abbrev treeD (w : World) (t1 t2 t3 : Tok) (cv lv : Value) (de : Addr) : Obj := dictOf [dent w (Str.ofString "clock") t1 cv, dent w (Str.ofString "left") t2 lv, dent w (Str.ofString "entries") t3 (.ref de)] 3
abbrev entD (w : World) (t1 t2 t3 t4 : Tok) (sv cv tv : Value) : Obj := dictOf [dent w (Str.ofString "sort") t1 sv, dent w (Str.ofString "content") t2 cv, dent w (Str.ofString "stamp") t3 tv, dent w (Str.ofString "is_writable") t4 (.bool true)] 4
def ContOk (news : List (Addr × Obj)) : Kind → Value → Prop
  | .dir, v => v = .none
  | .plain z, v => ∃ l n t, v = .ref l ∧ (l, listOf #[.int z t] n) ∈ news
  | .link x, v => ∃ t, v = .str x t
def EntAt (w : World) (news : List (Addr × Obj)) (v : Value) (k : Kind) : Prop :=
  ∃ e ed t1 t2 t3 t4 ts cv n nt, v = .ref e ∧ (e, instObj 92 ed) ∈ news ∧ (ed, entD w t1 t2 t3 t4 (.int k.code ts) cv (.int n nt)) ∈ news ∧ ContOk news k cv
def EntsOk (w : World) (news : List (Addr × Obj)) (kvs : List (Str × Value)) (g : Ents) : Prop :=
  ∀ x, match look g x with
    | none => valueAt kvs x = none
    | some k => ∃ v, valueAt kvs x = some v ∧ EntAt w news v k
abbrev KND (w : World) := PySem.strKind PySem.Challenge.rw_pq0279_01.row.prog w
/- what a reader of the tree must know -/
structure TreeR (w : World) (news : List (Addr × Obj)) (t td de : Addr) (g : Ents) : Prop where
  inst : (t, instObj 295 td) ∈ news
  dict : ∃ t1 t2 t3 cv lv, (td, treeD w t1 t2 t3 cv lv de) ∈ news
  ents : ∃ oe kvs, (de, oe) ∈ news ∧ (de == sysModules) = false ∧ oe.IsDictOf (KND w) kvs ∧ EntsOk w news kvs g
theorem ContOk.mono {l l' : List (Addr × Obj)} (hs : ∀ p ∈ l, p ∈ l') {k : Kind} {v : Value} (h : ContOk l k v) : ContOk l' k v := by
  cases k with
  | dir => exact h
  | plain z => obtain ⟨a, n, t, e, hm⟩ := h; exact ⟨a, n, t, e, hs _ hm⟩
  | link x => exact h
theorem EntAt.mono {w : World} {l l' : List (Addr × Obj)} (hs : ∀ p ∈ l, p ∈ l') {k : Kind} {v : Value} (h : EntAt w l v k) : EntAt w l' v k := by
  obtain ⟨e, ed, t1, t2, t3, t4, ts, cv, n, nt, e1, e2, e3, e4⟩ := h
  exact ⟨e, ed, t1, t2, t3, t4, ts, cv, n, nt, e1, hs _ e2, hs _ e3, e4.mono hs⟩
theorem EntsOk.mono {w : World} {l l' : List (Addr × Obj)} (hs : ∀ p ∈ l, p ∈ l') {kvs : List (Str × Value)} {g : Ents} (h : EntsOk w l kvs g) : EntsOk w l' kvs g := by
  intro x
  have := h x
  split
  · rename_i e; rw [e] at this; exact this
  · rename_i k e; rw [e] at this; obtain ⟨v, h1, h2⟩ := this; exact ⟨v, h1, h2.mono hs⟩
theorem TreeR.mono {w : World} {l l' : List (Addr × Obj)} {t td de : Addr} {g : Ents} (hs : ∀ p ∈ l, p ∈ l') (h : TreeR w l t td de g) : TreeR w l' t td de g := by
  obtain ⟨h1, ⟨t1, t2, t3, cv, lv, h2⟩, oe, kvs, h3, h4, h5, h6⟩ := h
  exact ⟨hs _ h1, ⟨t1, t2, t3, cv, lv, hs _ h2⟩, oe, kvs, hs _ h3, h4, h5, h6.mono hs⟩
theorem valueAt_stored (kvs : List (Str × Value)) (k : Str) (v : Value) (x : Str) : valueAt (stored kvs k v) x = if k = x then some v else valueAt kvs x := by
  unfold valueAt stored
  by_cases h : kvs.any (fun kv => kv.1 = k) = true
  · rw [if_pos h]
    induction kvs with
    | nil => simp at h
    | cons p r ih =>
      simp only [List.map_cons, List.find?_cons]
      by_cases hp : p.1 = k
      · simp only [hp, if_true]
        by_cases hx : k = x
        · simp [hx]
        · simp only [hx, if_false, decide_false]
          by_cases hr : r.any (fun kv => kv.1 = k) = true
          · have := ih hr; simp only [hx, if_false] at this; exact this
          · have hmap : r.map (fun kv => if kv.1 = k then (kv.1, v) else kv) = r := by
              have : ∀ q ∈ r, q.1 ≠ k := fun q hq e => hr (List.any_eq_true.mpr ⟨q, hq, by simp [e]⟩)
              calc r.map (fun kv => if kv.1 = k then (kv.1, v) else kv) = r.map id := List.map_congr_left fun q hq => by simp [this q hq]
                _ = r := by simp
            rw [hmap]
      · simp only [hp, if_false]
        by_cases hx : p.1 = x
        · have hkx : ¬ k = x := fun e => hp (hx.trans e.symm)
          simp [hx, hkx]
        · simp only [hx, decide_false]
          have hr : r.any (fun kv => kv.1 = k) = true := by simpa [hp] using h
          exact ih hr
  · rw [if_neg h]
    have hn : ∀ q ∈ kvs, q.1 ≠ k := fun q hq e => h (List.any_eq_true.mpr ⟨q, hq, by simp [e]⟩)
    rw [List.find?_append]
    by_cases hx : k = x
    · have : kvs.find? (fun kv => kv.1 = x) = none := List.find?_eq_none.mpr fun q hq => by simpa [hx] using hn q hq
      rw [this]; simp [hx]
    · simp [hx]
end Mine
end
open PySem PySem.W PyProof.Rows
local macro_rules | `(tactic| k_room) => `(tactic| ktr_room)
local macro_rules | `(tactic| k_units) => `(tactic| ktr_units)
local macro_rules | `(tactic| k_mem) => `(tactic| (refine Mine.memShow ?_; ktr_member))
local macro_rules | `(tactic| walk_at "own std6") => `(tactic| (case B | F | X | N | T => k_asm); (case hk => rfl))
local macro_rules | `(tactic| walk_at "own std7") => `(tactic| (walk_at "own std6"; (case hdp => ktr_room)))
local macro_rules | `(tactic| walk_at "own std8") => `(tactic| (walk_at "own std7"; (case hun => ktr_units)))
local macro_rules | `(tactic| walk_at "own tree") => `(tactic| (first | (with_reducible assumption) | (((with_reducible rename Mine.TreeR _ _ _ _ _ _ => TRx)); refine Mine.TreeR.mono ?_ TRx; intro p hp; repeat (first | exact hp | refine List.Mem.tail _ ?_))))
local macro_rules | `(tactic| walk_at "own get") => `(tactic| ((case N => k_asm); (case m => k_mem); (case d | l | EO => (with_reducible assumption))))
section
open PySem PySem.W PyProof.Rows
theorem Mine.offC3 : True := by
  w_top off
  trivial
namespace Mine
section
variable {w : World} {mean : ExcName → Option Value} {mg mb : Str → Option Value} {hdl : Option Value} {dp un : Nat} {gd : Option (List Code)} {cn : Str} {cs : Scope} {a : Addr} {ccd : Value} {cl : List (Str × Addr)} {outer : List Env}
variable {A₀ : Around} {base h₀ : Heap} {L : Addr} {m : Str → Option Value} {news : List (Addr × Obj)} {s : Shared} {Q E : Value → Shared → Prop}
theorem neOfLt {l : List (Addr × Obj)} {d : Addr} (h : ∀ p ∈ l, p.1 < d) : ∀ p ∈ l, p.1 ≠ d := fun p hp => Nat.ne_of_lt (h p hp)
theorem turnPlain {l : List (Str × Tok)} {ts : List Str} {i : Nat} {y : Str} {ty : Tok} (hy : l[i]? = some (y, ty)) (hl : l.map (·.1) = ts) : plain (ts.take (i + 1)) = keepStep (plain (ts.take i)) y := by
  have h1 : ts[i]? = some y := by rw [← hl, List.getElem?_map, hy]; rfl
  rw [List.take_add_one, h1]
  exact plain_snoc _ _
theorem locs2 {m1 : Str → Option Value} {p q : Str} {va vb vc so : Option Value} (hpq : p ≠ q) :
    (fun z => if z = q then va else if z = p then vb else (fun y => if y = p then so else if y = q then vc else m1 y) z) = fun z => if z = p then vb else if z = q then va else m1 z := by
  funext z
  by_cases h1 : z = p
  · subst h1; simp [hpq]
  · by_cases h2 : z = q
    · subst h2; simp [h1]
    · simp [h1, h2]
theorem locs1 {m1 : Str → Option Value} {p q : Str} {vb vc so : Option Value} :
    (fun z => if z = p then vb else (fun y => if y = p then so else if y = q then vc else m1 y) z) = fun z => if z = p then vb else if z = q then vc else m1 z := by
  funext z
  by_cases h1 : z = p
  · subst h1; simp
  · simp [h1]
theorem norm2 {m1 : Str → Option Value} {p q : Str} {va vb : Option Value} (h1 : m1 p = va) (h2 : m1 q = vb) : m1 = fun y => if y = p then va else if y = q then vb else m1 y := by
  funext y
  by_cases e1 : y = p
  · rw [if_pos e1, e1, h1]
  · rw [if_neg e1]
    by_cases e2 : y = q
    · rw [if_pos e2, e2, h2]
    · rw [if_neg e2]
local macro_rules | `(tactic| k_all) => `(tactic| first | assumption | exact neOfLt (by assumption))
theorem pick_dl (vs : List Value) : (slicePick vs.toArray none (some (-1)) none).toList = vs.dropLast := by
  rw [kmk_pick_nat (a := 0) (b := vs.length - 1), List.drop_zero, List.dropLast_eq_take]
  · simp
  · unfold sliceBounds
    simp only [Option.getD_none, show (1 : Int) > 0 by decide, if_true, show (-1 : Int) < 0 by decide, List.size_toArray]
    congr 1
    congr 1
    omega
local macro_rules | `(tactic| walk_at "subscriptTail Name Slice ref ref") => `(tactic| (k_here; (with_reducible show wpAny _ _ (subscriptTail _ (PySem.Expr.Slice none _ none _) (Value.ref _) (Value.ref _)) _ _ _); k_dflt (refine' kmk_slice_lit ?F ?N ?l ?p ?q ?e ?_ ?s ?t ?z; (case F => k_asm); (case N => k_asm); (case l => kmk_list); (case p => kmk_part); (case q => kmk_part); (case e => exact pick_dl _); (case s => with_unfolding_all rfl); (case t => kmk_pure); (case z => assumption)); intro D' h' F' N' l1; (try k_lt l1)))
local macro_rules | `(tactic| walk_at "call builtin:list.append") => `(tactic| (k_here; (with_reducible show wpAny _ _ (call (Value.builtin _) [Value.ref _, _]) _ _ _); k_dflt (refine' append_K ?k1 ?k2 ?k3 ?_ ?z; (case k1 => k_asm); (case k2 => k_asm); (case k3 => k_upd); (case z => assumption); k_whole); intro h' F' N'))
local macro_rules | `(tactic| walk_at "pyIter ref") => `(tactic| k_extra "pyIter ref")
theorem c_steps {x : Str} {t : Tok} (B : Below A₀ base outer h₀) (F : Fr h₀ L s.heap m) (X : (hd.heap_1 w.params).In h₀) (N : News h₀ L s.heap news) (T : Top hd.view (looseW hd.view []) mean mg mb h₀) (hk : cs.kind = .function)
    (hdp : dp + 1 < recursionLimit) (hx : x.length ≤ 100000)
    (hret : ∀ fl fs n h' tk', Fr h₀ L h' m → News h₀ L h' ((fl, listOf (strValues fs).toArray n) :: news) → fs.map (·.1) = stepsOf x → (∀ p ∈ news, p.1 < fl) → Q (.ref fl) { s with heap := h', toks := tk' }) :
    wpAny (model PySem.Challenge.rw_pq0279_01.row.prog w) (AR none dp un gd cn cs L a ccd cl outer) (call (.ref 62) [.str x t]) Q E s := by
  refine wpAny_call ?_
  k_dflt cell_enter
  k_with "pyIter ref" => fail "stop"
  k_steps
  rename_i g' L' h1 FG' B' X' T' tk0 l' h2 l1 h3 F1 N1 l h4 kk hl hs hlen hil F2 N2
  obtain ⟨m1, F3, hm⟩ : ∃ m1, Fr g' L' h4 m1 ∧ m1 "found" = some (.ref l') := ⟨_, F2, rfl⟩
  have hl' : l' < h3.objs.size := Heap.lt_size (N1 _ (.head _)).1
  clear F1 F2 N1
  dsimp only at hil N2
  generalize hsp : h3.objs.size = sp at hil N2
  refine it_list (vs := strValues l) (m₀ := m1) (nx₀ := [(l', W.listOf #[] 0)]) (news := (sp, W.listOf (strValues l).toArray 0) :: news)
    (fun i m nx => ∃ so fl fs n, nx = [(fl, W.listOf (strValues fs).toArray n)] ∧ (m = fun y => if y = Str.ofString "step" then so else if y = Str.ofString "found" then some (.ref fl) else m1 y) ∧ fs.map (·.1) = plain ((Txt.split x sl).take i) ∧ (∀ p ∈ news, p.1 < fl) ∧ fl ≠ sp)
    rfl (.head _) F3 (newsSub N2 (by intro p hp; simp only [List.mem_cons, List.cons_append, List.nil_append] at hp ⊢; grind)) ⟨m1 "step", l', [], 0, rfl, ?_, ?_, l1, ?_⟩ ?_ ?_
  · exact norm2 rfl hm
  · rfl
  · exact Nat.ne_of_lt (hsp ▸ hl')
  · rintro i v m₁ nx I oI h tk hv ⟨so, fl, fs, n, rfl, rfl, hfs, hlt, hflsp⟩ hI hI2 F₁ N₁
    obtain ⟨⟨y, ty⟩, hy, rfl⟩ : ∃ p, l[i]? = some p ∧ v = .str p.1 p.2 := by
      simp only [strValues, List.getElem?_map, Option.map_eq_some_iff] at hv
      obtain ⟨p, h1, h2⟩ := hv
      exact ⟨p, h1, h2.symm⟩
    have hflI : @Ne Nat fl I := hI2 _ (.head _)
    have hspI : @Ne Nat sp I := hI _ (.head _)
    have hflsp' : @Ne Nat fl sp := hflsp
    have hnI : ∀ p ∈ news, p.1 ≠ I := fun p hp => hI p (.tail _ hp)
    have hsz : (strValues fs).toArray.size ≤ sizeLine := by
      have h1 := congrArg List.length hfs
      have h2 := plain_len ((Txt.split x sl).take i)
      have h3 := split_len x
      rw [List.length_map] at h1
      rw [List.length_take] at h2
      simp only [List.size_toArray, strValues, List.length_map, sizeLine_eq]
      omega
    change Fr g' L' h _ at F₁
    change News g' L' h ((fl, W.listOf (strValues fs).toArray n) :: (I, oI) :: (sp, W.listOf (strValues l).toArray 0) :: news) at N₁
    dsimp only
    k_steps
    · rename Fr g' L' _ _ => F5
      rename News g' L' _ _ => N5
      rename (_ ∧ _) => hlts
      rename Addr => D
      rename ((_ == _) = true) => c1
      have c1' : y = Str.ofString ".." := by simpa using c1
      refine TEnd.intro (nx' := [(D, W.listOf (strValues fs).dropLast.toArray 0)]) F5 (newsSub N5 (by intro p hp; simp only [List.mem_cons, List.cons_append, List.nil_append] at hp ⊢; grind)) ?_ ⟨some (.str y ty), _, fs.dropLast, 0, ?_, locs2 (by decide), ?_, ?_, ?_⟩
      · intro p hp
        rw [List.mem_singleton.mp hp]
        exact Nat.ne_of_gt hlts.2.1
      · simp only [strValues, List.map_dropLast]
      · rw [turnPlain hy hl, ← hfs, List.map_dropLast, keepStep, if_pos c1']
      · exact fun p hp => Nat.lt_trans (hlt p hp) hlts.1
      · exact Nat.ne_of_gt hlts.2.2.1
    · rename Fr g' L' _ _ => F5
      rename News g' L' _ _ => N5
      rename ((_ != Str.ofString "") = true) => c2
      rename ((_ != Str.ofString ".") = true) => c3
      rename ((_ == _) = false) => c1
      refine TEnd.intro (nx' := [(_, _)]) F5 N5 ?_ ⟨some (.str y ty), fl, fs ++ [(y, ty)], n + 1, ?_, locs1, ?_, hlt, hflsp⟩
      · intro p hp
        rw [List.mem_singleton.mp hp]
        exact hflI
      · simp [strValues]
      · have c1' : y ≠ Str.ofString ".." := by simpa using c1
        have c2' : y ≠ Str.ofString "" := by simpa using c2
        have c3' : y ≠ Str.ofString "." := by simpa using c3
        rw [turnPlain hy hl, ← hfs, keepStep, if_neg c1', if_neg (by simp [c2', c3'])]
        simp
    all_goals
      rename Fr g' L' _ _ => F5
      rename News g' L' _ _ => N5
      rename ((_ == _) = false) => c1
      refine TEnd.intro (nx' := [(_, _)]) F5 N5 ?_ ⟨some (.str y ty), fl, fs, n, rfl, locs1, ?_, hlt, hflsp⟩
      · intro p hp
        rw [List.mem_singleton.mp hp]
        exact hflI
      · have c1' : y ≠ Str.ofString ".." := by simpa using c1
        rw [turnPlain hy hl, ← hfs, keepStep, if_neg c1', if_pos]
        first
          | (rename ((_ != Str.ofString ".") = false) => c3; exact .inr (by simpa using c3))
          | (rename ((_ != Str.ofString "") = false) => c3; exact .inl (by simpa using c3))
  · rintro m₁ nx h tk ⟨so, fl, fs, n, rfl, rfl, hfs, hlt, hflsp⟩ F₁ N₁
    change Fr g' L' h _ at F₁
    change News g' L' h ((fl, W.listOf (strValues fs).toArray n) :: (sp, W.listOf (strValues l).toArray 0) :: news) at N₁
    have hfs' : fs.map (·.1) = stepsOf x := by
      rw [hfs, stepsOf, ← hl, List.take_of_length_le (by simp [strValues])]
    dsimp only
    k_steps
    exact hret fl fs n _ _ (by k_asm) (newsSub (by k_asm) (by intro p hp; simp only [List.mem_cons] at hp ⊢; grind)) hfs' hlt
end
end Mine
end
section
open PySem PySem.W PyProof.Rows PySem.Builtin PySem.Builtin.ObjectAttr
theorem Mine.offEx : True := by
  w_top off
  trivial
namespace Mine
/- The exception class of the program: an own `__init__` that sets two attributes. -/
abbrev excB : List Value := [.type "Exception", .type "BaseException", .type "object"]
theorem cls38 {w : World} {h : Heap} (X : (hd.heap_1 w.params).In h) :
    h.get? 38 = some (excClassObj "LispSignal" "LispSignal" 38 37 [.type "Exception"] excB true [] [] false none none (some (.ref 22)) none (some (.str "LispSignal" 196)) (some (.str "LispSignal" 204)) (some (.bool true)) "Exception.__new__") := X 38 _ rfl
noncomputable def ns37 (w : World) : Array DictEntry := (match List.lookup 37 (hd.heap_1 w.params) with | some ⟨_, _, .dict es _, _⟩ => es | _ => #[])
theorem nsAt37 {w : World} {h : Heap} (X : (hd.heap_1 w.params).In h) : h.Ns 37 (nsFind (ns37 w)) :=
  ⟨_, _, _, X 37 _ rfl, rfl, by
    intro e he
    simp only [Array.mem_def, List.mem_cons, List.not_mem_nil, or_false] at he
    rcases he with rfl | rfl | rfl | rfl | rfl | rfl <;> exact ⟨_, _, rfl⟩, fun _ => rfl⟩
theorem f35 {w : World} {h : Heap} (X : (hd.heap_1 w.params).In h) : ∃ o, h.get? 35 = some o ∧ o.cls = .type "function" := ⟨_, X 35 _ rfl, rfl⟩
theorem ns37_init (w : World) : nsFind (ns37 w) "__init__" = some (.ref 35) := rfl
theorem ns37_set (w : World) : nsFind (ns37 w) "__setattr__" = none := rfl
theorem ns37_sym (w : World) : nsFind (ns37 w) "symbol" = none := rfl
theorem ns37_data (w : World) : nsFind (ns37 w) "data" = none := rfl
theorem exc_sym : typeLookup (.type "Exception") "symbol" = pure none := by rw [typeLookup_type, builtinLookup_eq_fast]; kernel_rfl
theorem exc_data : typeLookup (.type "Exception") "data" = pure none := by rw [typeLookup_type, builtinLookup_eq_fast]; kernel_rfl
abbrev excObj (t : Addr) (dx : Option Addr) : Obj := { cls := .ref 38, dict := dx, data := .fields #[.ref t, .none, .none, .none, .bool false, .none] }
section
variable {w : World} {A : Around} {E : Value → Shared → Prop} {s : Shared} {h₀ : Heap} {L e t : Addr} {m : Str → Option Value} {post : List (Addr × Obj)} {name : Str} {v : Value}
theorem exc_entry1 {prog : Program} {h : Heap} {g : Array GenState} {d : Drawn} {tk0 : Nat} {os : OsState} {o : Obj} {tk : Tok} {Q : Fin → Shared → Prop} (X : (hd.heap_1 w.params).In h) (hx : h.get? e = some o) (hc : o.cls = .ref 38) (hnc : ∀ c, o.data ≠ .cls c) (hdn : o.dict = none)
    (hna : nsFind (ns37 w) name = none) (hB : typeLookup (.type "Exception") name = pure none)
    (hq : ∀ h' tk, h'.Ns1 h.objs.size (fun y => if y = name then some v else none) → h'.get? e = some { cls := o.cls, dict := some h.objs.size, data := o.data, slots := o.slots } → (∀ b ob, b ≠ e → h.get? b = some ob → h'.get? b = some ob) → Q (.done (.ret .none)) ⟨h', g, d, tk, os⟩) :
    wpAny (model prog w) A (Builtin.«object.__setattr__» ⟨[.ref e, .str name tk, v], []⟩) Q E ⟨h, g, d, tk0, os⟩ := by
  have SF := PySem.F.store_Exception
  have hC := cls38 X
  have hn := nsAt37 X
  have hpass := SF.passes (.ref e)
  unfold Builtin.«object.__setattr__»
  repeat (first | rw [refuse_eq] | (rw [refuseLoop_ref, hpass]) | (with_reducible refine wpAny_loadPart_at hx ?_; rw [hc]) | with_reducible refine wpAny_mroOf_exc hC ?_ | (with_reducible refine wpAny_typeLookup_exc hC hn SF.mro hB ?_; rw [hna]) | wp_step)
  rw [hdn, if_neg (by simp [typeHasDict])]
  split
  · rename_i hcd
    cases hcd
  split
  · rename_i c hcd
    exact absurd hcd (hnc c)
  have hx₁ : (h.push { cls := .type "dict", data := .dict #[] }).get? e = some o := Heap.get?_push_of_some _ hx
  have hxs : e ≠ h.objs.size := Nat.ne_of_lt (Heap.lt_size hx)
  refine wpAny_bind (wpAny_alloc' ?_)
  refine wpAny_bind (wpAny_update' hx₁ ?_)
  refine wpAny_pure ?_
  have hgd : ((h.push { cls := .type "dict", data := .dict #[] }).update e fun o => { cls := o.cls, dict := some h.objs.size, data := o.data, slots := o.slots }).get? h.objs.size
      = some { cls := .type "dict", data := .dict #[] } :=
    (Heap.get?_update_ne _ _ _ _ hxs.symm).trans (Heap.get?_push_at rfl rfl)
  have hnd : ((h.push { cls := .type "dict", data := .dict #[] }).update e fun o => { cls := o.cls, dict := some h.objs.size, data := o.data, slots := o.slots }).Ns h.objs.size (fun _ => none) :=
    ⟨_, #[], _, hgd, rfl, fun e he => absurd he (by simp), fun _ => rfl⟩
  show wpAny _ _ (storeInDict h.objs.size (.str name tk) name v) _ _ _
  unfold storeInDict newKeyGuard
  refine wpAny_bind (wpAny_pure (wpAny_bind (wpAny_nsSet1 (Heap.Ns1.of_empty hnd) fun h' hn' hs => ?_)))
  obtain ⟨oD, esD, epD, hoD, hdD, hcD⟩ := hn'.count (Within.cons name v Within.nil)
  refine wpAny_bind (wpAny_lookBehind hoD (by rw [hdD]; exact pastItsLine_dict (Nat.le_trans hcD (by rw [List.length_cons, List.length_nil, sizeLine_eq]; omega))) ?_)
  wp_walk
  refine hq h' _ hn' ?_ fun b ob hbx hb => (hs.2 b (Nat.ne_of_lt (Heap.lt_size hb))).trans ((Heap.get?_update_ne _ _ _ _ hbx).trans (Heap.get?_push_of_some _ hb))
  refine (hs.2 e hxs).trans (Heap.get?_update_self _ hx₁ ?_)
  have hfr := (Heap.get?_some_iff.mp hx).2
  obtain ⟨oc, od, odt, osl⟩ := o
  cases odt <;> first | rfl | exact hfr
theorem exc_call1 {prog : Program} {sa owner : String} (SF : StoreFacts "Exception" excB sa owner) {h : Heap} {g : Array GenState} {d : Drawn} {tk0 : Nat} {os : OsState} {o : Obj} {tk : Tok} {R : Result → Shared → Prop} (X : (hd.heap_1 w.params).In h) (hx : h.get? e = some o) (hc : o.cls = .ref 38) (hnc : ∀ c, o.data ≠ .cls c) (hdn : o.dict = none)
    (hna : nsFind (ns37 w) name = none) (hB : typeLookup (.type "Exception") name = pure none)
    (hq : ∀ h' tk, h'.Ns1 h.objs.size (fun y => if y = name then some v else none) → h'.get? e = some { cls := o.cls, dict := some h.objs.size, data := o.data, slots := o.slots } → (∀ b ob, b ≠ e → h.get? b = some ob → h'.get? b = some ob) → R (.ok (.ret .none)) ⟨h', g, d, tk, os⟩) :
    codeAny (model prog w) A (.call (.builtin sa) ⟨[.ref e, .str name tk, v], []⟩) R ⟨h, g, d, tk0, os⟩ :=
  codeAny_call_builtin SF.slot.plain SF.entry (wpAny_check_sa SF (cls38 X) hx hc (exc_entry1 X hx hc hnc hdn hna hB hq))
theorem exc_store1 {prog : Program} {h : Heap} {g : Array GenState} {d : Drawn} {tk0 : Nat} {os : OsState} {o : Obj} {Q : Unit → Shared → Prop} (X : (hd.heap_1 w.params).In h) (hx : h.get? e = some o) (hc : o.cls = .ref 38) (hnc : ∀ c, o.data ≠ .cls c) (hdn : o.dict = none)
    (hna : nsFind (ns37 w) name = none) (hB : typeLookup (.type "Exception") name = pure none)
    (hq : ∀ h' tk, h'.Ns1 h.objs.size (fun y => if y = name then some v else none) → h'.get? e = some { cls := o.cls, dict := some h.objs.size, data := o.data, slots := o.slots } → (∀ b ob, b ≠ e → h.get? b = some ob → h'.get? b = some ob) → Q () ⟨h', g, d, tk, os⟩) :
    wpAny (model prog w) A (setAttr (.ref e) name v) Q E ⟨h, g, d, tk0, os⟩ := by
  have SF := PySem.F.store_Exception
  have hC := cls38 X
  have hn := nsAt37 X
  have hs := ns37_set w
  have f3 := SF.slot.bind (.ref e)
  have hpass := SF.passes (.ref e)
  unfold setAttr callSpecial? specialOf
  repeat (any_goals (first | assumption | (with_reducible refine wpAny_loadPart_at hx ?_; rw [hc]) | (with_reducible refine wpAny_typeLookup_exc hC hn SF.mro SF.slot.lookup ?_; rw [hs]) | wp_step))
  refine exc_call1 SF X hx hc hnc hdn hna hB (fun h' tk h1 h2 h3 => ?_)
  repeat (any_goals (first | assumption | wp_step))
  exact hq h' tk h1 h2 h3
theorem exc_set1 {Q : Unit → Shared → Prop} (F : Fr h₀ L s.heap m) (X : (hd.heap_1 w.params).In h₀) (N : News h₀ L s.heap ((e, excObj t none) :: post)) (he : ∀ p ∈ post, p.1 ≠ e)
    (hna : nsFind (ns37 w) name = none) (hB : typeLookup (.type "Exception") name = pure none)
    (hq : ∀ d od h' tk, Fr h₀ L h' m → News h₀ L h' ((e, excObj t (some d)) :: (d, od) :: post) → d ≠ e → (∀ p ∈ post, p.1 ≠ d) → h'.Ns1 d (fun y => if y = name then some v else none) → Q () { s with heap := h', toks := tk }) :
    wpAny (model PySem.Challenge.rw_pq0279_01.row.prog w) A (setAttr (.ref e) name v) Q E s := by
  obtain ⟨hh, g, dr, tk0, os⟩ := s
  have hx := (N _ (.head _)).1
  refine exc_store1 (X.keeps F.keep) hx rfl (fun c q => by cases q) rfl hna hB fun h' tk hn' hx' hk => ?_
  obtain ⟨oD, es, ep, hoD, r⟩ := id hn'
  have hLt : L < hh.objs.size := F.ns.lt
  have hLe : L ≠ e := fun q => (N _ (.head _)).2.1 q.symm
  have hens : hh.objs.size ≠ e := fun q => absurd (Heap.lt_size hx) (by rw [← q]; exact Nat.lt_irrefl _)
  have kp : ∀ b x, h₀.get? b = some x → h'.get? b = some x := fun b x hb => hk b x (fun q => by have := (N _ (.head _)).2.2; rw [q] at hb; rw [this] at hb; cases hb) (F.keep b x hb)
  have hns : h'.Ns L m := by
    obtain ⟨oL, esL, epL, hL, r'⟩ := F.ns
    exact ⟨oL, esL, epL, hk L oL hLe hL, r'⟩
  refine hq hh.objs.size oD h' tk ⟨hns, kp, F.above⟩ ?_ hens (fun p hp q => absurd (Heap.lt_size (N p (.tail _ hp)).1) (by rw [q]; exact Nat.lt_irrefl _)) hn'
  intro p hp
  rcases List.mem_cons.mp hp with rfl | hp
  · exact ⟨hx', (N _ (.head _)).2⟩
  rcases List.mem_cons.mp hp with rfl | hp
  · exact ⟨hoD, Nat.ne_of_gt hLt, next_is_new F⟩
  · exact ⟨hk p.1 p.2 (he p hp) (N p (.tail _ hp)).1, (N p (.tail _ hp)).2⟩
theorem exc_set2 {Q : Unit → Shared → Prop} {d : Addr} {od : Obj} {mA : Str → Option Value} {ns : List Str} (F : Fr h₀ L s.heap m) (X : (hd.heap_1 w.params).In h₀) (N : News h₀ L s.heap ((e, excObj t (some d)) :: (d, od) :: post)) (hne : d ≠ e) (he : ∀ p ∈ post, p.1 ≠ e) (hde : ∀ p ∈ post, p.1 ≠ d)
    (hns : s.heap.Ns1 d mA) (hw : Within mA ns) (hsz : ns.length ≤ 10)
    (hna : nsFind (ns37 w) name = none) (hB : typeLookup (.type "Exception") name = pure none)
    (hq : ∀ od' h' tk, Fr h₀ L h' m → News h₀ L h' ((e, excObj t (some d)) :: (d, od') :: post) → Q () { s with heap := h', toks := tk }) :
    wpAny (model PySem.Challenge.rw_pq0279_01.row.prog w) A (setAttr (.ref e) name v) Q E s := by
  obtain ⟨hh, g, dr, tk0, os⟩ := s
  have hx := (N _ (.head _)).1
  have hd0 := (N _ (.tail _ (.head _))).1
  have X' := X.keeps F.keep
  refine store_attr PySem.F.store_Exception (cls38 X') (nsAt37 X') (ns37_set w) hna hB ?_ ⟨_, hx, rfl, (fun c q => by cases q), .inr ⟨d, rfl, hne, hns⟩⟩ (fun h' tk I hk hs => ?_) hw (Nat.le_trans hsz (by rw [sizeLine_eq]; omega))
  · rintro rfl
    have := cls38 X'
    rw [hx] at this
    cases this
  obtain ⟨o₁, hx', c1, c2, c3, c4⟩ := hs _ hx
  have ho1 : o₁ = excObj t (some d) := by
    have := c4 d rfl
    obtain ⟨a1, a2, a3, a4⟩ := o₁
    dsimp only at c1 c2 c3 this
    subst c1 c2 c3 this
    rfl
  subst ho1
  obtain ⟨o₂, hx2, _, _, hdd⟩ := I
  have ho2 : o₂ = excObj t (some d) := Option.some.inj (hx2.symm.trans hx')
  subst ho2
  rcases hdd with ⟨q, _⟩ | ⟨d2, q, _, hn'⟩
  · cases q
  obtain rfl : d = d2 := Option.some.inj q
  obtain ⟨oD, es, ep, hoD, r⟩ := id hn'
  have other : ∀ b x, b ≠ e → b ≠ d → hh.get? b = some x → h'.get? b = some x := fun b x h1 h2 hb => hk b x h1 (fun o₀ dx ho hdx => by
    have hxx : hh.get? e = some (excObj t (some d)) := hx
    rw [hxx] at ho; cases ho; cases hdx; exact h2) hb
  have hLe : L ≠ e := fun q => (N _ (.head _)).2.1 q.symm
  have hLd : L ≠ d := fun q => (N _ (.tail _ (.head _))).2.1 q.symm
  refine hq oD h' tk ⟨?_, fun b x hb => ?_, F.above⟩ ?_
  · obtain ⟨oL, esL, epL, hL, r'⟩ := F.ns
    exact ⟨oL, esL, epL, other L oL hLe hLd hL, r'⟩
  · refine other b x (fun q => ?_) (fun q => ?_) (F.keep b x hb)
    · have := (N _ (.head _)).2.2; rw [q] at hb; rw [this] at hb; cases hb
    · have := (N _ (.tail _ (.head _))).2.2; rw [q] at hb; rw [this] at hb; cases hb
  · intro p hp
    rcases List.mem_cons.mp hp with rfl | hp
    · exact ⟨hx', (N _ (.head _)).2⟩
    rcases List.mem_cons.mp hp with rfl | hp
    · exact ⟨hoD, (N _ (.tail _ (.head _))).2⟩
    · exact ⟨other _ _ (he p hp) (hde p hp) (N p (.tail _ (.tail _ hp))).1, (N p (.tail _ (.tail _ hp))).2⟩
end
end Mine
end
section
open PySem PySem.W PyProof.Rows
theorem Mine.offEx2 : True := by
  w_top off
  trivial
namespace Mine
section
variable {w : World} {mean : ExcName → Option Value} {mg mb : Str → Option Value} {hdl : Option Value} {dp un : Nat} {gd : Option (List Code)} {cn : Str} {cs : Scope} {a : Addr} {ccd : Value} {cl : List (Str × Addr)} {outer : List Env}
variable {A₀ : Around} {base h₀ : Heap} {L : Addr} {m : Str → Option Value} {news : List (Addr × Obj)} {s : Shared} {Q E : Value → Shared → Prop}
local macro_rules | `(tactic| walk_at "setAttr ref") => `(tactic| first
  | ((refine' exc_set1 ?k1 ?k2 ?k3 ?k4 (ns37_sym _) exc_sym ?_; (case k1 => k_asm); (case k2 => k_asm); (case k3 => k_asm); (case k4 => assumption)); intro d' od' h' tk' F' N' l1 l2 n1)
  | ((refine' exc_set2 ?k1 ?k2 ?k3 ?k4 ?k5 ?k6 ?k7 ?k8 ?k9 (ns37_data _) exc_data ?_; (case k1 => k_asm); (case k2 => k_asm); (case k3 => k_asm); (case k4 => assumption); (case k5 => assumption); (case k6 => assumption); (case k7 => assumption); (case k8 => exact Within.cons _ _ Within.nil); (case k9 => exact Nat.le_of_ble_eq_true rfl)); intro od' h' tk' F' N'))
theorem c_exc {sv dv : Value} (B : Below A₀ base outer h₀) (F : Fr h₀ L s.heap m) (X : (hd.heap_1 w.params).In h₀) (N : News h₀ L s.heap news) (T : Top hd.view (looseW hd.view []) mean mg mb h₀) (hk : cs.kind = .function)
    (hdp : dp + 1 < recursionLimit)
    (hret : ∀ e ob tp h' tk', Fr h₀ L h' m → News h₀ L h' news → h'.get? e = some ob → ob.cls = .ref 38 → ob.data = .fields #[tp, .none, .none, .none, .bool false, .none] → h₀.get? e = none → (∀ p ∈ news, p.1 ≠ e) → e ≠ L → Q (.ref e) { s with heap := h', toks := tk' }) :
    wpAny (model PySem.Challenge.rw_pq0279_01.row.prog w) (AR hdl dp un gd cn cs L a ccd cl outer) (call (.ref 38) [sv, dv]) Q E s := by
  obtain ⟨hh, g, dr, tk0, os⟩ := s
  obtain ⟨o35, h35, c35⟩ := f35 (X.keeps F.keep)
  refine wpAny_call_exc_init PySem.F.excBase_Exception (cls38 (X.keeps F.keep)) (nsAt37 (X.keeps F.keep)) (ns37_init w) h35 c35 (fun h' e hm => ?_) (by rw [sizeLine_eq]; exact Nat.le_of_ble_eq_true rfl)
  obtain ⟨t, ht, htn, htt⟩ := hm.there
  have kp := hm.keeps
  have F' : Fr h₀ L h' m := ⟨by
    obtain ⟨oL, esL, epL, hL, r'⟩ := F.ns
    exact ⟨oL, esL, epL, kp _ _ hL, r'⟩, fun b x hb => kp b x (F.keep b x hb), F.above⟩
  have he0 : h₀.get? e = none := by
    cases q : h₀.get? e with
    | none => rfl
    | some o => have := F.keep _ _ q; have h2 := hm.new; dsimp only at this; rw [this] at h2; cases h2
  have N₁ : News h₀ L h' news := fun p hp => ⟨kp _ _ (N p hp).1, (N p hp).2⟩
  have N' : News h₀ L h' ((e, excObj t none) :: news) := News.more F' N₁ ht (fun es n q => by cases q) he0
  have he : ∀ p ∈ news, p.1 ≠ e := fun p hp q => by have h2 := hm.new; rw [← q] at h2; have := (N p hp).1; dsimp only at this; rw [this] at h2; cases h2
  refine wpAny_call ?_
  clear hm ht htn htt kp N₁ N F
  k_dflt cell_enter
  k_steps
  rename_i kF kN _ _
  exact hret e _ (.ref t) _ _ kF (fun p hp => kN p (.tail _ (.tail _ hp))) (kN _ (.head _)).1 rfl rfl he0 he (kN _ (.head _)).2.1
end
abbrev IsExc (h : Heap) (e : Addr) : Prop := ∃ ob tp, h.get? e = some ob ∧ ob.cls = .ref 38 ∧ ob.data = .fields #[tp, .none, .none, .none, .bool false, .none]
def RaiseGo (E : Value → Shared → Prop) (v : Value) (s₁ : Shared) : Prop := ∃ e, v = .ref e ∧ IsExc s₁.heap e ∧ E (.ref e) s₁
section
variable {w : World} {A : Around} {E : Value → Shared → Prop} {s s' : Shared} {env : Env} {Q : Flow → Shared → Prop}
theorem raise_stmt {M : Model} {x : Sem Value} (hh : A.handled = none) (h : wpAny M A x (fun v s₁ => (hd.heap_1 w.params).In s₁.heap ∧ RaiseGo E v s₁) E s) : wpAny M A (raiseStmt env (some x) none) Q E s := by
  have hcB : (Value.ref 38 :: excB).contains (.type "BaseException") = true := by decide +kernel
  unfold raiseStmt
  refine wpAny_bind (wpAny_mono h (fun v s₁ h₁ => ?_) fun _ _ x => x)
  obtain ⟨X, e, rfl, ⟨ob, tp, he, hc, hd⟩, hE⟩ := h₁
  have hC := cls38 X
  obtain ⟨hp, g, d, tk, os⟩ := s₁
  repeat (first | (with_reducible refine wpAny_loadPart_at he ?_; rw [hc]) | with_reducible refine wpAny_loadPart_at hC ?_ | (with_reducible refine wpAny_isSubtype_exc hC ?_; rw [hcB]) | wp_step)
  rw [hd]
  repeat (first | wp_step)
  exact wpAny_raiseNew_none hh hE
theorem exec_raise {c : Expr} {pos : Pos} (hh : A.handled = none) (h : wpAny (model PySem.Challenge.rw_pq0279_01.row.prog w) A (eval c env) (fun v s₁ => (hd.heap_1 w.params).In s₁.heap ∧ RaiseGo E v s₁) E s) :
    wpAny (model PySem.Challenge.rw_pq0279_01.row.prog w) A (exec (.Raise (some c) none pos) env) Q E s := by
  rw [arm_exec_Raise]
  refine wpAny_bind (wpAny_standAt (raise_stmt (w := w) hh ?_))
  exact wpAny_bind (wpAny_mono h (fun v s₃ h₃ => wpAny_bind (wpAny_standAt (wpAny_pure h₃))) fun _ _ x => x)
end
section
variable {M : Model} {A : Around} {E : Value → Shared → Prop} {s' : Shared} {base g g₂ h : Heap} {outer : List Env} {L a e : Addr} {m : Str → Option Value} {name : Str} {scope : Scope} {cd : Value} {Q : Unit → Shared → Prop} {news : List (Addr × Obj)}
theorem leave_exS (K : Below A base outer g) (F : Fr g L s'.heap m) (N : News g L s'.heap news) (hx : IsExc s'.heap e) (he0 : g.get? e = none) (hne : ∀ p ∈ news, p.1 ≠ e)
    (hQ : ∀ h', RaisedSN base g outer e (.ref 38) news h' → g.UpToSlots h' → Q () { s' with heap := h' }) (hk : scope.kind = .function := by rfl) :
    wpAny M (A.deeper (envOf name scope L a cd)) (leaving (envOf name scope L a cd) (.ref e)) Q E s' := by
  have K' := K.push (name := name) (a := a) (cd := cd) F hk
  obtain ⟨ob, tp, he, hcls, hd⟩ := hx
  let fs := e :: (envOf name scope L a cd :: outer).filterMap (·.frame)
  have hin : ∀ env ∈ (envOf name scope L a cd :: outer), ∀ b, env.frame = some b → b ∈ fs := fun env he b hb => .tail _ (List.mem_filterMap.mpr ⟨env, he, hb⟩)
  have be : base.get? e = none := fresh_of_stays K.stays he0
  have st : base.StaysIn (hideAll s'.heap fs) := fun b o q => hideAll_get _ (K'.stays b o q) fun hm => by
    rcases List.mem_cons.mp hm with z | hm
    · rw [z, be] at q; cases q
    · rw [(K'.frames.mem hm).1] at q; cases q
  have sg : ∀ b o, g.get? b = some o → b ∉ outer.filterMap (·.frame) → (hideAll s'.heap fs).get? b = some o := fun b o q nm => hideAll_get _ (F.keep b o q) fun hm => by
    rcases List.mem_cons.mp hm with z | hm
    · rw [z, he0] at q; cases q
    rcases kts_mem hm with z | z
    · rw [z, kts_self F] at q
      cases q
    · exact nm z
  have hl : ∀ q ∈ news, (hideAll s'.heap fs).get? q.1 = some q.2 ∧ g.get? q.1 = none ∧ base.get? q.1 = none := fun q hq => by
    refine ⟨hideAll_get _ (N q hq).1 fun hm => ?_, (N q hq).2.2, fresh_of_stays K.stays (N q hq).2.2⟩
    rcases List.mem_cons.mp hm with z | hm
    · exact hne q hq z
    obtain ⟨env, he, hf⟩ := List.mem_filterMap.mp hm
    rcases List.mem_cons.mp he with rfl | he
    · exact (N q hq).2.1 (Option.some.inj hf).symm
    · obtain ⟨o, ho, _⟩ := (K.frames.mem (List.mem_filterMap.mpr ⟨env, he, hf⟩)).2
      rw [(N q hq).2.2] at ho; cases ho
  refine wpAny_leaving_firstW (a0 := tp) K'.stack ((funFrames_hide K'.frames hin).of_keeps fun b o hb _ => ⟨o, hb, rfl⟩) rfl he (fun b o hb => of_hideAll _ hb) (hideAll_none _ (.head _)) hd rfl rfl fun h' hL => ?_
  obtain ⟨k1, ⟨_, _, k2⟩, k3, k4⟩ := hL
  exact hQ h' ⟨_, tp, st, sg, hl, k1, hideAll_none _ (.head _), k2, by rw [← hcls]; exact k3⟩ ((Heap.UpToSlots.of_keeps F.keep).trans k4)
end
end Mine
end
section
open PySem PySem.W PyProof.Rows
theorem Mine.offF1 : True := by
  w_top off
  trivial
namespace Mine
def flGo (g : Ents) (x : Str) : Nat → Int → Str
  | 0, _ => Str.ofString ""
  | n + 1, e => if 0 < e then (if isLink g (Txt.slice x none (some e)) then Txt.slice x none (some e) else flGo g x n (Txt.find3 x sl (e + 1)))
    else if isLink g x then x else Str.ofString ""
@[irreducible] def firstLink (g : Ents) (x : Str) : Str := flGo g x (x.length + 2) (Txt.find3 x sl 1)
theorem firstLink_eq (g : Ents) (x : Str) : firstLink g x = flGo g x (x.length + 2) (Txt.find3 x sl 1) := by unfold firstLink; rfl
theorem flGo_exit {g : Ents} {x : Str} {n : Nat} {e : Int} (hn : 1 ≤ n) (he : ¬ 0 < e) : flGo g x n e = if isLink g x then x else Str.ofString "" := by
  cases n with
  | zero => omega
  | succ n => unfold flGo; rw [if_neg he]
theorem flGo_hit {g : Ents} {x : Str} {n : Nat} {e : Int} (hn : 1 ≤ n) (he : 0 < e) (hl : isLink g (Txt.slice x none (some e)) = true) : flGo g x n e = Txt.slice x none (some e) := by
  cases n with
  | zero => omega
  | succ n => unfold flGo; rw [if_pos he, if_pos hl]
theorem flGo_on {g : Ents} {x : Str} {n : Nat} {e : Int} (hn : 1 ≤ n) (he : 0 < e) (hl : isLink g (Txt.slice x none (some e)) = false) : flGo g x n e = flGo g x (n - 1) (Txt.find3 x sl (e + 1)) := by
  cases n with
  | zero => omega
  | succ n => conv => lhs; unfold flGo
              rw [if_pos he, if_neg (by rw [hl]; decide)]; rfl
theorem find3_range (x : Str) (i : Int) : -1 ≤ Txt.find3 x sl i ∧ Txt.find3 x sl i ≤ x.length ∧ (0 ≤ i → 0 < Txt.find3 x sl i → i ≤ Txt.find3 x sl i ∧ Txt.find3 x sl i < x.length) := by
  rw [sl_eq]
  rcases StrLaws.find3_spec x 47 i with ⟨h, _⟩ | ⟨k, h, h1, h2, _⟩
  · rw [h]; refine ⟨by omega, by omega, fun _ h => by omega⟩
  · rw [h]
    refine ⟨by omega, by omega, fun h0 _ => ⟨?_, by omega⟩⟩
    have : fromIndex x.length i = i.toNat := by
      unfold fromIndex
      rw [if_neg (by omega)]
      omega
    omega
theorem isLink_iff {g : Ents} {x : Str} {k : Kind} (h : look g x = some k) : isLink g x = decide (k.code = 2) := by
  unfold isLink; rw [h]; cases k <;> rfl
theorem isLink_none {g : Ents} {x : Str} (h : look g x = none) : isLink g x = false := by unfold isLink; rw [h]
section
variable {w : World} {A : Around} {E : Value → Shared → Prop} {s : Shared} {h₀ : Heap} {L d : Addr} {m : Str → Option Value} {ledger news : List (Addr × Obj)} {o : Obj} {kvs : List (Str × Value)} {x : Str} {t : Tok} {g : Ents}
theorem ents_none (EO : EntsOk w news kvs g) (h : look g x = none) : valueAt kvs x = none := by
  have := EO x; rw [h] at this; exact this
theorem ents_some (EO : EntsOk w news kvs g) {k : Kind} (h : look g x = some k) : ∃ v, valueAt kvs x = some v ∧ EntAt w news v k := by
  have := EO x; rw [h] at this; exact this
theorem get_ent {Q : Value → Shared → Prop} (N : News h₀ L s.heap ledger) (hm : (d, o) ∈ ledger) (hd : o.IsDictOf (KND w) kvs) (lo : (d == sysModules) = false) (EO : EntsOk w news kvs g)
    (h1 : look g x = none → Q .none { s with toks := s.toks + 1 })
    (h2 : ∀ k e ed t1 t2 t3 t4 ts cv n nt, look g x = some k → (e, instObj 92 ed) ∈ news → (ed, entD w t1 t2 t3 t4 (.int k.code ts) cv (.int n nt)) ∈ news → ContOk news k cv → Q (.ref e) { s with toks := s.toks + 1 }) :
    wpAny (model PySem.Challenge.rw_pq0279_01.row.prog w) A (call (.builtin "dict.get") [.ref d, .str x t, .none]) Q E s := by
  refine dk_get N hm hd lo ?_
  cases h : look g x with
  | none => rw [ents_none EO h]; exact h1 h
  | some k =>
    obtain ⟨v, hv, e, ed, t1, t2, t3, t4, ts, cv, n, nt, rfl, a1, a2, a3⟩ := ents_some EO h
    rw [hv]; exact h2 k e ed t1 t2 t3 t4 ts cv n nt h a1 a2 a3
end
section
variable {w : World} {mean : ExcName → Option Value} {mg mb : Str → Option Value} {hdl : Option Value} {dp un : Nat} {gd : Option (List Code)} {cn : Str} {cs : Scope} {a : Addr} {ccd : Value} {cl : List (Str × Addr)} {outer : List Env}
variable {A₀ : Around} {base h₀ : Heap} {L : Addr} {m : Str → Option Value} {news : List (Addr × Obj)} {s : Shared} {Q E : Value → Shared → Prop}
local macro_rules | `(tactic| walk_at "locs") => `(tactic| (funext y; (try dsimp only); (repeat' split) <;> first | rfl | assumption | (subst_vars; first | rfl | assumption | contradiction) | contradiction))
local macro_rules | `(tactic| walk_at "getMethod ref") => `(tactic| (k_here; k_dflt (refine' dk_getm ?N ?m ?d ?_; (case N => k_asm); (case m => k_mem); (case d => assumption))))
local macro_rules | `(tactic| walk_at "call builtin:dict.get") => `(tactic| (k_here; k_dflt ((refine' get_ent ?N ?m ?d ?l ?EO (fun hlk => ?_) (fun k e ed t1 t2 t3 t4 ts cv n nt hlk e1 e2 e3 => ?_); (case N => k_asm); (case m => k_mem); (case d => assumption); (case l => assumption); (case EO => assumption)))))
local macro_rules | `(tactic| walk_at "exec While Compare cons nil") => `(tactic| ((with_reducible show wpAny _ _ _ _ _ _); refine stop_here ?_))
theorem locsFE {m1 : Str → Option Value} {va vb so vc vn vs : Option Value} :
    (fun y => if y = Str.ofString "end" then va else if y = Str.ofString "found" then vb else (if y = Str.ofString "found" then so else if y = Str.ofString "end" then vc else if y = Str.ofString "name" then vn else if y = Str.ofString "self" then vs else m1 y)) =
    fun y => if y = Str.ofString "found" then vb else if y = Str.ofString "end" then va else if y = Str.ofString "name" then vn else if y = Str.ofString "self" then vs else m1 y := by walk_at "locs"
theorem c_first {x : Str} {tx : Tok} {t td de : Addr} {g : Ents} (B : Below A₀ base outer h₀) (F : Fr h₀ L s.heap m) (X : (hd.heap_1 w.params).In h₀) (N : News h₀ L s.heap news) (T : Top hd.view (looseW hd.view []) mean mg mb h₀) (hk : cs.kind = .function)
    (hdp : dp + 20 < recursionLimit) (hun : un + 40 < cLine) (hx : x.length ≤ 100000) (TR : TreeR w news t td de g)
    (hret : ∀ ty h' tk', Fr h₀ L h' m → News h₀ L h' news → Q (.str (firstLink g x) ty) { s with heap := h', toks := tk' }) :
    wpAny (model PySem.Challenge.rw_pq0279_01.row.prog w) (AR hdl dp un gd cn cs L a ccd cl outer) (call (.ref 131) [.ref t, .str x tx]) Q E s := by
  obtain ⟨M1, ⟨t1, t2, t3, cv, lv, M2⟩, oe, kvs, M3, lo, hdo, EO⟩ := TR
  refine wpAny_call ?_
  k_dflt cell_enter
  k_steps
  rename_i g' L' h1 FG' B' X' T' tk1 h3 F1 N1
  obtain ⟨m1, tz, F3, hme, hmn, hms⟩ : ∃ m1 tz, Fr g' L' h3 m1 ∧ m1 "end" = some (.int (Txt.find3 x sl 1) tz) ∧ m1 "name" = some (.str x tx) ∧ m1 "self" = some (.ref t) := ⟨_, _, F1, rfl, rfl, rfl⟩
  clear F1
  unfold Stop
  refine While_inv2 (n₀ := x.length + 2) (fun n m nx => ∃ e te so, nx = news ∧ (m = fun y => if y = Str.ofString "found" then so else if y = Str.ofString "end" then some (.int e te) else if y = Str.ofString "name" then some (.str x tx) else if y = Str.ofString "self" then some (.ref t) else m1 y) ∧ firstLink g x = flGo g x n e ∧ 1 ≤ n ∧ e ≤ x.length ∧ (0 < e → x.length + 1 ≤ n + e ∧ e < x.length)) F3 N1 ⟨_, tz, m1 "found", rfl, ?_, firstLink_eq g x, by omega, (find3_range x 1).2.1, fun h => ?_⟩ ?_
  · walk_at "locs"
  · have := (find3_range x 1).2.2 (by omega) h
    omega
  · rintro n m₁ nx h₁ tk₁ F₁ N₁ ⟨e, te, so, rfl, rfl, hfl, hn, hel, hb⟩
    have hfit1 : e + 1 < 2 ^ 40 := by omega
    clear N1 N F3 F
    k_steps
    · rename Fr g' L' _ _ => F5
      rename News g' L' _ _ => N5
      rename look g _ = none => hl5
      have he : 0 < e := by assumption
      have hz := flGo_on hn he (isLink_none hl5)
      have hr := find3_range x (e + 1)
      refine ⟨_, _, _, _, n - 1, rfl, F5, N5, by have := hb he; omega, Txt.find3 x sl (e + 1), _, some .none, rfl, locsFE, hfl.trans hz, by have := hb he; omega, hr.2.1, fun h6 => ?_⟩
      · have := hb he
        have := hr.2.2 (by omega) h6
        omega
    · rename look g _ = some _ => hl5
      have he : 0 < e := by assumption
      have hz := flGo_hit hn he (by rw [isLink_iff hl5]; simpa using by assumption)
      dsimp only [WhileStep2]
      rw [hz] at hfl
      rw [hfl] at hret
      k_steps
      exact hret _ _ _ (by k_asm) (by k_asm)
    · rename Fr g' L' _ _ => F5
      rename News g' L' _ _ => N5
      rename look g _ = some _ => hl5
      have he : 0 < e := by assumption
      have hz := flGo_on hn he (by rw [isLink_iff hl5]; simpa using by assumption)
      have hr := find3_range x (e + 1)
      refine ⟨_, _, _, _, n - 1, rfl, F5, N5, by have := hb he; omega, Txt.find3 x sl (e + 1), _, some (.ref _), rfl, locsFE, hfl.trans hz, by have := hb he; omega, hr.2.1, fun h6 => ?_⟩
      · have := hb he
        have := hr.2.2 (by omega) h6
        omega
    · rename look g _ = none => hl5
      rw [hfl, flGo_exit hn (by assumption), isLink_none hl5] at hret
      exact hret _ _ _ (by k_asm) (by k_asm)
    · rename look g _ = some _ => hl5
      rw [hfl, flGo_exit hn (by assumption), isLink_iff hl5, if_pos (by simpa using by assumption)] at hret
      exact hret _ _ _ (by k_asm) (by k_asm)
    · rename look g _ = some _ => hl5
      rw [hfl, flGo_exit hn (by assumption), isLink_iff hl5, if_neg (by simpa using by assumption)] at hret
      exact hret _ _ _ (by k_asm) (by k_asm)
end
end Mine
end
section
open PySem PySem.W PyProof.Rows
theorem Mine.offP1 : True := by
  w_top off
  trivial
namespace Mine
def dirPart (x : Str) : Str := Txt.slice x none (some (Txt.rfind x (Str.ofString "/") + 1))
def lastPart (x : Str) : Str := Txt.slice x (some (Txt.rfind x (Str.ofString "/") + 1)) none
def parentOf (x : Str) : Str := if dirPart x = Str.ofString "/" then Str.ofString "/" else Txt.slice (dirPart x) none (some (-1))
def joinedS (d x : Str) : Str := if d = Str.ofString "/" then d ++ x else d ++ Str.ofString "/" ++ x
section
variable {w : World} {mean : ExcName → Option Value} {mg mb : Str → Option Value} {hdl : Option Value} {dp un : Nat} {gd : Option (List Code)} {cn : Str} {cs : Scope} {a : Addr} {ccd : Value} {cl : List (Str × Addr)} {outer : List Env}
variable {A₀ : Around} {base h₀ : Heap} {L : Addr} {m : Str → Option Value} {news : List (Addr × Obj)} {s : Shared} {Q E : Value → Shared → Prop}
local macro_rules | `(tactic| walk_at "call ref") => `(tactic| (k_here; (with_reducible show wpAny _ _ (call (Value.ref 48) _) _ _ _); first | (k_dflt (refine' c_dir ?B ?F ?X ?N ?T ?hk ?hdp ?hun ?hpre ?hx ?_; walk_at "own std8"; (case hpre | hx => (with_reducible assumption))); intro t9 h9 tk9 F9 N9) | refine stop_here ?_))
theorem c_parent {x : Str} {t : Tok} (B : Below A₀ base outer h₀) (F : Fr h₀ L s.heap m) (X : (hd.heap_1 w.params).In h₀) (N : News h₀ L s.heap news) (T : Top hd.view (looseW hd.view []) mean mg mb h₀) (hk : cs.kind = .function)
    (hdp : dp + 20 < recursionLimit) (hun : un + 40 < cLine) (hpre : 0 ≤ Txt.rfind x (Str.ofString "/")) (hx : x.length ≤ 100000)
    (hret : ∀ t h' tk', Fr h₀ L h' m → News h₀ L h' news → Q (.str (parentOf x) t) { s with heap := h', toks := tk' }) :
    wpAny (model PySem.Challenge.rw_pq0279_01.row.prog w) (AR hdl dp un gd cn cs L a ccd cl outer) (call (.ref 306) [.str x t]) Q E s := by
  unfold parentOf dirPart at hret
  refine wpAny_call ?_
  k_dflt cell_enter
  k_steps
  · rename ((_ == _) = true) => c1
    rw [if_pos (by simpa using c1)] at hret
    exact hret _ _ _ (by k_asm) (by k_asm)
  · rename ((_ == _) = false) => c1
    rw [if_neg (by simpa using c1)] at hret
    exact hret _ _ _ (by k_asm) (by k_asm)
theorem c_joined {x y : Str} {t u : Tok} (B : Below A₀ base outer h₀) (F : Fr h₀ L s.heap m) (X : (hd.heap_1 w.params).In h₀) (N : News h₀ L s.heap news) (T : Top hd.view (looseW hd.view []) mean mg mb h₀) (hk : cs.kind = .function)
    (hdp : dp + 20 < recursionLimit) (hun : un + 40 < cLine) (hx : x.length ≤ 100000) (hy : y.length ≤ 100000)
    (hret : ∀ t h' tk', Fr h₀ L h' m → News h₀ L h' news → Q (.str (joinedS x y) t) { s with heap := h', toks := tk' }) :
    wpAny (model PySem.Challenge.rw_pq0279_01.row.prog w) (AR hdl dp un gd cn cs L a ccd cl outer) (call (.ref 313) [.str x t, .str y u]) Q E s := by
  unfold joinedS at hret
  refine wpAny_call ?_
  k_dflt cell_enter
  k_steps
  · rename ((_ == _) = true) => c1
    rw [if_pos (by simpa using c1)] at hret
    exact hret _ _ _ (by k_asm) (by k_asm)
  · rename ((_ == _) = false) => c1
    rw [if_neg (by simpa using c1)] at hret
    exact hret _ _ _ (by k_asm) (by k_asm)
end
end Mine
end
section
open PySem PySem.W PyProof.Rows
theorem Mine.offT0 : True := by
  w_top off
  trivial
namespace Mine
abbrev cpl (x : Str) : List Nat := x.cps.toList
theorem cpl_len (x : Str) : (cpl x).length = x.length := by simp [Str.length, cpl]
theorem cpl_app (x y : Str) : cpl (x ++ y) = cpl x ++ cpl y := by simp [cpl, Str.cps_append]
theorem cpl_ext {x y : Str} (h : cpl x = cpl y) : x = y := Str.ext' (by simpa [cpl] using congrArg List.toArray h)
theorem cpl_sl : cpl sl = [47] := by decide
theorem slice_to {x : Str} {j : Int} (h0 : 0 ≤ j) (h1 : j ≤ x.length) : cpl (Txt.slice x none (some j)) = (cpl x).take j.toNat := by
  have h := slice_closes_to (x := x) (j := j) ⟨h0, by simpa [Str.length] using h1⟩
  rw [beq_iff_eq.mp h]
  simp [cpl]
theorem slice_from {x : Str} {i : Int} (h0 : 0 ≤ i) (h1 : i ≤ x.length) : cpl (Txt.slice x (some i) none) = (cpl x).drop i.toNat := by
  have h := slice_closes_from (x := x) (i := i) ⟨h0, by simpa [Str.length] using h1⟩
  rw [beq_iff_eq.mp h]
  have h2 : ((cpl x).length : Int) = x.length := by rw [cpl_len]
  have : ((cpl x).drop i.toNat).take ((cpl x).length - i).toNat = (cpl x).drop i.toNat := List.take_of_length_le (by rw [List.length_drop]; omega)
  simpa [cpl] using this
theorem slice_to_neg {x : Str} (h1 : 1 ≤ x.length) : cpl (Txt.slice x none (some (-1))) = (cpl x).dropLast := by
  have h := slice_closes_to_neg (x := x) (j := -1) (k := (x.length : Int) - 1) (by omega) (by omega) (by omega)
  rw [beq_iff_eq.mp h, List.dropLast_eq_take, cpl_len]
  have e : ((x.length : Int) - 1).toNat = x.length - 1 := by omega
  simp [cpl, e]
theorem at_sl {x : Str} {i : Nat} : StrLaws.At x sl x.length i ↔ (cpl x)[i]? = some 47 := by
  unfold StrLaws.At
  rw [StrLaws.subAt_eq]
  have h1 : sl.length = 1 := by decide
  have h2 : sl.cps.toList = [47] := by decide
  rw [h1, h2]
  constructor
  · rintro ⟨a, b⟩
    have := beq_iff_eq.mp b
    cases h : (cpl x).drop i with
    | nil => rw [h] at this; cases this
    | cons c r =>
      rw [h] at this
      simp only [List.take_succ_cons, List.take_zero, List.cons.injEq, and_true] at this
      have h3 := congrArg (·[0]?) h
      simp only [List.getElem?_drop, Nat.add_zero, List.getElem?_cons_zero] at h3
      rw [h3, this]
  · intro h
    have hi : i < (cpl x).length := (List.getElem?_eq_some_iff.mp h).1
    refine ⟨by rw [cpl_len] at hi; omega, ?_⟩
    have h3 := List.drop_eq_getElem_cons hi
    have h4 : (cpl x)[i] = 47 := (List.getElem?_eq_some_iff.mp h).2
    have h5 : x.cps.toList.drop i = 47 :: x.cps.toList.drop (i + 1) := by rw [← h4]; exact h3
    rw [h5]
    simp
theorem rfind_spec (x : Str) : (Txt.rfind x sl = -1 ∧ 47 ∉ cpl x) ∨ ∃ k : Nat, Txt.rfind x sl = (k : Int) ∧ (cpl x)[k]? = some 47 ∧ ∀ j, k < j → (cpl x)[j]? ≠ some 47 := by
  unfold Txt.rfind
  rcases StrLaws.last_spec x sl with ⟨h, hn⟩ | ⟨k, h, hk, hn⟩
  · left
    rw [h]
    refine ⟨rfl, fun hm => ?_⟩
    obtain ⟨i, hi⟩ := List.getElem?_of_mem hm
    exact hn i (at_sl.mpr hi)
  · right
    rw [h]
    exact ⟨k, rfl, at_sl.mp hk, fun j hj he => hn j hj (at_sl.mpr he)⟩
theorem rfind_range (x : Str) : -1 ≤ Txt.rfind x sl ∧ Txt.rfind x sl < x.length := by
  rcases rfind_spec x with ⟨h, _⟩ | ⟨k, h, hk, _⟩
  · rw [h]; omega
  · rw [h]
    have := (List.getElem?_eq_some_iff.mp hk).1
    rw [cpl_len] at this
    omega
theorem rfind_nonneg {x : Str} (h : (cpl x).head? = some 47) : 0 ≤ Txt.rfind x sl := by
  rcases rfind_spec x with ⟨_, hn⟩ | ⟨k, h, _⟩
  · exact absurd (List.mem_of_mem_head? h) hn
  · omega
theorem dirPart_cl (x : Str) : cpl (dirPart x) = (cpl x).take (Txt.rfind x sl + 1).toNat := by
  have := rfind_range x
  exact slice_to (j := Txt.rfind x sl + 1) (by omega) (by omega)
theorem lastPart_cl (x : Str) : cpl (lastPart x) = (cpl x).drop (Txt.rfind x sl + 1).toNat := by
  have := rfind_range x
  exact slice_from (i := Txt.rfind x sl + 1) (by omega) (by omega)
theorem dirPart_len (x : Str) : (dirPart x).length ≤ x.length := by
  rw [← cpl_len, ← cpl_len, dirPart_cl, List.length_take]; omega
theorem lastPart_len (x : Str) : (lastPart x).length ≤ x.length := by
  rw [← cpl_len, ← cpl_len, lastPart_cl, List.length_drop]; omega
/- sizes -/
def tot (l : List Str) : Nat := (l.map fun y => y.length + 1).sum
theorem tot_app (l r : List Str) : tot (l ++ r) = tot l + tot r := by simp [tot]
theorem tot_dropLast (l : List Str) : tot l.dropLast ≤ tot l := by
  rcases List.eq_nil_or_concat l with rfl | ⟨r, x, rfl⟩
  · exact Nat.le_refl _
  · rw [List.concat_eq_append, List.dropLast_concat, tot_app]; omega
theorem tot_keep (acc : List Str) (x : Str) : tot (keepStep acc x) ≤ tot acc + (x.length + 1) := by
  unfold keepStep
  split
  · have := tot_dropLast acc; omega
  · split
    · omega
    · rw [tot_app]; simp [tot]
theorem tot_foldl : ∀ (l acc : List Str), tot (l.foldl keepStep acc) ≤ tot acc + tot l
  | [], acc => Nat.le_refl _
  | x :: r, acc => by
    have h1 := tot_foldl r (keepStep acc x)
    have h2 := tot_keep acc x
    have h3 : tot (x :: r) = x.length + 1 + tot r := by simp [tot]
    simp only [List.foldl_cons]
    omega
theorem tot_plain (l : List Str) : tot (plain l) ≤ tot l := by
  have := tot_foldl l []
  simpa [plain, tot] using this
theorem tot_cut : ∀ l : List Nat, ((cut l).map fun y => y.length + 1).sum = l.length + 1
  | [] => by simp [cut]
  | c :: r => by
    have ih := tot_cut r
    unfold cut
    split
    · simp only [List.map_cons, List.sum_cons, ih, List.length_nil, List.length_cons]; omega
    · cases hc : cut r with
      | nil => exact absurd hc (cut_ne r)
      | cons p ps =>
        rw [hc] at ih
        simp only [List.map_cons, List.sum_cons, List.length_cons] at ih ⊢
        omega
theorem tot_split (x : Str) : tot (Txt.split x sl) = x.length + 1 := by
  have h := tot_cut (cpl x)
  rw [← split_cut, List.map_map, cpl_len] at h
  rw [← h, tot]
  exact congrArg List.sum (List.map_congr_left fun y _ => by simp [Str.length])
theorem joinL_len : ∀ ps : List (List Nat), (joinL ps).length ≤ (ps.map fun y => y.length + 1).sum
  | [] => Nat.zero_le _
  | [p] => by simp [joinL]
  | p :: q :: r => by
    have ih := joinL_len (q :: r)
    simp only [joinL, List.length_append, List.length_cons, List.map_cons, List.sum_cons] at ih ⊢
    omega
theorem join_len (ps : List Str) : (Str.join sl ps).length ≤ tot ps := by
  have h := joinL_len (ps.map (·.cps.toList))
  rw [← cpl_len]
  show (Str.join sl ps).cps.toList.length ≤ _
  rw [join_toL]
  refine Nat.le_trans h (Nat.le_of_eq ?_)
  rw [List.map_map, tot]
  exact congrArg List.sum (List.map_congr_left fun y _ => by simp [Str.length])
theorem txt_join (ys : List Str) : Txt.join (Str.ofString "/") ys = Str.join sl ys := StrLaws.glued_eq_join _ _
theorem joinOk_tot {ys : List Str} (h : tot ys ≤ 1000000) : JoinOk (Str.ofString "/") ys = true := by
  refine joinOk_of ?_
  have h2 : (Str.ofString "/").length = 1 := by decide
  have h3 : ∀ l : List Str, (l.map (·.length)).sum + l.length = tot l := by
    intro l
    induction l with
    | nil => rfl
    | cons y r ih => simp only [tot, List.map_cons, List.sum_cons, List.length_cons] at ih ⊢; omega
  have := h3 ys
  rw [h2]
  omega
theorem stepsOf_tot (y : Str) : tot (stepsOf y) ≤ y.length + 1 := Nat.le_trans (tot_plain _) (Nat.le_of_eq (tot_split y))
theorem joinOk_steps {y : Str} (h : y.length ≤ 100000) : JoinOk (Str.ofString "/") (stepsOf y) = true := joinOk_tot (Nat.le_trans (stepsOf_tot y) (by omega))
theorem join_steps_len {y : Str} (h : y.length ≤ 100000) : (Txt.join (Str.ofString "/") (stepsOf y)).length ≤ 200000 := by
  rw [txt_join]
  exact Nat.le_trans (join_len _) (Nat.le_trans (stepsOf_tot y) (by omega))
/- the law of one step -/
def linkText (g : Ents) (x : Str) : Str := match look g x with
  | some (.link t) => t
  | _ => Str.ofString ""
def wholeOf (f t : Str) : Str := if Txt.slice t none (some 1) = sl then t else dirPart f ++ t
def nm (ps : List Str) : Str := sl ++ Str.join sl ps
@[irreducible] def stepAt (g : Ents) (x : Str) : Str := nm (stepsOf (wholeOf (firstLink g x) (linkText g (firstLink g x)) ++ Txt.slice x (some ((firstLink g x).length : Int)) none))
def trueGo (g : Ents) : Nat → Str → Option Str
  | 0, _ => none
  | n + 1, x => if firstLink g x = Str.ofString "" then some x else trueGo g n (stepAt g x)
@[irreducible] def trueName (g : Ents) (x : Str) : Option Str := trueGo g 12 x
theorem flGo_spec (g : Ents) (x : Str) : ∀ (n : Nat) (e : Int), e ≤ x.length → flGo g x n e = Str.ofString "" ∨ (isLink g (flGo g x n e) = true ∧ ∃ j : Int, 0 < j ∧ j ≤ x.length ∧ flGo g x n e = Txt.slice x none (some j)) ∨ (isLink g x = true ∧ flGo g x n e = x)
  | 0, e, _ => .inl rfl
  | n + 1, e, he => by
    unfold flGo
    by_cases h : 0 < e
    · rw [if_pos h]
      by_cases hl : isLink g (Txt.slice x none (some e)) = true
      · rw [if_pos hl]
        exact .inr (.inl ⟨hl, e, h, he, rfl⟩)
      · rw [if_neg hl]
        exact flGo_spec g x n _ (find3_range x (e + 1)).2.1
    · rw [if_neg h]
      by_cases hl : isLink g x = true
      · rw [if_pos hl]
        exact .inr (.inr ⟨hl, rfl⟩)
      · rw [if_neg hl]
        exact .inl rfl
theorem firstLink_spec (g : Ents) (x : Str) (h : firstLink g x ≠ Str.ofString "") (hx : (cpl x).head? = some 47) :
    (∃ t, look g (firstLink g x) = some (.link t) ∧ linkText g (firstLink g x) = t) ∧ (cpl (firstLink g x)).head? = some 47 ∧ (firstLink g x).length ≤ x.length := by
  have key : isLink g (firstLink g x) = true → ∃ t, look g (firstLink g x) = some (.link t) ∧ linkText g (firstLink g x) = t := by
    intro hl
    unfold isLink at hl
    split at hl
    · rename_i t ht
      exact ⟨t, ht, by unfold linkText; rw [ht]⟩
    · cases hl
  have e := firstLink_eq g x
  rcases flGo_spec g x (x.length + 2) (Txt.find3 x sl 1) (find3_range x 1).2.1 with h1 | ⟨h1, j, h2, h3, h4⟩ | ⟨h1, h4⟩
  · exact absurd (e.trans h1) h
  · refine ⟨key (by rw [e]; exact h1), ?_, ?_⟩
    · rw [firstLink_eq, h4, slice_to (by omega) h3, List.head?_take, if_neg (by omega)]
      exact hx
    · rw [firstLink_eq, h4, ← cpl_len, slice_to (by omega) h3, List.length_take, cpl_len]
      omega
  · refine ⟨key (by rw [firstLink_eq, h4]; exact h1), ?_, ?_⟩
    · rw [firstLink_eq, h4]; exact hx
    · rw [firstLink_eq, h4]; exact Nat.le_refl _
theorem nm_head (ps : List Str) : (cpl (nm ps)).head? = some 47 := by
  unfold nm
  rw [cpl_app, cpl_sl]
  rfl
theorem nm_len (y : Str) : (nm (stepsOf y)).length ≤ y.length + 2 := by
  unfold nm
  rw [Str.length_append]
  have h1 := join_len (stepsOf y)
  have h2 := stepsOf_tot y
  have h3 : sl.length = 1 := by decide
  omega
theorem wholeOf_len (f t : Str) : (wholeOf f t).length ≤ f.length + t.length := by
  unfold wholeOf
  split
  · omega
  · rw [Str.length_append]
    have := dirPart_len f
    omega
theorem stepAt_len {g : Ents} {x : Str} {b : Nat} (h : firstLink g x ≠ Str.ofString "") (hx : (cpl x).head? = some 47) (hb : (linkText g (firstLink g x)).length ≤ b) : (stepAt g x).length ≤ x.length + b + 2 := by
  unfold stepAt
  refine Nat.le_trans (nm_len _) ?_
  rw [Str.length_append]
  have h1 := wholeOf_len (firstLink g x) (linkText g (firstLink g x))
  obtain ⟨_, _, h3⟩ := firstLink_spec g x h hx
  have h2 := congrArg List.length (slice_from (x := x) (i := ((firstLink g x).length : Int)) (by omega) (by omega))
  rw [cpl_len, List.length_drop, cpl_len] at h2
  omega
theorem stepAt_abs {g : Ents} {x t : Str} (h : linkText g (firstLink g x) = t) (c : Txt.slice t none (some 1) = sl) : stepAt g x = Str.ofString "/" ++ Txt.join (Str.ofString "/") (stepsOf (t ++ Txt.slice x (some ((firstLink g x).length : Int)) none)) := by
  unfold stepAt nm wholeOf
  rw [h, txt_join, if_pos c]
theorem stepAt_rel {g : Ents} {x t : Str} (h : linkText g (firstLink g x) = t) (c : ¬ Txt.slice t none (some 1) = sl) : stepAt g x = Str.ofString "/" ++ Txt.join (Str.ofString "/") (stepsOf (dirPart (firstLink g x) ++ t ++ Txt.slice x (some ((firstLink g x).length : Int)) none)) := by
  unfold stepAt nm wholeOf
  rw [h, txt_join, if_neg c]
theorem stepAt_head (g : Ents) (x : Str) : (cpl (stepAt g x)).head? = some 47 := by
  unfold stepAt
  exact nm_head _
def LinksOk (g : Ents) : Prop := ∀ x t, look g x = some (.link t) → t.length ≤ 100
theorem trueGo_facts {g : Ents} (LO : LinksOk g) : ∀ (n : Nat) (x y : Str), (cpl x).head? = some 47 → trueGo g n x = some y → (cpl y).head? = some 47 ∧ y.length ≤ x.length + 102 * n
  | 0, x, y, _, h => by cases h
  | n + 1, x, y, hx, h => by
    unfold trueGo at h
    by_cases hf : firstLink g x = Str.ofString ""
    · rw [if_pos hf] at h
      cases h
      exact ⟨hx, by omega⟩
    · rw [if_neg hf] at h
      obtain ⟨⟨t, h1, h2⟩, _⟩ := firstLink_spec g x hf hx
      have h3 := stepAt_len (b := 100) hf hx (by rw [h2]; exact LO _ _ h1)
      obtain ⟨h4, h5⟩ := trueGo_facts LO n (stepAt g x) y (stepAt_head g x) h
      exact ⟨h4, by omega⟩
theorem trueName_facts {g : Ents} (LO : LinksOk g) {x y : Str} (hx : (cpl x).head? = some 47) (h : trueName g x = some y) : (cpl y).head? = some 47 ∧ y.length ≤ x.length + 1224 := by
  unfold trueName at h
  exact trueGo_facts LO 12 x y hx h
theorem parentOf_facts {x : Str} (hx : (cpl x).head? = some 47) : (cpl (parentOf x)).head? = some 47 ∧ (parentOf x).length ≤ x.length + 1 := by
  unfold parentOf
  have h1 := dirPart_cl x
  have h2 := dirPart_len x
  split
  · have : (Str.ofString "/").length = 1 := by decide
    exact ⟨by decide, by omega⟩
  · rename_i hne
    have h0 := rfind_nonneg hx
    have hd : (cpl (dirPart x)).head? = some 47 := by
      rw [h1, List.head?_take, if_neg (by omega)]; exact hx
    have hl : 1 ≤ (dirPart x).length := by
      rw [← cpl_len]
      cases h : cpl (dirPart x) with
      | nil => rw [h] at hd; cases hd
      | cons _ _ => simp
    have h3 := slice_to_neg hl
    refine ⟨?_, Nat.le_trans (Txt.slice_le _ _ _) (by omega)⟩
    rw [h3]
    cases h : cpl (dirPart x) with
    | nil => rw [h] at hd; cases hd
    | cons c r =>
      rw [h] at hd
      simp only [List.head?_cons, Option.some.injEq] at hd
      subst hd
      cases r with
      | nil =>
        exact absurd (cpl_ext (h.trans cpl_sl.symm)) hne
      | cons c' r' => rfl
end Mine
end
section
open PySem PySem.W PyProof.Rows
theorem Mine.offT1 : True := by
  w_top off
  trivial
namespace Mine
section
variable {w : World} {mean : ExcName → Option Value} {mg mb : Str → Option Value} {hdl : Option Value} {dp un : Nat} {gd : Option (List Code)} {cn : Str} {cs : Scope} {a : Addr} {ccd : Value} {cl : List (Str × Addr)} {outer : List Env}
variable {A₀ : Around} {base h₀ : Heap} {L : Addr} {m : Str → Option Value} {news : List (Addr × Obj)} {s : Shared} {Q E : Value → Shared → Prop}
local macro_rules | `(tactic| walk_at "call ref") => `(tactic| (k_here; (with_reducible show wpAny _ _ (call (Value.ref 131) _) _ _ _); first | (k_dflt (refine' c_first ?B ?F ?X ?N ?T ?hk ?hdp ?hun ?hx ?TR ?_; walk_at "own std8"; (case hx => (with_reducible assumption)); (case TR => walk_at "own tree")); intro t9 h9 tk9 F9 N9) | refine stop_here ?_))
local macro_rules | `(tactic| walk_at "call ref") => `(tactic| (k_here; (with_reducible show wpAny _ _ (call (Value.ref 48) _) _ _ _); first | (k_dflt (refine' c_dir ?B ?F ?X ?N ?T ?hk ?hdp ?hun ?hpre ?hx ?_; walk_at "own std8"; (case hpre | hx => (with_reducible assumption))); intro t9 h9 tk9 F9 N9) | refine stop_here ?_))
local macro_rules | `(tactic| walk_at "call ref") => `(tactic| (k_here; (with_reducible show wpAny _ _ (call (Value.ref 62) _) _ _ _); first | (k_dflt (refine' c_steps ?B ?F ?X ?N ?T ?hk ?hdp ?hx ?_; walk_at "own std7"; (case hx => (with_reducible assumption))); intro fl9 fs9 n9 h9 tk9 F9 N9 e9 l9) | refine stop_here ?_))
local macro_rules | `(tactic| walk_at "call ref") => `(tactic| (k_here; (with_reducible show wpAny _ _ (call (Value.ref 38) _) _ _ _); first | (k_dflt (refine' c_exc ?B ?F ?X ?N ?T ?hk ?hdp ?_; walk_at "own std7"); intro e9 ob9 tp9 h9 tk9 F9 N9 g9 c9 d9 n9 a9 l9) | refine stop_here ?_))
local macro_rules | `(tactic| walk_at "pyIter ref") => `(tactic| ((with_reducible show wpAny _ _ (pyIter (Value.ref _)) (fun it s₂ => LoopAtV _ _ _ _ _ _ _ _ _ it s₂) _ _); refine stop_here ?_))
local macro_rules | `(tactic| walk_at "subscriptTail") => `(tactic| (k_here; (with_reducible show wpAny _ _ (subscriptTail _ _ (Value.ref _) (Value.str _ _)) _ _ _); k_dflt (refine' dk_item ?N ?m ?d ?v ?_ ?a ?b; (case N => k_asm); (case m => k_mem); (case d => assumption); (case v => assumption); (case a => with_unfolding_all rfl); (case b => intro _; with_unfolding_all rfl))))
local macro_rules | `(tactic| walk_at "call builtin:str.join") => `(tactic| (k_here; (k_dflt (refine' SC.join ?l ?t ?o ?_; (case l => exact News.isList (by k_asm) (by k_mem)); (case t => (with_reducible assumption)); (case o => exact joinOk_steps (by with_reducible assumption)))); intro t9 k9))
local macro_rules | `(tactic| walk_at "exec Raise some none") => `(tactic| ((with_reducible show wpAny _ _ _ _ _ _); refine stop_here ?_))
theorem c_true {x : Str} {tx : Tok} {t td de : Addr} {g : Ents} (B : Below A₀ base outer h₀) (F : Fr h₀ L s.heap m) (X : (hd.heap_1 w.params).In h₀) (N : News h₀ L s.heap news) (T : Top hd.view (looseW hd.view []) mean mg mb h₀) (hk : cs.kind = .function)
    (hdp : dp + 40 < recursionLimit) (hun : un + 80 < cLine) (hh : hdl = none) (hx : x.length ≤ 2000) (hx0 : (cpl x).head? = some 47) (LO : LinksOk g) (TR : TreeR w news t td de g)
    (hret : ∀ y ty h' tk', trueName g x = some y → Fr h₀ L h' m → News h₀ L h' news → Q (.str y ty) { s with heap := h', toks := tk' })
    (hexc : ∀ e gg h' tk', trueName g x = none → Fr h₀ L gg m → RaisedSN base gg (envX cn cs L a ccd cl :: outer) e (.ref 38) news h' → gg.UpToSlots h' → E (.ref e) { s with heap := h', toks := tk' }) :
    wpAny (model PySem.Challenge.rw_pq0279_01.row.prog w) (AR hdl dp un gd cn cs L a ccd cl outer) (call (.ref 124) [.ref t, .str x tx]) Q E s := by
  subst hh
  have TR' := TR
  obtain ⟨M1, ⟨t1, t2, t3, cv, lv, M2⟩, oe, kvs, M3, lo, hdo, EO⟩ := TR'
  refine wpAny_call ?_
  k_dflt cell_enter
  k_steps
  rename_i g' L' h1 FG' B' X' T' h3 F1 N1 h4 tk4 t4 u4 v4 hr F2 N2 hk2
  obtain ⟨m1, F3, hma, hmn, hms⟩ : ∃ m1, Fr g' L' h4 m1 ∧ m1 "at" = some (.str x tx) ∧ m1 "name" = some (.str x tx) ∧ m1 "self" = some (.ref t) := ⟨_, F2, rfl, rfl, rfl⟩
  clear F1 F2 N1 N
  unfold Stop
  refine it_range (n := 12) (m₀ := m1) (nx₀ := []) (news := news)
    (fun i m nx => nx = [] ∧ ∃ y ty, m "at" = some (.str y ty) ∧ m "name" = some (.str x tx) ∧ m "self" = some (.ref t) ∧ trueName g x = trueGo g (12 - i) y ∧ y.length ≤ 2000 + 102 * i ∧ (cpl y).head? = some 47)
    rfl hr (by decide) (by decide) F3 N2 ⟨rfl, x, tx, hma, hmn, hms, by unfold trueName; rfl, by omega, hx0⟩ ?_ ?_
  · rintro i t' m₁ nx I oI h tk hi ⟨rfl, y, ty, ha, hn, hs, hy, hyl, hy0⟩ hI hI2 F₁ N₁
    change Fr g' L' h _ at F₁
    change News g' L' h ((I, oI) :: news) at N₁
    have F4 := frN (frN (frN F₁ (p := "at") ((if_neg (by decide)).trans ha)) (p := "name") ((if_neg (by decide)).trans ((if_neg (by decide)).trans hn))) (p := "self") ((if_neg (by decide)).trans ((if_neg (by decide)).trans ((if_neg (by decide)).trans hs)))
    clear F₁ F3
    have hyl1 : y.length ≤ 100000 := by omega
    obtain ⟨k, hk12⟩ : ∃ k, 12 - i = k + 1 := ⟨11 - i, by omega⟩
    rw [hk12] at hy
    unfold trueGo at hy
    by_cases hf : firstLink g y = Str.ofString ""
    · rw [if_pos hf] at hy
      dsimp only
      k_steps
      · dsimp only [TPost]
        k_steps
        exact hret _ _ _ _ hy (by k_asm) (newsSub (by k_asm) (by intro p hp; exact .tail _ hp))
      · rename ((_ == _) = false) => c1
        exact absurd hf (by simpa using c1)
    · rw [if_neg hf] at hy
      obtain ⟨⟨tg, hlk, hlt⟩, hf0, hfl⟩ := firstLink_spec g y hf hy0
      obtain ⟨v, hv, e, ed, t1', t2', t3', t4', ts', cv', n', nt', rfl, a1, a2, a3⟩ := ents_some EO hlk
      obtain ⟨tt, rfl⟩ := a3
      have htg := LO _ _ hlk
      have hst := stepAt_len (b := 100) hf hy0 (by rw [hlt]; exact htg)
      have hpre9 := rfind_nonneg hf0
      have hfl1 : (firstLink g y).length ≤ 100000 := by omega
      have hsl1 : (Txt.slice y (some ((firstLink g y).length : Int)) none).length ≤ 100000 := Nat.le_trans (Txt.slice_le _ _ _) hyl1
      have hdl1 : (Txt.slice (firstLink g y) none (some (Txt.rfind (firstLink g y) (Str.ofString "/") + 1))).length ≤ 100000 := Nat.le_trans (Txt.slice_le _ _ _) hfl1
      have hw1 : (tg ++ Txt.slice y (some ((firstLink g y).length : Int)) none).length ≤ 100000 := by
        rw [Str.length_append]
        have := Txt.slice_le y (some ((firstLink g y).length : Int)) none
        omega
      have hw2 : (Txt.slice (firstLink g y) none (some (Txt.rfind (firstLink g y) (Str.ofString "/") + 1)) ++ tg ++ Txt.slice y (some ((firstLink g y).length : Int)) none).length ≤ 100000 := by
        rw [Str.length_append, Str.length_append]
        have := Txt.slice_le y (some ((firstLink g y).length : Int)) none
        have := Txt.slice_le (firstLink g y) none (some (Txt.rfind (firstLink g y) (Str.ofString "/") + 1))
        omega
      have hj1 := join_steps_len hw1
      have hj2 := join_steps_len hw2
      dsimp only
      k_steps
      · rename ((_ == _) = true) => c1
        exact absurd (by simpa using c1) hf
      · rename Fr g' L' _ _ => F5
        rename News g' L' _ _ => N5
        rename ((Txt.slice tg none _ == _) = true) => c2
        have e2 := stepAt_abs hlt (by simpa using c2)
        have e3 := stepAt_head g y
        rw [e2] at hy hst e3
        refine TEnd.intro (nx' := []) F5 (newsSub N5 (by intro p hp; exact .tail _ hp)) (fun p hp => nomatch hp) ⟨rfl, _, _, rfl, rfl, rfl, ?_, by omega, e3⟩
        rw [hy, show 12 - (i + 1) = k by omega]
      · rename Fr g' L' _ _ => F5
        rename News g' L' _ _ => N5
        rename ((Txt.slice tg none _ == _) = false) => c2
        have e2 := stepAt_rel hlt (by simpa using c2)
        unfold dirPart at e2
        have e3 := stepAt_head g y
        rw [e2] at hy hst e3
        refine TEnd.intro (nx' := []) F5 (newsSub N5 (by intro p hp; exact .tail _ hp)) (fun p hp => nomatch hp) ⟨rfl, _, _, rfl, rfl, rfl, ?_, by omega, e3⟩
        rw [hy, show 12 - (i + 1) = k by omega]
  · rintro m₁ nx h tk ⟨rfl, y, ty, ha, hn, hs, hy, hyl, hy0⟩ F₁ N₁
    have hno : trueName g x = none := by simpa [trueGo] using hy
    change Fr g' L' h _ at F₁
    change News g' L' h news at N₁
    have F4 := frN (frN (frN F₁ (p := "at") ha) (p := "name") ((if_neg (by decide)).trans hn)) (p := "self") ((if_neg (by decide)).trans ((if_neg (by decide)).trans hs))
    clear F₁ F3
    dsimp only
    k_steps
    unfold Stop
    refine exec_raise (w := w) rfl ?_
    k_steps
    rename Fr g' L' _ _ => F5
    rename News g' L' _ _ => N5
    rename (∀ p ∈ (_ :: news), p.1 ≠ _) => hne
    rename (g'.get? _ = none) => he0
    rename (Heap.get? _ _ = some _) => hob
    rename (_ = Value.ref 38) => hoc
    rename (_ = Data.fields _) => hod
    refine ⟨_, rfl, ⟨_, _, hob, hoc, hod⟩, leave_exS B' F5 (newsSub N5 (by intro p hp; exact .tail _ hp)) ⟨_, _, hob, hoc, hod⟩ he0 (fun p hp => hne p (.tail _ hp)) fun h' R U => ?_⟩
    exact hexc _ _ _ _ hno FG' R U
end
end Mine
end
section
open PySem PySem.W PyProof.Rows
theorem Mine.offT2 : True := by
  w_top off
  trivial
namespace Mine
section
variable {w : World} {mean : ExcName → Option Value} {mg mb : Str → Option Value} {hdl : Option Value} {dp un : Nat} {gd : Option (List Code)} {cn : Str} {cs : Scope} {a : Addr} {ccd : Value} {cl : List (Str × Addr)} {outer : List Env}
variable {A₀ : Around} {base h₀ : Heap} {L : Addr} {m : Str → Option Value} {news : List (Addr × Obj)} {s : Shared} {Q E : Value → Shared → Prop}
theorem c_trueS {x y : Str} {tx : Tok} {t td de : Addr} {g : Ents} (B : Below A₀ base outer h₀) (F : Fr h₀ L s.heap m) (X : (hd.heap_1 w.params).In h₀) (N : News h₀ L s.heap news) (T : Top hd.view (looseW hd.view []) mean mg mb h₀) (hk : cs.kind = .function)
    (hdp : dp + 40 < recursionLimit) (hun : un + 80 < cLine) (hh : hdl = none) (hx : x.length ≤ 2000) (hx0 : (cpl x).head? = some 47) (LO : LinksOk g) (TR : TreeR w news t td de g) (hy : trueName g x = some y)
    (hret : ∀ ty h' tk', Fr h₀ L h' m → News h₀ L h' news → Q (.str y ty) { s with heap := h', toks := tk' }) :
    wpAny (model PySem.Challenge.rw_pq0279_01.row.prog w) (AR hdl dp un gd cn cs L a ccd cl outer) (call (.ref 124) [.ref t, .str x tx]) Q E s :=
  c_true B F X N T hk hdp hun hh hx hx0 LO TR (fun y' ty h' tk' e F' N' => by
    rw [hy] at e
    cases e
    exact hret ty h' tk' F' N') (fun _ _ _ _ e => by rw [hy] at e; cases e)
end
section
variable {w : World} {mean : ExcName → Option Value} {mg mb : Str → Option Value} {hdl : Option Value} {dp un : Nat} {gd : Option (List Code)} {cn : Str} {cs : Scope} {a : Addr} {ccd : Value} {cl : List (Str × Addr)} {outer : List Env}
variable {A₀ : Around} {base h₀ : Heap} {L : Addr} {m : Str → Option Value} {news : List (Addr × Obj)} {s : Shared} {Q E : Value → Shared → Prop}
local macro_rules | `(tactic| walk_at "call ref") => `(tactic| (k_here; (with_reducible show wpAny _ _ (call (Value.ref 124) _) _ _ _); first | (k_dflt (refine' c_trueS ?B ?F ?X ?N ?T ?hk ?hdp ?hun ?hh ?hx ?hx0 ?LO ?TR ?hy ?_; walk_at "own std8"; (case hh => rfl); (case hx | hx0 | LO => (with_reducible assumption)); (case TR => walk_at "own tree"); (case hy => (with_reducible assumption))); intro t9 h9 tk9 F9 N9) | refine stop_here ?_))
local macro_rules | `(tactic| walk_at "call ref") => `(tactic| (k_here; (with_reducible show wpAny _ _ (call (Value.ref 306) _) _ _ _); first | (k_dflt (refine' c_parent ?B ?F ?X ?N ?T ?hk ?hdp ?hun ?hpre ?hx ?_; walk_at "own std8"; (case hpre | hx => (with_reducible assumption))); intro t9 h9 tk9 F9 N9) | refine stop_here ?_))
local macro_rules | `(tactic| walk_at "call ref") => `(tactic| (k_here; (with_reducible show wpAny _ _ (call (Value.ref 55) _) _ _ _); first | (k_dflt (refine' c_last ?B ?F ?X ?N ?T ?hk ?hdp ?hun ?hx ?_; walk_at "own std8"; (case hx => (with_reducible assumption))); intro t9 h9 tk9 F9 N9) | refine stop_here ?_))
local macro_rules | `(tactic| walk_at "call ref") => `(tactic| (k_here; (with_reducible show wpAny _ _ (call (Value.ref 313) _) _ _ _); first | (k_dflt (refine' c_joined ?B ?F ?X ?N ?T ?hk ?hdp ?hun ?hx ?hy ?_; walk_at "own std8"; (case hx | hy => (with_reducible assumption))); intro t9 h9 tk9 F9 N9) | refine stop_here ?_))
theorem c_ptrue {x y : Str} {tx : Tok} {t td de : Addr} {g : Ents} (B : Below A₀ base outer h₀) (F : Fr h₀ L s.heap m) (X : (hd.heap_1 w.params).In h₀) (N : News h₀ L s.heap news) (T : Top hd.view (looseW hd.view []) mean mg mb h₀) (hk : cs.kind = .function)
    (hdp : dp + 60 < recursionLimit) (hun : un + 120 < cLine) (hh : hdl = none) (hx : x.length ≤ 500) (hx0 : (cpl x).head? = some 47) (hne : x ≠ Str.ofString "/") (LO : LinksOk g) (TR : TreeR w news t td de g) (hy : trueName g (parentOf x) = some y)
    (hret : ∀ ty h' tk', Fr h₀ L h' m → News h₀ L h' news → Q (.str (joinedS y (lastPart x)) ty) { s with heap := h', toks := tk' }) :
    wpAny (model PySem.Challenge.rw_pq0279_01.row.prog w) (AR hdl dp un gd cn cs L a ccd cl outer) (call (.ref 138) [.ref t, .str x tx]) Q E s := by
  subst hh
  have hpf := parentOf_facts hx0
  have hp1 : (parentOf x).length ≤ 2000 := by omega
  have hp0 := hpf.1
  have hrf := rfind_nonneg hx0
  have hx1 : x.length ≤ 100000 := by omega
  have hy1 : y.length ≤ 100000 := by have := (trueName_facts LO hp0 hy).2; omega
  have hl1 : (Txt.slice x (some (Txt.rfind x (Str.ofString "/") + 1)) none).length ≤ 100000 := Nat.le_trans (Txt.slice_le _ _ _) hx1
  unfold lastPart at hret
  have TR' := TR
  obtain ⟨M1, ⟨t1, t2, t3, cv, lv, M2⟩, oe, kvs, M3, lo, hdo, EO⟩ := TR'
  refine wpAny_call ?_
  k_dflt cell_enter
  k_steps
  · rename ((_ == _) = true) => c1
    exact absurd (by simpa using c1) hne
  · exact hret _ _ _ (by k_asm) (by k_asm)
end
end Mine
end
section
open PySem PySem.W PyProof.Rows
theorem Mine.offR1 : True := by
  w_top off
  trivial
namespace Mine
def isPlainB (g : Ents) (x : Str) : Bool := match look g x with
  | some (.plain _) => true
  | _ => false
section
variable {w : World} {A : Around} {E : Value → Shared → Prop} {s : Shared} {h₀ : Heap} {L d : Addr} {m : Str → Option Value} {ledger news : List (Addr × Obj)} {o : Obj} {kvs : List (Str × Value)} {x : Str} {t : Tok} {g : Ents}
theorem get_none {Q : Value → Shared → Prop} (N : News h₀ L s.heap ledger) (hm : (d, o) ∈ ledger) (hd : o.IsDictOf (KND w) kvs) (lo : (d == sysModules) = false) (EO : EntsOk w news kvs g) (hl : look g x = none)
    (h1 : Q .none { s with toks := s.toks + 1 }) :
    wpAny (model PySem.Challenge.rw_pq0279_01.row.prog w) A (call (.builtin "dict.get") [.ref d, .str x t, .none]) Q E s :=
  get_ent N hm hd lo EO (fun _ => h1) (fun k e ed t1 t2 t3 t4 ts cv n nt h => by rw [hl] at h; cases h)
theorem get_some {Q : Value → Shared → Prop} {k : Kind} (N : News h₀ L s.heap ledger) (hm : (d, o) ∈ ledger) (hd : o.IsDictOf (KND w) kvs) (lo : (d == sysModules) = false) (EO : EntsOk w news kvs g) (hl : look g x = some k)
    (h2 : ∀ e ed t1 t2 t3 t4 ts cv n nt, (e, instObj 92 ed) ∈ news → (ed, entD w t1 t2 t3 t4 (.int k.code ts) cv (.int n nt)) ∈ news → ContOk news k cv → Q (.ref e) { s with toks := s.toks + 1 }) :
    wpAny (model PySem.Challenge.rw_pq0279_01.row.prog w) A (call (.builtin "dict.get") [.ref d, .str x t, .none]) Q E s :=
  get_ent N hm hd lo EO (fun h => by rw [hl] at h; cases h) (fun k' e ed t1 t2 t3 t4 ts cv n nt h => by
    rw [hl] at h
    cases h
    exact h2 e ed t1 t2 t3 t4 ts cv n nt)
theorem get_plain {z : Int} {Q : Value → Shared → Prop} (N : News h₀ L s.heap ledger) (hm : (d, o) ∈ ledger) (hd : o.IsDictOf (KND w) kvs) (lo : (d == sysModules) = false) (EO : EntsOk w news kvs g) (hl : look g x = some (.plain z))
    (h2 : ∀ e ed t1 t2 t3 t4 ts l tz nl n nt, (e, instObj 92 ed) ∈ news → (ed, entD w t1 t2 t3 t4 (.int 1 ts) (.ref l) (.int n nt)) ∈ news → (l, listOf #[.int z tz] nl) ∈ news → Q (.ref e) { s with toks := s.toks + 1 }) :
    wpAny (model PySem.Challenge.rw_pq0279_01.row.prog w) A (call (.builtin "dict.get") [.ref d, .str x t, .none]) Q E s :=
  get_some N hm hd lo EO hl (fun e ed t1 t2 t3 t4 ts cv n nt a1 a2 a3 => by
    obtain ⟨l, nl, tz, rfl, a4⟩ := a3
    exact h2 e ed t1 t2 t3 t4 ts l tz nl n nt a1 a2 a4)
end
section
variable {w : World} {mean : ExcName → Option Value} {mg mb : Str → Option Value} {hdl : Option Value} {dp un : Nat} {gd : Option (List Code)} {cn : Str} {cs : Scope} {a : Addr} {ccd : Value} {cl : List (Str × Addr)} {outer : List Env}
variable {A₀ : Around} {base h₀ : Heap} {L : Addr} {m : Str → Option Value} {news : List (Addr × Obj)} {s : Shared} {Q E : Value → Shared → Prop}
local macro_rules | `(tactic| walk_at "call ref") => `(tactic| (k_here; (with_reducible show wpAny _ _ (call (Value.ref 124) _) _ _ _); first | (k_dflt (refine' c_trueS ?B ?F ?X ?N ?T ?hk ?hdp ?hun ?hh ?hx ?hx0 ?LO ?TR ?hy ?_; walk_at "own std8"; (case hh => rfl); (case hx | hx0 | LO => (with_reducible assumption)); (case TR => walk_at "own tree"); (case hy => (with_reducible assumption))); intro t9 h9 tk9 F9 N9) | refine stop_here ?_))
local macro_rules | `(tactic| walk_at "call ref") => `(tactic| (k_here; (with_reducible show wpAny _ _ (call (Value.ref 306) _) _ _ _); first | (k_dflt (refine' c_parent ?B ?F ?X ?N ?T ?hk ?hdp ?hun ?hpre ?hx ?_; walk_at "own std8"; (case hpre | hx => (with_reducible assumption))); intro t9 h9 tk9 F9 N9) | refine stop_here ?_))
local macro_rules | `(tactic| walk_at "getMethod ref") => `(tactic| (k_here; k_dflt (refine' dk_getm ?N ?m ?d ?_; (case N => k_asm); (case m => k_mem); (case d => (with_reducible assumption)))))
local macro_rules | `(tactic| walk_at "call builtin:dict.get") => `(tactic| (k_here; k_dflt (first
  | (refine' get_none ?N ?m ?d ?l ?EO ?hl ?_; walk_at "own get"; (case hl => (with_reducible assumption)))
  | (refine' get_some ?N ?m ?d ?l ?EO ?hl (fun e ed t1 t2 t3 t4 ts cv n nt e1 e2 e3 => ?_); walk_at "own get"; (case hl => (with_reducible assumption)))
  | (refine' get_ent ?N ?m ?d ?l ?EO (fun hlk => ?_) (fun k e ed t1 t2 t3 t4 ts cv n nt hlk e1 e2 e3 => ?_); walk_at "own get"))))
local macro_rules | `(tactic| walk_at "subscriptTail") => `(tactic| (k_here; (with_reducible show wpAny _ _ (subscriptTail _ _ (Value.ref _) (Value.str _ _)) _ _ _); k_dflt (refine' dk_item ?N ?m ?d ?v ?_ ?a ?b; (case N => k_asm); (case m => k_mem); (case d => assumption); (case v => (with_reducible assumption)); (case a => with_unfolding_all rfl); (case b => intro _; with_unfolding_all rfl))))
theorem c_isplain {x y : Str} {tx : Tok} {t td de : Addr} {g : Ents} (B : Below A₀ base outer h₀) (F : Fr h₀ L s.heap m) (X : (hd.heap_1 w.params).In h₀) (N : News h₀ L s.heap news) (T : Top hd.view (looseW hd.view []) mean mg mb h₀) (hk : cs.kind = .function)
    (hdp : dp + 60 < recursionLimit) (hun : un + 120 < cLine) (hh : hdl = none) (hx : x.length ≤ 2000) (hx0 : (cpl x).head? = some 47) (LO : LinksOk g) (TR : TreeR w news t td de g) (hy : trueName g x = some y)
    (hret : ∀ h' tk', Fr h₀ L h' m → News h₀ L h' news → Q (.bool (isPlainB g y)) { s with heap := h', toks := tk' }) :
    wpAny (model PySem.Challenge.rw_pq0279_01.row.prog w) (AR hdl dp un gd cn cs L a ccd cl outer) (call (.ref 166) [.ref t, .str x tx]) Q E s := by
  subst hh
  have TR' := TR
  obtain ⟨M1, ⟨t1, t2, t3, cv, lv, M2⟩, oe, kvs, M3, lo, hdo, EO⟩ := TR'
  refine wpAny_call ?_
  k_dflt cell_enter
  cases hlk : look g y with
  | none =>
    have e : isPlainB g y = false := by unfold isPlainB; rw [hlk]
    rw [e] at hret
    k_steps
    exact hret _ _ (by k_asm) (by k_asm)
  | some k =>
    have e : isPlainB g y = (k.code == 1) := by unfold isPlainB; rw [hlk]; cases k <;> rfl
    rw [e] at hret
    k_steps
    exact hret _ _ (by k_asm) (by k_asm)
theorem c_room {x y : Str} {tx : Tok} {t td de : Addr} {g : Ents} (B : Below A₀ base outer h₀) (F : Fr h₀ L s.heap m) (X : (hd.heap_1 w.params).In h₀) (N : News h₀ L s.heap news) (T : Top hd.view (looseW hd.view []) mean mg mb h₀) (hk : cs.kind = .function)
    (hdp : dp + 60 < recursionLimit) (hun : un + 120 < cLine) (hh : hdl = none) (hx : x.length ≤ 1900) (hx0 : (cpl x).head? = some 47) (LO : LinksOk g) (TR : TreeR w news t td de g) (hy : trueName g (parentOf x) = some y) (hlk : look g y = some .dir)
    (hret : ∀ h' tk', Fr h₀ L h' m → News h₀ L h' news → Q .none { s with heap := h', toks := tk' }) :
    wpAny (model PySem.Challenge.rw_pq0279_01.row.prog w) (AR hdl dp un gd cn cs L a ccd cl outer) (call (.ref 222) [.ref t, .str x tx]) Q E s := by
  subst hh
  have TR' := TR
  obtain ⟨M1, ⟨t1, t2, t3, cv, lv, M2⟩, oe, kvs, M3, lo, hdo, EO⟩ := TR'
  have hpf := parentOf_facts hx0
  have hp1 : (parentOf x).length ≤ 2000 := by omega
  have hp0 := hpf.1
  have hrf := rfind_nonneg hx0
  have hx1 : x.length ≤ 100000 := by omega
  refine wpAny_call ?_
  k_dflt cell_enter
  k_steps
  exact hret _ _ (by k_asm) (by k_asm)
local macro_rules | `(tactic| walk_at "call builtin:dict.get") => `(tactic| (k_here; k_dflt ((refine' get_plain ?N ?m ?d ?l ?EO ?hl (fun e ed t1 t2 t3 t4 ts l tz nl n nt e1 e2 e3 => ?_); walk_at "own get"; (case hl => (with_reducible assumption))))))
theorem c_read {x y : Str} {z : Int} {tx : Tok} {t td de : Addr} {g : Ents} (B : Below A₀ base outer h₀) (F : Fr h₀ L s.heap m) (X : (hd.heap_1 w.params).In h₀) (N : News h₀ L s.heap news) (T : Top hd.view (looseW hd.view []) mean mg mb h₀) (hk : cs.kind = .function)
    (hdp : dp + 60 < recursionLimit) (hun : un + 120 < cLine) (hh : hdl = none) (hx : x.length ≤ 2000) (hx0 : (cpl x).head? = some 47) (LO : LinksOk g) (TR : TreeR w news t td de g) (hy : trueName g x = some y) (hlk : look g y = some (.plain z))
    (hret : ∀ l tz n h' tk', Fr h₀ L h' m → News h₀ L h' ((l, listOf #[.int z tz] n) :: news) → (∀ p ∈ news, p.1 < l) → Q (.ref l) { s with heap := h', toks := tk' }) :
    wpAny (model PySem.Challenge.rw_pq0279_01.row.prog w) (AR hdl dp un gd cn cs L a ccd cl outer) (call (.ref 187) [.ref t, .str x tx]) Q E s := by
  subst hh
  have TR' := TR
  obtain ⟨M1, ⟨t1, t2, t3, cv, lv, M2⟩, oe, kvs, M3, lo, hdo, EO⟩ := TR'
  refine wpAny_call ?_
  k_dflt cell_enter
  k_steps
  exact hret _ _ _ _ _ (by k_asm) (by k_asm) (by assumption)
end
end Mine
end
section
open PySem PySem.W PyProof.Rows
theorem Mine.offW0 : True := by
  w_top off
  trivial
namespace Mine
def AllOff (d : Addr) (l : List (Addr × Obj)) : Prop := ∀ p ∈ l, p.1 ≠ d
theorem neOfAll {l : List (Addr × Obj)} {d : Addr} (h : AllLt d l) : ∀ p ∈ l, p.1 ≠ d := by
  induction l with
  | nil => intro p hp; cases hp
  | cons q r ih =>
    intro p hp
    rcases List.mem_cons.mp hp with rfl | hp
    · exact Nat.ne_of_lt h.1
    · exact ih h.2 p hp
theorem ltOfAll {l : List (Addr × Obj)} {d : Addr} (h : AllLt d l) : ∀ p ∈ l, p.1 < d := by
  induction l with
  | nil => intro p hp; cases hp
  | cons q r ih =>
    intro p hp
    rcases List.mem_cons.mp hp with rfl | hp
    · exact h.1
    · exact ih h.2 p hp
abbrev treeL (w : World) (t td de : Addr) (t1 t2 t3 tn tm : Tok) (n : Int) (oe : Obj) (rest : List (Addr × Obj)) : List (Addr × Obj) :=
  (t, instObj 295 td) :: (td, treeD w t1 t2 t3 (.int n tn) (.int (-1) tm) de) :: (de, oe) :: rest
structure TreeF (w : World) (t td de : Addr) (g : Ents) (n : Nat) (oe : Obj) (kvs : List (Str × Value)) (rest : List (Addr × Obj)) : Prop where
  dict : oe.IsDictOf (KND w) kvs
  ents : EntsOk w rest kvs g
  lo : (de == sysModules) = false
  d1 : @Ne Nat t td
  d2 : @Ne Nat t de
  d3 : @Ne Nat td de
  o1 : ∀ p ∈ rest, p.1 ≠ t
  o2 : ∀ p ∈ rest, p.1 ≠ td
  o3 : ∀ p ∈ rest, p.1 ≠ de
  size : kvs.length ≤ n + 1
theorem TreeF.toR {w : World} {t td de : Addr} {t1 t2 t3 tn tm : Tok} {i : Int} {g : Ents} {n : Nat} {oe : Obj} {kvs : List (Str × Value)} {rest : List (Addr × Obj)} (H : TreeF w t td de g n oe kvs rest) : TreeR w (treeL w t td de t1 t2 t3 tn tm i oe rest) t td de g :=
  ⟨.head _, ⟨t1, t2, t3, _, _, .tail _ (.head _)⟩, oe, kvs, .tail _ (.tail _ (.head _)), H.lo, H.dict, H.ents.mono fun p hp => .tail _ (.tail _ (.tail _ hp))⟩
theorem TreeF.mono {w : World} {t td de : Addr} {g : Ents} {n : Nat} {oe : Obj} {kvs : List (Str × Value)} {rest rest' : List (Addr × Obj)} (H : TreeF w t td de g n oe kvs rest) (hs : ∀ p ∈ rest, p ∈ rest') (h : ∀ p ∈ rest', p.1 ≠ t ∧ p.1 ≠ td ∧ p.1 ≠ de) : TreeF w t td de g n oe kvs rest' :=
  ⟨H.dict, H.ents.mono hs, H.lo, H.d1, H.d2, H.d3, fun p hp => (h p hp).1, fun p hp => (h p hp).2.1, fun p hp => (h p hp).2.2, H.size⟩
theorem stored_len (kvs : List (Str × Value)) (k : Str) (v : Value) : (stored kvs k v).length ≤ kvs.length + 1 := by
  unfold stored
  split
  · simp
  · simp
/- one more entry -/
theorem TreeF.add {w : World} {t td de : Addr} {g : Ents} {n n' : Nat} {oe oe' : Obj} {kvs : List (Str × Value)} {rest add : List (Addr × Obj)} {x : Str} {k : Kind} {v : Value} (H : TreeF w t td de g n oe kvs rest)
    (hd : oe'.IsDictOf (KND w) (stored kvs x v)) (he : EntAt w (add ++ rest) v k) (h1 : ∀ p ∈ add, p.1 ≠ t) (h2 : ∀ p ∈ add, p.1 ≠ td) (h3 : ∀ p ∈ add, p.1 ≠ de) (hn : n + 1 ≤ n') : TreeF w t td de ((x, k) :: g) n' oe' (stored kvs x v) (add ++ rest) := by
  refine ⟨hd, ?_, H.lo, H.d1, H.d2, H.d3, ?_, ?_, ?_, ?_⟩
  · intro y
    rw [look_cons, valueAt_stored]
    by_cases e : x = y
    · rw [if_pos e, if_pos e]
      exact ⟨v, rfl, he⟩
    · rw [if_neg e, if_neg e]
      have := H.ents y
      split
      · rename_i q; rw [q] at this; exact this
      · rename_i k' q; rw [q] at this; obtain ⟨v', a, b⟩ := this; exact ⟨v', a, b.mono fun p hp => List.mem_append_right _ hp⟩
  · intro p hp
    rcases List.mem_append.mp hp with hp | hp
    · exact h1 p hp
    · exact H.o1 p hp
  · intro p hp
    rcases List.mem_append.mp hp with hp | hp
    · exact h2 p hp
    · exact H.o2 p hp
  · intro p hp
    rcases List.mem_append.mp hp with hp | hp
    · exact h3 p hp
    · exact H.o3 p hp
  · have := stored_len kvs x v
    have := H.size
    omega
/- what a maker of an entry gives -/
def Added (w : World) (t td de : Addr) (kvs : List (Str × Value)) (x : Str) (k : Kind) (oe' : Obj) (kvs' : List (Str × Value)) (add : List (Addr × Obj)) : Prop :=
  ∃ v, oe'.IsDictOf (KND w) (stored kvs x v) ∧ kvs' = stored kvs x v ∧ EntAt w add v k ∧ ∀ p ∈ add, p.1 ≠ t ∧ p.1 ≠ td ∧ p.1 ≠ de
theorem TreeF.added {w : World} {t td de : Addr} {g : Ents} {n n' : Nat} {oe oe' : Obj} {kvs kvs' : List (Str × Value)} {rest add : List (Addr × Obj)} {x : Str} {k : Kind} (H : TreeF w t td de g n oe kvs rest) (h : Added w t td de kvs x k oe' kvs' add) (hn : n + 1 ≤ n') :
    TreeF w t td de ((x, k) :: g) n' oe' kvs' (add ++ rest) := by
  obtain ⟨v, h1, rfl, h2, h3⟩ := h
  exact H.add h1 (h2.mono fun p hp => List.mem_append_left _ hp) (fun p hp => (h3 p hp).1) (fun p hp => (h3 p hp).2.1) (fun p hp => (h3 p hp).2.2) hn
section
variable {prog : Program} {w : World} {A : Around} {E : Value → Shared → Prop} {s : Shared} {h₀ : Heap} {L d : Addr} {m : Str → Option Value} {news : List (Addr × Obj)} {o : Obj} {kvs : List (Str × Value)} {x : Str} {t : Tok}
theorem dk_in_none {Q : Value → Shared → Prop} (N : News h₀ L s.heap news) (hm : (d, o) ∈ news) (hd : o.IsDictOf (PySem.strKind prog w) kvs) (lo : (d == sysModules) = false) (hv : valueAt kvs x = none) (h : Q (.bool false) { s with toks := s.toks + 1 }) :
    wpAny (model prog w) A (compareOp .In (.str x t) (.ref d)) Q E s := dk_in N hm hd lo (by rw [hv]; exact h)
end
theorem news32 {h₀ h : Heap} {L : Addr} {p q a b c : Addr × Obj} {rest : List (Addr × Obj)} (N : News h₀ L h (p :: q :: a :: b :: c :: rest)) : News h₀ L h (a :: b :: c :: ([p, q] ++ rest)) :=
  newsSub N fun r hr => by simp only [List.mem_cons, List.cons_append, List.nil_append] at hr ⊢; grind
theorem news33 {h₀ h : Heap} {L : Addr} {o p q a b c : Addr × Obj} {rest : List (Addr × Obj)} (N : News h₀ L h (o :: p :: q :: a :: b :: c :: rest)) : News h₀ L h (a :: b :: c :: ([o, p, q] ++ rest)) :=
  newsSub N fun r hr => by simp only [List.mem_cons, List.cons_append, List.nil_append] at hr ⊢; grind
theorem news34 {h₀ h : Heap} {L : Addr} {n o p q a b c : Addr × Obj} {rest : List (Addr × Obj)} (N : News h₀ L h (n :: o :: p :: q :: a :: b :: c :: rest)) : News h₀ L h (a :: b :: c :: ([n, o, p, q] ++ rest)) :=
  newsSub N fun r hr => by simp only [List.mem_cons, List.cons_append, List.nil_append] at hr ⊢; grind
section
variable {w : World} {mean : ExcName → Option Value} {mg mb : Str → Option Value} {hdl : Option Value} {dp un : Nat} {gd : Option (List Code)} {cn : Str} {cs : Scope} {a : Addr} {ccd : Value} {cl : List (Str × Addr)} {outer : List Env}
variable {A₀ : Around} {base h₀ : Heap} {L : Addr} {m : Str → Option Value} {news : List (Addr × Obj)} {s : Shared} {Q E : Value → Shared → Prop}
theorem c_ptrueW {x y wh : Str} {tx : Tok} {t td de : Addr} {g : Ents} (B : Below A₀ base outer h₀) (F : Fr h₀ L s.heap m) (X : (hd.heap_1 w.params).In h₀) (N : News h₀ L s.heap news) (T : Top hd.view (looseW hd.view []) mean mg mb h₀) (hk : cs.kind = .function)
    (hdp : dp + 60 < recursionLimit) (hun : un + 120 < cLine) (hh : hdl = none) (hx : x.length ≤ 500) (hx0 : (cpl x).head? = some 47) (hne : x ≠ Str.ofString "/") (LO : LinksOk g) (TR : TreeR w news t td de g) (hy : trueName g (parentOf x) = some y) (hj : joinedS y (lastPart x) = wh)
    (hret : ∀ ty h' tk', Fr h₀ L h' m → News h₀ L h' news → Q (.str wh ty) { s with heap := h', toks := tk' }) :
    wpAny (model PySem.Challenge.rw_pq0279_01.row.prog w) (AR hdl dp un gd cn cs L a ccd cl outer) (call (.ref 138) [.ref t, .str x tx]) Q E s :=
  c_ptrue B F X N T hk hdp hun hh hx hx0 hne LO TR hy (by rw [hj]; exact hret)
end
end Mine
end
section
open PySem PySem.W PyProof.Rows Mine
local macro_rules | `(tactic| walk_at "getMethod ref") => `(tactic| (k_here; k_dflt (refine' dk_getm ?N ?m ?d ?_; (case N => k_asm); (case m => k_mem); (case d => (with_reducible assumption)))))
local macro_rules | `(tactic| walk_at "call builtin:dict.get") => `(tactic| (k_here; k_dflt (first
  | (refine' get_none ?N ?m ?d ?l ?EO ?hl ?_; walk_at "own get"; (case hl => (with_reducible assumption)))
  | (refine' get_some ?N ?m ?d ?l ?EO ?hl (fun e ed t1 t2 t3 t4 ts cv n nt e1 e2 e3 => ?_); walk_at "own get"; (case hl => (with_reducible assumption)))
  | (refine' get_ent ?N ?m ?d ?l ?EO (fun hlk => ?_) (fun k e ed t1 t2 t3 t4 ts cv n nt hlk e1 e2 e3 => ?_); walk_at "own get"))))
local macro_rules | `(tactic| walk_at "subscriptTail") => `(tactic| (k_here; (with_reducible show wpAny _ _ (subscriptTail _ _ (Value.ref _) (Value.str _ _)) _ _ _); k_dflt (refine' dk_item ?N ?m ?d ?v ?_ ?a ?b; (case N => k_asm); (case m => k_mem); (case d => assumption); (case v => (with_reducible assumption)); (case a => with_unfolding_all rfl); (case b => intro _; with_unfolding_all rfl))))
local macro_rules | `(tactic| k_all) => `(tactic| first | (with_reducible assumption) | exact neOfLt (by with_reducible assumption) | exact neOfAll (by with_reducible assumption) | exact neOfAll (And.right (by with_reducible assumption)) | exact neOfAll (And.right (And.right (by with_reducible assumption))) | exact neOfAll (And.right (And.right (And.right (by with_reducible assumption)))) | exact neOfAll (And.right (And.right (And.right (And.right (by with_reducible assumption))))))
local macro_rules | `(tactic| walk_at "compareOp In str ref") => `(tactic| (k_here; k_dflt (refine' dk_in_none ?N ?m ?d ?l ?hv ?_; (case N => k_asm); (case m => k_mem); (case d => (with_reducible assumption)); (case l => (with_reducible assumption)); (case hv => (with_reducible assumption)))))
local macro_rules | `(tactic| walk_at "setItem ref str") => `(tactic| (k_here; k_dflt (refine' dk_set ?F ?N ?U ?d ?z ?_; (case F => k_asm); (case N => k_asm); (case U => k_updF); (case d => (with_reducible assumption)); (case z => (with_reducible assumption))); intro h' o' F' N' hd'; (try dsimp only at N'); (try k_sweep)))
section
open PySem PySem.W PyProof.Rows
theorem Mine.offW1 : True := by
  w_top off
  trivial
namespace Mine
section
variable {w : World} {mean : ExcName → Option Value} {mg mb : Str → Option Value} {hdl : Option Value} {dp un : Nat} {gd : Option (List Code)} {cn : Str} {cs : Scope} {a : Addr} {ccd : Value} {cl : List (Str × Addr)} {outer : List Env}
variable {A₀ : Around} {base h₀ : Heap} {L : Addr} {m : Str → Option Value} {news : List (Addr × Obj)} {s : Shared} {Q E : Value → Shared → Prop}
local macro_rules | `(tactic| walk_at "call ref") => `(tactic| (k_here; (with_reducible show wpAny _ _ (call (Value.ref 138) _) _ _ _); first | (k_dflt (refine' c_ptrueW ?B ?F ?X ?N ?T ?hk ?hdp ?hun ?hh ?hx ?hx0 ?hne ?LO ?TR ?hy ?hj ?_; walk_at "own std8"; (case hh => rfl); (case hx | hx0 | hne | LO => (with_reducible assumption)); (case TR => walk_at "own tree"); (case hy | hj => (with_reducible assumption))); intro t9 h9 tk9 F9 N9) | refine stop_here ?_))
local macro_rules | `(tactic| walk_at "call ref") => `(tactic| (k_here; (with_reducible show wpAny _ _ (call (Value.ref 222) _) _ _ _); first | (k_dflt (refine' c_room ?B ?F ?X ?N ?T ?hk ?hdp ?hun ?hh ?hx ?hx0 ?LO ?TR ?hy ?hlk ?_; walk_at "own std8"; (case hh => rfl); (case hx | hx0 | LO => (with_reducible assumption)); (case TR => walk_at "own tree"); (case hy | hlk => (with_reducible assumption))); intro h9 tk9 F9 N9) | refine stop_here ?_))
theorem c_mkdir {x y z wh : Str} {tx : Tok} {t td de : Addr} {g : Ents} {n : Nat} {t1 t2 t3 tn tm : Tok} {oe : Obj} {kvs : List (Str × Value)} {rest : List (Addr × Obj)} (B : Below A₀ base outer h₀) (F : Fr h₀ L s.heap m) (X : (hd.heap_1 w.params).In h₀) (N : News h₀ L s.heap (treeL w t td de t1 t2 t3 tn tm (n : Int) oe rest)) (T : Top hd.view (looseW hd.view []) mean mg mb h₀) (hk : cs.kind = .function)
    (hdp : dp + 80 < recursionLimit) (hun : un + 160 < cLine) (hh : hdl = none) (hx : x.length ≤ 500) (hx0 : (cpl x).head? = some 47) (hne : x ≠ Str.ofString "/") (LO : LinksOk g) (H : TreeF w t td de g n oe kvs rest) (hnn : n ≤ 1000)
    (hy : trueName g (parentOf x) = some y) (hj : joinedS y (lastPart x) = wh) (hfree : look g wh = none) (hw : wh.length ≤ 1900) (hw0 : (cpl wh).head? = some 47) (hz : trueName g (parentOf wh) = some z) (hdir : look g z = some .dir)
    (hret : ∀ add oe' kvs' t1 t2 t3 tn tm h' tk', Fr h₀ L h' m → News h₀ L h' (treeL w t td de t1 t2 t3 tn tm ((n + 1 : Nat) : Int) oe' (add ++ rest)) → Added w t td de kvs wh .dir oe' kvs' add → (∀ p ∈ add, ∀ q ∈ rest, q.1 < p.1) → Q .none { s with heap := h', toks := tk' }) :
    wpAny (model PySem.Challenge.rw_pq0279_01.row.prog w) (AR hdl dp un gd cn cs L a ccd cl outer) (call (.ref 250) [.ref t, .str x tx]) Q E s := by
  subst hh
  have TR := H.toR (t1 := t1) (t2 := t2) (t3 := t3) (tn := tn) (tm := tm) (i := n)
  obtain ⟨hdo, EO, lo, d1, d2, d3, o1, o2, o3, hsz⟩ := id H
  have hv := ents_none EO hfree
  have hz1 : kvs.length ≤ sizeLine := by rw [sizeLine_eq]; omega
  refine wpAny_call ?_
  k_dflt cell_enter
  k_steps
  rename Obj.IsDictOf _ _ (stored _ _ _) => hd2
  rename (_ ∧ _ ∧ _ ∧ AllLt _ rest) => hl1
  rename (_ < _) => hl2
  rename_i kF kN _ _
  have hl3 := ltOfAll hl1.2.2.2
  have hl2 := ltN hl2
  obtain ⟨a1, a2, a3, _⟩ := hl1
  refine hret [_, _] _ _ _ _ _ _ _ _ _ kF (news32 kN) ⟨_, hd2, rfl, ⟨_, _, _, _, _, _, _, _, _, _, rfl, .head _, .tail _ (.head _), rfl⟩, ?_⟩ ?_
  · intro p hp
    simp only [List.mem_cons, List.not_mem_nil, or_false] at hp
    rcases hp with rfl | rfl <;> (refine ⟨neN ?_, neN ?_, neN ?_⟩ <;> (dsimp only; omega))
  · intro p hp q hq
    have := ltN (hl3 q hq)
    simp only [List.mem_cons, List.not_mem_nil, or_false] at hp
    rcases hp with rfl | rfl <;> (refine ltN ?_; dsimp only; omega)
end
end Mine
end
section
open PySem PySem.W PyProof.Rows
theorem Mine.offW2 : True := by
  w_top off
  trivial
namespace Mine
section
variable {w : World} {mean : ExcName → Option Value} {mg mb : Str → Option Value} {hdl : Option Value} {dp un : Nat} {gd : Option (List Code)} {cn : Str} {cs : Scope} {a : Addr} {ccd : Value} {cl : List (Str × Addr)} {outer : List Env}
variable {A₀ : Around} {base h₀ : Heap} {L : Addr} {m : Str → Option Value} {news : List (Addr × Obj)} {s : Shared} {Q E : Value → Shared → Prop}
local macro_rules | `(tactic| walk_at "call ref") => `(tactic| (k_here; (with_reducible show wpAny _ _ (call (Value.ref 138) _) _ _ _); first | (k_dflt (refine' c_ptrueW ?B ?F ?X ?N ?T ?hk ?hdp ?hun ?hh ?hx ?hx0 ?hne ?LO ?TR ?hy ?hj ?_; walk_at "own std8"; (case hh => rfl); (case hx | hx0 | hne | LO => (with_reducible assumption)); (case TR => walk_at "own tree"); (case hy | hj => (with_reducible assumption))); intro t9 h9 tk9 F9 N9) | refine stop_here ?_))
local macro_rules | `(tactic| walk_at "call ref") => `(tactic| (k_here; (with_reducible show wpAny _ _ (call (Value.ref 222) _) _ _ _); first | (k_dflt (refine' c_room ?B ?F ?X ?N ?T ?hk ?hdp ?hun ?hh ?hx ?hx0 ?LO ?TR ?hy ?hlk ?_; walk_at "own std8"; (case hh => rfl); (case hx | hx0 | LO => (with_reducible assumption)); (case TR => walk_at "own tree"); (case hy | hlk => (with_reducible assumption))); intro h9 tk9 F9 N9) | refine stop_here ?_))
theorem c_mklink {x y z wh txt : Str} {tx tt : Tok} {t td de : Addr} {g : Ents} {n : Nat} {t1 t2 t3 tn tm : Tok} {oe : Obj} {kvs : List (Str × Value)} {rest : List (Addr × Obj)} (B : Below A₀ base outer h₀) (F : Fr h₀ L s.heap m) (X : (hd.heap_1 w.params).In h₀) (N : News h₀ L s.heap (treeL w t td de t1 t2 t3 tn tm (n : Int) oe rest)) (T : Top hd.view (looseW hd.view []) mean mg mb h₀) (hk : cs.kind = .function)
    (hdp : dp + 80 < recursionLimit) (hun : un + 160 < cLine) (hh : hdl = none) (hx : x.length ≤ 500) (hx0 : (cpl x).head? = some 47) (hne : x ≠ Str.ofString "/") (htx : txt ≠ Str.ofString "") (LO : LinksOk g) (H : TreeF w t td de g n oe kvs rest) (hnn : n ≤ 1000)
    (hy : trueName g (parentOf x) = some y) (hj : joinedS y (lastPart x) = wh) (hfree : look g wh = none) (hw : wh.length ≤ 1900) (hw0 : (cpl wh).head? = some 47) (hz : trueName g (parentOf wh) = some z) (hdir : look g z = some .dir)
    (hret : ∀ add oe' kvs' t1 t2 t3 tn tm h' tk', Fr h₀ L h' m → News h₀ L h' (treeL w t td de t1 t2 t3 tn tm ((n + 1 : Nat) : Int) oe' (add ++ rest)) → Added w t td de kvs wh (.link txt) oe' kvs' add → (∀ p ∈ add, ∀ q ∈ rest, q.1 < p.1) → Q .none { s with heap := h', toks := tk' }) :
    wpAny (model PySem.Challenge.rw_pq0279_01.row.prog w) (AR hdl dp un gd cn cs L a ccd cl outer) (call (.ref 257) [.ref t, .str txt tt, .str x tx]) Q E s := by
  subst hh
  have TR := H.toR (t1 := t1) (t2 := t2) (t3 := t3) (tn := tn) (tm := tm) (i := n)
  obtain ⟨hdo, EO, lo, d1, d2, d3, o1, o2, o3, hsz⟩ := id H
  have hv := ents_none EO hfree
  have hz1 : kvs.length ≤ sizeLine := by rw [sizeLine_eq]; omega
  refine wpAny_call ?_
  k_dflt cell_enter
  k_steps
  · rename ((_ == _) = true) => c1
    exact absurd (by simpa using c1) htx
  rename Obj.IsDictOf _ _ (stored _ _ _) => hd2
  rename (_ ∧ _ ∧ _ ∧ AllLt _ rest) => hl1
  rename (_ < _) => hl2
  rename_i kF kN _ _
  have hl3 := ltOfAll hl1.2.2.2
  have hl2 := ltN hl2
  obtain ⟨a1, a2, a3, _⟩ := hl1
  refine hret [_, _] _ _ _ _ _ _ _ _ _ kF (news32 kN) ⟨_, hd2, rfl, ⟨_, _, _, _, _, _, _, _, _, _, rfl, .head _, .tail _ (.head _), ⟨_, rfl⟩⟩, ?_⟩ ?_
  · intro p hp
    simp only [List.mem_cons, List.not_mem_nil, or_false] at hp
    rcases hp with rfl | rfl <;> (refine ⟨neN ?_, neN ?_, neN ?_⟩ <;> (dsimp only; omega))
  · intro p hp q hq
    have := ltN (hl3 q hq)
    simp only [List.mem_cons, List.not_mem_nil, or_false] at hp
    rcases hp with rfl | rfl <;> (refine ltN ?_; dsimp only; omega)
end
end Mine
end
section
open PySem PySem.W PyProof.Rows
theorem Mine.offW3 : True := by
  w_top off
  trivial
namespace Mine
theorem valueAt_self (kvs : List (Str × Value)) (k : Str) (v : Value) : valueAt (stored kvs k v) k = some v := by rw [valueAt_stored, if_pos rfl]
section
variable {w : World} {mean : ExcName → Option Value} {mg mb : Str → Option Value} {hdl : Option Value} {dp un : Nat} {gd : Option (List Code)} {cn : Str} {cs : Scope} {a : Addr} {ccd : Value} {cl : List (Str × Addr)} {outer : List Env}
variable {A₀ : Around} {base h₀ : Heap} {L : Addr} {m : Str → Option Value} {news : List (Addr × Obj)} {s : Shared} {Q E : Value → Shared → Prop}
local macro_rules | `(tactic| walk_at "call ref") => `(tactic| (k_here; (with_reducible show wpAny _ _ (call (Value.ref 124) _) _ _ _); first | (k_dflt (refine' c_trueS ?B ?F ?X ?N ?T ?hk ?hdp ?hun ?hh ?hx ?hx0 ?LO ?TR ?hy ?_; walk_at "own std8"; (case hh => rfl); (case hx | hx0 | LO => (with_reducible assumption)); (case TR => walk_at "own tree"); (case hy => (with_reducible assumption))); intro t9 h9 tk9 F9 N9) | refine stop_here ?_))
local macro_rules | `(tactic| walk_at "call ref") => `(tactic| (k_here; (with_reducible show wpAny _ _ (call (Value.ref 222) _) _ _ _); first | (k_dflt (refine' c_room ?B ?F ?X ?N ?T ?hk ?hdp ?hun ?hh ?hx ?hx0 ?LO ?TR ?hy ?hlk ?_; walk_at "own std8"; (case hh => rfl); (case hx | hx0 | LO => (with_reducible assumption)); (case TR => walk_at "own tree"); (case hy | hlk => (with_reducible assumption))); intro h9 tk9 F9 N9) | refine stop_here ?_))
local macro_rules | `(tactic| walk_at "getItem ref str") => `(tactic| (k_here; k_dflt (refine' dk_getItem ?N ?m ?d ?v ?_; (case N => k_asm); (case m => k_mem); (case d => assumption); (case v => exact valueAt_self _ _ _))))
theorem c_write {x wh z : Str} {q : Int} {tx : Tok} {t td de lc : Addr} {g : Ents} {n nl : Nat} {t1 t2 t3 tn tm tq : Tok} {oe : Obj} {kvs : List (Str × Value)} {rest : List (Addr × Obj)} (B : Below A₀ base outer h₀) (F : Fr h₀ L s.heap m) (X : (hd.heap_1 w.params).In h₀) (N : News h₀ L s.heap (treeL w t td de t1 t2 t3 tn tm (n : Int) oe rest)) (T : Top hd.view (looseW hd.view []) mean mg mb h₀) (hk : cs.kind = .function)
    (hdp : dp + 80 < recursionLimit) (hun : un + 160 < cLine) (hh : hdl = none) (hx : x.length ≤ 500) (hx0 : (cpl x).head? = some 47) (LO : LinksOk g) (H : TreeF w t td de g n oe kvs rest) (hnn : n ≤ 1000) (hlc : (lc, listOf #[.int q tq] nl) ∈ rest)
    (hy : trueName g x = some wh) (hfree : look g wh = none) (hw : wh.length ≤ 1900) (hw0 : (cpl wh).head? = some 47) (hz : trueName g (parentOf wh) = some z) (hdir : look g z = some .dir)
    (hret : ∀ add oe' kvs' t1 t2 t3 tn tm h' tk', Fr h₀ L h' m → News h₀ L h' (treeL w t td de t1 t2 t3 tn tm ((n + 2 : Nat) : Int) oe' (add ++ rest)) → Added w t td de kvs wh (.plain q) oe' kvs' add → (∀ p ∈ add, ∀ q ∈ rest, q.1 < p.1) → Q .none { s with heap := h', toks := tk' }) :
    wpAny (model PySem.Challenge.rw_pq0279_01.row.prog w) (AR hdl dp un gd cn cs L a ccd cl outer) (call (.ref 229) [.ref t, .str x tx, .ref lc]) Q E s := by
  subst hh
  have TR := H.toR (t1 := t1) (t2 := t2) (t3 := t3) (tn := tn) (tm := tm) (i := n)
  obtain ⟨hdo, EO, lo, d1, d2, d3, o1, o2, o3, hsz⟩ := id H
  have hz1 : kvs.length ≤ sizeLine := by rw [sizeLine_eq]; omega
  have hx1 : x.length ≤ 2000 := by omega
  refine wpAny_call ?_
  k_dflt cell_enter
  k_steps
  rename Obj.IsDictOf _ _ (stored _ _ _) => hd2
  rename (_ ∧ _ ∧ _ ∧ AllLt _ rest) => hA
  rename (_ ∧ _ ∧ _ ∧ _ ∧ AllLt _ rest) => hB
  rename (_ ∧ _ ∧ _ ∧ _ ∧ _ ∧ _ ∧ AllLt _ rest) => hC
  rename (_ < _) => hl2
  rename_i kF kN _ _
  have hA3 := ltOfAll hA.2.2.2
  have hl2 := ltN hl2
  obtain ⟨a1, a2, a3, _⟩ := hA
  obtain ⟨b0, b1, b2, b3, _⟩ := hB
  obtain ⟨c0, c1, c2, c3, c4, c5, _⟩ := hC
  refine hret [_, _, _, _] _ _ _ _ _ _ _ _ _ kF (news34 kN) ⟨_, hd2, rfl, ⟨_, _, _, _, _, _, _, _, _, _, rfl, .tail _ (.head _), .tail _ (.tail _ (.head _)), ⟨_, _, _, rfl, .head _⟩⟩, ?_⟩ ?_
  · intro p hp
    simp only [List.mem_cons, List.not_mem_nil, or_false] at hp
    rcases hp with rfl | rfl | rfl | rfl <;> (refine ⟨neN ?_, neN ?_, neN ?_⟩ <;> (dsimp only; omega))
  · intro p hp q hq
    have := ltN (hA3 q hq)
    simp only [List.mem_cons, List.not_mem_nil, or_false] at hp
    rcases hp with rfl | rfl | rfl | rfl <;> (refine ltN ?_; dsimp only; omega)
end
section
variable {prog : Program} {w : World} {A : Around} {E : Value → Shared → Prop} {s : Shared} {h₀ : Heap} {L d : Addr} {m : Str → Option Value} {news : List (Addr × Obj)} {o : Obj} {kvs : List (Str × Value)} {x : Str} {t : Tok}
theorem len_dk {Q : Value → Shared → Prop} (N : News h₀ L s.heap news) (hm : (d, o) ∈ news) (hd : o.IsDictOf (PySem.strKind prog w) kvs) (lo : (d == sysModules) = false) (hf : kvs.length ≤ 100) (h : Q (.int kvs.length (s.toks + 1)) { s with toks := s.toks + 1 + 1 }) :
    wpAny (model prog w) A (call (.builtin "len") [.ref d]) Q E s := call_len_dict lo (dk_at N hm hd) (by omega) h
end
end Mine
end
end
section
open PySem PySem.W PyProof.Rows
theorem Mine.offD1 : True := by
  w_top off
  trivial
namespace Mine
section
variable {prog : Program} {w : World} {A : Around} {E : Value → Shared → Prop} {s : Shared} {h₀ : Heap} {L d b : Addr} {m : Str → Option Value} {news news' : List (Addr × Obj)} {n : Nat} {v : Value} {r : List Value} {ns : List Int} {Q : Value → Shared → Prop}
theorem ne_nil_nil (ha : s.heap.IsList d #[]) (hb : s.heap.IsList b #[]) (hu : A.units + 64 < cLine) (h : Q (.bool false) s) : wpAny (model prog w) A (compareOp .NotEq (.ref d) (.ref b)) Q E s :=
  ke_ne_ints (xs := []) (ys := []) (ns := []) (ms := []) ha hb .nil .nil hu h
theorem ne_cons_nil (ha : s.heap.IsList d (v :: r).toArray) (hb : s.heap.IsList b #[]) (hi : IntsAre (v :: r) ns) (hu : A.units + 64 < cLine) (h : Q (.bool true) s) : wpAny (model prog w) A (compareOp .NotEq (.ref d) (.ref b)) Q E s := by
  refine ke_ne_ints (xs := v :: r) (ys := []) (ns := ns) (ms := []) ha hb hi .nil hu ?_
  cases hi
  exact h
theorem pop0 {u : Tok} (F : Fr h₀ L s.heap m) (N : News h₀ L s.heap news) (U : Upd d (listOf (v :: r).toArray n) (listOf r.toArray (n + 1)) news news') (hz : (v :: r).length ≤ 100) (h : ∀ h', Fr h₀ L h' m → News h₀ L h' news' → Q v { s with heap := h' }) :
    wpAny (model prog w) A (call (.builtin "list.pop") [.ref d, .int 0 u]) Q E s :=
  kl_popAt (k := 0) (p := []) (q := r) F N rfl (by unfold seqIndex?; simp) rfl U (by rw [sizeLine_eq]; simp only [List.length_cons] at hz ⊢; omega) h
end
section
variable {w : World} {mean : ExcName → Option Value} {mg mb : Str → Option Value} {hdl : Option Value} {dp un : Nat} {gd : Option (List Code)} {cn : Str} {cs : Scope} {a : Addr} {ccd : Value} {cl : List (Str × Addr)} {outer : List Env}
variable {A₀ : Around} {base h₀ : Heap} {L : Addr} {m : Str → Option Value} {news : List (Addr × Obj)} {s : Shared} {Q E : Value → Shared → Prop}
local macro_rules | `(tactic| k_all) => `(tactic| first | (with_reducible assumption))
local macro_rules | `(tactic| walk_at "compareOp NotEq ref ref") => `(tactic| (k_here; k_dflt (first
  | (refine' ne_nil_nil ?a ?b ?u ?_; (case a => exact News.isList (by k_asm) (by k_mem)); (case b => exact News.isList (by k_asm) (by k_mem)); (case u => ktr_units))
  | (refine' ne_cons_nil ?a ?b ?i ?u ?_; (case a => exact News.isList (by k_asm) (by k_mem)); (case b => exact News.isList (by k_asm) (by k_mem)); (case i => (with_reducible assumption)); (case u => ktr_units)))))
local macro_rules | `(tactic| walk_at "call builtin:list.pop") => `(tactic| (k_here; k_dflt (refine' pop0 ?F ?N ?U ?z ?_; (case F => k_asm); (case N => k_asm); (case U => k_upd); (case z => (with_reducible assumption))); intro h' F' N'))
theorem c_draw {dk : Addr} {vs : List Value} {ns : List Int} {nd : Nat} {many : Int} {tm : Tok} {rest : List (Addr × Obj)} (B : Below A₀ base outer h₀) (F : Fr h₀ L s.heap m) (X : (hd.heap_1 w.params).In h₀) (N : News h₀ L s.heap ((dk, listOf vs.toArray nd) :: rest)) (T : Top hd.view (looseW hd.view []) mean mg mb h₀) (hk : cs.kind = .function)
    (hdp : dp + 20 < recursionLimit) (hun : un + 100 < cLine) (hi : IntsAre vs ns) (hl : vs.length ≤ 100) (hoff : ∀ p ∈ rest, p.1 ≠ dk) (hm1 : 1 ≤ many) (hm2 : many ≤ 8)
    (hret : ∀ r tr vs' ns' nd' h' tk', Fr h₀ L h' m → News h₀ L h' ((dk, listOf vs'.toArray nd') :: rest) → IntsAre vs' ns' → vs'.length ≤ 100 → 0 ≤ r → r < many → Q (.int r tr) { s with heap := h', toks := tk' }) :
    wpAny (model PySem.Challenge.rw_pq0279_01.row.prog w) (AR hdl dp un gd cn cs L a ccd cl outer) (call (.ref 320) [.ref dk, .int many tm]) Q E s := by
  refine wpAny_call ?_
  k_dflt cell_enter
  cases hi with
  | nil =>
    k_steps
    exact hret 0 _ [] [] nd _ _ (by k_asm) (newsSub (by k_asm) (fun p hp => .tail _ hp)) .nil (by simp) (by omega) (by omega)
  | cons i ti hr =>
    have hi := IntsAre.cons i ti hr
    k_steps
    have h1 : 0 ≤ i.fmod many := Int.fmod_nonneg_of_pos i (by omega)
    have h2 : i.fmod many < many := Int.fmod_lt_of_pos i (by omega)
    exact hret _ _ _ _ (nd + 1) _ _ (by k_asm) (newsSub (by k_asm) (fun p hp => .tail _ hp)) hr (by simp only [List.length_cons] at hl; omega) h1 h2
theorem c_drawU {dk : Addr} {vs : List Value} {ns : List Int} {nd : Nat} {many : Int} {tm : Tok} {gf : Obj → List (Addr × Obj)} (B : Below A₀ base outer h₀) (F : Fr h₀ L s.heap m) (X : (hd.heap_1 w.params).In h₀) (N : News h₀ L s.heap news) (T : Top hd.view (looseW hd.view []) mean mg mb h₀) (hk : cs.kind = .function)
    (hdp : dp + 20 < recursionLimit) (hun : un + 100 < cLine) (U : UpdF dk (listOf vs.toArray nd) news gf) (hi : IntsAre vs ns) (hl : vs.length ≤ 100) (hm1 : 1 ≤ many) (hm2 : many ≤ 8)
    (hret : ∀ r tr vs' ns' nd' h' tk', Fr h₀ L h' m → News h₀ L h' (gf (listOf vs'.toArray nd')) → IntsAre vs' ns' → vs'.length ≤ 100 → 0 ≤ r → r < many → Q (.int r tr) { s with heap := h', toks := tk' }) :
    wpAny (model PySem.Challenge.rw_pq0279_01.row.prog w) (AR hdl dp un gd cn cs L a ccd cl outer) (call (.ref 320) [.ref dk, .int many tm]) Q E s := by
  obtain ⟨pre, post, rfl, hg, h1, h2⟩ := U.split
  refine c_draw (nd := nd) (rest := pre ++ post) B F X (newsSub N fun p hp => ?_) T hk hdp hun hi hl (fun p hp => ?_) hm1 hm2 (fun r tr vs' ns' nd' h' tk' F' N' hi' hl' a b => hret r tr vs' ns' nd' h' tk' F' (newsSub N' fun p hp => ?_) hi' hl' a b)
  · simp only [List.mem_cons, List.mem_append] at hp ⊢; grind
  · rcases List.mem_append.mp hp with hp | hp
    · exact h1 p hp
    · exact h2 p hp
  · rw [hg] at hp
    simp only [List.mem_cons, List.mem_append] at hp ⊢; grind
end
end Mine
end
section
open PySem PySem.W PyProof.Rows
theorem Mine.offD2 : True := by
  w_top off
  trivial
namespace Mine
def PickOk : List Value → Prop
  | [] => True
  | v :: r => (∃ y t, v = .str y t ∧ y.length ≤ 8) ∧ PickOk r
theorem pickOk_mem : ∀ {l : List Value}, PickOk l → ∀ v ∈ l, ∃ y t, v = .str y t ∧ y.length ≤ 8
  | [], _, _, h => nomatch h
  | _ :: _, ⟨a, b⟩, v, h => by
    rcases List.mem_cons.mp h with rfl | h
    · exact a
    · exact pickOk_mem b v h
section
variable {prog : Program} {w : World} {A : Around} {E : Value → Shared → Prop} {s : Shared} {h₀ : Heap} {L d b : Addr} {m : Str → Option Value} {news news' : List (Addr × Obj)} {n : Nat} {vs : List Value} {Q : Value → Shared → Prop}
theorem pick_item {value slice : PySem.Expr} {i : Int} {u : Tok} (N : News h₀ L s.heap news) (hm : (d, listOf vs.toArray n) ∈ news) (h0 : 0 ≤ i) (h1 : i < vs.length) (h2 : vs.length ≤ 100) (hp : PickOk vs) (h : ∀ y t, Value.str y t ∈ vs → y.length ≤ 8 → Q (.str y t) s)
    (hs : subscripted slice false (.ref d) (.int i u) = operate [.ref d, .int i u] (getItem (.ref d) (.int i u)) := by with_unfolding_all rfl) :
    wpAny (model prog w) A (subscriptTail value slice (.ref d) (.int i u)) Q E s := by
  have hl := News.isList N hm
  have hx : vs[i.toNat]? = some (vs[i.toNat]'(by omega)) := List.getElem?_eq_getElem _
  obtain ⟨y, t, e, hy⟩ := pickOk_mem hp _ (List.mem_of_getElem? hx)
  rw [e] at hx
  exact tail_any hl.typeIs slot_list_getitem.lookup (wpAny_getItem_list hl h0 (by omega) (by simpa using hx) (h y t (List.mem_of_getElem? hx) hy)) hs
end
theorem item_len1 {y : Str} {t a b c d e f g h : Tok} (hm : Value.str y t ∈ [Value.str (Str.ofString "d") a, Value.str (Str.ofString "~") b, Value.str (Str.ofString "..") c, Value.str (Str.ofString ".") d, Value.str (Str.ofString "k") e, Value.str (Str.ofString "e/") f, Value.str (Str.ofString "l0") g, Value.str (Str.ofString "l1") h]) : 1 ≤ y.length := by
  simp only [List.mem_cons, List.not_mem_nil, or_false, Value.str.injEq] at hm
  rcases hm with ⟨rfl, _⟩ | ⟨rfl, _⟩ | ⟨rfl, _⟩ | ⟨rfl, _⟩ | ⟨rfl, _⟩ | ⟨rfl, _⟩ | ⟨rfl, _⟩ | ⟨rfl, _⟩ <;> decide
section
variable {w : World} {mean : ExcName → Option Value} {mg mb : Str → Option Value} {hdl : Option Value} {dp un : Nat} {gd : Option (List Code)} {cn : Str} {cs : Scope} {a : Addr} {ccd : Value} {cl : List (Str × Addr)} {outer : List Env}
variable {A₀ : Around} {base h₀ : Heap} {L : Addr} {m : Str → Option Value} {news : List (Addr × Obj)} {s : Shared} {Q E : Value → Shared → Prop}
local macro_rules | `(tactic| walk_at "subscriptTail") => `(tactic| (k_here; (with_reducible show wpAny _ _ (subscriptTail _ _ (Value.ref _) (Value.int _ _)) _ _ _); k_dflt (refine' pick_item ?N ?m ?h0 ?h1 ?h2 ?p ?_ ?hs; (case N => k_asm); (case m => k_mem); (case h0 => (with_reducible assumption)); (case h1 => (simp only [List.length_cons, List.length_nil]; omega)); (case h2 => (simp only [List.length_cons, List.length_nil]; omega)); (case p => (repeat (first | exact trivial | refine ⟨⟨_, _, rfl, by decide⟩, ?_⟩))); (case hs => with_unfolding_all rfl)); intro y9 t9 hm9 hl9))
local macro_rules | `(tactic| k_all) => `(tactic| first | (with_reducible assumption))
local macro_rules | `(tactic| walk_at "pyIter ref") => `(tactic| ((with_reducible show wpAny _ _ (pyIter (Value.ref _)) (fun it s₂ => LoopAtV _ _ _ _ _ _ _ _ _ it s₂) _ _); refine stop_here ?_))
local macro_rules | `(tactic| walk_at "call ref") => `(tactic| (k_here; (with_reducible show wpAny _ _ (call (Value.ref 320) _) _ _ _); first | (k_dflt (refine' c_drawU ?B ?F ?X ?N ?T ?hk ?hdp ?hun ?U ?hi ?hl ?hm1 ?hm2 ?_; walk_at "own std8"; (case U => k_updF); (case hi | hl => (with_reducible assumption)); (case hm1 | hm2 => decide)); intro r9 tr9 vs9 ns9 nd9 h9 tk9 F9 N9 hi9 hl9 h09 h19; (try dsimp only at N9)) | refine stop_here ?_))
theorem c_text {dk : Addr} {vs : List Value} {ns : List Int} {nd : Nat} {rest : List (Addr × Obj)} (B : Below A₀ base outer h₀) (F : Fr h₀ L s.heap m) (X : (hd.heap_1 w.params).In h₀) (N : News h₀ L s.heap ((dk, listOf vs.toArray nd) :: rest)) (T : Top hd.view (looseW hd.view []) mean mg mb h₀) (hk : cs.kind = .function)
    (hdp : dp + 40 < recursionLimit) (hun : un + 140 < cLine) (hh : hdl = none) (hi : IntsAre vs ns) (hl : vs.length ≤ 100) (hoff : ∀ p ∈ rest, p.1 ≠ dk)
    (hret : ∀ x tx vs' ns' nd' h' tk', Fr h₀ L h' m → News h₀ L h' ((dk, listOf vs'.toArray nd') :: rest) → IntsAre vs' ns' → vs'.length ≤ 100 → x ≠ Str.ofString "" → x.length ≤ 100 → Q (.str x tx) { s with heap := h', toks := tk' }) :
    wpAny (model PySem.Challenge.rw_pq0279_01.row.prog w) (AR hdl dp un gd cn cs L a ccd cl outer) (call (.ref 327) [.ref dk]) Q E s := by
  subst hh
  refine wpAny_call ?_
  k_dflt cell_enter
  k_steps
  unfold Stop
  rename IsRange _ _ _ _ _ _ _ _ => hr
  rename Fr _ _ _ _ => F2
  rename News _ _ _ _ => N2
  rename IntsAre _ _ => hi2
  rename (_ < (3 : Int)) => hr3
  rename ((0 : Int) ≤ _) => hr0
  rename (List.length _ ≤ 100) => hl2
  rename (Str.length _ ≤ 8) => hy8
  rename (Value.str _ _ ∈ _) => hy
  rename_i r9 _ y9 t9 _ _ vs9 ns9 nd9 _ _
  obtain ⟨m1, F3, hma, hmn⟩ : ∃ m1, Fr _ _ _ m1 ∧ m1 "found" = some (.str _ _) ∧ m1 "deck" = some (.ref dk) := ⟨_, F2, rfl, rfl⟩
  clear F2
  refine it_rangeL (n := (1 + _ : Int).toNat) (m₀ := m1) (nx₀ := [(dk, listOf _ _)]) (news := rest)
    (fun i m nx => ∃ f tf vs' ns' nd', nx = [(dk, listOf vs'.toArray nd')] ∧ m "found" = some (.str f tf) ∧ m "deck" = some (.ref dk) ∧ IntsAre vs' ns' ∧ vs'.length ≤ 100 ∧ f.length ≤ 10 + 10 * i ∧ 2 * i ≤ f.length)
    rfl hr (range_small (by omega) (by omega)) range_size F3 (newsSub N2 fun p hp => .tail _ hp) ⟨_, _, _, _, _, rfl, hma, hmn, hi2, hl2, by omega, by omega⟩ rfl ?_ ?_
  · rintro i t' m₁ nx I oI h tk hi3 ⟨f, tf, vs', ns', nd', rfl, hf, hd, hi', hl', hf1, hf2⟩ hI hI2 F₁ N₁
    have F4 := frN (frN F₁ (p := "found") ((if_neg (by decide)).trans hf)) (p := "deck") ((if_neg (by decide)).trans ((if_neg (by decide)).trans hd))
    clear F₁ F3 N2 N
    have hI2' : ∀ o : Obj, ∀ p ∈ [(dk, o)], p.1 ≠ I := fun o p hp => by rw [List.mem_singleton.mp hp]; exact hI2 (dk, listOf vs'.toArray nd') (.head _)
    have hdI : @Ne Nat dk I := hI2 _ (.head _)
    have hf3 : f.length ≤ 50 := by omega
    dsimp only [List.cons_append, List.nil_append] at N₁
    dsimp only
    k_steps
    rename Fr _ _ _ _ => F5
    rename News _ _ _ _ => N5
    rename IntsAre _ _ => hi5
    rename (List.length _ ≤ 100) => hl5
    rename (Str.length _ ≤ 8) => hy9
    rename (Value.str _ _ ∈ _) => hm9
    have hy1 := item_len1 hm9
    have e1 : (Str.ofString "/").length = 1 := by decide
    refine TEnd.intro (nx' := [(dk, _)]) F5 (newsSub N5 fun p hp => .tail _ hp) (hI2' _) ⟨_, _, _, _, _, rfl, rfl, rfl, hi5, hl5, ?_, ?_⟩
    · rw [Str.length_append, Str.length_append]; omega
    · rw [Str.length_append, Str.length_append]; omega
  · rintro m₁ nx h tk ⟨f, tf, vs', ns', nd', rfl, hf, hd, hi', hl', hf1, hf2⟩ F₁ N₁
    have F4 := frN (frN F₁ (p := "found") hf) (p := "deck") ((if_neg (by decide)).trans hd)
    clear F₁ F3 N2 N
    have hf3 : f.length ≤ 50 := by omega
    have hf4 : 2 ≤ f.length := by omega
    dsimp only [List.cons_append, List.nil_append] at N₁
    dsimp only
    k_steps
    · rename Fr h₀ _ _ _ => F5
      rename News h₀ _ _ _ => N5
      rename IntsAre _ _ => hi5
      rename (List.length _ ≤ 100) => hl5
      refine hret _ _ _ _ _ _ _ F5 N5 hi5 hl5 (fun e => ?_) (by omega)
      rw [e] at hf4
      exact absurd hf4 (by decide)
    · rename Fr h₀ _ _ _ => F5
      rename News h₀ _ _ _ => N5
      rename IntsAre _ _ => hi5
      rename (List.length _ ≤ 100) => hl5
      have h5 := slice_to_neg (x := f) (by omega)
      have h6 := congrArg List.length h5
      rw [cpl_len, List.length_dropLast, cpl_len] at h6
      refine hret _ _ _ _ _ _ _ F5 N5 hi5 hl5 (fun e => ?_) (by omega)
      rw [e] at h6
      have : (Str.ofString "").length = 0 := by decide
      omega
theorem c_textU {dk : Addr} {vs : List Value} {ns : List Int} {nd : Nat} {gf : Obj → List (Addr × Obj)} (B : Below A₀ base outer h₀) (F : Fr h₀ L s.heap m) (X : (hd.heap_1 w.params).In h₀) (N : News h₀ L s.heap news) (T : Top hd.view (looseW hd.view []) mean mg mb h₀) (hk : cs.kind = .function)
    (hdp : dp + 40 < recursionLimit) (hun : un + 140 < cLine) (hh : hdl = none) (U : UpdF dk (listOf vs.toArray nd) news gf) (hi : IntsAre vs ns) (hl : vs.length ≤ 100)
    (hret : ∀ x tx vs' ns' nd' h' tk', Fr h₀ L h' m → News h₀ L h' (gf (listOf vs'.toArray nd')) → IntsAre vs' ns' → vs'.length ≤ 100 → x ≠ Str.ofString "" → x.length ≤ 100 → Q (.str x tx) { s with heap := h', toks := tk' }) :
    wpAny (model PySem.Challenge.rw_pq0279_01.row.prog w) (AR hdl dp un gd cn cs L a ccd cl outer) (call (.ref 327) [.ref dk]) Q E s := by
  obtain ⟨pre, post, rfl, hg, h1, h2⟩ := U.split
  refine c_text (nd := nd) (rest := pre ++ post) B F X (newsSub N fun p hp => ?_) T hk hdp hun hh hi hl (fun p hp => ?_) (fun x tx vs' ns' nd' h' tk' F' N' hi' hl' a b => hret x tx vs' ns' nd' h' tk' F' (newsSub N' fun p hp => ?_) hi' hl' a b)
  · simp only [List.mem_cons, List.mem_append] at hp ⊢; grind
  · rcases List.mem_append.mp hp with hp | hp
    · exact h1 p hp
    · exact h2 p hp
  · rw [hg] at hp
    simp only [List.mem_cons, List.mem_append] at hp ⊢; grind
end
end Mine
end
section
open PySem PySem.W PyProof.Rows
theorem Mine.offL1 : True := by
  w_top off
  trivial
namespace Mine
section
variable {prog : Program} {w : World} {A : Around} {E : Value → Shared → Prop} {s : Shared} {h₀ : Heap} {L a b : Addr} {m : Str → Option Value} {news : List (Addr × Obj)} {vs ws : List Value} {Q : Value → Shared → Prop}
theorem add_ll (F : Fr h₀ L s.heap m) (N : News h₀ L s.heap news) (ha : s.heap.IsList a vs.toArray) (hb : s.heap.IsList b ws.toArray)
    (h : ∀ D h', Fr h₀ L h' m → News h₀ L h' ((D, listOf (vs ++ ws).toArray 0) :: news) → (∀ p ∈ news, p.1 < D) → Q (.ref D) { s with heap := h' })
    (hz : vs.length + ws.length ≤ sizeLine) : wpAny (model prog w) A (binaryOp .Add (.ref a) (.ref b)) Q E s :=
  kmk_add_lit F N ha hb (by simp) h (by simpa using hz)
end
section
variable {w : World} {mean : ExcName → Option Value} {mg mb : Str → Option Value} {hdl : Option Value} {dp un : Nat} {gd : Option (List Code)} {cn : Str} {cs : Scope} {a : Addr} {ccd : Value} {cl : List (Str × Addr)} {outer : List Env}
variable {A₀ : Around} {base h₀ : Heap} {L : Addr} {m : Str → Option Value} {news : List (Addr × Obj)} {s : Shared} {Q E : Value → Shared → Prop}
local macro_rules | `(tactic| walk_at "binaryOp Add ref ref") => `(tactic| (k_here; k_dflt (refine' add_ll ?F ?N ?a ?b ?_ ?z; (case F => k_asm); (case N => k_asm); (case a => exact News.isList (by k_asm) (by k_mem)); (case b => exact News.isList (by k_asm) (by k_mem)); (case z => (simp only [List.length_cons, List.length_nil, List.length_append, strValues, List.length_map, sizeLine_eq]; omega))); intro D' h' F' N' l1; (try k_lt l1); (try k_sweep)))
local macro_rules | `(tactic| k_all) => `(tactic| first | (with_reducible assumption) | exact neOfLt (by with_reducible assumption))
local macro_rules | `(tactic| walk_at "subscriptTail Name Slice ref ref") => `(tactic| (k_here; (with_reducible show wpAny _ _ (subscriptTail _ (PySem.Expr.Slice none _ none _) (Value.ref _) (Value.ref _)) _ _ _); k_dflt (refine' kmk_slice_lit ?F ?N ?l ?p ?q ?e ?_ ?s ?t ?z; (case F => k_asm); (case N => k_asm); (case l => kmk_list); (case p => kmk_part); (case q => kmk_part); (case e => exact pick_dl _); (case s => with_unfolding_all rfl); (case t => kmk_pure); (case z => assumption)); intro D' h' F' N' l1; (try k_lt l1)))
local macro_rules | `(tactic| walk_at "exec For Name Name cons nil") => `(tactic| (k_here; (rename Fr _ _ _ _ => lF'); (with_unfolding_all refine' For_invVF lF' ?k1 ?k2 ?_; (case k1 => exact rfl); (case k2 => exact rfl); k_whole)))
local macro_rules | `(tactic| walk_at "pyIter ref") => `(tactic| ((with_reducible show wpAny _ _ (pyIter (Value.ref _)) (fun it s₂ => LoopAtV _ _ _ _ _ _ _ _ _ it s₂) _ _); refine stop_here ?_))
theorem c_plain {l : Addr} {n : Nat} {xs : List (Str × Tok)} (B : Below A₀ base outer h₀) (F : Fr h₀ L s.heap m) (X : (hd.heap_1 w.params).In h₀) (N : News h₀ L s.heap news) (T : Top hd.view (looseW hd.view []) mean mg mb h₀) (hk : cs.kind = .function)
    (hdp : dp + 20 < recursionLimit) (hun : un + 40 < cLine) (hh : hdl = none) (hl : (l, listOf (strValues xs).toArray n) ∈ news) (hx : xs.length ≤ 100000)
    (hret : ∀ fl fs n h' tk', Fr h₀ L h' m → News h₀ L h' ((fl, listOf (strValues fs).toArray n) :: news) → fs.map (·.1) = plain (xs.map (·.1)) → (∀ p ∈ news, p.1 < fl) → Q (.ref fl) { s with heap := h', toks := tk' }) :
    wpAny (model PySem.Challenge.rw_pq0279_01.row.prog w) (AR hdl dp un gd cn cs L a ccd cl outer) (call (.ref 339) [.ref l]) Q E s := by
  subst hh
  refine wpAny_call ?_
  k_dflt cell_enter
  k_steps
  unfold Stop
  rename Fr _ _ _ _ => F2
  rename News _ _ _ _ => N2
  rename (∀ p ∈ news, p.1 < _) => l1
  obtain ⟨m1, F3, hm⟩ : ∃ m1, Fr _ _ _ m1 ∧ m1 "found" = some (.ref _) := ⟨_, F2, rfl⟩
  clear F2 N
  refine it_listL (vs := strValues xs) (m₀ := m1) (nx₀ := [(_, W.listOf #[] 0)]) (news := news)
    (fun i m nx => ∃ fl fs n, nx = [(fl, W.listOf (strValues fs).toArray n)] ∧ m "found" = some (.ref fl) ∧ fs.map (·.1) = plain ((xs.map (·.1)).take i) ∧ (∀ p ∈ news, p.1 < fl))
    rfl hl F3 N2 ⟨_, [], 0, rfl, hm, rfl, l1⟩ rfl ?_ ?_
  · rintro i v m₁ nx I oI h tk hv ⟨fl, fs, n, rfl, hfl, hfs, hlt⟩ hI hI2 F₁ N₁
    obtain ⟨⟨y, ty⟩, hy, rfl⟩ : ∃ p, xs[i]? = some p ∧ v = .str p.1 p.2 := by
      simp only [strValues, List.getElem?_map, Option.map_eq_some_iff] at hv
      obtain ⟨p, h1, h2⟩ := hv
      exact ⟨p, h1, h2.symm⟩
    have hflI : @Ne Nat fl I := hI2 _ (.head _)
    have hsz : (strValues fs).toArray.size ≤ sizeLine := by
      have h1 := congrArg List.length hfs
      have h2 := plain_len ((xs.map (·.1)).take i)
      rw [List.length_map] at h1
      rw [List.length_take, List.length_map] at h2
      simp only [List.size_toArray, strValues, List.length_map, sizeLine_eq]
      omega
    have hfl9 : fs.length ≤ 100000 := by
      have h1 := congrArg List.length hfs
      have h2 := plain_len ((xs.map (·.1)).take i)
      rw [List.length_map] at h1
      rw [List.length_take, List.length_map] at h2
      omega
    have hxi : plain ((xs.map (·.1)).take (i + 1)) = keepStep (plain ((xs.map (·.1)).take i)) y := by
      rw [List.take_add_one, List.getElem?_map, hy]
      exact plain_snoc _ _
    have F4 := frN F₁ (p := "found") ((if_neg (by decide)).trans hfl)
    clear F₁ F3 N2
    dsimp only [List.cons_append, List.nil_append] at N₁
    dsimp only
    k_steps
    · rename Fr _ _ _ _ => F5
      rename News _ _ _ _ => N5
      rename (_ ∧ _ ∧ AllLt _ news) => hlts
      rename ((_ == _) = true) => c1
      have c1' : y = Str.ofString ".." := by simpa using c1
      refine TEnd.one F5 N5 (by intro p hp; repeat (first | exact hp | refine List.Mem.tail _ ?_)) (Nat.ne_of_gt hlts.2.1) ⟨_, fs.dropLast, 0, ?_, rfl, ?_, ltOfAll hlts.2.2⟩
      · simp only [strValues, List.map_dropLast]
      · rw [hxi, ← hfs, List.map_dropLast, keepStep, if_pos c1']
    · rename Fr _ _ _ _ => F5
      rename News _ _ _ _ => N5
      rename ((_ == _) = false) => c1
      rename ((List.any _ _) = true) => c3
      refine TEnd.intro (nx' := [(fl, _)]) F5 (newsSub N5 (by intro p hp; simp only [List.mem_cons, List.cons_append, List.nil_append] at hp ⊢; grind)) hI2 ⟨fl, fs, n, rfl, rfl, ?_, hlt⟩
      have c1' : y ≠ Str.ofString ".." := by simpa using c1
      rw [hxi, ← hfs, keepStep, if_neg c1', if_pos]
      simp only [List.any_cons, List.any_nil, Bool.or_false, Bool.or_eq_true, beq_iff_eq] at c3
      rcases c3 with c3 | c3
      · exact .inl c3.symm
      · exact .inr c3.symm
    · rename Fr _ _ _ _ => F5
      rename News _ _ _ _ => N5
      rename (_ ∧ _ ∧ _ ∧ _ ∧ AllLt _ news) => hlts
      rename ((_ == _) = false) => c1
      rename ((List.any _ _) = false) => c3
      refine TEnd.one F5 N5 (by intro p hp; repeat (first | exact hp | refine List.Mem.tail _ ?_)) (Nat.ne_of_gt hlts.2.2.2.1) ⟨_, fs ++ [(y, ty)], 0, ?_, rfl, ?_, ltOfAll hlts.2.2.2.2⟩
      · simp [strValues]
      · have c1' : y ≠ Str.ofString ".." := by simpa using c1
        rw [hxi, ← hfs, keepStep, if_neg c1', if_neg]
        · simp
        · simp only [List.any_cons, List.any_nil, Bool.or_false, Bool.or_eq_false_iff, beq_eq_false_iff_ne] at c3
          rintro (h3 | h3)
          · exact c3.1 h3.symm
          · exact c3.2 h3.symm
  · rintro m₁ nx h tk ⟨fl, fs, n, rfl, hfl, hfs, hlt⟩ F₁ N₁
    have F4 := frN F₁ (p := "found") hfl
    have hfs' : fs.map (·.1) = plain (xs.map (·.1)) := by
      rw [hfs, List.take_of_length_le (by simp [strValues])]
    clear F₁ F3 N2
    dsimp only [List.cons_append, List.nil_append] at N₁
    dsimp only
    k_steps
    exact hret fl fs n _ _ (by k_asm) (by k_asm) hfs' hlt
end
end Mine
end
section
open PySem PySem.W PyProof.Rows
theorem Mine.offS1 : True := by
  w_top off
  trivial
namespace Mine
/- lists of texts on the ledger -/
theorem strValues_append (a b : List (Str × Tok)) : strValues a ++ strValues b = strValues (a ++ b) := by simp [strValues]
theorem strValues_len (a : List (Str × Tok)) : (strValues a).length = a.length := by simp [strValues]
theorem pick_from (vs : List Value) {x : Int} (h : 0 ≤ x) : (slicePick vs.toArray (some x) none none).toList = vs.drop x.toNat := by
  have e : sliceBounds (some x) none none vs.toArray.size = (((min x.toNat vs.toArray.size : Nat) : Int), ((vs.toArray.size : Nat) : Int), 1) := by
    simp only [sliceBounds, Option.getD_none, show (1 : Int) > 0 by decide, if_true, if_neg (show ¬ (x < 0) by omega)]
    congr 1
    omega
  rw [kmk_pick_nat _ e]
  show (vs.drop (min x.toNat vs.toArray.size)).take (vs.toArray.size - min x.toNat vs.toArray.size) = _
  rw [List.size_toArray, kmk_drop_min, List.take_of_length_le]
  rw [List.length_drop]
  omega
theorem pick_fromS (ss : List (Str × Tok)) (j : Nat) : (slicePick (strValues ss).toArray (some (0 + (j : Int) + 1)) none none).toList = strValues (ss.drop (j + 1)) := by
  rw [pick_from _ (by omega), show ((0 + (j : Int) + 1)).toNat = j + 1 by omega]
  simp [strValues, List.map_drop]
theorem pick_dlS (ss : List (Str × Tok)) : (slicePick (strValues ss).toArray none (some (-1)) none).toList = strValues ss.dropLast := by
  rw [pick_dl]
  simp [strValues, List.map_dropLast]
section
variable {prog : Program} {w : World} {A : Around} {E : Value → Shared → Prop} {s : Shared} {h₀ : Heap} {L a b d : Addr} {m : Str → Option Value} {news news' : List (Addr × Obj)} {xs ys : List (Str × Tok)} {vs ws : List Value} {n n' : Nat} {Q : Value → Shared → Prop}
theorem len_strs (N : News h₀ L s.heap news) (hm : (d, listOf (strValues xs).toArray n) ∈ news) (hf : xs.length ≤ 100000) (h : Q (.int xs.length (s.toks + 1)) { s with toks := s.toks + 1 + 1 }) : wpAny (model prog w) A (call (.builtin "len") [.ref d]) Q E s := by
  refine PyProof.Rows.len_list (News.isList N hm) (by rw [List.size_toArray, strValues_len]; omega) ?_
  rw [List.size_toArray, strValues_len]
  exact h
theorem item_strs {value slice : PySem.Expr} {j : Nat} {k : Int} {u t : Tok} {y : Str} (N : News h₀ L s.heap news) (hm : (d, listOf (strValues xs).toArray n) ∈ news) (e : k = (j : Int)) (hj : j ≤ 100000) (hy : xs[j]? = some (y, t)) (h : Q (.str y t) s)
    (hs : subscripted slice false (.ref d) (.int k u) = operate [.ref d, .int k u] (getItem (.ref d) (.int k u)) := by with_unfolding_all rfl) :
    wpAny (model prog w) A (subscriptTail value slice (.ref d) (.int k u)) Q E s := by
  subst e
  refine tail_any (News.isList N hm).typeIs slot_list_getitem.lookup (wpAny_getItem_list (News.isList N hm) (by omega) (by omega) (x := .str y t) ?_ h) hs
  simp [strValues, hy]
theorem getItem_strs {j : Nat} {k : Int} {u t : Tok} {y : Str} (N : News h₀ L s.heap news) (hm : (d, listOf (strValues xs).toArray n) ∈ news) (e : k = (j : Int)) (hj : j ≤ 100000) (hy : xs[j]? = some (y, t)) (h : Q (.str y t) s) :
    wpAny (model prog w) A (getItem (.ref d) (.int k u)) Q E s := by
  subst e
  refine wpAny_getItem_list (News.isList N hm) (by omega) (by omega) (x := .str y t) ?_ h
  simp [strValues, hy]
theorem append_ss {y : Str} {t : Tok} (F : Fr h₀ L s.heap m) (N : News h₀ L s.heap news) (U : Upd d (listOf (strValues xs).toArray n) (listOf (strValues (xs ++ [(y, t)])).toArray (n + 1)) news news')
    (h : ∀ h', Fr h₀ L h' m → News h₀ L h' news' → Q .none { s with heap := h' }) (hz : xs.length ≤ 100000) : wpAny (model prog w) A (call (.builtin "list.append") [.ref d, .str y t]) Q E s := by
  refine append_K F N (its := (strValues xs).toArray) (n := n) (news' := news') ?_ h (by rw [List.size_toArray, strValues_len, sizeLine_eq]; omega)
  have e : (strValues xs).toArray.push (.str y t) = (strValues (xs ++ [(y, t)])).toArray := by simp [strValues]
  rw [e]
  exact U
theorem add_ss (F : Fr h₀ L s.heap m) (N : News h₀ L s.heap news) (ha : (a, listOf (strValues xs).toArray n) ∈ news) (hb : (b, listOf (strValues ys).toArray n') ∈ news)
    (h : ∀ D h', Fr h₀ L h' m → News h₀ L h' ((D, listOf (strValues (xs ++ ys)).toArray 0) :: news) → (∀ p ∈ news, p.1 < D) → Q (.ref D) { s with heap := h' })
    (hz : xs.length + ys.length ≤ 100000) : wpAny (model prog w) A (binaryOp .Add (.ref a) (.ref b)) Q E s := by
  refine add_ll F N (News.isList N ha) (News.isList N hb) (fun D h' F' N' l => h D h' F' ?_ l) (by rw [strValues_len, strValues_len, sizeLine_eq]; omega)
  rw [← strValues_append]
  exact N'
theorem add_ns (F : Fr h₀ L s.heap m) (N : News h₀ L s.heap news) (ha : (a, listOf #[] n) ∈ news) (hb : (b, listOf (strValues ys).toArray n') ∈ news)
    (h : ∀ D h', Fr h₀ L h' m → News h₀ L h' ((D, listOf (strValues ys).toArray 0) :: news) → (∀ p ∈ news, p.1 < D) → Q (.ref D) { s with heap := h' })
    (hz : ys.length ≤ 100000) : wpAny (model prog w) A (binaryOp .Add (.ref a) (.ref b)) Q E s :=
  add_ss (xs := []) F N ha hb h (by simpa using hz)
theorem dk_in_some {o : Obj} {kvs : List (Str × Value)} {x : Str} {t : Tok} {v : Value} (N : News h₀ L s.heap news) (hm : (d, o) ∈ news) (hd : o.IsDictOf (PySem.strKind prog w) kvs) (lo : (d == sysModules) = false) (hv : valueAt kvs x = some v) (h : Q (.bool true) { s with toks := s.toks + 1 }) :
    wpAny (model prog w) A (compareOp .In (.str x t) (.ref d)) Q E s := dk_in N hm hd lo (by rw [hv]; exact h)
end
end Mine
end
section
open PySem PySem.W PyProof.Rows
theorem Mine.offS2 : True := by
  w_top off
  trivial
namespace Mine
/- the law's own walk of a name, as plain functions -/
def LinkD (g : Ents) (lkvs : List (Str × Value)) : Prop := ∀ x, match look g x with
  | some (.link t) => ∃ tk, valueAt lkvs x = some (.str t tk)
  | _ => valueAt lkvs x = none
theorem linkD_some {g : Ents} {lkvs : List (Str × Value)} {x : Str} (LD : LinkD g lkvs) (h : isLink g x = true) : ∃ t tk, look g x = some (.link t) ∧ linkText g x = t ∧ valueAt lkvs x = some (.str t tk) := by
  unfold isLink at h
  split at h
  · rename_i t ht
    have := LD x
    rw [ht] at this
    obtain ⟨tk, e⟩ := this
    exact ⟨t, tk, ht, by unfold linkText; rw [ht], e⟩
  · cases h
theorem linkD_none {g : Ents} {lkvs : List (Str × Value)} {x : Str} (LD : LinkD g lkvs) (h : isLink g x = false) : valueAt lkvs x = none := by
  have := LD x
  unfold isLink at h
  split at h
  · cases h
  · rename_i hn
    split at this
    · rename_i t ht
      exact absurd ht (hn t)
    · exact this
def keepB (y : Str) : Bool := !([Str.ofString "", Str.ofString "."].any fun z => z == y)
def stepsL (x : Str) : List Str := (Txt.split x sl).filter keepB
def firstLed (g : Ents) (ps : List Str) : Option Nat := (List.range ps.length).find? fun i => isLink g (nm (ps.take (i + 1)))
def lawStep (g : Ents) (ps : List Str) (i : Nat) : Str :=
  nm (plain ((if Txt.slice (linkText g (nm (ps.take (i + 1)))) none (some 1) = sl then [] else ps.take i) ++ Txt.split (linkText g (nm (ps.take (i + 1)))) sl ++ ps.drop (i + 1)))
def lawGo (g : Ents) : Nat → Str → Option Str
  | 0, _ => none
  | n + 1, x => match firstLed g (stepsL x) with
    | none => some (nm (stepsL x))
    | some i => lawGo g n (lawStep g (stepsL x) i)
@[irreducible] def lawName (g : Ents) (x : Str) : Option Str := lawGo g 12 x
theorem firstLed_some {g : Ents} {ps : List Str} {j : Nat} (hj : j < ps.length) (h : isLink g (nm (ps.take (j + 1))) = true) (hn : ∀ i, i < j → isLink g (nm (ps.take (i + 1))) = false) : firstLed g ps = some j := by
  unfold firstLed
  rw [List.find?_range_eq_some]
  exact ⟨h, List.mem_range.mpr hj, fun i hi => by rw [hn i hi]; rfl⟩
theorem firstLed_none {g : Ents} {ps : List Str} (hn : ∀ i, i < ps.length → isLink g (nm (ps.take (i + 1))) = false) : firstLed g ps = none := by
  unfold firstLed
  rw [List.find?_eq_none]
  intro i hi
  rw [hn i (List.mem_range.mp hi)]
  decide
theorem tot_filter (p : Str → Bool) : ∀ l : List Str, tot (l.filter p) ≤ tot l
  | [] => Nat.le_refl _
  | y :: r => by
    have ih := tot_filter p r
    have e : tot (y :: r) = y.length + 1 + tot r := by simp [tot]
    rw [List.filter_cons]
    split
    · have e2 : tot (y :: r.filter p) = y.length + 1 + tot (r.filter p) := by simp [tot]
      omega
    · omega
theorem tot_stepsL (x : Str) : tot (stepsL x) ≤ x.length + 1 := Nat.le_trans (tot_filter _ _) (Nat.le_of_eq (tot_split x))
theorem tot_take_drop (l : List Str) (j : Nat) : tot (l.take j) + tot (l.drop (j + 1)) ≤ tot l := by
  have h1 : tot (l.take j) + tot (l.drop j) = tot l := by rw [← tot_app, List.take_append_drop]
  have h2 : tot (l.drop (j + 1)) ≤ tot (l.drop j) := by
    rw [← List.tail_drop]
    cases l.drop j with
    | nil => exact Nat.le_refl _
    | cons y r => simp [tot]
  omega
theorem tot_take (l : List Str) (j : Nat) : tot (l.take j) ≤ tot l := by
  have h1 : tot (l.take j) + tot (l.drop j) = tot l := by rw [← tot_app, List.take_append_drop]
  omega
theorem join_tot_len {ys : List Str} (h : tot ys ≤ 100000) : (Txt.join (Str.ofString "/") ys).length ≤ 100000 := by
  rw [txt_join]
  exact Nat.le_trans (join_len ys) h
theorem split_len_of {l : List (Str × Tok)} {t : Str} (h : l.map (·.1) = Txt.split t (Str.ofString "/")) : l.length ≤ t.length + 1 := by
  have h1 := congrArg List.length h
  rw [List.length_map] at h1
  have : (Txt.split t (Str.ofString "/")).length ≤ t.length + 1 := split_len t
  omega
theorem tot_split_of {l : List (Str × Tok)} {t : Str} (h : l.map (·.1) = Txt.split t (Str.ofString "/")) : tot (l.map (·.1)) = t.length + 1 := by
  rw [h]; exact tot_split t
theorem len_le_tot : ∀ l : List Str, l.length ≤ tot l
  | [] => Nat.le_refl _
  | y :: r => by
    have ih := len_le_tot r
    have e : tot (y :: r) = y.length + 1 + tot r := by simp [tot]
    rw [List.length_cons]
    omega
theorem tot_mix {ps : List Str} {j : Nat} {l ss : List (Str × Tok)} {t : Str} (h2 : l.map (·.1) = Txt.split t (Str.ofString "/")) (h4 : ss.map (·.1) = ps) : tot (plain ((l ++ ss.drop (j + 1)).map (·.1))) ≤ tot ps + t.length + 1 := by
  refine Nat.le_trans (tot_plain _) ?_
  have := tot_split_of h2
  have := tot_take_drop ps j
  rw [List.map_append, tot_app, List.map_drop, h4]
  omega
theorem tot_mix3 {ps : List Str} {j : Nat} {dd l ss : List (Str × Tok)} {t : Str} (h1 : dd.map (·.1) = ps.take (j + 1)) (hj : j < ps.length) (h2 : l.map (·.1) = Txt.split t (Str.ofString "/")) (h4 : ss.map (·.1) = ps) : tot (plain ((dd.dropLast ++ l ++ ss.drop (j + 1)).map (·.1))) ≤ tot ps + t.length + 1 := by
  refine Nat.le_trans (tot_plain _) ?_
  have := tot_split_of h2
  have := tot_take_drop ps j
  have e : (ps.take (j + 1)).dropLast = ps.take j := by
    rw [List.take_add_one, List.getElem?_eq_getElem hj, Option.toList_some, List.dropLast_concat]
  rw [List.map_append, List.map_append, tot_app, tot_app, List.map_drop, h4, List.map_dropLast, h1, e]
  omega
theorem lawStep_abs {g : Ents} {ps : List Str} {j : Nat} {l ss : List (Str × Tok)} {t : Str} (ht : linkText g (nm (ps.take (j + 1))) = t) (c : Txt.slice t none (some 1) = Str.ofString "/") (h2 : l.map (·.1) = Txt.split t (Str.ofString "/")) (h4 : ss.map (·.1) = ps) :
    lawStep g ps j = Str.ofString "/" ++ Txt.join (Str.ofString "/") (plain ((l ++ ss.drop (j + 1)).map (·.1))) := by
  unfold lawStep nm
  unfold nm at ht
  rw [ht, if_pos c, txt_join, List.map_append, List.map_drop, h4, h2, List.nil_append]
theorem lawStep_rel {g : Ents} {ps : List Str} {j : Nat} {dd l ss : List (Str × Tok)} {t : Str} (ht : linkText g (nm (ps.take (j + 1))) = t) (c : ¬ Txt.slice t none (some 1) = Str.ofString "/") (h1 : dd.map (·.1) = ps.take (j + 1)) (hj : j < ps.length) (h2 : l.map (·.1) = Txt.split t (Str.ofString "/")) (h4 : ss.map (·.1) = ps) :
    lawStep g ps j = Str.ofString "/" ++ Txt.join (Str.ofString "/") (plain ((dd.dropLast ++ l ++ ss.drop (j + 1)).map (·.1))) := by
  have e : (ps.take (j + 1)).dropLast = ps.take j := by
    rw [List.take_add_one, List.getElem?_eq_getElem hj, Option.toList_some, List.dropLast_concat]
  unfold lawStep nm
  unfold nm at ht
  rw [ht, if_neg c, txt_join, List.map_append, List.map_append, List.map_drop, h4, h2, List.map_dropLast, h1, e]
theorem nm_join (ps : List Str) : nm ps = Str.ofString "/" ++ Txt.join (Str.ofString "/") ps := by unfold nm; rw [txt_join]
theorem join_T {prog : Program} {w : World} {A : Around} {E : Value → Shared → Prop} {s : Shared} {t : Tok} {Q : Value → Shared → Prop} {D : Addr} {l : List (Str × Tok)} {texts : List Str} (hl : s.heap.IsList D (strValues l).toArray) (ht : l.map (·.1) = texts) (htot : tot texts ≤ 100000)
    (hq : ∀ t' k, (Txt.join (Str.ofString "/") texts).length ≤ 100000 → Q (.str (Txt.join (Str.ofString "/") texts) t') { s with toks := k }) : wpAny (model prog w) A (call (.builtin "str.join") [.str (Str.ofString "/") t, .ref D]) Q E s :=
  SC.join hl ht (joinOk_tot (by omega)) fun t' k => hq t' k (join_tot_len htot)
end Mine
end
open PySem PySem.W PyProof.Rows
local macro_rules | `(tactic| walk_at "own slen") => `(tactic| (first | (with_reducible assumption) | ((with_reducible rename (_ = Txt.split _ (Str.ofString "/")) => hsp8); have h8 := Mine.split_len_of hsp8; (try simp only [List.length_append, List.length_drop, List.length_dropLast, List.length_cons, List.length_nil]); omega)))
section
open PySem PySem.W PyProof.Rows
theorem Mine.offL2 : True := by
  w_top off
  trivial
namespace Mine
section
variable {prog : Program} {w : World} {M : Model} {A : Around} {E : Value → Shared → Prop} {s : Shared} {h₀ : Heap} {L : Addr} {m : Str → Option Value} {news : List (Addr × Obj)}
theorem tup2_any {a b : Str} {t u : Tok} {Q : Value → Shared → Prop} (h : ∀ D h', (∀ b o, s.heap.get? b = some o → h'.get? b = some o) → IsTup h' D #[Value.str a t, Value.str b u] → Q (.ref D) { s with heap := h' }) : wpAny M A (newTuple [.str a t, .str b u]) Q E s :=
  wpAny_newTuple (h _ _ (fun _ _ e => Heap.get?_push_of_some _ e) ⟨_, Heap.get?_push_size _ rfl, rfl, _, rfl⟩) (by rw [sizeLine_eq]; exact Nat.le_of_ble_eq_true rfl)
theorem notin2 {D : Addr} {a b x : Str} {t u v : Tok} {Q : Value → Shared → Prop} (ht : IsTup s.heap D #[Value.str a t, Value.str b u]) (h : Q (.bool (!([a, b].any (· == x)))) s) : wpAny (model prog w) A (compareOp .NotIn (.str x v) (.ref D)) Q E s :=
  notin_tuple_strs (ys := [a, b]) ht (.cons _ _ (.cons _ _ .nil)) h
theorem strs_list {vs : List Value} {ys : List Str} (h : CarriedAll vs (ys.map PyData.str)) : ∃ l : List (Str × Tok), vs = strValues l ∧ l.map (·.1) = ys := by
  have := CarriedAll.strsOf (f := fun y : Str => y) h
  rw [List.map_id'] at this
  exact strsAre_values this
end
section
variable {w : World} {mean : ExcName → Option Value} {mg mb : Str → Option Value} {hdl : Option Value} {dp un : Nat} {gd : Option (List Code)} {cn : Str} {cs : Scope} {a : Addr} {ccd : Value} {cl : List (Str × Addr)} {outer : List Env}
variable {A₀ : Around} {base h₀ : Heap} {L : Addr} {m : Str → Option Value} {news : List (Addr × Obj)} {s : Shared} {Q E : Value → Shared → Prop}
local macro_rules | `(tactic| k_all) => `(tactic| first | (with_reducible assumption) | exact neOfLt (by with_reducible assumption))
local macro_rules | `(tactic| walk_at "call builtin:len") => `(tactic| (k_here; (with_reducible show wpAny _ _ (call (Value.builtin _) [Value.ref _]) _ _ _); k_dflt (refine' len_strs ?N ?m ?f ?_; (case N => k_asm); (case m => k_mem); (case f => (with_reducible assumption)))))
local macro_rules | `(tactic| walk_at "subscriptTail Name Name ref int") => `(tactic| (k_here; (with_reducible show wpAny _ _ (subscriptTail _ _ (Value.ref _) (Value.int _ _)) _ _ _); k_dflt (refine' item_strs ?N ?m ?e ?j ?y ?_ ?hs; (case N => k_asm); (case m => k_mem); (case e => exact Int.zero_add _); (case j => omega); (case y => (with_reducible assumption)); (case hs => with_unfolding_all rfl))))
local macro_rules | `(tactic| walk_at "getItem ref int") => `(tactic| (k_here; k_dflt (refine' getItem_strs ?N ?m ?e ?j ?y ?_; (case N => k_asm); (case m => k_mem); (case e => exact Int.zero_add _); (case j => omega); (case y => (with_reducible assumption)))))
local macro_rules | `(tactic| walk_at "subscriptTail Name Slice ref ref") => `(tactic| (k_here; k_dflt (refine' kmk_slice_lit ?F ?N ?l ?p ?q ?e ?_ ?s ?t ?z; (case F => k_asm); (case N => k_asm); (case l => kmk_list); (case p => kmk_part); (case q => kmk_part); (case e => first | exact pick_dlS _ | exact pick_fromS _ _); (case s => with_unfolding_all rfl); (case t => kmk_pure); (case z => (simp only [List.size_toArray, strValues_len, List.length_append, List.length_cons, List.length_nil, sizeLine_eq]; omega))); intro D' h' F' N' l1; (try k_lt l1)))
local macro_rules | `(tactic| walk_at "call builtin:list.append") => `(tactic| (k_here; (with_reducible show wpAny _ _ (call (Value.builtin _) [Value.ref _, _]) _ _ _); k_dflt (refine' append_ss ?k1 ?k2 ?k3 ?_ ?z; (case k1 => k_asm); (case k2 => k_asm); (case k3 => k_upd); (case z => omega); k_whole); intro h' F' N'))
local macro_rules | `(tactic| walk_at "binaryOp Add ref ref") => `(tactic| (k_here; first | (k_dflt (first | (refine' add_ns ?F ?N ?a ?b ?_ ?z; (case F => k_asm); (case N => k_asm); (case a => k_mem); (case b => k_mem); (case z => first | (with_reducible assumption) | ((with_reducible rename (_ = Txt.split _ (Str.ofString "/")) => hsp8); have h8 := split_len_of hsp8; (try simp only [List.length_append, List.length_drop, List.length_dropLast, List.length_cons, List.length_nil]); omega))) | (refine' add_ss ?F ?N ?a ?b ?_ ?z; (case F => k_asm); (case N => k_asm); (case a => k_mem); (case b => k_mem); (case z => first | (with_reducible assumption) | ((with_reducible rename (_ = Txt.split _ (Str.ofString "/")) => hsp8); have h8 := split_len_of hsp8; (try simp only [List.length_append, List.length_drop, List.length_dropLast, List.length_cons, List.length_nil]); omega)))); intro D' h' F' N' l1; (try k_lt l1)) | refine stop_here ?_))
local macro_rules | `(tactic| walk_at "compareOp In str ref") => `(tactic| (k_here; k_dflt (first | (refine' dk_in_none ?N ?m ?d ?l ?hv ?_; (case N => k_asm); (case m => k_mem); (case d => (with_reducible assumption)); (case l => (with_reducible assumption)); (case hv => (with_reducible assumption))) | (refine' dk_in_some ?N ?m ?d ?l ?hv ?_; (case N => k_asm); (case m => k_mem); (case d => (with_reducible assumption)); (case l => (with_reducible assumption)); (case hv => (with_reducible assumption))))))
local macro_rules | `(tactic| walk_at "subscriptTail") => `(tactic| (k_here; (with_reducible show wpAny _ _ (subscriptTail _ _ (Value.ref _) (Value.str _ _)) _ _ _); k_dflt (refine' dk_item ?N ?m ?d ?v ?_ ?a ?b; (case N => k_asm); (case m => k_mem); (case d => assumption); (case v => (with_reducible assumption)); (case a => with_unfolding_all rfl); (case b => intro _; with_unfolding_all rfl))))
local macro_rules | `(tactic| walk_at "call builtin:str.join") => `(tactic| (k_here; (k_dflt (refine' join_T ?l ?t ?o ?_; (case l => exact News.isList (by k_asm) (by k_mem)); (case t => (with_reducible assumption)); (case o => first | (with_reducible assumption) | ((with_reducible rename (_ = Txt.split _ (Str.ofString "/")) => hsp8); first | exact Nat.le_trans (tot_mix hsp8 (by with_reducible assumption)) (by omega) | exact Nat.le_trans (tot_mix3 (by with_reducible assumption) (by with_reducible assumption) hsp8 (by with_reducible assumption)) (by omega))))); intro t9 k9 hj9))
local macro_rules | `(tactic| walk_at "call ref") => `(tactic| (k_here; (with_reducible show wpAny _ _ (call (Value.ref 339) _) _ _ _); first | (k_dflt (refine' c_plain ?B ?F ?X ?N ?T ?hk ?hdp ?hun ?hh ?hl ?hx ?_; walk_at "own std8"; (case hh => rfl); (case hl => k_mem); (case hx => walk_at "own slen")); intro fl9 fs9 n9 h9 tk9 F9 N9 e9 l9) | refine stop_here ?_))
local macro_rules | `(tactic| walk_at "newTuple") => `(tactic| (k_here; (with_reducible show wpAny _ _ (newTuple [Value.str _ _, Value.str _ _]) _ _ _); refine tup2_any ?_; intro D' h' kp' tup'))
local macro_rules | `(tactic| walk_at "compareOp NotIn str ref") => `(tactic| (k_here; (refine notin2 (by with_reducible assumption) ?_)))
local macro_rules | `(tactic| walk_at "pyIter ref") => `(tactic| ((with_reducible show wpAny _ _ _ _ _ _); refine stop_here ?_))
theorem c_ltrue {x : Str} {tx : Tok} {ld : Addr} {ol : Obj} {lkvs : List (Str × Value)} {g : Ents} (B : Below A₀ base outer h₀) (F : Fr h₀ L s.heap m) (X : (hd.heap_1 w.params).In h₀) (N : News h₀ L s.heap news) (T : Top hd.view (looseW hd.view []) mean mg mb h₀) (hk : cs.kind = .function)
    (hdp : dp + 40 < recursionLimit) (hun : un + 80 < cLine) (hh : hdl = none) (hx : x.length ≤ 2000) (LO : LinksOk g) (hm : (ld, ol) ∈ news) (hd : ol.IsDictOf (KND w) lkvs) (lo : (ld == sysModules) = false) (LD : LinkD g lkvs)
    (hret : ∀ v h' tk', (match lawName g x with | none => v = Value.none | some y => ∃ ty, v = .str y ty) → Fr h₀ L h' m → News h₀ L h' news → Q v { s with heap := h', toks := tk' }) :
    wpAny (model PySem.Challenge.rw_pq0279_01.row.prog w) (AR hdl dp un gd cn cs L a ccd cl outer) (call (.ref 332) [.ref ld, .str x tx]) Q E s := by
  subst hh
  refine wpAny_call ?_
  k_dflt cell_enter
  k_steps
  unfold Stop
  rename IsRange _ _ _ _ _ _ _ _ => hr
  rename Fr _ _ _ _ => F2
  rename News _ _ _ _ => N2
  obtain ⟨m1, F3, hmn, hml⟩ : ∃ m1, Fr _ _ _ m1 ∧ m1 "name" = some (.str x tx) ∧ m1 "links" = some (.ref ld) := ⟨_, F2, rfl, rfl⟩
  clear F2 N
  refine it_rangeL (n := 12) (m₀ := m1) (nx₀ := []) (news := news)
    (fun i m nx => nx = [] ∧ ∃ y ty, m "name" = some (.str y ty) ∧ m "links" = some (.ref ld) ∧ lawName g x = lawGo g (12 - i) y ∧ y.length ≤ 2000 + 110 * i)
    rfl hr (by decide) (by decide) F3 N2 ⟨rfl, x, tx, hmn, hml, by unfold lawName; rfl, by omega⟩ rfl ?_ ?_
  · rintro i t' m₁ nx I oI h tk hi ⟨rfl, y, ty, hn, hlk, hy, hyl⟩ hI hI2 F₁ N₁
    have F4 := frN (frN F₁ (p := "name") ((if_neg (by decide)).trans hn)) (p := "links") ((if_neg (by decide)).trans ((if_neg (by decide)).trans hlk))
    clear F₁ F3 N2
    dsimp only [List.cons_append, List.nil_append] at N₁
    dsimp only
    k_steps
    unfold Stop
    rename Fr _ _ _ _ => F5
    rename News _ _ _ _ => N5
    rename StrsAre _ _ => hsa
    rename (_ = Txt.split _ _) => hsp
    rename_i lst _ _ _ _ _ _
    refine srcA_listD (α := Str) (K := .str) (pz := keepB) (d := PyData.str) rfl (News.isList N5 (.head _)) (StrsAre.areOf hsa) F5 N5 ?_ ?_ ?_ ?_
    · intro C a' v s₂ m₂ E' ha hns hm htk
      obtain ⟨ta, rfl⟩ := ha
      unfold keepB
      k_steps
      exact ⟨_, _, rfl, by assumption⟩
    · intro C a' v s₂ m₂ E' ha hp hns hm htk
      obtain ⟨ta, rfl⟩ := ha
      k_steps
      · exact .str _ _
      · exact ⟨_, _, rfl, fun _ _ e => e⟩
    · intro D ys h' tk' F6 N6 hD hDl hnp hca
      obtain ⟨ss, rfl, hss⟩ := strs_list hca
      obtain ⟨⟨nD, hDo⟩, hDn⟩ := id hnp
      have N7 : News _ _ h' ((D, W.listOf (strValues ss).toArray nD) :: _) := fun p hp => by
        rcases List.mem_cons.mp hp with rfl | hp
        · exact ⟨hDo, hnp.ne_locals F6, hD⟩
        · exact N6 p hp
      have hps : ss.map (·.1) = stepsL y := by rw [hss, hsp]; rfl
      have htp : tot (stepsL y) ≤ 5000 := by have := tot_stepsL y; omega
      have hsl : ss.length = (stepsL y).length := by rw [← hps, List.length_map]
      have hsl5 : ss.length ≤ 5000 := by have := len_le_tot (stepsL y); omega
      have hsl1 : ss.length ≤ 100000 := by have := len_le_tot (stepsL y); omega
      clear N6 hnp hDo hDl hca
      k_steps
      unfold Stop
      rename IsRange _ _ _ _ _ _ _ _ => hr
      rename Fr _ _ _ _ => F8
      rename News _ _ _ _ => N8
      rename (_ ∧ _ ∧ _ ∧ AllLt _ news) => hlt
      obtain ⟨m2, dl, F9, hdone, hled, hsteps, hname, hlinks, N9, hdD, hdI, hdn⟩ : ∃ m2 dl, Fr _ _ _ m2 ∧ m2 "done" = some (.ref dl) ∧ m2 "is_led" = some (.bool false) ∧ m2 "steps" = some (.ref D) ∧ m2 "name" = some (.str y ty) ∧ m2 "links" = some (.ref ld) ∧ News _ _ _ ((dl, W.listOf (strValues []).toArray 0) :: (D, W.listOf (strValues ss).toArray nD) :: (I, oI) :: news) ∧ @Ne Nat dl D ∧ @Ne Nat dl I ∧ (∀ p ∈ news, p.1 ≠ dl) :=
        ⟨_, _, F8, rfl, rfl, rfl, rfl, rfl, fun p hp => by
          rcases List.mem_cons.mp hp with rfl | hp
          · exact N8 _ (.tail _ (.head _))
          rcases List.mem_cons.mp hp with rfl | hp
          · exact N8 _ (.tail _ (.tail _ (.head _)))
          · exact N8 p (.tail _ (.tail _ (.tail _ (.tail _ hp)))), Nat.ne_of_gt hlt.1, Nat.ne_of_gt hlt.2.2.1, neOfAll hlt.2.2.2⟩
      clear F8 N8 hlt
      refine it_rangeL (n := ss.length) (m₀ := m2) (nx₀ := [(dl, W.listOf (strValues []).toArray 0)]) (news := (D, W.listOf (strValues ss).toArray nD) :: (I, oI) :: news)
        (fun j m nx => ∃ dd nd, nx = [(dl, W.listOf (strValues dd).toArray nd)] ∧ dd.map (·.1) = (stepsL y).take j ∧ m "done" = some (.ref dl) ∧ m "is_led" = some (.bool false) ∧ m "steps" = some (.ref D) ∧ m "name" = some (.str y ty) ∧ m "links" = some (.ref ld) ∧ (∀ i, i < j → isLink g (nm ((stepsL y).take (i + 1))) = false))
        rfl hr (range_small (by omega) (by omega)) (by rw [rangeSize_nat]; simp) F9 N9 ⟨[], 0, rfl, rfl, hdone, hled, hsteps, hname, hlinks, fun i hi => absurd hi (Nat.not_lt_zero _)⟩ rfl ?_ ?_
      · rintro j t2 m₃ nx I2 oI2 h₃ tk₃ hj ⟨dd, nd, rfl, hdd, hdone, hled, hsteps, hname, hlinks, hnl⟩ hI3 hI4 F₁ N₁
        obtain ⟨⟨yy, tyy⟩, hyy⟩ : ∃ p, ss[j]? = some p := ⟨_, List.getElem?_eq_getElem hj⟩
        have hpy : (stepsL y)[j]? = some yy := by rw [← hps, List.getElem?_map, hyy]; rfl
        have hP : (dd ++ [(yy, tyy)]).map (·.1) = (stepsL y).take (j + 1) := by
          rw [List.map_append, hdd, List.take_add_one, hpy]; rfl
        have htP : tot ((stepsL y).take (j + 1)) ≤ 100000 := by have := tot_take (stepsL y) (j + 1); omega
        have hddl : dd.length = j := by
          have := congrArg List.length hdd
          rw [List.length_map, List.length_take] at this
          omega
        have hjp : j < (stepsL y).length := by omega
        have hd2 : @Ne Nat dl I2 := hI4 (dl, W.listOf (strValues dd).toArray nd) (.head _)
        have F4 := frN (frN (frN (frN (frN F₁ (p := "done") ((if_neg (by decide)).trans hdone)) (p := "is_led") ((if_neg (by decide)).trans ((if_neg (by decide)).trans hled))) (p := "steps") ((if_neg (by decide)).trans ((if_neg (by decide)).trans ((if_neg (by decide)).trans hsteps)))) (p := "name") ((if_neg (by decide)).trans ((if_neg (by decide)).trans ((if_neg (by decide)).trans ((if_neg (by decide)).trans hname))))) (p := "links") ((if_neg (by decide)).trans ((if_neg (by decide)).trans ((if_neg (by decide)).trans ((if_neg (by decide)).trans ((if_neg (by decide)).trans hlinks)))))
        clear F₁ F9 N9
        dsimp only [List.cons_append, List.nil_append] at N₁
        dsimp only
        by_cases hlkk : isLink g (nm ((stepsL y).take (j + 1))) = true
        · obtain ⟨txt, tkx, h1, h2, hv⟩ := linkD_some LD hlkk
          rw [nm_join] at hv
          have htx := LO _ _ h1
          obtain ⟨k, hk12⟩ : ∃ k, 12 - i = k + 1 := ⟨11 - i, by omega⟩
          have hfl := firstLed_some hjp hlkk hnl
          rw [hk12] at hy
          unfold lawGo at hy
          rw [hfl] at hy
          dsimp only at hy
          have hk1 : 12 - (i + 1) = k := by omega
          k_steps
          · rename ((Txt.slice txt none _ == _) = true) => c1
            rename (_ = Txt.split txt _) => hsp2
            have hls := lawStep_abs h2 (by simpa using c1) hsp2 hps
            have htm := tot_mix (j := j) hsp2 hps
            dsimp only [TPost]
            k_steps
            rename Fr _ _ _ _ => F5
            rename News _ _ _ _ => N5
            rw [hls] at hy
            refine TEnd.intro (nx' := []) F5 (newsSub N5 (by intro p hp; repeat (first | exact hp | refine List.Mem.tail _ ?_))) (fun p hp => nomatch hp) ⟨rfl, _, _, rfl, rfl, ?_, ?_⟩
            · rw [hy, hk1]
            · have h7 := Nat.le_trans (join_len _) htm
              have h8 := tot_stepsL y
              have h9 : (Str.ofString "/").length = 1 := by decide
              rw [Str.length_append, txt_join]
              omega
          · rename ((Txt.slice txt none _ == _) = false) => c1
            rename (_ = Txt.split txt _) => hsp2
            have hls := lawStep_rel h2 (by simpa using c1) hP hjp hsp2 hps
            have htm := tot_mix3 hP hjp hsp2 hps
            dsimp only [TPost]
            k_steps
            rename Fr _ _ _ _ => F5
            rename News _ _ _ _ => N5
            rw [hls] at hy
            refine TEnd.intro (nx' := []) F5 (newsSub N5 (by intro p hp; repeat (first | exact hp | refine List.Mem.tail _ ?_))) (fun p hp => nomatch hp) ⟨rfl, _, _, rfl, rfl, ?_, ?_⟩
            · rw [hy, hk1]
            · have h7 := Nat.le_trans (join_len _) htm
              have h8 := tot_stepsL y
              have h9 : (Str.ofString "/").length = 1 := by decide
              rw [Str.length_append, txt_join]
              omega
        · have hv := linkD_none LD (by simpa using hlkk)
          rw [nm_join] at hv
          k_steps
          rename Fr _ _ _ _ => F5
          rename News _ _ _ _ => N5
          refine TEnd.one F5 N5 (by intro p hp; repeat (first | exact hp | refine List.Mem.tail _ ?_)) hd2 ⟨dd ++ [(yy, tyy)], nd + 1, rfl, hP, rfl, rfl, rfl, rfl, rfl, fun i hi => ?_⟩
          rcases Nat.lt_succ_iff_lt_or_eq.mp hi with hi | rfl
          · exact hnl i hi
          · simpa using hlkk
      · rintro m₃ nx h₃ tk₃ ⟨dd, nd, rfl, hdd, hdone, hled, hsteps, hname, hlinks, hnl⟩ F₁ N₁
        obtain ⟨k, hk12⟩ : ∃ k, 12 - i = k + 1 := ⟨11 - i, by omega⟩
        have hfl := firstLed_none (g := g) (ps := stepsL y) (by rw [← hsl]; exact hnl)
        rw [hk12] at hy
        unfold lawGo at hy
        rw [hfl] at hy
        dsimp only at hy
        rw [hsl, List.take_of_length_le (Nat.le_refl _)] at hdd
        have htP : tot (stepsL y) ≤ 100000 := by omega
        have F4 := frN (frN (frN (frN F₁ (p := "done") hdone) (p := "is_led") ((if_neg (by decide)).trans hled)) (p := "name") ((if_neg (by decide)).trans ((if_neg (by decide)).trans hname))) (p := "links") ((if_neg (by decide)).trans ((if_neg (by decide)).trans ((if_neg (by decide)).trans hlinks)))
        clear F₁ F9 N9
        dsimp only [List.cons_append, List.nil_append] at N₁
        dsimp only
        k_steps
        dsimp only [TPost]
        k_steps
        rw [nm_join] at hy
        rw [hy] at hret
        exact hret _ _ _ ⟨_, rfl⟩ (by k_asm) (newsSub (by k_asm) (by intro p hp; repeat (first | exact hp | refine List.Mem.tail _ ?_)))
    · rw [hsp]
      have h5 : (Txt.split y (Str.ofString "/")).length ≤ y.length + 1 := split_len y
      rw [sizeLine_eq]
      omega
  · rintro m₁ nx h tk ⟨rfl, y, ty, hn, hlk, hy, hyl⟩ F₁ N₁
    have hno : lawName g x = none := by simpa [lawGo] using hy
    rw [hno] at hret
    have F4 := frN (frN F₁ (p := "name") hn) (p := "links") ((if_neg (by decide)).trans hlk)
    clear F₁ F3 N2
    dsimp only [List.cons_append, List.nil_append] at N₁
    dsimp only
    k_steps
    exact hret _ _ _ rfl (by k_asm) (by k_asm)
end
end Mine
end
section
open PySem PySem.W PyProof.Rows
theorem Mine.offA1 : True := by
  w_top off
  trivial
namespace Mine
section
variable {w : World} {mean : ExcName → Option Value} {mg mb : Str → Option Value} {hdl : Option Value} {dp un : Nat} {gd : Option (List Code)} {cn : Str} {cs : Scope} {a : Addr} {ccd : Value} {cl : List (Str × Addr)} {outer : List Env}
variable {A₀ : Around} {base h₀ : Heap} {L : Addr} {m : Str → Option Value} {news : List (Addr × Obj)} {s : Shared} {Q E : Value → Shared → Prop}
local macro_rules | `(tactic| walk_at "call ref") => `(tactic| (k_here; (with_reducible show wpAny _ _ (call (Value.ref 124) _) _ _ _); first | (k_dflt (refine' c_true ?B ?F ?X ?N ?T ?hk ?hdp ?hun ?hh ?hx ?hx0 ?LO ?TR (fun y9 t9 h9 tk9 hy9 F9 N9 => ?_) (fun e9 gg9 h9 tk9 hno9 FG9 R9 U9 => ?_); (case B => k_asm); (case F => k_asm); (case X => k_asm); (case N => k_asm); (case T => k_asm); (case hk => rfl); (case hdp => ktr_room); (case hun => ktr_units); (case hh => rfl); (case hx => (with_reducible assumption)); (case hx0 => (with_reducible assumption)); (case LO => (with_reducible assumption)); (case TR => walk_at "own tree"))) | refine stop_here ?_))
theorem c_asked {x : Str} {tx : Tok} {t td de : Addr} {g : Ents} (B : Below A₀ base [] h₀) (F : Fr h₀ L s.heap m) (X : (hd.heap_1 w.params).In h₀) (N : News h₀ L s.heap news) (T : Top hd.view (looseW hd.view []) mean mg mb h₀) (hk : cs.kind = .function)
    (XB : (hd.heap_1 w.params).In base) (TB : Top hd.view (looseW hd.view []) mean mg mb base)
    (hdp : dp + 60 < recursionLimit) (hun : un + 120 < cLine) (hh : hdl = none) (hx : x.length ≤ 2000) (hx0 : (cpl x).head? = some 47) (LO : LinksOk g) (TR : TreeR w news t td de g)
    (hret : ∀ v h' tk', (match trueName g x with | none => v = Value.none | some y => ∃ ty, v = .str y ty) → Fr h₀ L h' m → News h₀ L h' news → Q v { s with heap := h', toks := tk' }) :
    wpAny (model PySem.Challenge.rw_pq0279_01.row.prog w) (AR hdl dp un gd cn cs L a ccd [] []) (call (.ref 346) [.ref t, .str x tx]) Q E s := by
  subst hh
  have TR' := TR
  obtain ⟨M1, ⟨t1, t2, t3, cv, lv, M2⟩, oe, kvs, M3, lo, hdo, EO⟩ := TR'
  refine wpAny_call ?_
  k_dflt (refine' code_defS0 ?k1 ?k2 ?k3 ?k4 ?k5 ?kA ?k6 ?k7 ?k8 ?k9 ?kB ?_ ?cK ?c2 ?c3 ?c4 ?c5; (case kA => exact rfl); (case k2 => k_asm); (case k1 => k_asm); (case k3 => k_asm); (case k4 => k_asm); (case k5 => k_asm); (case k6 => k_is); (case k7 => k_is); (case k8 => k_room); (case k9 => exact BindsTo.of_eq rfl); (case kB => exact locs rfl); (case cK => assumption); (case c2 => exact rfl); (case c3 => exact rfl); (case c4 => exact rfl); (case c5 => decide); k_whole; intro g' L' h' FG' F' N' B' X' T' D'; (try dsimp only); (try k_fold))
  k_steps
  · rename (trueName g x = some _) => hy
    rw [hy] at hret
    exact hret _ _ _ ⟨_, rfl⟩ (by k_asm) (by k_asm)
  · rename (trueName g x = none) => hy
    rw [hy] at hret
    exact hret _ _ _ rfl (by k_asm) (by k_asm)
end
end Mine
end
section
open PySem PySem.W PyProof.Rows
theorem Mine.offA3 : True := by
  w_top off
  trivial
namespace Mine
/- true_name where there is nothing to follow: also while an exception is handled -/
theorem FirstAt.ofL {prog : Program} {w : World} {A : Around} {E : Value → Shared → Prop} {s₁ : Shared} {env : Env} {h₀ : Heap} {x : Str} {body : List Stmt} {Q : Flow → Shared → Prop} {Lx r : Addr} {a b : Int} {t u v : Tok} {n : Nat} {m : Str → Option Value} {news : List (Addr × Obj)}
    (hr : IsRange s₁.heap r a b 1 t u v) (hs : Builtin.Range.small a b 1 = true) (hn : Builtin.Range.rangeSize a b 1 = ((n : Nat) : Int)) (hp : 0 < n) (F : Fr h₀ Lx s₁.heap m) (N : News h₀ Lx s₁.heap news) (hL : env.locals = Lx)
    (hb : ∀ t' h tk, Fr h₀ Lx h (fun y => if y = x then some (.int a t') else m y) → News h₀ Lx h news → wpAny (model prog w) A (execs body env) (fun f s' => match f with | .ret v => Q (.ret v) s' | _ => False) E { s₁ with heap := h, toks := tk }) :
    FirstAt prog w A h₀ env x body Q E (.ref r) s₁ := by
  subst hL
  exact ⟨r, a, b, t, u, v, n, m, news, rfl, hr, hs, hn, hp, F, N, hb⟩
section
variable {w : World} {mean : ExcName → Option Value} {mg mb : Str → Option Value} {hdl : Option Value} {dp un : Nat} {gd : Option (List Code)} {cn : Str} {cs : Scope} {a : Addr} {ccd : Value} {cl : List (Str × Addr)} {outer : List Env}
variable {A₀ : Around} {base h₀ : Heap} {L : Addr} {m : Str → Option Value} {news : List (Addr × Obj)} {s : Shared} {Q E : Value → Shared → Prop}
local macro_rules | `(tactic| walk_at "call ref") => `(tactic| (k_here; (with_reducible show wpAny _ _ (call (Value.ref 131) _) _ _ _); first | (k_dflt (refine' c_first ?B ?F ?X ?N ?T ?hk ?hdp ?hun ?hx ?TR ?_; walk_at "own std8"; (case hx => (with_reducible assumption)); (case TR => walk_at "own tree")); intro t9 h9 tk9 F9 N9) | refine stop_here ?_))
local macro_rules | `(tactic| walk_at "exec For Name Call cons nil") => `(tactic| (k_here; (rename Fr _ _ _ _ => lF'); (with_unfolding_all refine' For_first lF' ?k1 ?k2 ?_; (case k1 => exact rfl); (case k2 => exact rfl); k_whole)))
theorem c_true0 {x : Str} {tx : Tok} {t td de : Addr} {g : Ents} (B : Below A₀ base outer h₀) (F : Fr h₀ L s.heap m) (X : (hd.heap_1 w.params).In h₀) (N : News h₀ L s.heap news) (T : Top hd.view (looseW hd.view []) mean mg mb h₀) (hk : cs.kind = .function)
    (hdp : dp + 40 < recursionLimit) (hun : un + 80 < cLine) (hx : x.length ≤ 2000) (TR : TreeR w news t td de g) (hf : firstLink g x = Str.ofString "")
    (hret : ∀ ty h' tk', Fr h₀ L h' m → News h₀ L h' news → Q (.str x ty) { s with heap := h', toks := tk' }) :
    wpAny (model PySem.Challenge.rw_pq0279_01.row.prog w) (AR hdl dp un gd cn cs L a ccd cl outer) (call (.ref 124) [.ref t, .str x tx]) Q E s := by
  have TR' := TR
  obtain ⟨M1, ⟨t1, t2, t3, cv, lv, M2⟩, oe, kvs, M3, lo, hdo, EO⟩ := TR'
  have hx1 : x.length ≤ 100000 := by omega
  refine wpAny_call ?_
  k_dflt cell_enter
  k_steps
  rename IsRange _ _ _ _ _ _ _ _ => hr
  rename Fr _ _ _ _ => F2
  rename News _ _ _ _ => N2
  obtain ⟨m1, F3, hma, hmn, hms⟩ : ∃ m1, Fr _ _ _ m1 ∧ m1 "at" = some (.str x tx) ∧ m1 "name" = some (.str x tx) ∧ m1 "self" = some (.ref t) := ⟨_, F2, rfl, rfl, rfl⟩
  clear F2 N
  refine FirstAt.ofL (n := 12) hr (by decide) (by decide) (by decide) F3 N2 rfl (fun t' h tk F₁ N₁ => ?_)
  have F4 := frN (frN (frN F₁ (p := "at") ((if_neg (by decide)).trans hma)) (p := "name") ((if_neg (by decide)).trans ((if_neg (by decide)).trans hmn))) (p := "self") ((if_neg (by decide)).trans ((if_neg (by decide)).trans ((if_neg (by decide)).trans hms)))
  clear F₁ F3 N2
  dsimp only
  k_steps
  · exact hret _ _ _ (by k_asm) (by k_asm)
  · rename ((_ == _) = false) => c1
    exact absurd hf (by simpa using c1)
end
section
variable {w : World} {mean : ExcName → Option Value} {mg mb : Str → Option Value} {hdl : Option Value} {dp un : Nat} {gd : Option (List Code)} {cn : Str} {cs : Scope} {a : Addr} {ccd : Value} {cl : List (Str × Addr)} {outer : List Env}
variable {A₀ : Around} {base h₀ : Heap} {L : Addr} {m : Str → Option Value} {news : List (Addr × Obj)} {s : Shared} {Q E : Value → Shared → Prop}
local macro_rules | `(tactic| walk_at "call ref") => `(tactic| (k_here; (with_reducible show wpAny _ _ (call (Value.ref 124) _) _ _ _); first | (k_dflt (refine' c_true0 ?B ?F ?X ?N ?T ?hk ?hdp ?hun ?hx ?TR ?hf ?_; walk_at "own std8"; (case hx => (with_reducible assumption)); (case TR => walk_at "own tree"); (case hf => (with_reducible assumption))); intro t9 h9 tk9 F9 N9) | refine stop_here ?_))
local macro_rules | `(tactic| walk_at "call ref") => `(tactic| (k_here; (with_reducible show wpAny _ _ (call (Value.ref 306) _) _ _ _); first | (k_dflt (refine' c_parent ?B ?F ?X ?N ?T ?hk ?hdp ?hun ?hpre ?hx ?_; walk_at "own std8"; (case hpre | hx => (with_reducible assumption))); intro t9 h9 tk9 F9 N9) | refine stop_here ?_))
local macro_rules | `(tactic| walk_at "call ref") => `(tactic| (k_here; (with_reducible show wpAny _ _ (call (Value.ref 55) _) _ _ _); first | (k_dflt (refine' c_last ?B ?F ?X ?N ?T ?hk ?hdp ?hun ?hx ?_; walk_at "own std8"; (case hx => (with_reducible assumption))); intro t9 h9 tk9 F9 N9) | refine stop_here ?_))
local macro_rules | `(tactic| walk_at "call ref") => `(tactic| (k_here; (with_reducible show wpAny _ _ (call (Value.ref 313) _) _ _ _); first | (k_dflt (refine' c_joined ?B ?F ?X ?N ?T ?hk ?hdp ?hun ?hx ?hy ?_; walk_at "own std8"; (case hx | hy => (with_reducible assumption))); intro t9 h9 tk9 F9 N9) | refine stop_here ?_))
local macro_rules | `(tactic| walk_at "getMethod ref") => `(tactic| (k_here; k_dflt (refine' dk_getm ?N ?m ?d ?_; (case N => k_asm); (case m => k_mem); (case d => (with_reducible assumption)))))
local macro_rules | `(tactic| walk_at "call builtin:dict.get") => `(tactic| (k_here; k_dflt (first
  | (refine' get_none ?N ?m ?d ?l ?EO ?hl ?_; walk_at "own get"; (case hl => (with_reducible assumption)))
  | (refine' get_some ?N ?m ?d ?l ?EO ?hl (fun e ed t1 t2 t3 t4 ts cv n nt e1 e2 e3 => ?_); walk_at "own get"; (case hl => (with_reducible assumption)))
  | (refine' get_ent ?N ?m ?d ?l ?EO (fun hlk => ?_) (fun k e ed t1 t2 t3 t4 ts cv n nt hlk e1 e2 e3 => ?_); walk_at "own get"))))
local macro_rules | `(tactic| walk_at "subscriptTail") => `(tactic| (k_here; (with_reducible show wpAny _ _ (subscriptTail _ _ (Value.ref _) (Value.str _ _)) _ _ _); k_dflt (refine' dk_item ?N ?m ?d ?v ?_ ?a ?b; (case N => k_asm); (case m => k_mem); (case d => assumption); (case v => (with_reducible assumption)); (case a => with_unfolding_all rfl); (case b => intro _; with_unfolding_all rfl))))
theorem c_ltext {x wh : Str} {tx : Tok} {t td de : Addr} {g : Ents} (B : Below A₀ base outer h₀) (F : Fr h₀ L s.heap m) (X : (hd.heap_1 w.params).In h₀) (N : News h₀ L s.heap news) (T : Top hd.view (looseW hd.view []) mean mg mb h₀) (hk : cs.kind = .function)
    (hdp : dp + 80 < recursionLimit) (hun : un + 160 < cLine) (hx : x.length ≤ 500) (hx0 : (cpl x).head? = some 47) (hne : x ≠ Str.ofString "/") (TR : TreeR w news t td de g)
    (hf : firstLink g (parentOf x) = Str.ofString "") (hj : joinedS (parentOf x) (lastPart x) = wh) (hfree : look g wh = none)
    (hret : ∀ h' tk', Fr h₀ L h' m → News h₀ L h' news → Q .none { s with heap := h', toks := tk' }) :
    wpAny (model PySem.Challenge.rw_pq0279_01.row.prog w) (AR hdl dp un gd cn cs L a ccd cl outer) (call (.ref 208) [.ref t, .str x tx]) Q E s := by
  have TR' := TR
  obtain ⟨M1, ⟨t1, t2, t3, cv, lv, M2⟩, oe, kvs, M3, lo, hdo, EO⟩ := TR'
  have hpf := parentOf_facts hx0
  have hp1 : (parentOf x).length ≤ 2000 := by omega
  have hp2 : (parentOf x).length ≤ 100000 := by omega
  have hrf := rfind_nonneg hx0
  have hx1 : x.length ≤ 100000 := by omega
  have hl1 : (Txt.slice x (some (Txt.rfind x (Str.ofString "/") + 1)) none).length ≤ 100000 := Nat.le_trans (Txt.slice_le _ _ _) hx1
  have hfree' : look g (joinedS (parentOf x) (Txt.slice x (some (Txt.rfind x (Str.ofString "/") + 1)) none)) = none := by rw [← hj] at hfree; exact hfree
  refine wpAny_call ?_
  k_dflt cell_enter
  k_steps
  · exact hret _ _ (by k_asm) (by k_asm)
  · rename ((x == _) = true) => c1
    exact absurd (by simpa using c1) hne
  · exact hret _ _ (by k_asm) (by k_asm)
  · exact hret _ _ (by k_asm) (by k_asm)
end
end Mine
end
section
open PySem PySem.W PyProof.Rows
theorem Mine.offA2 : True := by
  w_top off
  trivial
namespace Mine
section
variable {w : World} {mean : ExcName → Option Value} {mg mb : Str → Option Value} {hdl : Option Value} {dp un : Nat} {gd : Option (List Code)} {cn : Str} {cs : Scope} {a : Addr} {ccd : Value} {cl : List (Str × Addr)} {outer : List Env}
variable {A₀ : Around} {base h₀ : Heap} {L : Addr} {m : Str → Option Value} {news : List (Addr × Obj)} {s : Shared} {Q E : Value → Shared → Prop}
local macro_rules | `(tactic| walk_at "call ref") => `(tactic| (k_here; (with_reducible show wpAny _ _ (call (Value.ref 138) _) _ _ _); first | (k_dflt (refine' c_ptrueW ?B ?F ?X ?N ?T ?hk ?hdp ?hun ?hh ?hx ?hx0 ?hne ?LO ?TR ?hy ?hj ?_; walk_at "own std8"; (case hh => rfl); (case hx | hx0 | hne | LO => (with_reducible assumption)); (case TR => walk_at "own tree"); (case hy | hj => (with_reducible assumption))); intro t9 h9 tk9 F9 N9) | refine stop_here ?_))
local macro_rules | `(tactic| walk_at "call ref") => `(tactic| (k_here; (with_reducible show wpAny _ _ (call (Value.ref 38) _) _ _ _); first | (k_dflt (refine' c_exc ?B ?F ?X ?N ?T ?hk ?hdp ?_; walk_at "own std7"); intro e9 ob9 tp9 h9 tk9 F9 N9 g9 c9 d9 n9 a9 l9) | refine stop_here ?_))
local macro_rules | `(tactic| walk_at "exec Raise some none") => `(tactic| ((with_reducible show wpAny _ _ _ _ _ _); refine stop_here ?_))
theorem c_mklink0 {x y wh : Str} {tx tt : Tok} {t td de : Addr} {g : Ents} (B : Below A₀ base outer h₀) (F : Fr h₀ L s.heap m) (X : (hd.heap_1 w.params).In h₀) (N : News h₀ L s.heap news) (T : Top hd.view (looseW hd.view []) mean mg mb h₀) (hk : cs.kind = .function)
    (hdp : dp + 80 < recursionLimit) (hun : un + 160 < cLine) (hh : hdl = none) (hx : x.length ≤ 500) (hx0 : (cpl x).head? = some 47) (hne : x ≠ Str.ofString "/") (LO : LinksOk g) (TR : TreeR w news t td de g)
    (hy : trueName g (parentOf x) = some y) (hj : joinedS y (lastPart x) = wh)
    (hexc : ∀ e gg h' tk', Fr h₀ L gg m → RaisedSN base gg (envX cn cs L a ccd cl :: outer) e (.ref 38) news h' → gg.UpToSlots h' → E (.ref e) { s with heap := h', toks := tk' }) :
    wpAny (model PySem.Challenge.rw_pq0279_01.row.prog w) (AR hdl dp un gd cn cs L a ccd cl outer) (call (.ref 257) [.ref t, .str (Str.ofString "") tt, .str x tx]) Q E s := by
  subst hh
  have TR' := TR
  obtain ⟨M1, ⟨t1, t2, t3, cv, lv, M2⟩, oe, kvs, M3, lo, hdo, EO⟩ := TR'
  refine wpAny_call ?_
  k_dflt cell_enter
  k_steps
  unfold Stop
  refine exec_raise (w := w) rfl ?_
  k_steps
  rename Below _ base (envX cn cs L a ccd cl :: outer) _ => B5
  rename Fr h₀ L _ m => FG
  rename Fr _ _ _ (fun _ => _) => F5
  rename News _ _ _ (_ :: news) => N5
  rename (∀ p ∈ (_ :: news), p.1 ≠ _) => hne
  rename (Heap.get? _ _ = none) => he0
  rename (Heap.get? _ _ = some _) => hob
  rename (_ = Value.ref 38) => hoc
  rename (_ = Data.fields _) => hod
  refine ⟨_, rfl, ⟨_, _, hob, hoc, hod⟩, leave_exS B5 F5 (newsSub N5 (by intro p hp; exact .tail _ hp)) ⟨_, _, hob, hoc, hod⟩ he0 (fun p hp => hne p (.tail _ hp)) fun h' R U => ?_⟩
  exact hexc _ _ _ _ FG R U
end
section
variable {w : World} {mean : ExcName → Option Value} {mg mb : Str → Option Value} {hdl : Option Value} {dp un : Nat} {gd : Option (List Code)} {cn : Str} {cs : Scope} {a : Addr} {ccd : Value} {cl : List (Str × Addr)} {outer : List Env}
variable {A₀ : Around} {base h₀ : Heap} {L : Addr} {m : Str → Option Value} {news : List (Addr × Obj)} {s : Shared} {Q E : Value → Shared → Prop}
local macro_rules | `(tactic| walk_at "call ref") => `(tactic| (k_here; (with_reducible show wpAny _ _ (call (Value.ref 208) _) _ _ _); first | (k_dflt (refine' c_ltext ?B ?F ?X ?N ?T ?hk ?hdp ?hun ?hx ?hx0 ?hne ?TR ?hf ?hj ?hfree ?_; walk_at "own std8"; (case hx | hx0 | hne => (with_reducible assumption)); (case TR => walk_at "own tree"); (case hf | hj | hfree => (with_reducible assumption))); intro h9 tk9 F9 N9) | refine stop_here ?_))
local macro_rules | `(tactic| walk_at "call ref") => `(tactic| (k_here; (with_reducible show wpAny _ _ (call (Value.ref 257) _) _ _ _); first | (k_dflt (refine' c_mklink0 ?B ?F ?X ?N ?T ?hk ?hdp ?hun ?hh ?hx ?hx0 ?hne ?LO ?TR ?hy ?hj (fun e9 gg9 h9 tk9 FG9 R9 U9 => ?_); (case B => k_asm); (case F => k_asm); (case X => k_asm); (case N => k_asm); (case T => k_asm); (case hk => rfl); (case hdp => ktr_room); (case hun => ktr_units); (case hh => rfl); (case hx => (with_reducible assumption)); (case hx0 => (with_reducible assumption)); (case hne => (with_reducible assumption)); (case LO => (with_reducible assumption)); (case TR => walk_at "own tree"); (case hy => (with_reducible assumption)); (case hj => (with_reducible assumption)))) | refine stop_here ?_))
theorem c_refused {wh : Str} {t td de : Addr} {g : Ents} (B : Below A₀ base [] h₀) (F : Fr h₀ L s.heap m) (X : (hd.heap_1 w.params).In h₀) (N : News h₀ L s.heap news) (T : Top hd.view (looseW hd.view []) mean mg mb h₀) (hk : cs.kind = .function)
    (XB : (hd.heap_1 w.params).In base) (TB : Top hd.view (looseW hd.view []) mean mg mb base)
    (hdp : dp + 100 < recursionLimit) (hun : un + 200 < cLine) (hh : hdl = none) (LO : LinksOk g) (TR : TreeR w news t td de g)
    (hf : firstLink g (parentOf (Str.ofString "/d/none")) = Str.ofString "") (hj : joinedS (parentOf (Str.ofString "/d/none")) (lastPart (Str.ofString "/d/none")) = wh) (hfree : look g wh = none)
    (hret : ∀ h' tk', Fr h₀ L h' m → News h₀ L h' news → Q (.bool true) { s with heap := h', toks := tk' }) :
    wpAny (model PySem.Challenge.rw_pq0279_01.row.prog w) (AR hdl dp un gd cn cs L a ccd [] []) (call (.ref 353) [.ref t]) Q E s := by
  subst hh
  have TR' := TR
  obtain ⟨M1, ⟨t1, t2, t3, cv, lv, M2⟩, oe, kvs, M3, lo, hdo, EO⟩ := TR'
  have hx : (Str.ofString "/d/none").length ≤ 500 := by decide
  have hx0 : (cpl (Str.ofString "/d/none")).head? = some 47 := by decide
  have hne : Str.ofString "/d/none" ≠ Str.ofString "/" := by decide
  have hy : trueName g (parentOf (Str.ofString "/d/none")) = some (parentOf (Str.ofString "/d/none")) := by
    unfold trueName trueGo
    rw [if_pos hf]
  refine wpAny_call ?_
  k_dflt (refine' code_defS0 ?k1 ?k2 ?k3 ?k4 ?k5 ?kA ?k6 ?k7 ?k8 ?k9 ?kB ?_ ?cK ?c2 ?c3 ?c4 ?c5; (case kA => exact rfl); (case k2 => k_asm); (case k1 => k_asm); (case k3 => k_asm); (case k4 => k_asm); (case k5 => k_asm); (case k6 => k_is); (case k7 => k_is); (case k8 => k_room); (case k9 => exact BindsTo.of_eq rfl); (case kB => exact locs rfl); (case cK => assumption); (case c2 => exact rfl); (case c3 => exact rfl); (case c4 => exact rfl); (case c5 => decide); k_whole; intro g' L' h' FG' F' N' B' X' T' D'; (try dsimp only); (try k_fold))
  k_steps
  exact hret _ _ (by k_asm) (by k_asm)
end
end Mine
end
section
open PySem PySem.W PyProof.Rows
theorem Mine.offB0 : True := by
  w_top off
  trivial
namespace Mine
/- the names that the law builds -/
structure MkOk (g : Ents) (x : Str) : Prop where
  hx : x.length ≤ 500
  hx0 : (cpl x).head? = some 47
  hne : x ≠ Str.ofString "/"
  hy : trueName g (parentOf x) = some (parentOf x)
  hj : joinedS (parentOf x) (lastPart x) = x
  hfree : look g x = none
  hdir : look g (parentOf x) = some .dir
structure WrOk (g : Ents) (x : Str) : Prop where
  hx : x.length ≤ 500
  hx0 : (cpl x).head? = some 47
  hy : trueName g x = some x
  hfree : look g x = none
  hz : trueName g (parentOf x) = some (parentOf x)
  hdir : look g (parentOf x) = some .dir
def dirs : List Str := [Str.ofString "/d", Str.ofString "/~", Str.ofString "/d/e", Str.ofString "/d/~", Str.ofString "/~/d"]
def plains : List Str := [Str.ofString "/k", Str.ofString "/d/k", Str.ofString "/~/k", Str.ofString "/d/~/k", Str.ofString "/d/e/k"]
def gD (i : Nat) : Ents := ((dirs.take i).map fun x => (x, Kind.dir)).reverse ++ [(Str.ofString "/", .dir)]
def gF (i : Nat) : Ents := ((plains.take i).zipIdx.map fun p => (p.1, Kind.plain (p.2 : Int))).reverse ++ gD 5
theorem dir_ok : ∀ i, i < 5 → ∃ x, dirs[i]? = some x ∧ MkOk (gD i) x ∧ gD (i + 1) = (x, .dir) :: gD i
  | 0, _ => ⟨_, rfl, ⟨by decide +kernel, by decide +kernel, by decide +kernel, by decide +kernel, by decide +kernel, by decide +kernel, by decide +kernel⟩, rfl⟩
  | 1, _ => ⟨_, rfl, ⟨by decide +kernel, by decide +kernel, by decide +kernel, by decide +kernel, by decide +kernel, by decide +kernel, by decide +kernel⟩, rfl⟩
  | 2, _ => ⟨_, rfl, ⟨by decide +kernel, by decide +kernel, by decide +kernel, by decide +kernel, by decide +kernel, by decide +kernel, by decide +kernel⟩, rfl⟩
  | 3, _ => ⟨_, rfl, ⟨by decide +kernel, by decide +kernel, by decide +kernel, by decide +kernel, by decide +kernel, by decide +kernel, by decide +kernel⟩, rfl⟩
  | 4, _ => ⟨_, rfl, ⟨by decide +kernel, by decide +kernel, by decide +kernel, by decide +kernel, by decide +kernel, by decide +kernel, by decide +kernel⟩, rfl⟩
  | n + 5, h => absurd h (by omega)
theorem plain_ok : ∀ i, i < 5 → ∃ x, plains[i]? = some x ∧ WrOk (gF i) x ∧ gF (i + 1) = (x, .plain (i : Int)) :: gF i
  | 0, _ => ⟨_, rfl, ⟨by decide +kernel, by decide +kernel, by decide +kernel, by decide +kernel, by decide +kernel, by decide +kernel⟩, rfl⟩
  | 1, _ => ⟨_, rfl, ⟨by decide +kernel, by decide +kernel, by decide +kernel, by decide +kernel, by decide +kernel, by decide +kernel⟩, rfl⟩
  | 2, _ => ⟨_, rfl, ⟨by decide +kernel, by decide +kernel, by decide +kernel, by decide +kernel, by decide +kernel, by decide +kernel⟩, rfl⟩
  | 3, _ => ⟨_, rfl, ⟨by decide +kernel, by decide +kernel, by decide +kernel, by decide +kernel, by decide +kernel, by decide +kernel⟩, rfl⟩
  | 4, _ => ⟨_, rfl, ⟨by decide +kernel, by decide +kernel, by decide +kernel, by decide +kernel, by decide +kernel, by decide +kernel⟩, rfl⟩
  | n + 5, h => absurd h (by omega)
theorem gF_zero : gF 0 = gD 5 := rfl
end Mine
end
section
open PySem PySem.W PyProof.Rows
theorem Mine.offLt : True := by
  w_top off
  trivial
namespace Mine
abbrev tupObj (vs : List Value) (n : Nat) : Obj := { cls := .type "tuple", data := .seq vs.toArray n }
section
variable {prog : Program} {w : World} {A : Around} {E : Value → Shared → Prop} {s : Shared} {env : Env} {h₀ : Heap} {x : Str} {body : List Stmt} {Q : Flow → Shared → Prop}
theorem it_tuple {l : Addr} {vs : List Value} {nn : Nat} {m₀ : Str → Option Value} {nx₀ news : List (Addr × Obj)} (J : Nat → (Str → Option Value) → List (Addr × Obj) → Prop)
    (hh : A.handled = none) (hl : (l, tupObj vs nn) ∈ news) (F : Fr h₀ env.locals s.heap m₀) (N : News h₀ env.locals s.heap (nx₀ ++ news)) (hj : J 0 m₀ nx₀)
    (turn : ∀ i v m₁ nx I oI h tk, vs[i]? = some v → J i m₁ nx → (∀ p ∈ news, p.1 ≠ I) → (∀ p ∈ nx, p.1 ≠ I) → Fr h₀ env.locals h (fun y => if y = x then some v else m₁ y) → News h₀ env.locals h (nx ++ (I, oI) :: news) →
      wpAny (model prog w) A (execs body env) (TPost h₀ env.locals (J (i + 1)) I oI news { s with heap := h, toks := tk } Q) E { s with heap := h, toks := tk })
    (done : ∀ m₁ nx h tk, J vs.length m₁ nx → Fr h₀ env.locals h m₁ → News h₀ env.locals h (nx ++ news) → Q .next { s with heap := h, toks := tk }) :
    wpAny (model prog w) A (pyIter (.ref l)) (fun it s₂ => LoopAtV prog w A h₀ env x body Q E it s₂) E s := by
  have hol : s.heap.get? l = some (tupObj vs nn) := (N _ (List.mem_append_right _ hl)).1
  have hls : s.heap.IsTuple l vs.toArray := ⟨_, hol, rfl, nn, rfl⟩
  have hne : l ≠ s.heap.objs.size := Nat.ne_of_lt (Heap.lt_size hol)
  refine wpAny_pyIter_tuple hls ?_
  have W := Walks.tuple (prog := prog) (w := w) hh s.heap.objs.size l hne vs.toArray
  have hlen : vs.toArray.size = vs.length := by simp
  rw [hlen] at W
  refine loop_t (nx₀ := nx₀) (news := news) (m₀ := m₀) J W ?_ (next_is_new F) ?_ ?_ ?_ ⟨⟨_, Heap.get?_push_size _ rfl, rfl, rfl⟩, hls.at fun o e => Heap.get?_push_of_some _ e⟩ (F.push _) (fun p hp => ⟨Heap.get?_push_of_some _ (N p hp).1, (N p hp).2⟩) hj ?_ done
  · intro hm
    rcases List.mem_cons.mp hm with e | hm
    · exact absurd F.ns.lt (e ▸ Nat.lt_irrefl _)
    · exact (N _ (List.mem_append_right _ hl)).2.1 ((List.mem_singleton.mp hm).symm)
  · intro p hp e
    exact absurd (Heap.lt_size (N p hp).1) (e ▸ Nat.lt_irrefl _)
  · intro b hb
    rcases List.mem_cons.mp hb with e | hb
    · exact .inl e
    · exact .inr (.inr ⟨_, (List.mem_singleton.mp hb) ▸ hl⟩)
  · rintro i h ⟨⟨o, ho, _⟩, _⟩
    exact ⟨o, ho⟩
  · intro i v m₁ nx oI h tk hin hP hJ h1 h2 F₁ N₁
    exact turn i v m₁ nx _ oI h tk (by simpa using hP) hJ h1 h2 F₁ N₁
theorem it_tupleL {Lx l : Addr} {vs : List Value} {nn : Nat} {m₀ : Str → Option Value} {nx₀ news : List (Addr × Obj)} (J : Nat → (Str → Option Value) → List (Addr × Obj) → Prop)
    (hh : A.handled = none) (hl : (l, tupObj vs nn) ∈ news) (F : Fr h₀ Lx s.heap m₀) (N : News h₀ Lx s.heap (nx₀ ++ news)) (hj : J 0 m₀ nx₀) (hL : env.locals = Lx)
    (turn : ∀ i v m₁ nx I oI h tk, vs[i]? = some v → J i m₁ nx → (∀ p ∈ news, p.1 ≠ I) → (∀ p ∈ nx, p.1 ≠ I) → Fr h₀ Lx h (fun y => if y = x then some v else m₁ y) → News h₀ Lx h (nx ++ (I, oI) :: news) →
      wpAny (model prog w) A (execs body env) (TPost h₀ Lx (J (i + 1)) I oI news { s with heap := h, toks := tk } Q) E { s with heap := h, toks := tk })
    (done : ∀ m₁ nx h tk, J vs.length m₁ nx → Fr h₀ Lx h m₁ → News h₀ Lx h (nx ++ news) → Q .next { s with heap := h, toks := tk }) :
    wpAny (model prog w) A (pyIter (.ref l)) (fun it s₂ => LoopAtV prog w A h₀ env x body Q E it s₂) E s := by
  subst hL
  exact it_tuple J hh hl F N hj turn done
end
end Mine
end
section
open PySem PySem.W PyProof.Rows
theorem Mine.offB1 : True := by
  w_top off
  trivial
namespace Mine
/- what stands in the law's frame -/
abbrev lawL (w : World) (t td de dk ld fd : Addr) (t1 t2 t3 tn tm : Tok) (n : Int) (oe : Obj) (vs : List Value) (nd : Nat) (old ofd : Obj) (rest : List (Addr × Obj)) : List (Addr × Obj) :=
  (t, instObj 295 td) :: (td, treeD w t1 t2 t3 (.int n tn) (.int (-1) tm) de) :: (de, oe) :: (dk, listOf vs.toArray nd) :: (ld, old) :: (fd, ofd) :: rest
def FileD (g : Ents) (fkvs : List (Str × Value)) (rest : List (Addr × Obj)) : Prop := ∀ x, match look g x with
  | some (.plain z) => ∃ l tz n, valueAt fkvs x = some (.ref l) ∧ (l, listOf #[.int z tz] n) ∈ rest
  | _ => valueAt fkvs x = none
structure Apart (t td de dk ld fd : Addr) : Prop where
  a1 : @Ne Nat t td
  a2 : @Ne Nat t de
  a3 : @Ne Nat td de
  b1 : @Ne Nat t dk
  b2 : @Ne Nat td dk
  b3 : @Ne Nat de dk
  c1 : @Ne Nat t ld
  c2 : @Ne Nat td ld
  c3 : @Ne Nat de ld
  c4 : @Ne Nat dk ld
  d1 : @Ne Nat t fd
  d2 : @Ne Nat td fd
  d3 : @Ne Nat de fd
  d4 : @Ne Nat dk fd
  d5 : @Ne Nat ld fd
structure OffAll (t td de dk ld fd : Addr) (rest : List (Addr × Obj)) : Prop where
  o1 : ∀ p ∈ rest, p.1 ≠ t
  o2 : ∀ p ∈ rest, p.1 ≠ td
  o3 : ∀ p ∈ rest, p.1 ≠ de
  o4 : ∀ p ∈ rest, p.1 ≠ dk
  o5 : ∀ p ∈ rest, p.1 ≠ ld
  o6 : ∀ p ∈ rest, p.1 ≠ fd
structure LawS (w : World) (t td de dk ld fd : Addr) (g : Ents) (n : Nat) (oe : Obj) (kvs : List (Str × Value)) (vs : List Value) (old : Obj) (lkvs : List (Str × Value)) (ofd : Obj) (fkvs : List (Str × Value)) (rest : List (Addr × Obj)) : Prop where
  ap : Apart t td de dk ld fd
  off : OffAll t td de dk ld fd rest
  ed : oe.IsDictOf (KND w) kvs
  ee : EntsOk w rest kvs g
  elo : (de == sysModules) = false
  es : kvs.length ≤ n + 1
  di : ∃ ns, IntsAre vs ns
  dl : vs.length ≤ 100
  ldd : old.IsDictOf (KND w) lkvs
  llo : (ld == sysModules) = false
  ll : LinkD g lkvs
  ls : lkvs.length ≤ n
  fdd : ofd.IsDictOf (KND w) fkvs
  flo : (fd == sysModules) = false
  ff : FileD g fkvs rest
  fs : fkvs.length ≤ 100
structure LawM (t dk ld fd : Addr) (m : Str → Option Value) : Prop where
  tree : m "tree" = some (.ref t)
  deck : m "deck" = some (.ref dk)
  links : m "links" = some (.ref ld)
  files : m "files" = some (.ref fd)
def LawJ (w : World) (t td de dk ld fd : Addr) (g : Ents) (b c : Nat) (m : Str → Option Value) (nx : List (Addr × Obj)) : Prop :=
  ∃ t1 t2 t3 tn tm n oe kvs vs nd old lkvs ofd fkvs rest, nx = lawL w t td de dk ld fd t1 t2 t3 tn tm ((n : Nat) : Int) oe vs nd old ofd rest ∧ n ≤ b ∧ fkvs.length = c ∧ LawS w t td de dk ld fd g n oe kvs vs old lkvs ofd fkvs rest ∧ LawM t dk ld fd m
theorem LawM.bind {t dk ld fd : Addr} {m : Str → Option Value} {x : Str} {v : Option Value} (h : LawM t dk ld fd m) (h1 : Str.ofString "tree" ≠ x) (h2 : Str.ofString "deck" ≠ x) (h3 : Str.ofString "links" ≠ x) (h4 : Str.ofString "files" ≠ x) : LawM t dk ld fd (fun y => if y = x then v else m y) :=
  ⟨(if_neg h1).trans h.tree, (if_neg h2).trans h.deck, (if_neg h3).trans h.links, (if_neg h4).trans h.files⟩
theorem LawM.fr {h₀ h : Heap} {L t dk ld fd : Addr} {m : Str → Option Value} (M : LawM t dk ld fd m) (F : Fr h₀ L h m) : Fr h₀ L h (fun y => if y = Str.ofString "tree" then some (.ref t) else if y = Str.ofString "deck" then some (.ref dk) else if y = Str.ofString "links" then some (.ref ld) else if y = Str.ofString "files" then some (.ref fd) else m y) :=
  frN (p := "tree") (frN (p := "deck") (frN (p := "links") (frN (p := "files") F M.files) ((if_neg (by decide)).trans M.links)) ((if_neg (by decide)).trans ((if_neg (by decide)).trans M.deck))) ((if_neg (by decide)).trans ((if_neg (by decide)).trans ((if_neg (by decide)).trans M.tree)))
/- the tree alone, with all else behind it -/
theorem LawS.tree {w : World} {t td de dk ld fd : Addr} {g : Ents} {n : Nat} {oe old ofd odk : Obj} {kvs lkvs fkvs : List (Str × Value)} {vs : List Value} {rest more : List (Addr × Obj)} (H : LawS w t td de dk ld fd g n oe kvs vs old lkvs ofd fkvs rest)
    (hm : ∀ p ∈ more, p.1 ≠ t ∧ p.1 ≠ td ∧ p.1 ≠ de) : TreeF w t td de g n oe kvs ((dk, odk) :: (ld, old) :: (fd, ofd) :: (rest ++ more)) := by
  have hall : ∀ p ∈ ((dk, odk) :: (ld, old) :: (fd, ofd) :: (rest ++ more)), p.1 ≠ t ∧ p.1 ≠ td ∧ p.1 ≠ de := by
    intro p hp
    rcases List.mem_cons.mp hp with rfl | hp
    · exact ⟨Ne.symm H.ap.b1, Ne.symm H.ap.b2, Ne.symm H.ap.b3⟩
    rcases List.mem_cons.mp hp with rfl | hp
    · exact ⟨Ne.symm H.ap.c1, Ne.symm H.ap.c2, Ne.symm H.ap.c3⟩
    rcases List.mem_cons.mp hp with rfl | hp
    · exact ⟨Ne.symm H.ap.d1, Ne.symm H.ap.d2, Ne.symm H.ap.d3⟩
    rcases List.mem_append.mp hp with hp | hp
    · exact ⟨H.off.o1 p hp, H.off.o2 p hp, H.off.o3 p hp⟩
    · exact hm p hp
  exact ⟨H.ed, H.ee.mono fun p hp => .tail _ (.tail _ (.tail _ (List.mem_append_left _ hp))), H.elo, H.ap.a1, H.ap.a2, H.ap.a3, fun p hp => (hall p hp).1, fun p hp => (hall p hp).2.1, fun p hp => (hall p hp).2.2, H.es⟩
theorem EntsOk.add {w : World} {g : Ents} {kvs : List (Str × Value)} {rest add : List (Addr × Obj)} {x : Str} {k : Kind} {v : Value} (H : EntsOk w rest kvs g) (he : EntAt w add v k) : EntsOk w (add ++ rest) (stored kvs x v) ((x, k) :: g) := by
  intro y
  rw [look_cons, valueAt_stored]
  by_cases e : x = y
  · rw [if_pos e, if_pos e]
    exact ⟨v, rfl, he.mono fun p hp => List.mem_append_left _ hp⟩
  · rw [if_neg e, if_neg e]
    have := H y
    split
    · rename_i q; rw [q] at this; exact this
    · rename_i k' q; rw [q] at this; obtain ⟨v', a, b⟩ := this; exact ⟨v', a, b.mono fun p hp => List.mem_append_right _ hp⟩
theorem OffAll.add {t td de dk ld fd : Addr} {rest add : List (Addr × Obj)} (H : OffAll t td de dk ld fd rest) (h : ∀ p ∈ add, p.1 ≠ t ∧ p.1 ≠ td ∧ p.1 ≠ de) (h4 : ∀ p ∈ add, @LT.lt Nat _ dk p.1) (h5 : ∀ p ∈ add, @LT.lt Nat _ ld p.1) (h6 : ∀ p ∈ add, @LT.lt Nat _ fd p.1) : OffAll t td de dk ld fd (add ++ rest) := by
  refine ⟨?_, ?_, ?_, ?_, ?_, ?_⟩ <;> (intro p hp; rcases List.mem_append.mp hp with hp | hp)
  · exact (h p hp).1
  · exact H.o1 p hp
  · exact (h p hp).2.1
  · exact H.o2 p hp
  · exact (h p hp).2.2
  · exact H.o3 p hp
  · exact Nat.ne_of_gt (h4 p hp)
  · exact H.o4 p hp
  · exact Nat.ne_of_gt (h5 p hp)
  · exact H.o5 p hp
  · exact Nat.ne_of_gt (h6 p hp)
  · exact H.o6 p hp
theorem FileD.other {g : Ents} {fkvs : List (Str × Value)} {rest rest' : List (Addr × Obj)} {x : Str} {k : Kind} (H : FileD g fkvs rest) (hk : ∀ z, k ≠ .plain z) (hf : look g x = none) (hs : ∀ p ∈ rest, p ∈ rest') : FileD ((x, k) :: g) fkvs rest' := by
  intro y
  rw [look_cons]
  by_cases e : x = y
  · rw [if_pos e]
    subst e
    have := H x
    rw [hf] at this
    cases k with
    | plain z => exact absurd rfl (hk z)
    | dir => exact this
    | link _ => exact this
  · rw [if_neg e]
    have := H y
    split
    · rename_i z q
      rw [q] at this
      obtain ⟨l, tz, n, a, b⟩ := this
      exact ⟨l, tz, n, a, hs _ b⟩
    · rename_i q
      split at this
      · rename_i z q2
        exact absurd q2 (q z)
      · exact this
theorem LinkD.other {g : Ents} {lkvs : List (Str × Value)} {x : Str} {k : Kind} (H : LinkD g lkvs) (hk : ∀ z, k ≠ .link z) (hf : look g x = none) : LinkD ((x, k) :: g) lkvs := by
  intro y
  rw [look_cons]
  by_cases e : x = y
  · rw [if_pos e]
    subst e
    have := H x
    rw [hf] at this
    cases k with
    | plain z => exact this
    | dir => exact this
    | link z => exact absurd rfl (hk z)
  · rw [if_neg e]
    exact H y
theorem TreeF.mono3 {w : World} {t td de dk ld fd : Addr} {g : Ents} {n : Nat} {oe old ofd odk old' ofd' odk' : Obj} {kvs : List (Str × Value)} {rest rest' : List (Addr × Obj)} (H : TreeF w t td de g n oe kvs ((dk, odk) :: (ld, old) :: (fd, ofd) :: rest))
    (he : EntsOk w rest kvs g) (hs : ∀ p ∈ rest, p ∈ rest') (h : ∀ p ∈ rest', p.1 ≠ t ∧ p.1 ≠ td ∧ p.1 ≠ de) : TreeF w t td de g n oe kvs ((dk, odk') :: (ld, old') :: (fd, ofd') :: rest') := by
  have hall : ∀ p ∈ ((dk, odk') :: (ld, old') :: (fd, ofd') :: rest'), p.1 ≠ t ∧ p.1 ≠ td ∧ p.1 ≠ de := by
    intro p hp
    rcases List.mem_cons.mp hp with rfl | hp
    · exact ⟨H.o1 (dk, odk) (.head _), H.o2 (dk, odk) (.head _), H.o3 (dk, odk) (.head _)⟩
    rcases List.mem_cons.mp hp with rfl | hp
    · exact ⟨H.o1 (ld, old) (.tail _ (.head _)), H.o2 (ld, old) (.tail _ (.head _)), H.o3 (ld, old) (.tail _ (.head _))⟩
    rcases List.mem_cons.mp hp with rfl | hp
    · exact ⟨H.o1 (fd, ofd) (.tail _ (.tail _ (.head _))), H.o2 (fd, ofd) (.tail _ (.tail _ (.head _))), H.o3 (fd, ofd) (.tail _ (.tail _ (.head _)))⟩
    · exact h p hp
  exact ⟨H.dict, he.mono fun p hp => .tail _ (.tail _ (.tail _ (hs p hp))), H.lo, H.d1, H.d2, H.d3, fun p hp => (hall p hp).1, fun p hp => (hall p hp).2.1, fun p hp => (hall p hp).2.2, H.size⟩
theorem stored_len_new {kvs : List (Str × Value)} {k : Str} {v : Value} (h : valueAt kvs k = none) : (stored kvs k v).length = kvs.length + 1 := by
  unfold stored
  rw [if_neg]
  · simp
  · intro hk
    obtain ⟨q, hq, e⟩ := List.any_eq_true.mp hk
    unfold valueAt at h
    rw [Option.map_eq_none_iff, List.find?_eq_none] at h
    exact h q hq e
theorem FileD.plain {g : Ents} {fkvs : List (Str × Value)} {rest rest' : List (Addr × Obj)} {x : Str} {z : Int} {l : Addr} {tz : Tok} {nl : Nat} (H : FileD g fkvs rest) (hl : (l, listOf #[.int z tz] nl) ∈ rest') (hs : ∀ p ∈ rest, p ∈ rest') : FileD ((x, .plain z) :: g) (stored fkvs x (.ref l)) rest' := by
  intro y
  rw [look_cons, valueAt_stored]
  by_cases e : x = y
  · rw [if_pos e, if_pos e]
    exact ⟨l, tz, nl, rfl, hl⟩
  · rw [if_neg e, if_neg e]
    have := H y
    split
    · rename_i z q
      rw [q] at this
      obtain ⟨l, tz, n, a, b⟩ := this
      exact ⟨l, tz, n, a, hs _ b⟩
    · rename_i q
      split at this
      · rename_i z q2
        exact absurd q2 (q z)
      · exact this
/- a file written -/
theorem LawS.file {w : World} {t td de dk ld fd l : Addr} {g : Ents} {n nl : Nat} {oe old ofd odk oe' old1 ofd1 ofd' : Obj} {kvs lkvs fkvs kvs' : List (Str × Value)} {vs : List Value} {rest more add : List (Addr × Obj)} {x : Str} {z : Int} {tz : Tok} (H : LawS w t td de dk ld fd g n oe kvs vs old lkvs ofd fkvs rest)
    (hf : look g x = none) (hfd : ofd'.IsDictOf (KND w) (stored fkvs x (.ref l))) (hfs : fkvs.length ≤ 90) (A : Added w t td de kvs x (.plain z) oe' kvs' add) (hol : OffAll t td de dk ld fd [(l, listOf #[.int z tz] nl)]) (hl : ∀ p ∈ add, ∀ q ∈ ((dk, odk) :: (ld, old1) :: (fd, ofd1) :: more), q.1 < p.1) :
    LawS w t td de dk ld fd ((x, .plain z) :: g) (n + 2) oe' kvs' vs old lkvs ofd' (stored fkvs x (.ref l)) (add ++ ((l, listOf #[.int z tz] nl) :: rest)) := by
  obtain ⟨v, h1, rfl, h2, h3⟩ := A
  have off2 : OffAll t td de dk ld fd ((l, listOf #[.int z tz] nl) :: rest) := ⟨fun p hp => (List.mem_cons.mp hp).elim (fun e => e ▸ hol.o1 _ (.head _)) (H.off.o1 p), fun p hp => (List.mem_cons.mp hp).elim (fun e => e ▸ hol.o2 _ (.head _)) (H.off.o2 p), fun p hp => (List.mem_cons.mp hp).elim (fun e => e ▸ hol.o3 _ (.head _)) (H.off.o3 p), fun p hp => (List.mem_cons.mp hp).elim (fun e => e ▸ hol.o4 _ (.head _)) (H.off.o4 p), fun p hp => (List.mem_cons.mp hp).elim (fun e => e ▸ hol.o5 _ (.head _)) (H.off.o5 p), fun p hp => (List.mem_cons.mp hp).elim (fun e => e ▸ hol.o6 _ (.head _)) (H.off.o6 p)⟩
  refine ⟨H.ap, off2.add h3 (fun p hp => hl p hp _ (.head _)) (fun p hp => hl p hp _ (.tail _ (.head _))) (fun p hp => hl p hp _ (.tail _ (.tail _ (.head _)))), h1, (H.ee.mono fun p hp => .tail _ hp).add h2, H.elo, ?_, H.di, H.dl, H.ldd, H.llo, H.ll.other (fun z => by simp) hf, Nat.le_succ_of_le (Nat.le_succ_of_le H.ls), hfd, H.flo, H.ff.plain (List.mem_append_right _ (.head _)) fun p hp => List.mem_append_right _ (.tail _ hp), ?_⟩
  · have := stored_len kvs x v
    have := H.es
    omega
  · have := stored_len fkvs x (.ref l)
    omega
theorem LawS.deck {w : World} {t td de dk ld fd : Addr} {g : Ents} {n : Nat} {oe old ofd : Obj} {kvs lkvs fkvs : List (Str × Value)} {vs vs' : List Value} {ns' : List Int} {rest : List (Addr × Obj)} (H : LawS w t td de dk ld fd g n oe kvs vs old lkvs ofd fkvs rest)
    (hi : IntsAre vs' ns') (hl : vs'.length ≤ 100) : LawS w t td de dk ld fd g n oe kvs vs' old lkvs ofd fkvs rest :=
  ⟨H.ap, H.off, H.ed, H.ee, H.elo, H.es, ⟨_, hi⟩, hl, H.ldd, H.llo, H.ll, H.ls, H.fdd, H.flo, H.ff, H.fs⟩
/- a directory made -/
theorem LawS.dir {w : World} {t td de dk ld fd : Addr} {g : Ents} {n : Nat} {oe old ofd odk oe' : Obj} {kvs lkvs fkvs kvs' : List (Str × Value)} {vs : List Value} {rest more add : List (Addr × Obj)} {x : Str} (H : LawS w t td de dk ld fd g n oe kvs vs old lkvs ofd fkvs rest)
    (hf : look g x = none) (A : Added w t td de kvs x .dir oe' kvs' add) (hl : ∀ p ∈ add, ∀ q ∈ ((dk, odk) :: (ld, old) :: (fd, ofd) :: (rest ++ more)), q.1 < p.1) : LawS w t td de dk ld fd ((x, .dir) :: g) (n + 1) oe' kvs' vs old lkvs ofd fkvs (add ++ rest) := by
  obtain ⟨v, h1, rfl, h2, h3⟩ := A
  refine ⟨H.ap, H.off.add h3 (fun p hp => hl p hp _ (.head _)) (fun p hp => hl p hp _ (.tail _ (.head _))) (fun p hp => hl p hp _ (.tail _ (.tail _ (.head _)))), h1, H.ee.add h2, H.elo, ?_, H.di, H.dl, H.ldd, H.llo, H.ll.other (fun z => by simp) hf, Nat.le_succ_of_le H.ls, H.fdd, H.flo, H.ff.other (fun z => by simp) hf fun p hp => List.mem_append_right _ hp, H.fs⟩
  have := stored_len kvs x v
  have := H.es
  omega
theorem newsTree {w : World} {h₀ h : Heap} {L t td de dk ld fd : Addr} {t1 t2 t3 tn tm : Tok} {n : Int} {oe : Obj} {vs : List Value} {nd : Nat} {old ofd : Obj} {add rest more : List (Addr × Obj)}
    (N : News h₀ L h (treeL w t td de t1 t2 t3 tn tm n oe (add ++ ((dk, listOf vs.toArray nd) :: (ld, old) :: (fd, ofd) :: (rest ++ more))))) : News h₀ L h (lawL w t td de dk ld fd t1 t2 t3 tn tm n oe vs nd old ofd (add ++ rest) ++ more) :=
  newsSub N fun p hp => by
    simp only [List.mem_cons, List.cons_append, List.mem_append] at hp ⊢
    grind
theorem offNew {w : World} {t td de dk ld fd K : Addr} {t1 t2 t3 tn tm u1 u2 u3 un um : Tok} {n n' : Int} {oe oe' old old' ofd ofd' : Obj} {vs vs' : List Value} {nd nd' : Nat} {add rest : List (Addr × Obj)}
    (h : ∀ p ∈ lawL w t td de dk ld fd t1 t2 t3 tn tm n oe vs nd old ofd rest, p.1 ≠ K) (ha : ∀ p ∈ add, @LT.lt Nat _ K p.1) : ∀ p ∈ lawL w t td de dk ld fd u1 u2 u3 un um n' oe' vs' nd' old' ofd' (add ++ rest), p.1 ≠ K := by
  intro p hp
  rcases List.mem_cons.mp hp with rfl | hp
  · exact h (t, instObj 295 td) (.head _)
  rcases List.mem_cons.mp hp with rfl | hp
  · exact h (td, treeD w t1 t2 t3 (.int n tn) (.int (-1) tm) de) (.tail _ (.head _))
  rcases List.mem_cons.mp hp with rfl | hp
  · exact h (de, oe) (.tail _ (.tail _ (.head _)))
  rcases List.mem_cons.mp hp with rfl | hp
  · exact h (dk, listOf vs.toArray nd) (.tail _ (.tail _ (.tail _ (.head _))))
  rcases List.mem_cons.mp hp with rfl | hp
  · exact h (ld, old) (.tail _ (.tail _ (.tail _ (.tail _ (.head _)))))
  rcases List.mem_cons.mp hp with rfl | hp
  · exact h (fd, ofd) (.tail _ (.tail _ (.tail _ (.tail _ (.tail _ (.head _))))))
  rcases List.mem_append.mp hp with hp | hp
  · exact Nat.ne_of_gt (ha p hp)
  · exact h p (.tail _ (.tail _ (.tail _ (.tail _ (.tail _ (.tail _ hp))))))
theorem law_start {w : World} {h₀ h : Heap} {L D1 fd ld x0 d0 de t td dk : Addr} {nd : Nat} {oD1 ofd old oe : Obj} {e1 e2 e3 e4 es et t1 t2 t3 tn tm : Tok} {vs : List Value} {ns : List Int} {r : List (Addr × Obj)} {m : Str → Option Value}
    (_F : Fr h₀ L h m) (N : News h₀ L h ((D1, oD1) :: (fd, ofd) :: (ld, old) :: (x0, instObj 92 d0) :: (d0, entD w e1 e2 e3 e4 (.int 0 es) .none (.int 0 et)) :: (de, oe) :: (t, instObj 295 td) :: (td, treeD w t1 t2 t3 (.int 0 tn) (.int (-1) tm) de) :: (dk, listOf vs.toArray nd) :: r))
    (hde : oe.IsDictOf (KND w) [(Str.ofString "/", .ref x0)]) (elo : (de == sysModules) = false) (hi : IntsAre vs ns) (hl : vs.length ≤ 100) (hld : old.IsDictOf (KND w) []) (llo : (ld == sysModules) = false) (hfd : ofd.IsDictOf (KND w) []) (flo : (fd == sysModules) = false)
    (ap : Apart t td de dk ld fd) (a1 : Apart t td de dk ld x0) (a2 : Apart t td de dk ld d0) (h1 : @Ne Nat fd x0) (h2 : @Ne Nat fd d0) (hM : LawM t dk ld fd m) :
    ∃ nx, LawJ w t td de dk ld fd (gD 0) 0 0 m nx ∧ News h₀ L h nx := by
  refine ⟨_, ⟨t1, t2, t3, tn, tm, 0, oe, _, vs, nd, old, [], ofd, [], [(x0, instObj 92 d0), (d0, entD w e1 e2 e3 e4 (.int 0 es) .none (.int 0 et))], rfl, Nat.le_refl _, rfl, ⟨ap, ?_, hde, ?_, elo, Nat.le_refl _, ⟨_, hi⟩, hl, hld, llo, ?_, Nat.zero_le _, hfd, flo, ?_, Nat.zero_le _⟩, hM⟩, newsSub N fun p hp => ?_⟩
  · constructor <;> (intro p hp; simp only [List.mem_cons, List.not_mem_nil, or_false] at hp; rcases hp with rfl | rfl)
    · exact Ne.symm a1.d1
    · exact Ne.symm a2.d1
    · exact Ne.symm a1.d2
    · exact Ne.symm a2.d2
    · exact Ne.symm a1.d3
    · exact Ne.symm a2.d3
    · exact Ne.symm a1.d4
    · exact Ne.symm a2.d4
    · exact Ne.symm a1.d5
    · exact Ne.symm a2.d5
    · exact Ne.symm h1
    · exact Ne.symm h2
  · intro y
    show (match look [(Str.ofString "/", Kind.dir)] y with | none => valueAt [(Str.ofString "/", Value.ref x0)] y = none | some k => ∃ v, valueAt [(Str.ofString "/", Value.ref x0)] y = some v ∧ EntAt w _ v k)
    by_cases e : Str.ofString "/" = y
    · have e1' : look [(Str.ofString "/", Kind.dir)] y = some .dir := by rw [look_cons, if_pos e]
      rw [e1']
      refine ⟨.ref x0, by simp [valueAt, e], x0, d0, e1, e2, e3, e4, es, .none, 0, et, rfl, .head _, .tail _ (.head _), rfl⟩
    · have e1' : look [(Str.ofString "/", Kind.dir)] y = none := by rw [look_cons, if_neg e]; rfl
      rw [e1']
      simp [valueAt, e]
  · intro y
    show (match look [(Str.ofString "/", Kind.dir)] y with | some (.link t) => _ | _ => valueAt [] y = none)
    rw [look_cons]
    by_cases e : Str.ofString "/" = y
    · rw [if_pos e]; rfl
    · rw [if_neg e]; rfl
  · intro y
    show (match look [(Str.ofString "/", Kind.dir)] y with | some (.plain z) => _ | _ => valueAt [] y = none)
    rw [look_cons]
    by_cases e : Str.ofString "/" = y
    · rw [if_pos e]; rfl
    · rw [if_neg e]; rfl
  · simp only [List.mem_cons, List.not_mem_nil, or_false] at hp ⊢
    grind
end Mine
end
section
open PySem PySem.W PyProof.Rows
theorem Mine.offLw : True := by
  w_top off
  trivial
namespace Mine
def recOf {p : Program} {l : List Str} {X : _} {S : World → Heap → Prop} {row : RowW} {r : DefRec} {ls : _} {F : _} {Y : Prop} (_ : WalkO p l X S row r ls F → Y) : DefRec := r
noncomputable def lawRec : DefRec := recOf hd
theorem law_len : lawRec.body.length = 6 := rfl
end Mine
end
section
open PySem PySem.W PyProof.Rows
theorem Mine.offH0 : True := by
  w_top off
  trivial
namespace Mine
theorem execs_first {M : Model} {A : Around} {env : Env} {st : Stmt} {rest : List Stmt} {Q : Flow → Shared → Prop} {E : Value → Shared → Prop} {s : Shared}
    (h : wpAny M A (exec st env) (fun f s' => match f with | .next => wpAny M A (execs rest env) Q E s' | f => Q f s') E s) : wpAny M A (execs (st :: rest) env) Q E s := by
  rw [execs_cons]
  refine wpAny_bind (wpAny_mono h (fun f s' h => ?_) fun _ _ x => x)
  cases f with
  | next => exact h
  | ret v => exact wpAny_pure h
  | brk => exact wpAny_pure h
  | cont => exact wpAny_pure h
def Started (w : World) (h₀ : Heap) (L : Addr) (s : Shared) (f : Flow) (s' : Shared) : Prop :=
  f = .next ∧ ∃ h' tk m' nx' t td de dk ld fd, s' = { s with heap := h', toks := tk } ∧ LawJ w t td de dk ld fd (gD 0) 0 0 m' nx' ∧ Fr h₀ L h' m' ∧ News h₀ L h' nx'
section
variable {w : World} {mean : ExcName → Option Value} {mg mb : Str → Option Value} {dp un : Nat} {gd : Option (List Code)} {a : Addr} {ccd : Value}
variable {A₀ : Around} {base h₀ : Heap} {L t td de dk ld fd : Addr} {m : Str → Option Value} {news : List (Addr × Obj)} {s : Shared} {Q : Flow → Shared → Prop} {g : Ents}
theorem ph0 {sc : Addr} {vs : List Value} {ns : List Int} (B : Below A₀ base [] h₀) (F : Fr h₀ L s.heap m) (X : (hd.heap_1 w.params).In h₀) (N : News h₀ L s.heap news) (T : Top hd.view (looseW hd.view []) mean mg mb h₀) (XB : (hd.heap_1 w.params).In base) (TB : Top hd.view (looseW hd.view []) mean mg mb base) (hdp : dp + 200 < recursionLimit) (hun : un + 400 < cLine) (hnil : news = []) (hm : m "script" = some (.ref sc)) (hL : h₀.IsList sc vs.toArray) (hI : IntsAre vs ns) (hn : ns.length ≤ 63)
    (hnext : ∀ f s', Started w h₀ L s f s' → Q f s') :
    wpAny (model PySem.Challenge.rw_pq0279_01.row.prog w) (AR none dp un gd (Str.ofString "law") lawRec.scope L a ccd [] []) (exec lawRec.body.head! (envOf (Str.ofString "law") lawRec.scope L a ccd)) Q (fun _ _ => False) s := by
  subst hnil
  clear XB TB
  delta lawRec recOf
  dsimp only [List.head!]
  have F4 := frN F (p := "script") hm
  refine wpAny_mono (Q := Started w h₀ L s) ?_ hnext fun _ _ x => x
  k_steps
  rename Fr _ _ _ _ => F2
  rename News _ _ _ _ => N2
  rename Obj.IsDictOf _ _ (strPairs _) => hde
  rename IntsAre ys _ => hys
  have hlen : ys.length ≤ 100 := by
    rw [hys.length, List.length_map, List.length_take]
    omega
  obtain ⟨nx, J, N3⟩ := law_start (vs := ys) F2 N2 hde (by with_reducible assumption) hys hlen (by with_reducible assumption) (by with_reducible assumption) (by with_reducible assumption) (by with_reducible assumption) (by constructor <;> (refine neN ?_; omega)) (by constructor <;> (refine neN ?_; omega)) (by constructor <;> (refine neN ?_; omega)) (by refine neN ?_; omega) (by refine neN ?_; omega) ⟨rfl, rfl, rfl, rfl⟩
  exact ⟨rfl, _, _, _, _, _, _, _, _, _, _, rfl, J, F2, N3⟩
end
end Mine
end
section
open PySem PySem.W PyProof.Rows
theorem Mine.offH1 : True := by
  w_top off
  trivial
namespace Mine
theorem linksOk_noLink {g : Ents} (h : ∀ x t, look g x ≠ some (.link t)) : LinksOk g := fun x t e => absurd e (h x t)
theorem noLink_cons {g : Ents} {x : Str} {k : Kind} (hk : ∀ t, k ≠ .link t) (h : ∀ x t, look g x ≠ some (.link t)) : ∀ y t, look ((x, k) :: g) y ≠ some (.link t) := by
  intro y t
  rw [look_cons]
  split
  · intro e; exact hk t (Option.some.inj e)
  · exact h y t
theorem noLink_D : ∀ i, i ≤ 5 → ∀ x t, look (gD i) x ≠ some (.link t)
  | 0, _ => noLink_cons (g := []) (fun t => by simp) fun x t => by simp [look]
  | i + 1, h => by
    obtain ⟨x, _, _, e⟩ := dir_ok i (by omega)
    rw [e]
    exact noLink_cons (fun t => by simp) (noLink_D i (by omega))
theorem noLink_F : ∀ i, i ≤ 5 → ∀ x t, look (gF i) x ≠ some (.link t)
  | 0, _ => by rw [gF_zero]; exact noLink_D 5 (by omega)
  | i + 1, h => by
    obtain ⟨x, _, _, e⟩ := plain_ok i (by omega)
    rw [e]
    exact noLink_cons (fun t => by simp) (noLink_F i (by omega))
theorem asTree {w : World} {h₀ h : Heap} {L t td de dk ld fd : Addr} {t1 t2 t3 tn tm : Tok} {n : Int} {oe : Obj} {vs : List Value} {nd : Nat} {old ofd : Obj} {rest more : List (Addr × Obj)}
    (N : News h₀ L h (lawL w t td de dk ld fd t1 t2 t3 tn tm n oe vs nd old ofd rest ++ more)) : News h₀ L h (treeL w t td de t1 t2 t3 tn tm n oe ((dk, listOf vs.toArray nd) :: (ld, old) :: (fd, ofd) :: (rest ++ more))) := N
theorem offMore {h₀ h : Heap} {L t td de I D : Addr} {oI oD : Obj} {nx : List (Addr × Obj)} (_N : News h₀ L h (nx ++ (I, oI) :: [(D, oD)])) (h1 : ∀ p ∈ nx, p.1 ≠ I) (h2 : ∀ p ∈ nx, p.1 ≠ D) (h : ∀ q ∈ [t, td, de], ∃ o, (q, o) ∈ nx) : ∀ p ∈ [(I, oI), (D, oD)], p.1 ≠ t ∧ p.1 ≠ td ∧ p.1 ≠ de := by
  have f1 := h t (.head _)
  have f2 := h td (.tail _ (.head _))
  have f3 := h de (.tail _ (.tail _ (.head _)))
  obtain ⟨o1, f1⟩ := f1
  obtain ⟨o2, f2⟩ := f2
  obtain ⟨o3, f3⟩ := f3
  intro p hp
  rcases List.mem_cons.mp hp with rfl | hp
  · exact ⟨Ne.symm (h1 _ f1), Ne.symm (h1 _ f2), Ne.symm (h1 _ f3)⟩
  · rw [List.mem_singleton.mp hp]
    exact ⟨Ne.symm (h2 _ f1), Ne.symm (h2 _ f2), Ne.symm (h2 _ f3)⟩
theorem offMore1 {h₀ h : Heap} {L K I D : Addr} {oI oD : Obj} {nx : List (Addr × Obj)} (_N : News h₀ L h (nx ++ (I, oI) :: [(D, oD)])) (h1 : ∀ p ∈ nx, p.1 ≠ I) (h2 : ∀ p ∈ nx, p.1 ≠ D) (h : ∃ o, (K, o) ∈ nx) : ∀ p ∈ [(I, oI), (D, oD)], p.1 ≠ K := by
  obtain ⟨o, f⟩ := h
  intro p hp
  rcases List.mem_cons.mp hp with rfl | hp
  · exact Ne.symm (h1 _ f)
  · rw [List.mem_singleton.mp hp]
    exact Ne.symm (h2 _ f)
theorem tailTup {h₀ h : Heap} {L : Addr} {p : Addr × Obj} {l : List (Addr × Obj)} (N : News h₀ L h (p :: l)) : News h₀ L h (l ++ [p]) := newsSub N fun q hq => by
  rcases List.mem_append.mp hq with hq | hq
  · exact .tail _ hq
  · rw [List.mem_singleton.mp hq]; exact .head _
section
variable {w : World} {mean : ExcName → Option Value} {mg mb : Str → Option Value} {dp un : Nat} {gd : Option (List Code)} {a : Addr} {ccd : Value}
variable {A₀ : Around} {base h₀ : Heap} {L t td de dk ld fd : Addr} {m : Str → Option Value} {news : List (Addr × Obj)} {s : Shared} {Q : Flow → Shared → Prop} {g : Ents}
local macro_rules | `(tactic| walk_at "call ref") => `(tactic| (k_here; (with_reducible show wpAny _ _ (call (Value.ref 250) _) _ _ _); first | (k_dflt (refine' c_mkdir ?B ?F ?X ?N ?T ?hk ?hdp ?hun ?hh ?hx ?hx0 ?hne ?LO ?H ?hnn ?hy ?hj ?hfree ?hw ?hw0 ?hz ?hdir ?_; walk_at "own std8"; (case hh => rfl); (case hx | hx0 | hne | LO | H | hnn | hy | hj | hfree | hw | hw0 | hz | hdir => (with_reducible assumption))); intro add9 oe9 kvs9 u19 u29 u39 un9 um9 h9 tk9 F9 N9 A9 l9) | refine stop_here ?_))
local macro_rules | `(tactic| walk_at "exec For Name Tuple cons nil") => `(tactic| (k_here; (rename Fr _ _ _ _ => lF'); (with_unfolding_all refine' For_invVF lF' ?k1 ?k2 ?_; (case k1 => exact rfl); (case k2 => exact rfl); k_whole)))
local macro_rules | `(tactic| walk_at "pyIter ref") => `(tactic| ((with_reducible show wpAny _ _ _ _ _ _); refine stop_here ?_))
theorem ph1 (B : Below A₀ base [] h₀) (F : Fr h₀ L s.heap m) (X : (hd.heap_1 w.params).In h₀) (N : News h₀ L s.heap news) (T : Top hd.view (looseW hd.view []) mean mg mb h₀) (XB : (hd.heap_1 w.params).In base) (TB : Top hd.view (looseW hd.view []) mean mg mb base) (hdp : dp + 200 < recursionLimit) (hun : un + 400 < cLine) (J : LawJ w t td de dk ld fd (gD 0) 0 0 m news)
    (hnext : ∀ m' nx' h' tk', LawJ w t td de dk ld fd (gD 5) 5 0 m' nx' → Fr h₀ L h' m' → News h₀ L h' nx' → wpAny (model PySem.Challenge.rw_pq0279_01.row.prog w) (AR none dp un gd (Str.ofString "law") lawRec.scope L a ccd [] []) (execs (lawRec.body.drop 2) (envOf (Str.ofString "law") lawRec.scope L a ccd)) Q (fun _ _ => False) { s with heap := h', toks := tk' }) :
    wpAny (model PySem.Challenge.rw_pq0279_01.row.prog w) (AR none dp un gd (Str.ofString "law") lawRec.scope L a ccd [] []) (execs (lawRec.body.drop 1) (envOf (Str.ofString "law") lawRec.scope L a ccd)) Q (fun _ _ => False) s := by
  delta lawRec recOf at hnext ⊢
  dsimp only [List.drop_succ_cons, List.drop_zero] at hnext ⊢
  k_steps
  unfold Stop
  rename Fr _ _ _ _ => F2
  rename News _ _ _ _ => N2
  rename (∀ p ∈ news, p.1 < _) => l1
  have N3 := tailTup N2
  clear N2
  refine it_tupleL (m₀ := m) (nx₀ := news) (fun i m nx => LawJ w t td de dk ld fd (gD i) i 0 m nx ∧ ∀ p ∈ nx, p.1 ≠ _) rfl (.head _) F2 N3 ⟨J, fun p hp => Nat.ne_of_lt (l1 p hp)⟩ rfl ?_ ?_
  · rintro i v m₁ nx I oI h tk hv ⟨⟨t1, t2, t3, tn, tm, n, oe, kvs, vs, nd, old, lkvs, ofd, fkvs, rest, rfl, hn, hc, HS, HM⟩, hD⟩ hI hI2 F₁ N₁
    obtain ⟨x, tx, rfl, hx5⟩ := StrsAre.item (ys := dirs) (by unfold dirs; repeat constructor) i v hv
    have hi5 : i < 5 := (List.getElem?_eq_some_iff.mp hx5).1
    obtain ⟨x', hx', hok, hg⟩ := dir_ok i hi5
    obtain rfl : x' = x := Option.some.inj (hx'.symm.trans hx5)
    obtain ⟨hx, hx0, hne, hy, hj, hfree, hdir⟩ := hok
    have hw : x'.length ≤ 1900 := by omega
    have hnn : n ≤ 1000 := by omega
    have LO := linksOk_noLink (noLink_D i (by omega))
    have hmore := offMore (t := t) (td := td) (de := de) N₁ hI2 hD (by
      intro q hq
      simp only [List.mem_cons, List.not_mem_nil, or_false] at hq
      rcases hq with rfl | rfl | rfl
      · exact ⟨_, .head _⟩
      · exact ⟨_, .tail _ (.head _)⟩
      · exact ⟨_, .tail _ (.tail _ (.head _))⟩)
    have H := HS.tree (odk := listOf vs.toArray nd) hmore
    have N4 := asTree N₁
    have F4 := LawM.fr (HM.bind (x := "name") (v := some (.str x' tx)) (by decide) (by decide) (by decide) (by decide)) F₁
    clear F₁ N₁ F2 N3
    dsimp only
    k_steps
    rename Fr _ _ _ _ => F5
    rename News _ _ _ _ => N5
    rename Added _ _ _ _ _ _ _ _ _ _ => A5
    rename (∀ (p : Addr × Obj), p ∈ _ → ∀ (q : Addr × Obj), q ∈ _ → q.1 < p.1) => l5
    have H5 := HS.dir hfree A5 l5
    refine TEnd.intro F5 (newsTree N5) (offNew hI2 fun p hp => l5 p hp (I, oI) (.tail _ (.tail _ (.tail _ (List.mem_append_right _ (.head _)))))) ⟨?_, offNew hD fun p hp => l5 p hp _ (.tail _ (.tail _ (.tail _ (List.mem_append_right _ (.tail _ (.head _))))))⟩
    rw [hg]
    exact ⟨_, _, _, _, _, _, _, _, _, _, _, _, _, _, _, rfl, by omega, hc, H5, ⟨rfl, rfl, rfl, rfl⟩⟩
  · rintro m₁ nx h tk ⟨hJ, hD⟩ F₁ N₁
    exact hnext _ _ _ _ hJ F₁ (newsSub N₁ fun p hp => List.mem_append_left _ hp)
end
end Mine
end
section
open PySem PySem.W PyProof.Rows Mine
local macro_rules | `(tactic| k_all) => `(tactic| first | (with_reducible assumption) | exact neOfLt (by with_reducible assumption) | exact neOfAll (by with_reducible assumption))
local macro_rules | `(tactic| walk_at "call builtin:len") => `(tactic| (k_here; (with_reducible show wpAny _ _ (call (Value.builtin _) [Value.ref _]) _ _ _); k_dflt (refine' len_dk ?N ?m ?d ?l ?f ?_; (case N => k_asm); (case m => k_mem); (case d => (with_reducible assumption)); (case l => (with_reducible assumption)); (case f => (with_reducible assumption)))))
local macro_rules | `(tactic| walk_at "setItem ref str") => `(tactic| (k_here; k_dflt (refine' dk_set ?F ?N ?U ?d ?z ?_; (case F => k_asm); (case N => k_asm); (case U => k_updF); (case d => (with_reducible assumption)); (case z => (with_reducible assumption))); intro h' o' F' N' hd'; (try dsimp only at N'); (try k_sweep)))
local macro_rules | `(tactic| walk_at "setItem ref str ref") => `(tactic| (k_here; k_dflt (refine' dk_set ?F ?N ?U ?d ?z ?_; (case F => k_asm); (case N => k_asm); (case U => k_updF); (case d => (with_reducible assumption)); (case z => (with_reducible assumption))); intro h' o' F' N' hd'; (try dsimp only at N'); (try k_sweep)))
local macro_rules | `(tactic| walk_at "getItem ref str") => `(tactic| (k_here; k_dflt (refine' dk_getItem ?N ?m ?d ?v ?_; (case N => k_asm); (case m => k_mem); (case d => assumption); (case v => first | (with_reducible assumption) | exact valueAt_self _ _ _))))
local macro_rules | `(tactic| walk_at "subscriptTail") => `(tactic| (k_here; (with_reducible show wpAny _ _ (subscriptTail _ _ (Value.ref _) (Value.str _ _)) _ _ _); k_dflt (refine' dk_item ?N ?m ?d ?v ?_ ?a ?b; (case N => k_asm); (case m => k_mem); (case d => assumption); (case v => first | (with_reducible assumption) | exact valueAt_self _ _ _); (case a => with_unfolding_all rfl); (case b => intro _; with_unfolding_all rfl))))
section
open PySem PySem.W PyProof.Rows
theorem Mine.offH2 : True := by
  w_top off
  trivial
namespace Mine
theorem asTreeR {w : World} {h₀ h : Heap} {L t td de dk ld fd : Addr} {t1 t2 t3 tn tm : Tok} {n : Int} {oe : Obj} {vs : List Value} {nd : Nat} {old ofd : Obj} {rest more : List (Addr × Obj)}
    (N : News h₀ L h (lawL w t td de dk ld fd t1 t2 t3 tn tm n oe vs nd old ofd rest ++ more)) : ∃ R, R = rest ++ more ∧ News h₀ L h (treeL w t td de t1 t2 t3 tn tm n oe ((dk, listOf vs.toArray nd) :: (ld, old) :: (fd, ofd) :: R)) := ⟨_, rfl, N⟩
theorem filePrep {w : World} {h₀ h : Heap} {L t td de dk ld fd l : Addr} {g : Ents} {n : Nat} {ot otd oe odk old ofd ofd' lo : Obj} {kvs : List (Str × Value)} {R : List (Addr × Obj)}
    (N : News h₀ L h ((l, lo) :: (t, ot) :: (td, otd) :: (de, oe) :: (dk, odk) :: (ld, old) :: (fd, ofd') :: R)) (H : TreeF w t td de g n oe kvs ((dk, odk) :: (ld, old) :: (fd, ofd) :: R)) (he : EntsOk w R kvs g)
    (hl : @LT.lt Nat _ t l ∧ @LT.lt Nat _ td l ∧ @LT.lt Nat _ de l ∧ @LT.lt Nat _ dk l ∧ @LT.lt Nat _ ld l ∧ @LT.lt Nat _ fd l ∧ AllLt l R) :
    News h₀ L h ((t, ot) :: (td, otd) :: (de, oe) :: (dk, odk) :: (ld, old) :: (fd, ofd') :: (l, lo) :: R) ∧ TreeF w t td de g n oe kvs ((dk, odk) :: (ld, old) :: (fd, ofd') :: (l, lo) :: R) ∧ OffAll t td de dk ld fd [(l, lo)] ∧ ∀ p ∈ R, @LT.lt Nat _ p.1 l := by
  obtain ⟨l1, l2, l3, l4, l5, l6, l7⟩ := hl
  refine ⟨newsSub N fun q hq => by simp only [List.mem_cons] at hq ⊢; grind, ?_, ?_, ltOfAll l7⟩
  · refine H.mono3 he (fun p hp => .tail _ hp) (fun p hp => ?_)
    rcases List.mem_cons.mp hp with rfl | hp
    · exact ⟨Nat.ne_of_gt l1, Nat.ne_of_gt l2, Nat.ne_of_gt l3⟩
    · exact ⟨H.o1 p (.tail _ (.tail _ (.tail _ hp))), H.o2 p (.tail _ (.tail _ (.tail _ hp))), H.o3 p (.tail _ (.tail _ (.tail _ hp)))⟩
  · constructor <;> (intro p hp; rw [List.mem_singleton.mp hp])
    · exact Nat.ne_of_gt l1
    · exact Nat.ne_of_gt l2
    · exact Nat.ne_of_gt l3
    · exact Nat.ne_of_gt l4
    · exact Nat.ne_of_gt l5
    · exact Nat.ne_of_gt l6
theorem append_mid {α : Type} (a b : List α) (x : α) : a ++ x :: b = (a ++ [x]) ++ b := by simp
section
variable {w : World} {mean : ExcName → Option Value} {mg mb : Str → Option Value} {dp un : Nat} {gd : Option (List Code)} {a : Addr} {ccd : Value}
variable {A₀ : Around} {base h₀ : Heap} {L t td de dk ld fd : Addr} {m : Str → Option Value} {news : List (Addr × Obj)} {s : Shared} {Q : Flow → Shared → Prop} {g : Ents}
local macro_rules | `(tactic| walk_at "call ref") => `(tactic| (k_here; (with_reducible show wpAny _ _ (call (Value.ref 229) _) _ _ _); first | (k_dflt (refine' c_write ?B ?F ?X ?N ?T ?hk ?hdp ?hun ?hh ?hx ?hx0 ?LO ?H ?hnn ?hlc ?hy ?hfree ?hw ?hw0 ?hz ?hdir ?_; walk_at "own std8"; (case hh => rfl); (case hx | hx0 | LO | H | hnn => (with_reducible assumption)); (case hlc => k_mem); (case hy | hfree | hw | hw0 | hz | hdir => (with_reducible assumption))); intro add9 oe9 kvs9 u19 u29 u39 un9 um9 h9 tk9 F9 N9 A9 l9) | refine stop_here ?_))
local macro_rules | `(tactic| walk_at "exec For Name Tuple cons nil") => `(tactic| (k_here; (rename Fr _ _ _ _ => lF'); (with_unfolding_all refine' For_invVF lF' ?k1 ?k2 ?_; (case k1 => exact rfl); (case k2 => exact rfl); k_whole)))
local macro_rules | `(tactic| walk_at "pyIter ref") => `(tactic| ((with_reducible show wpAny _ _ _ _ _ _); refine stop_here ?_))
theorem ph2 (B : Below A₀ base [] h₀) (F : Fr h₀ L s.heap m) (X : (hd.heap_1 w.params).In h₀) (N : News h₀ L s.heap news) (T : Top hd.view (looseW hd.view []) mean mg mb h₀) (XB : (hd.heap_1 w.params).In base) (TB : Top hd.view (looseW hd.view []) mean mg mb base) (hdp : dp + 200 < recursionLimit) (hun : un + 400 < cLine) (J : LawJ w t td de dk ld fd (gF 0) 5 0 m news)
    (hnext : ∀ m' nx' h' tk', LawJ w t td de dk ld fd (gF 5) 15 5 m' nx' → Fr h₀ L h' m' → News h₀ L h' nx' → wpAny (model PySem.Challenge.rw_pq0279_01.row.prog w) (AR none dp un gd (Str.ofString "law") lawRec.scope L a ccd [] []) (execs (lawRec.body.drop 3) (envOf (Str.ofString "law") lawRec.scope L a ccd)) Q (fun _ _ => False) { s with heap := h', toks := tk' }) :
    wpAny (model PySem.Challenge.rw_pq0279_01.row.prog w) (AR none dp un gd (Str.ofString "law") lawRec.scope L a ccd [] []) (execs (lawRec.body.drop 2) (envOf (Str.ofString "law") lawRec.scope L a ccd)) Q (fun _ _ => False) s := by
  delta lawRec recOf at hnext ⊢
  dsimp only [List.drop_succ_cons, List.drop_zero] at hnext ⊢
  k_steps
  unfold Stop
  rename Fr _ _ _ _ => F2
  rename News _ _ _ _ => N2
  rename (∀ p ∈ news, p.1 < _) => l1
  have N3 := tailTup N2
  clear N2
  refine it_tupleL (m₀ := m) (nx₀ := news) (fun i m nx => LawJ w t td de dk ld fd (gF i) (5 + 2 * i) i m nx ∧ ∀ p ∈ nx, p.1 ≠ _) rfl (.head _) F2 N3 ⟨J, fun p hp => Nat.ne_of_lt (l1 p hp)⟩ rfl ?_ ?_
  · rintro i v m₁ nx I oI h tk hv ⟨⟨t1, t2, t3, tn, tm, n, oe, kvs, vs, nd, old, lkvs, ofd, fkvs, rest, rfl, hn, hc, HS, HM⟩, hD⟩ hI hI2 F₁ N₁
    obtain ⟨x, tx, rfl, hx5⟩ := StrsAre.item (ys := plains) (by unfold plains; repeat constructor) i v hv
    have hi5 : i < 5 := (List.getElem?_eq_some_iff.mp hx5).1
    obtain ⟨x', hx', hok, hg⟩ := plain_ok i hi5
    obtain rfl : x' = x := Option.some.inj (hx'.symm.trans hx5)
    obtain ⟨hx, hx0, hy, hfree, hz, hdir⟩ := hok
    have hw : x'.length ≤ 1900 := by omega
    have hnn : n ≤ 1000 := by omega
    have LO := linksOk_noLink (noLink_F i (by omega))
    have hmore := offMore (t := t) (td := td) (de := de) N₁ hI2 hD (by
      intro q hq
      simp only [List.mem_cons, List.not_mem_nil, or_false] at hq
      rcases hq with rfl | rfl | rfl
      · exact ⟨_, .head _⟩
      · exact ⟨_, .tail _ (.head _)⟩
      · exact ⟨_, .tail _ (.tail _ (.head _))⟩)
    have hmoref : ∀ p ∈ rest ++ _, p.1 ≠ fd := fun p hp => (List.mem_append.mp hp).elim (HS.off.o6 p) (offMore1 (K := fd) N₁ hI2 hD ⟨_, .tail _ (.tail _ (.tail _ (.tail _ (.tail _ (.head _)))))⟩ p)
    have H := HS.tree (odk := listOf vs.toArray nd) hmore
    obtain ⟨ap, hoff, hed, hee, helo, hes, hdi, hdl, hldd, hllo, hll, hls, hfdd, hflo, hff, hfs⟩ := id HS
    obtain ⟨a1, a2, a3, b1, b2, b3, c1, c2, c3, c4, d1, d2, d3, d4, d5⟩ := ap
    have hfz : fkvs.length ≤ sizeLine := by rw [sizeLine_eq]; omega
    obtain ⟨R, hR, N4⟩ := asTreeR N₁
    rw [← hR] at hmoref H
    have F4 := LawM.fr (HM.bind (x := "name") (v := some (.str x' tx)) (by decide) (by decide) (by decide) (by decide)) F₁
    clear F₁ N₁ F2 N3
    dsimp only
    k_steps
    rename Fr _ _ _ _ => F5
    rename News _ _ _ _ => N5
    rename Obj.IsDictOf _ _ (stored _ _ _) => hfd2
    rename (_ ∧ _ ∧ _ ∧ _ ∧ _ ∧ _ ∧ AllLt _ R) => hl
    obtain ⟨N6, H6, hol, hRl⟩ := filePrep N5 H (hee.mono fun p hp => by rw [hR]; exact List.mem_append_left _ hp) hl
    clear N5 hl
    unfold Stop
    k_steps
    rename Fr _ _ _ _ => F7
    rename News _ _ _ _ => N7
    rename Added _ _ _ _ _ _ _ _ _ _ => A5
    rename (∀ (p : Addr × Obj), p ∈ _ → ∀ (q : Addr × Obj), q ∈ _ → q.1 < p.1) => l5
    have H5 := HS.file hfree hfd2 (by omega) A5 hol l5
    subst hR
    have hlI := hRl (I, oI) (List.mem_append_right _ (.head _))
    have hlD := hRl _ (List.mem_append_right _ (.tail _ (.head _)))
    have N8 := newsTree (rest := _ :: rest) N7
    refine TEnd.intro F7 N8 ?_ ⟨?_, ?_⟩
    · rw [append_mid]
      refine offNew hI2 fun p hp => ?_
      rcases List.mem_append.mp hp with hp | hp
      · exact l5 p hp (I, oI) (.tail _ (.tail _ (.tail _ (.tail _ (List.mem_append_right _ (.head _))))))
      · rw [List.mem_singleton.mp hp]; exact hlI
    · have hnone : valueAt fkvs x' = none := by
        have := hff x'
        rw [hfree] at this
        exact this
      have hz9 : ((x', Kind.plain (i : Int)) :: gF i) = ((x', Kind.plain (fkvs.length : Int)) :: gF i) := by rw [hc]
      rw [hg, hz9]
      exact ⟨_, _, _, _, _, _, _, _, _, _, _, _, _, _, _, rfl, by omega, (stored_len_new hnone).trans (by rw [hc]), H5, ⟨rfl, rfl, rfl, rfl⟩⟩
    · rw [append_mid]
      refine offNew hD fun p hp => ?_
      rcases List.mem_append.mp hp with hp | hp
      · exact l5 p hp _ (.tail _ (.tail _ (.tail _ (.tail _ (List.mem_append_right _ (.tail _ (.head _)))))))
      · rw [List.mem_singleton.mp hp]; exact hlD
  · rintro m₁ nx h tk ⟨hJ, hD⟩ F₁ N₁
    exact hnext _ _ _ _ hJ F₁ (newsSub N₁ fun p hp => List.mem_append_left _ hp)
end
end Mine
end
section
open PySem PySem.W PyProof.Rows
theorem Mine.offB2 : True := by
  w_top off
  trivial
namespace Mine
/- the links that the law lays -/
def places : List Str := [Str.ofString "/", Str.ofString "/d/", Str.ofString "/~/", Str.ofString "/d/e/"]
def lname (p : Str) (i : Nat) : Str := p ++ Str.ofString "l" ++ Str.ofString (toString ((0 : Int) + (i : Int)))
inductive GL : Nat → Ents → Prop
  | base : GL 0 (gF 5)
  | link {i : Nat} {g : Ents} {p txt : Str} : GL i g → p ∈ places → txt.length ≤ 100 → GL (i + 1) ((lname p i, .link txt) :: g)
theorem lname_inj : ∀ p ∈ places, ∀ q ∈ places, ∀ i, i < 4 → ∀ j, j < 4 → lname p i = lname q j → i = j := by decide +kernel
theorem GL.other {i : Nat} {g : Ents} (h : GL i g) (y : Str) (hy : ∀ p ∈ places, ∀ j, j < i → lname p j ≠ y) : look g y = look (gF 5) y := by
  induction h with
  | base => rfl
  | link h hp hl ih =>
    rw [look_cons, if_neg (hy _ hp _ (Nat.lt_succ_self _))]
    exact ih fun p hp j hj => hy p hp j (Nat.lt_succ_of_lt hj)
theorem GL.links {i : Nat} {g : Ents} (h : GL i g) : LinksOk g := by
  induction h with
  | base => exact linksOk_noLink (noLink_F 5 (by omega))
  | link h hp hl ih =>
    intro x t e
    rw [look_cons] at e
    split at e
    · cases e; exact hl
    · exact ih x t e
def fixedNames : List Str := [Str.ofString "/", Str.ofString "/d", Str.ofString "/~", Str.ofString "/d/e", Str.ofString "/d/none"]
theorem fixed_off : ∀ y ∈ fixedNames, ∀ p ∈ places, ∀ j, j < 4 → lname p j ≠ y := by decide +kernel
theorem GL.fixed {i : Nat} {g : Ents} (h : GL i g) (hi : i ≤ 4) {y : Str} (hy : y ∈ fixedNames) : look g y = look (gF 5) y :=
  h.other y fun p hp j hj => fixed_off y hy p hp j (by omega)
def dirs4 : List Str := [Str.ofString "/", Str.ofString "/d", Str.ofString "/~", Str.ofString "/d/e"]
theorem dirs4_fixed : ∀ y ∈ dirs4, y ∈ fixedNames ∧ look (gF 5) y = some .dir := by decide +kernel
theorem GL.dir {i : Nat} {g : Ents} (h : GL i g) (hi : i ≤ 4) {y : Str} (hy : y ∈ dirs4) : look g y = some .dir :=
  (h.fixed hi (dirs4_fixed y hy).1).trans (dirs4_fixed y hy).2
theorem isLink_dir {g : Ents} {y : Str} (h : look g y = some .dir) : isLink g y = false := by rw [isLink_iff h]; rfl
/- where nothing is to follow -/
theorem firstLink_fixed {g : Ents} (h : ∀ y ∈ dirs4, isLink g y = false) : ∀ y ∈ dirs4, firstLink g y = Str.ofString "" := by
  have h0 := h (Str.ofString "/") (by decide +kernel)
  have h1 := h (Str.ofString "/d") (by decide +kernel)
  have h2 := h (Str.ofString "/~") (by decide +kernel)
  have h3 := h (Str.ofString "/d/e") (by decide +kernel)
  have out : ∀ (x : Str) (n : Nat), Txt.find3 x sl 1 = -1 → isLink g x = false → flGo g x (n + 1) (Txt.find3 x sl 1) = Str.ofString "" := by
    intro x n e hl
    rw [e, flGo_exit (by omega) (by decide), hl]
    rfl
  intro y hy
  simp only [dirs4, List.mem_cons, List.not_mem_nil, or_false] at hy
  rcases hy with rfl | rfl | rfl | rfl
  · rw [firstLink_eq]; exact out _ _ (by decide +kernel) h0
  · rw [firstLink_eq]; exact out _ _ (by decide +kernel) h1
  · rw [firstLink_eq]; exact out _ _ (by decide +kernel) h2
  · rw [firstLink_eq]
    have e1 : Txt.find3 (Str.ofString "/d/e") sl 1 = 2 := by decide +kernel
    have e2 : Txt.slice (Str.ofString "/d/e") none (some 2) = Str.ofString "/d" := by decide +kernel
    have e3 : Txt.find3 (Str.ofString "/d/e") sl (2 + 1) = -1 := by decide +kernel
    have e4 : (Str.ofString "/d/e").length + 2 = 6 := by decide +kernel
    rw [e1, e4, flGo_on (by omega) (by decide) (by rw [e2]; exact h1), e3, flGo_exit (by omega) (by decide), h3]
    rfl
theorem trueName_of_none {g : Ents} {y : Str} (h : firstLink g y = Str.ofString "") : trueName g y = some y := by
  unfold trueName trueGo
  rw [if_pos h]
theorem name_facts : ∀ p ∈ places, ∀ i, i < 4 → (lname p i).length ≤ 500 ∧ (cpl (lname p i)).head? = some 47 ∧ lname p i ≠ Str.ofString "/" ∧ parentOf (lname p i) ∈ dirs4 ∧ joinedS (parentOf (lname p i)) (lastPart (lname p i)) = lname p i ∧ look (gF 5) (lname p i) = none := by decide +kernel
theorem GL.ok {i : Nat} {g : Ents} (h : GL i g) (hi : i < 4) {p : Str} (hp : p ∈ places) : MkOk g (lname p i) := by
  obtain ⟨h1, h2, h3, h4, h5, h6⟩ := name_facts p hp i hi
  refine ⟨h1, h2, h3, ?_, h5, ?_, h.dir (by omega) h4⟩
  · exact trueName_of_none (firstLink_fixed (fun y hy => isLink_dir (h.dir (by omega) hy)) _ h4)
  · rw [h.other _ fun q hq j hj e => by have := lname_inj q hq p hp j (by omega) i hi e; omega]
    exact h6
theorem GL.none {i : Nat} {g : Ents} (h : GL i g) (hi : i ≤ 4) : look g (Str.ofString "/d/none") = none := by
  rw [h.fixed hi (by decide +kernel)]
  decide +kernel
theorem places_of {y : Str} {t a b c d : Tok} (h : Value.str y t ∈ [Value.str (Str.ofString "/") a, Value.str (Str.ofString "/d/") b, Value.str (Str.ofString "/~/") c, Value.str (Str.ofString "/d/e/") d]) : y ∈ places := by
  simp only [List.mem_cons, List.not_mem_nil, or_false, Value.str.injEq] at h
  rcases h with ⟨rfl, _⟩ | ⟨rfl, _⟩ | ⟨rfl, _⟩ | ⟨rfl, _⟩ <;> simp [places]
theorem LinkD.plus {g : Ents} {lkvs : List (Str × Value)} {x txt : Str} {tk : Tok} (H : LinkD g lkvs) : LinkD ((x, .link txt) :: g) (stored lkvs x (.str txt tk)) := by
  intro y
  rw [look_cons, valueAt_stored]
  by_cases e : x = y
  · rw [if_pos e, if_pos e]
    exact ⟨tk, rfl⟩
  · rw [if_neg e, if_neg e]
    exact H y
theorem LawS.link {w : World} {t td de dk ld fd : Addr} {g : Ents} {n : Nat} {oe old ofd odk oe' old1 ofd1 old' : Obj} {kvs lkvs fkvs kvs' : List (Str × Value)} {vs vs' : List Value} {ns' : List Int} {rest more add : List (Addr × Obj)} {x txt : Str} {tk : Tok} (H : LawS w t td de dk ld fd g n oe kvs vs old lkvs ofd fkvs rest)
    (hf : look g x = none) (hld : old'.IsDictOf (KND w) (stored lkvs x (.str txt tk))) (hi : IntsAre vs' ns') (hl' : vs'.length ≤ 100) (A : Added w t td de kvs x (.link txt) oe' kvs' add) (hl : ∀ p ∈ add, ∀ q ∈ ((dk, odk) :: (ld, old1) :: (fd, ofd1) :: more), q.1 < p.1) :
    LawS w t td de dk ld fd ((x, .link txt) :: g) (n + 1) oe' kvs' vs' old' (stored lkvs x (.str txt tk)) ofd fkvs (add ++ rest) := by
  obtain ⟨v, h1, rfl, h2, h3⟩ := A
  refine ⟨H.ap, H.off.add h3 (fun p hp => hl p hp _ (.head _)) (fun p hp => hl p hp _ (.tail _ (.head _))) (fun p hp => hl p hp _ (.tail _ (.tail _ (.head _)))), h1, H.ee.add h2, H.elo, ?_, ⟨_, hi⟩, hl', hld, H.llo, H.ll.plus, ?_, H.fdd, H.flo, H.ff.other (fun z => by simp) hf fun p hp => List.mem_append_right _ hp, H.fs⟩
  · have := stored_len kvs x v
    have := H.es
    omega
  · have := stored_len lkvs x (.str txt tk)
    have := H.ls
    omega
theorem linkPrep {w : World} {h₀ h : Heap} {L t td de dk ld fd : Addr} {g : Ents} {n : Nat} {ot otd oe odk odk0 old old' ofd : Obj} {kvs : List (Str × Value)} {R : List (Addr × Obj)} {q : Addr × Obj}
    (N : News h₀ L h (q :: (t, ot) :: (td, otd) :: (de, oe) :: (dk, odk) :: (ld, old') :: (fd, ofd) :: R)) (H : TreeF w t td de g n oe kvs ((dk, odk0) :: (ld, old) :: (fd, ofd) :: R)) (he : EntsOk w R kvs g) :
    News h₀ L h ((t, ot) :: (td, otd) :: (de, oe) :: (dk, odk) :: (ld, old') :: (fd, ofd) :: R) ∧ TreeF w t td de g n oe kvs ((dk, odk) :: (ld, old') :: (fd, ofd) :: R) :=
  ⟨newsSub N fun p hp => .tail _ hp, H.mono3 he (fun p hp => hp) fun p hp => ⟨H.o1 p (.tail _ (.tail _ (.tail _ hp))), H.o2 p (.tail _ (.tail _ (.tail _ hp))), H.o3 p (.tail _ (.tail _ (.tail _ hp)))⟩⟩
end Mine
end
section
open PySem PySem.W PyProof.Rows
theorem Mine.offH3 : True := by
  w_top off
  trivial
namespace Mine
section
variable {w : World} {mean : ExcName → Option Value} {mg mb : Str → Option Value} {dp un : Nat} {gd : Option (List Code)} {a : Addr} {ccd : Value}
variable {A₀ : Around} {base h₀ : Heap} {L t td de dk ld fd : Addr} {m : Str → Option Value} {news : List (Addr × Obj)} {s : Shared} {Q : Flow → Shared → Prop} {g : Ents}
local macro_rules | `(tactic| walk_at "call ref") => `(tactic| (k_here; (with_reducible show wpAny _ _ (call (Value.ref 320) _) _ _ _); first | (k_dflt (refine' c_drawU ?B ?F ?X ?N ?T ?hk ?hdp ?hun ?U ?hi ?hl ?hm1 ?hm2 ?_; walk_at "own std8"; (case U => k_updF); (case hi | hl => (with_reducible assumption)); (case hm1 | hm2 => decide)); intro r9 tr9 vs9 ns9 nd9 h9 tk9 F9 N9 hi9 hl9 h09 h19; (try dsimp only at N9)) | refine stop_here ?_))
local macro_rules | `(tactic| walk_at "call ref") => `(tactic| (k_here; (with_reducible show wpAny _ _ (call (Value.ref 327) _) _ _ _); first | (k_dflt (refine' c_textU ?B ?F ?X ?N ?T ?hk ?hdp ?hun ?hh ?U ?hi ?hl ?_; walk_at "own std8"; (case hh => rfl); (case U => k_updF); (case hi | hl => (with_reducible assumption))); intro x9 tx9 vs9 ns9 nd9 h9 tk9 F9 N9 hi9 hl9 hx9 hxl9; (try dsimp only at N9)) | refine stop_here ?_))
local macro_rules | `(tactic| walk_at "call ref") => `(tactic| (k_here; (with_reducible show wpAny _ _ (call (Value.ref 257) _) _ _ _); first | (k_dflt (refine' c_mklink ?B ?F ?X ?N ?T ?hk ?hdp ?hun ?hh ?hx ?hx0 ?hne ?htx ?LO ?H ?hnn ?hy ?hj ?hfree ?hw ?hw0 ?hz ?hdir ?_; walk_at "own std8"; (case hh => rfl); (case hx | hx0 | hne | htx | LO | H | hnn | hy | hj | hfree | hw | hw0 | hz | hdir => (with_reducible assumption))); intro add9 oe9 kvs9 u19 u29 u39 un9 um9 h9 tk9 F9 N9 A9 l9) | refine stop_here ?_))
local macro_rules | `(tactic| walk_at "pyIter ref") => `(tactic| ((with_reducible show wpAny _ _ _ _ _ _); refine stop_here ?_))
local macro_rules | `(tactic| walk_at "subscriptTail") => `(tactic| (k_here; (with_reducible show wpAny _ _ (subscriptTail _ _ (Value.ref _) (Value.int _ _)) _ _ _); k_dflt (refine' pick_item ?N ?m ?h0 ?h1 ?h2 ?p ?_ ?hs; (case N => k_asm); (case m => k_mem); (case h0 => (with_reducible assumption)); (case h1 => (simp only [List.length_cons, List.length_nil]; omega)); (case h2 => (simp only [List.length_cons, List.length_nil]; omega)); (case p => (repeat (first | exact trivial | refine ⟨⟨_, _, rfl, by decide⟩, ?_⟩))); (case hs => with_unfolding_all rfl)); intro y9 t9 hm9 hl9))
theorem ph3 (B : Below A₀ base [] h₀) (F : Fr h₀ L s.heap m) (X : (hd.heap_1 w.params).In h₀) (N : News h₀ L s.heap news) (T : Top hd.view (looseW hd.view []) mean mg mb h₀) (XB : (hd.heap_1 w.params).In base) (TB : Top hd.view (looseW hd.view []) mean mg mb base) (hdp : dp + 200 < recursionLimit) (hun : un + 400 < cLine) (J : LawJ w t td de dk ld fd (gF 5) 15 5 m news)
    (hnext : ∀ i g m' nx' h' tk', i ≤ 4 → GL i g → LawJ w t td de dk ld fd g 20 5 m' nx' → Fr h₀ L h' m' → News h₀ L h' nx' → wpAny (model PySem.Challenge.rw_pq0279_01.row.prog w) (AR none dp un gd (Str.ofString "law") lawRec.scope L a ccd [] []) (execs (lawRec.body.drop 4) (envOf (Str.ofString "law") lawRec.scope L a ccd)) Q (fun _ _ => False) { s with heap := h', toks := tk' }) :
    wpAny (model PySem.Challenge.rw_pq0279_01.row.prog w) (AR none dp un gd (Str.ofString "law") lawRec.scope L a ccd [] []) (execs (lawRec.body.drop 3) (envOf (Str.ofString "law") lawRec.scope L a ccd)) Q (fun _ _ => False) s := by
  delta lawRec recOf at hnext ⊢
  dsimp only [List.drop_succ_cons, List.drop_zero] at hnext ⊢
  obtain ⟨t1, t2, t3, tn, tm, n, oe, kvs, vs, nd, old, lkvs, ofd, fkvs, rest, rfl, hn, hc, HS, HM⟩ := J
  obtain ⟨ap, hoff, hed, hee, helo, hes, hdi, hdl, hldd, hllo, hll, hls, hfdd, hflo, hff, hfs⟩ := id HS
  obtain ⟨a1, a2, a3, b1, b2, b3, c1, c2, c3, c4, d1, d2, d3, d4, d5⟩ := ap
  obtain ⟨ns, hdi⟩ := hdi
  have hR4 := hoff.o4
  have F4 := LawM.fr HM F
  clear F
  k_steps
  unfold Stop
  rename IsRange _ _ _ _ _ _ _ _ => hr
  rename Fr _ _ _ _ => F2
  rename News _ _ _ _ => N2
  rename IntsAre _ _ => hi2
  rename (_ < (4 : Int)) => hr4
  rename ((0 : Int) ≤ _) => hr0
  rename (List.length (α := Value) _ ≤ 100) => hl2
  have HS2 := HS.deck hi2 hl2
  have N3 : News h₀ L _ (lawL w t td de dk ld fd t1 t2 t3 tn tm ((n : Nat) : Int) oe _ _ old ofd rest ++ []) := newsSub N2 fun p hp => by rw [List.append_nil] at hp; exact hp
  clear N2 hi2 hl2 hdi HS N
  refine it_rangeL (n := (1 + _ : Int).toNat) (m₀ := _) (nx₀ := _) (news := []) (fun i m nx => ∃ g, GL i g ∧ LawJ w t td de dk ld fd g (15 + i) 5 m nx) rfl hr (range_small (by omega) (by omega)) range_size F2 N3 ⟨_, .base, _, _, _, _, _, _, _, _, _, _, _, _, _, _, _, rfl, hn, hc, HS2, ⟨rfl, rfl, rfl, rfl⟩⟩ rfl ?_ ?_
  · clear HS2 F2 N3 hoff hed hee helo hes hldd hllo hll hls hfdd hflo hff hfs a1 a2 a3 b1 b2 b3 c1 c2 c3 c4 d1 d2 d3 d4 d5 hR4 HM hn hc
    rintro i t' m₁ nx I oI h tk hi ⟨g, hg, t1, t2, t3, tn, tm, n, oe, kvs, vs, nd, old, lkvs, ofd, fkvs, rest, rfl, hn, hc, HS, HM⟩ hI hI2 F₁ N₁
    have hi4 : i < 4 := by omega
    have hnn : n ≤ 1000 := by omega
    have hn9 : n + 1 ≤ 15 + (i + 1) := by omega
    have hlz : lkvs.length ≤ sizeLine := by
      have := HS.ls
      rw [sizeLine_eq]
      omega
    obtain ⟨ap, hoff, hed, hee, helo, hes, hdi, hdl, hldd, hllo, hll, hls, hfdd, hflo, hff, hfs⟩ := id HS
    obtain ⟨a1, a2, a3, b1, b2, b3, c1, c2, c3, c4, d1, d2, d3, d4, d5⟩ := ap
    obtain ⟨ns, hdi⟩ := hdi
    obtain ⟨R, hR, N4⟩ := asTreeR N₁
    have hRdk : ∀ p ∈ R, p.1 ≠ dk := fun p hp => by
      rw [hR] at hp
      rcases List.mem_append.mp hp with hp | hp
      · exact hoff.o4 p hp
      · rw [List.mem_singleton.mp hp]; exact Ne.symm (hI2 (dk, listOf vs.toArray nd) (.tail _ (.tail _ (.tail _ (.head _)))))
    have hRld : ∀ p ∈ R, p.1 ≠ ld := fun p hp => by
      rw [hR] at hp
      rcases List.mem_append.mp hp with hp | hp
      · exact hoff.o5 p hp
      · rw [List.mem_singleton.mp hp]; exact Ne.symm (hI2 (ld, old) (.tail _ (.tail _ (.tail _ (.tail _ (.head _))))))
    have F4 := LawM.fr (HM.bind (x := "number") (v := some (.int (0 + (i : Int)) t')) (by decide) (by decide) (by decide) (by decide)) F₁
    clear F₁ N₁
    dsimp only
    k_steps
    rename Fr _ _ _ _ => F5
    rename News _ _ _ _ => N5
    rename Obj.IsDictOf _ _ (stored lkvs _ _) => hld2
    rename (Value.str _ _ ∈ _) => hm9
    rename IntsAre _ _ => hi9
    rename (List.length (α := Value) _ ≤ 100) => hl9
    have hpl := places_of hm9
    have hok := hg.ok hi4 hpl
    unfold lname at hok
    obtain ⟨hx, hx0, hne, hy, hj, hfree, hdir⟩ := hok
    have LO := hg.links
    have hw : (_ ++ Str.ofString "l" ++ Str.ofString (toString ((0 : Int) + (i : Int)))).length ≤ 1900 := Nat.le_trans hx (by decide)
    have hIt : ∀ p ∈ [(I, oI)], p.1 ≠ t ∧ p.1 ≠ td ∧ p.1 ≠ de := fun p hp => by
      rw [List.mem_singleton.mp hp]
      exact ⟨Ne.symm (hI2 (t, instObj 295 td) (.head _)), Ne.symm (hI2 (td, treeD w t1 t2 t3 (.int n tn) (.int (-1) tm) de) (.tail _ (.head _))), Ne.symm (hI2 (de, oe) (.tail _ (.tail _ (.head _))))⟩
    have H := HS.tree (odk := listOf vs.toArray nd) hIt
    rw [← hR] at H
    have H6 := linkPrep N5 H (by rw [hR]; exact hee.mono fun p hp => List.mem_append_left _ hp)
    obtain ⟨N6, H6⟩ := H6
    clear N5 H
    unfold Stop
    k_steps
    rename Fr _ _ _ _ => F7
    rename News _ _ _ _ => N7
    rename Added _ _ _ _ _ _ _ _ _ _ => A5
    rename (∀ (p : Addr × Obj), p ∈ _ → ∀ (q : Addr × Obj), q ∈ _ → q.1 < p.1) => l5
    have H5 := HS.link hfree hld2 hi9 hl9 A5 l5
    subst hR
    refine TEnd.intro F7 (newsTree N7) (offNew hI2 fun p hp => l5 p hp (I, oI) (.tail _ (.tail _ (.tail _ (List.mem_append_right _ (.head _)))))) ⟨_, .link hg hpl (by assumption), _, _, _, _, _, _, _, _, _, _, _, _, _, _, _, rfl, hn9, hc, H5, ⟨rfl, rfl, rfl, rfl⟩⟩
  · rintro m₁ nx h tk ⟨g, hg, hJ⟩ F₁ N₁
    rw [List.append_nil] at N₁
    refine hnext _ g _ _ _ _ (by omega) hg ?_ F₁ N₁
    obtain ⟨t1, t2, t3, tn, tm, n, oe, kvs, vs, nd, old, lkvs, ofd, fkvs, rest, e1, hn, hr⟩ := hJ
    exact ⟨t1, t2, t3, tn, tm, n, oe, kvs, vs, nd, old, lkvs, ofd, fkvs, rest, e1, by omega, hr⟩
end
end Mine
end
section
open PySem PySem.W PyProof.Rows
theorem Mine.offPL : True := by
  w_top off
  trivial
namespace Mine
/- the plain law: both walks lead a name to the same place -/
def strOf (l : List Nat) : Str := ⟨l.toArray⟩
theorem cpl_strOf (l : List Nat) : cpl (strOf l) = l := by simp [cpl, strOf]
theorem strOf_cpl (x : Str) : strOf (cpl x) = x := cpl_ext (cpl_strOf _)
theorem split_eq (y : Str) : Txt.split y sl = (cut (cpl y)).map strOf := by
  rw [← split_cut, List.map_map]
  conv => lhs; rw [← List.map_id (Txt.split y sl)]
  exact List.map_congr_left fun z _ => (strOf_cpl z).symm
theorem cut_cons_ne {c : Nat} {r : List Nat} (h : c ≠ 47) : cut (c :: r) = match cut r with
    | [] => [[c]]
    | p :: ps => (c :: p) :: ps := by
  conv => lhs; unfold cut
  rw [if_neg h]
  all_goals (cases cut r <;> rfl)
theorem at47 {x : Str} {v : Nat} : x.cps.getD v 0 = 47 ↔ (cpl x)[v]? = some 47 := by
  have e : (cpl x)[v]? = x.cps[v]? := by simp [cpl]
  rw [e, Array.getD_eq_getD_getElem?]
  cases x.cps[v]? with
  | none => simp
  | some c => simp
theorem cut_app (a b : List Nat) : cut (a ++ 47 :: b) = cut a ++ cut b := by
  induction a with
  | nil => simp [cut]
  | cons c r ih =>
    by_cases h : c = 47
    · subst h
      simp only [List.cons_append, cut, if_true, ih]
    · rw [List.cons_append, cut_cons_ne h, cut_cons_ne h, ih]
      cases hc : cut r with
      | nil => exact absurd hc (cut_ne r)
      | cons p ps => rfl
def Good (ps : List Str) : Prop := ∀ p ∈ ps, 47 ∉ cpl p ∧ p ≠ Str.ofString "" ∧ p ≠ Str.ofString "."
theorem Good.mono {a b : List Str} (h : Good a) (hs : ∀ p ∈ b, p ∈ a) : Good b := fun p hp => h p (hs p hp)
def Free (ps : List Str) : Prop := ∀ p ∈ ps, 47 ∉ cpl p
theorem Good.free {ps : List Str} (h : Good ps) : Free ps := fun p hp => (h p hp).1
theorem cpl_nm (ps : List Str) : cpl (nm ps) = 47 :: joinL (ps.map cpl) := by
  unfold nm
  rw [cpl_app, cpl_sl]
  show 47 :: cpl (Str.join sl ps) = _
  rw [show cpl (Str.join sl ps) = (Str.join sl ps).cps.toList from rfl, join_toL]
theorem cut_joinS {ps : List Str} (hne : ps ≠ []) (h : Free ps) : cut (joinL (ps.map cpl)) = ps.map cpl :=
  cut_joinL _ (by simpa using hne) fun p hp => by
    obtain ⟨q, hq, rfl⟩ := List.mem_map.mp hp
    exact h q hq
theorem map_strOf (ps : List Str) : (ps.map cpl).map strOf = ps := by
  rw [List.map_map]
  conv => rhs; rw [← List.map_id ps]
  exact List.map_congr_left fun z _ => strOf_cpl z
theorem split_nm {ps : List Str} (hne : ps ≠ []) (h : Free ps) : Txt.split (nm ps) sl = Str.ofString "" :: ps := by
  rw [split_eq, cpl_nm]
  show (cut ([] ++ 47 :: joinL (ps.map cpl))).map strOf = _
  rw [cut_app, cut_joinS hne h, List.map_append, map_strOf]
  rfl
theorem keepB_good {p : Str} (h1 : p ≠ Str.ofString "") (h2 : p ≠ Str.ofString ".") : keepB p = true := by
  unfold keepB
  simp [Ne.symm h1, Ne.symm h2]
theorem keepB_of {p : Str} (h : keepB p = true) : p ≠ Str.ofString "" ∧ p ≠ Str.ofString "." := by
  unfold keepB at h
  simp only [List.any_cons, List.any_nil, Bool.or_false, Bool.not_eq_true', Bool.or_eq_false_iff, beq_eq_false_iff_ne] at h
  exact ⟨Ne.symm h.1, Ne.symm h.2⟩
theorem split_free (y : Str) : Free (Txt.split y sl) := by
  intro p hp
  rw [sl_eq] at hp
  exact StrLaws.split_free y 47 p hp
theorem stepsL_good (x : Str) : Good (stepsL x) := fun p hp => by
  obtain ⟨h1, h2⟩ := List.mem_filter.mp hp
  exact ⟨split_free x p h1, keepB_of h2⟩
theorem stepsL_nm {ps : List Str} (h : Good ps) : stepsL (nm ps) = ps := by
  unfold stepsL
  cases ps with
  | nil => decide +kernel
  | cons p r =>
    rw [split_nm (by simp) h.free, List.filter_cons, if_neg (by decide +kernel)]
    exact List.filter_eq_self.mpr fun q hq => keepB_good (h q hq).2.1 (h q hq).2.2
theorem plain_mem : ∀ (l acc : List Str), ∀ p ∈ l.foldl keepStep acc, p ∈ acc ∨ (p ∈ l ∧ p ≠ Str.ofString "" ∧ p ≠ Str.ofString ".")
  | [], acc, p, hp => .inl hp
  | x :: r, acc, p, hp => by
    rcases plain_mem r (keepStep acc x) p hp with h | ⟨h, h2⟩
    · unfold keepStep at h
      split at h
      · exact .inl (List.dropLast_subset _ h)
      · split at h
        · exact .inl h
        · rename_i h3
          rcases List.mem_append.mp h with h | h
          · exact .inl h
          · rw [List.mem_singleton.mp h]
            exact .inr ⟨.head _, fun e => h3 (.inl e), fun e => h3 (.inr e)⟩
    · exact .inr ⟨.tail _ h, h2⟩
theorem plain_good {l : List Str} (h : Free l) : Good (plain l) := fun p hp => by
  rcases plain_mem l [] p hp with h1 | ⟨h1, h2⟩
  · cases h1
  · exact ⟨h p h1, h2⟩
theorem plain_empty (l : List Str) : plain (Str.ofString "" :: l) = plain l := by
  unfold plain
  rw [List.foldl_cons]
  rfl
/- a name cut behind its step i -/
theorem joinL_cons {p : List Nat} {r : List (List Nat)} : joinL (p :: r) = p ++ (if r = [] then [] else 47 :: joinL r) := by
  cases r with
  | nil => simp [joinL]
  | cons q r => simp [joinL]
theorem joinL_split : ∀ (ps : List (List Nat)) (i : Nat), i < ps.length → joinL ps = joinL (ps.take (i + 1)) ++ (if ps.drop (i + 1) = [] then [] else 47 :: joinL (ps.drop (i + 1)))
  | [], i, h => absurd h (Nat.not_lt_zero _)
  | p :: r, 0, _ => by simp [joinL_cons, joinL]
  | p :: r, i + 1, h => by
    have hr : i < r.length := by simpa using h
    have ih := joinL_split r i hr
    have hne : r ≠ [] := fun e => by rw [e] at hr; exact absurd hr (Nat.not_lt_zero _)
    have hne2 : r.take (i + 1) ≠ [] := fun e => by
      have := congrArg List.length e
      rw [List.length_take] at this
      simp only [List.length_nil] at this
      omega
    rw [joinL_cons, if_neg hne, List.take_succ_cons, List.drop_succ_cons, joinL_cons, if_neg hne2, ih]
    simp
def tailOf (ps : List Str) (i : Nat) : List Nat := if ps.drop (i + 1) = [] then [] else 47 :: joinL ((ps.drop (i + 1)).map cpl)
theorem nm_split {ps : List Str} {i : Nat} (h : i < ps.length) : cpl (nm ps) = cpl (nm (ps.take (i + 1))) ++ tailOf ps i := by
  rw [cpl_nm, cpl_nm, joinL_split (ps.map cpl) i (by simpa using h), List.map_take]
  unfold tailOf
  rw [← List.map_drop]
  by_cases e : ps.drop (i + 1) = []
  · rw [if_pos e, if_pos (by rw [e]; rfl)]; simp
  · rw [if_neg e, if_neg (by simpa using e)]; simp
theorem joinL_tot : ∀ ps : List (List Nat), ps ≠ [] → (joinL ps).length + 1 = (ps.map fun y => y.length + 1).sum
  | [], h => absurd rfl h
  | [p], _ => by simp [joinL]
  | p :: q :: r, _ => by
    have ih := joinL_tot (q :: r) (by simp)
    simp only [joinL, List.length_append, List.length_cons, List.map_cons, List.sum_cons] at ih ⊢
    omega
theorem nm_tot {ps : List Str} (h : ps ≠ []) : (cpl (nm ps)).length = tot ps := by
  rw [cpl_nm, List.length_cons, joinL_tot _ (by simpa using h), List.map_map, tot]
  exact congrArg List.sum (List.map_congr_left fun y _ => by simp [cpl, Str.length])
/- finding the next slash -/
theorem find3_at {x : Str} {s : Nat} {a b : List Nat} (h : (cpl x).drop s = a ++ 47 :: b) (hf : 47 ∉ a) : Txt.find3 x sl (s : Int) = ((s + a.length : Nat) : Int) := by
  have hs : s ≤ (cpl x).length := by
    rcases Nat.lt_or_ge (cpl x).length s with h1 | h1
    · rw [List.drop_of_length_le (Nat.le_of_lt h1)] at h
      cases a <;> cases h
    · exact h1
  have at1 : ∀ j, (cpl x)[s + j]? = (a ++ 47 :: b)[j]? := fun j => by rw [← h, List.getElem?_drop]
  have hlen : (cpl x).length = s + (a ++ 47 :: b).length := by
    have := congrArg List.length h
    rw [List.length_drop] at this
    omega
  have hfi : fromIndex x.length (s : Int) = s := by unfold fromIndex; rw [if_neg (by omega)]; simp
  rw [sl_eq]
  rcases StrLaws.find3_spec x 47 (s : Int) with ⟨h1, hn⟩ | ⟨k, h1, h2, h3, h4, h5⟩
  · exfalso
    rw [hfi] at hn
    refine hn (s + a.length) (by omega) ?_ ?_
    · rw [← cpl_len, hlen, List.length_append, List.length_cons]; omega
    · have := at1 a.length
      rw [List.getElem?_append_right (Nat.le_refl _), Nat.sub_self] at this
      exact at47.mpr this
  · rw [h1]
    rw [hfi] at h2
    refine congrArg Int.ofNat ?_
    rcases Nat.lt_trichotomy k (s + a.length) with h6 | h6 | h6
    · exfalso
      have h7 := at1 (k - s)
      rw [show s + (k - s) = k by omega, List.getElem?_append_left (by omega)] at h7
      exact hf (List.mem_of_getElem? (h7.symm.trans (at47.mp h4)))
    · exact h6
    · exfalso
      have := at1 a.length
      rw [List.getElem?_append_right (Nat.le_refl _), Nat.sub_self] at this
      exact h5 (s + a.length) (by omega) h6 (at47.mpr this)
theorem find3_out {x : Str} {s : Nat} (h : 47 ∉ (cpl x).drop s) : Txt.find3 x sl (s : Int) = -1 := by
  have hfi : fromIndex x.length (s : Int) = s := by unfold fromIndex; rw [if_neg (by omega)]; simp
  rw [sl_eq]
  rcases StrLaws.find3_spec x 47 (s : Int) with ⟨h1, _⟩ | ⟨k, h1, h2, h3, h4, h5⟩
  · exact h1
  · exfalso
    rw [hfi] at h2
    apply h
    have : ((cpl x).drop s)[k - s]? = some 47 := by rw [List.getElem?_drop, show s + (k - s) = k by omega]; exact at47.mp h4
    exact List.mem_of_getElem? this
/- first_link on a name of steps -/
theorem nm_drop {ps : List Str} {i : Nat} (h : i < ps.length) : (cpl (nm ps)).drop (tot (ps.take i) + 1) = cpl (ps[i]) ++ tailOf ps i := by
  have hsp := nm_split h
  have htk : ps.take (i + 1) = ps.take i ++ [ps[i]] := by rw [List.take_add_one, List.getElem?_eq_getElem h]; rfl
  have hl : cpl (nm (ps.take (i + 1))) = (cpl (nm (ps.take (i + 1)))).take (tot (ps.take i) + 1) ++ cpl (ps[i]) ∧ tot (ps.take i) + 1 ≤ (cpl (nm (ps.take (i + 1)))).length := by
    have hne : ps.take (i + 1) ≠ [] := by
      intro e
      have := congrArg List.length e
      rw [List.length_take] at this
      simp only [List.length_nil] at this
      omega
    have hln := nm_tot hne
    have ht : tot (ps.take (i + 1)) = tot (ps.take i) + (ps[i].length + 1) := by rw [htk, tot_app]; simp [tot]
    refine ⟨?_, by rw [hln, ht]; omega⟩
    by_cases hi : ps.take i = []
    · rw [htk, hi]
      rw [cpl_nm]
      simp [joinL, tot]
    · have h1 : i - 1 < (ps.take (i + 1)).length := by rw [List.length_take]; omega
      have hi0 : 0 < i := by
        rcases Nat.eq_zero_or_pos i with e | e
        · rw [e] at hi; exact absurd rfl hi
        · exact e
      have h2 := nm_split h1
      have e1 : i - 1 + 1 = i := by omega
      have e2 : (ps.take (i + 1)).take i = ps.take i := by rw [List.take_take, Nat.min_eq_left (by omega)]
      have e3 : (ps.take (i + 1)).drop i = [ps[i]] := by
        rw [htk, List.drop_append_of_le_length (by rw [List.length_take]; omega), List.drop_of_length_le (by rw [List.length_take]; omega)]
        rfl
      unfold tailOf at h2
      rw [e1, e2, e3, if_neg (by simp)] at h2
      have h3 := nm_tot hi
      have e4 : (cpl (nm (ps.take (i + 1)))).take (tot (ps.take i) + 1) = cpl (nm (ps.take i)) ++ [47] := by
        rw [h2, ← h3, List.take_length_add_append]
        rfl
      rw [e4]
      conv => lhs; rw [h2]
      simp [joinL]
  rw [hsp, List.drop_append_of_le_length hl.2]
  conv => lhs; rw [hl.1]
  rw [List.drop_append_of_le_length (by rw [List.length_take]; omega), List.drop_of_length_le (by rw [List.length_take]; omega)]
  rfl
theorem tot_succ {ps : List Str} {i : Nat} (h : i < ps.length) : tot (ps.take (i + 1)) = tot (ps.take i) + 1 + (cpl ps[i]).length := by
  rw [List.take_add_one, List.getElem?_eq_getElem h, Option.toList_some, tot_app, cpl_len]
  simp [tot]
  omega
theorem next_in {ps : List Str} {i : Nat} (hf : Free ps) (h : i + 1 < ps.length) : Txt.find3 (nm ps) sl ((tot (ps.take i) + 1 : Nat) : Int) = ((tot (ps.take (i + 1)) : Nat) : Int) := by
  have h1 := nm_drop (ps := ps) (i := i) (by omega)
  unfold tailOf at h1
  rw [if_neg (by intro e; have := congrArg List.length e; rw [List.length_drop] at this; simp only [List.length_nil] at this; omega)] at h1
  rw [find3_at h1 (hf _ (List.getElem_mem _)), tot_succ (by omega)]
theorem next_out {ps : List Str} {i : Nat} (hf : Free ps) (h : i + 1 = ps.length) : Txt.find3 (nm ps) sl ((tot (ps.take i) + 1 : Nat) : Int) = -1 := by
  have h1 := nm_drop (ps := ps) (i := i) (by omega)
  unfold tailOf at h1
  rw [if_pos (List.drop_of_length_le (by omega)), List.append_nil] at h1
  refine find3_out ?_
  rw [h1]
  exact hf _ (List.getElem_mem _)
theorem slice_nm {ps : List Str} {i : Nat} (h : i < ps.length) : Txt.slice (nm ps) none (some ((tot (ps.take (i + 1)) : Nat) : Int)) = nm (ps.take (i + 1)) := by
  have hne : ps.take (i + 1) ≠ [] := by
    intro e
    have := congrArg List.length e
    rw [List.length_take] at this
    simp only [List.length_nil] at this
    omega
  have hs := nm_split h
  have hl := nm_tot hne
  apply cpl_ext
  rw [slice_to (by omega) (by rw [← cpl_len, hs, List.length_append, hl]; omega), hs, Int.toNat_natCast, ← hl, List.take_left]
theorem flGo_nm {g : Ents} {ps : List Str} (hf : Free ps) : ∀ (d i n : Nat), i + d + 1 = ps.length → d + 2 ≤ n → (∀ j, j < i → isLink g (nm (ps.take (j + 1))) = false) →
    (∃ j, j < ps.length ∧ isLink g (nm (ps.take (j + 1))) = true ∧ (∀ k, k < j → isLink g (nm (ps.take (k + 1))) = false) ∧ flGo g (nm ps) n (Txt.find3 (nm ps) sl ((tot (ps.take i) + 1 : Nat) : Int)) = nm (ps.take (j + 1))) ∨
    ((∀ k, k < ps.length → isLink g (nm (ps.take (k + 1))) = false) ∧ flGo g (nm ps) n (Txt.find3 (nm ps) sl ((tot (ps.take i) + 1 : Nat) : Int)) = Str.ofString "")
  | 0, i, n, hi, hn, hno => by
    rw [next_out hf (by omega), flGo_exit (by omega) (by decide)]
    have e : ps.take (i + 1) = ps := List.take_of_length_le (by omega)
    by_cases hl : isLink g (nm ps) = true
    · refine .inl ⟨i, by omega, by rw [e]; exact hl, hno, ?_⟩
      rw [if_pos hl, e]
    · refine .inr ⟨fun k hk => ?_, by rw [if_neg hl]⟩
      rcases Nat.lt_or_ge k i with h1 | h1
      · exact hno k h1
      · rw [show k = i by omega, e]
        simpa using hl
  | d + 1, i, n, hi, hn, hno => by
    have hpos : (0 : Int) < ((tot (ps.take (i + 1)) : Nat) : Int) := by have := tot_succ (ps := ps) (i := i) (by omega); omega
    rw [next_in hf (by omega)]
    by_cases hl : isLink g (nm (ps.take (i + 1))) = true
    · refine .inl ⟨i, by omega, hl, hno, ?_⟩
      rw [flGo_hit (by omega) hpos (by rw [slice_nm (by omega)]; exact hl), slice_nm (by omega)]
    · rw [flGo_on (by omega) hpos (by rw [slice_nm (by omega)]; simpa using hl)]
      exact flGo_nm hf d (i + 1) (n - 1) (by omega) (by omega) fun j hj => by
        rcases Nat.lt_succ_iff_lt_or_eq.mp hj with h1 | rfl
        · exact hno j h1
        · simpa using hl
theorem firstLink_nm {g : Ents} {ps : List Str} (hf : Free ps) (h0 : isLink g (nm []) = false) : (∃ j, firstLed g ps = some j ∧ j < ps.length ∧ firstLink g (nm ps) = nm (ps.take (j + 1))) ∨ (firstLed g ps = none ∧ firstLink g (nm ps) = Str.ofString "") := by
  cases ps with
  | nil =>
    refine .inr ⟨rfl, ?_⟩
    rw [firstLink_eq]
    have e : Txt.find3 (nm []) sl 1 = -1 := by decide +kernel
    rw [e, flGo_exit (by omega) (by decide), h0]
    rfl
  | cons p r =>
    have hlen : (p :: r).length ≤ (nm (p :: r)).length := by
      rw [← cpl_len, nm_tot (by simp)]
      exact len_le_tot _
    rcases flGo_nm (g := g) hf r.length 0 ((nm (p :: r)).length + 2) (by simp) (by rw [List.length_cons] at hlen; omega) (fun j hj => absurd hj (Nat.not_lt_zero _)) with ⟨j, h1, h2, h3, h4⟩ | ⟨h1, h2⟩
    · exact .inl ⟨j, firstLed_some h1 h2 h3, h1, by rw [firstLink_eq]; exact h4⟩
    · exact .inr ⟨firstLed_none h1, by rw [firstLink_eq]; exact h2⟩
theorem nm_last {ps : List Str} {j : Nat} (h : j < ps.length) : cpl (nm (ps.take (j + 1))) = (if j = 0 then [] else cpl (nm (ps.take j))) ++ 47 :: cpl (ps[j]) := by
  have htk : ps.take (j + 1) = ps.take j ++ [ps[j]] := by rw [List.take_add_one, List.getElem?_eq_getElem h]; rfl
  by_cases hj : j = 0
  · rw [if_pos hj]
    subst hj
    rw [htk, cpl_nm]
    simp [joinL]
  · rw [if_neg hj]
    have h1 : j - 1 < (ps.take (j + 1)).length := by rw [List.length_take]; omega
    have h2 := nm_split h1
    have e1 : j - 1 + 1 = j := by omega
    have e2 : (ps.take (j + 1)).take j = ps.take j := by rw [List.take_take, Nat.min_eq_left (by omega)]
    have e3 : (ps.take (j + 1)).drop j = [ps[j]] := by
      rw [htk, List.drop_append_of_le_length (by rw [List.length_take]; omega), List.drop_of_length_le (by rw [List.length_take]; omega)]
      rfl
    unfold tailOf at h2
    rw [e1, e2, e3, if_neg (by simp)] at h2
    rw [h2]
    rfl
theorem rfind_at {x : Str} {a b : List Nat} (h : cpl x = a ++ 47 :: b) (hb : 47 ∉ b) : Txt.rfind x sl = (a.length : Int) := by
  have hat : (cpl x)[a.length]? = some 47 := by rw [h, List.getElem?_append_right (Nat.le_refl _), Nat.sub_self]; rfl
  rcases rfind_spec x with ⟨_, hn⟩ | ⟨k, h1, h2, h3⟩
  · exact absurd (List.mem_of_getElem? hat) hn
  · rw [h1]
    refine congrArg Int.ofNat ?_
    rcases Nat.lt_trichotomy k a.length with h4 | h4 | h4
    · exact absurd hat (h3 _ h4)
    · exact h4
    · exfalso
      rw [h, List.getElem?_append_right (by omega)] at h2
      obtain ⟨d, hd⟩ : ∃ d, k - a.length = d + 1 := ⟨k - a.length - 1, by omega⟩
      rw [hd, List.getElem?_cons_succ] at h2
      exact hb (List.mem_of_getElem? h2)
theorem dir_nm {ps : List Str} {j : Nat} (hf : Free ps) (h : j < ps.length) : cpl (dirPart (nm (ps.take (j + 1)))) = (if j = 0 then [] else cpl (nm (ps.take j))) ++ [47] := by
  have h1 := nm_last h
  rw [dirPart_cl, rfind_at h1 (hf _ (List.getElem_mem _)), h1]
  generalize (if j = 0 then [] else cpl (nm (ps.take j))) = A
  have e : ((A.length : Int) + 1).toNat = A.length + 1 := by omega
  rw [e, List.take_length_add_append]
  rfl
theorem split_tail {ps : List Str} {j : Nat} {W S : Str} (hf : Free ps) (hS : cpl S = tailOf ps j) : Txt.split (W ++ S) sl = Txt.split W sl ++ ps.drop (j + 1) := by
  unfold tailOf at hS
  by_cases e : ps.drop (j + 1) = []
  · rw [if_pos e] at hS
    have : W ++ S = W := cpl_ext (by rw [cpl_app, hS, List.append_nil])
    rw [this, e, List.append_nil]
  · rw [if_neg e] at hS
    rw [split_eq, cpl_app, hS, cut_app, cut_joinS e (fun p hp => hf p (List.mem_of_mem_drop hp)), List.map_append, map_strOf, ← split_eq]
theorem split_dir {ps : List Str} {j : Nat} {D t : Str} (hf : Free ps) (hD : cpl D = (if j = 0 then [] else cpl (nm (ps.take j))) ++ [47]) (h : j < ps.length) : Txt.split (D ++ t) sl = Str.ofString "" :: (ps.take j ++ Txt.split t sl) := by
  rw [split_eq, cpl_app, hD, List.append_assoc]
  show (cut (_ ++ 47 :: cpl t)).map strOf = _
  rw [cut_app, List.map_append, ← split_eq t]
  by_cases hj : j = 0
  · subst hj
    rfl
  · rw [if_neg hj, ← split_eq, split_nm (by
      intro e
      have := congrArg List.length e
      rw [List.length_take] at this
      simp only [List.length_nil] at this
      omega) (fun p hp => hf p (List.mem_of_mem_take hp))]
    rfl
theorem step_nm {g : Ents} {ps : List Str} {j : Nat} (hf : Free ps) (h : j < ps.length) (hl : firstLink g (nm ps) = nm (ps.take (j + 1))) : stepAt g (nm ps) = lawStep g ps j := by
  have hlen : ((nm (ps.take (j + 1))).length : Int) ≤ (nm ps).length := by
    have h1 := congrArg List.length (nm_split h)
    rw [List.length_append, cpl_len, cpl_len] at h1
    omega
  have hS : cpl (Txt.slice (nm ps) (some ((nm (ps.take (j + 1))).length : Int)) none) = tailOf ps j := by
    rw [slice_from (by omega) hlen, nm_split h, Int.toNat_natCast, ← cpl_len, List.drop_left]
  unfold stepAt lawStep
  rw [hl]
  refine congrArg nm ?_
  unfold stepsOf
  rw [split_tail hf hS]
  unfold wholeOf
  by_cases c : Txt.slice (linkText g (nm (ps.take (j + 1)))) none (some 1) = sl
  · rw [if_pos c, if_pos c, List.nil_append]
  · rw [if_neg c, if_neg c, split_dir hf (dir_nm hf h) h, List.cons_append, plain_empty]
theorem lawStep_good {g : Ents} {ps : List Str} {j : Nat} (hf : Free ps) : ∃ qs, Good qs ∧ lawStep g ps j = nm qs := by
  refine ⟨_, plain_good (fun p hp => ?_), rfl⟩
  rcases List.mem_append.mp hp with hp | hp
  · rcases List.mem_append.mp hp with hp | hp
    · split at hp
      · cases hp
      · exact hf p (List.mem_of_mem_take hp)
    · exact split_free _ p hp
  · exact hf p (List.mem_of_mem_drop hp)
theorem go_eq {g : Ents} (h0 : isLink g (nm []) = false) : ∀ (n : Nat) (ps : List Str), Good ps → trueGo g n (nm ps) = lawGo g n (nm ps)
  | 0, _, _ => rfl
  | n + 1, ps, hg => by
    unfold trueGo lawGo
    rw [stepsL_nm hg]
    rcases firstLink_nm hg.free h0 with ⟨j, h1, h2, h3⟩ | ⟨h1, h2⟩
    · have hne : nm (ps.take (j + 1)) ≠ Str.ofString "" := by
        intro e
        have := congrArg cpl e
        rw [cpl_nm] at this
        have e2 : cpl (Str.ofString "") = [] := by decide
        rw [e2] at this
        cases this
      rw [h1, h3, if_neg hne]
      dsimp only
      rw [step_nm hg.free h2 h3]
      obtain ⟨qs, hq, e⟩ := lawStep_good (g := g) (j := j) hg.free
      rw [e]
      exact go_eq h0 n qs hq
    · rw [h1, h2, if_pos rfl]
theorem true_law {g : Ents} {x : Str} (h0 : isLink g (nm []) = false) (hx : nm (stepsL x) = x) : trueName g x = lawName g x := by
  unfold trueName lawName
  rw [← hx]
  exact go_eq h0 12 _ (stepsL_good x)
end Mine
end
section
open PySem PySem.W PyProof.Rows
theorem Mine.offB3 : True := by
  w_top off
  trivial
namespace Mine
/- the names that the law asks for -/
def pres : List Str := [Str.ofString "", Str.ofString "/d", Str.ofString "/~", Str.ofString "/d/e"]
def sufs : List Str := [Str.ofString "", Str.ofString "/k", Str.ofString "/d/k", Str.ofString "/l0", Str.ofString "/l1/k"]
def qname (p : Str) (d : Int) (q : Str) : Str := p ++ Str.ofString "/l" ++ Str.ofString (toString d) ++ q
theorem qname_nat : ∀ p ∈ pres, ∀ q ∈ sufs, ∀ d, d < 4 → (qname p (d : Nat) q).length ≤ 2000 ∧ (cpl (qname p (d : Nat) q)).head? = some 47 ∧ nm (stepsL (qname p (d : Nat) q)) = qname p (d : Nat) q := by decide +kernel
theorem qname_ok {p q : Str} {d : Int} (hp : p ∈ pres) (hq : q ∈ sufs) (h0 : 0 ≤ d) (h4 : d < 4) : (qname p d q).length ≤ 2000 ∧ (cpl (qname p d q)).head? = some 47 ∧ nm (stepsL (qname p d q)) = qname p d q := by
  obtain ⟨k, rfl⟩ : ∃ k : Nat, d = (k : Int) := ⟨d.toNat, by omega⟩
  exact qname_nat p hp q hq k (by omega)
theorem pres_of {y : Str} {t a b c d : Tok} (h : Value.str y t ∈ [Value.str (Str.ofString "") a, Value.str (Str.ofString "/d") b, Value.str (Str.ofString "/~") c, Value.str (Str.ofString "/d/e") d]) : y ∈ pres := by
  simp only [List.mem_cons, List.not_mem_nil, or_false, Value.str.injEq] at h
  rcases h with ⟨rfl, _⟩ | ⟨rfl, _⟩ | ⟨rfl, _⟩ | ⟨rfl, _⟩ <;> simp [pres]
theorem sufs_of {y : Str} {t a b c d e : Tok} (h : Value.str y t ∈ [Value.str (Str.ofString "") a, Value.str (Str.ofString "/k") b, Value.str (Str.ofString "/d/k") c, Value.str (Str.ofString "/l0") d, Value.str (Str.ofString "/l1/k") e]) : y ∈ sufs := by
  simp only [List.mem_cons, List.not_mem_nil, or_false, Value.str.injEq] at h
  rcases h with ⟨rfl, _⟩ | ⟨rfl, _⟩ | ⟨rfl, _⟩ | ⟨rfl, _⟩ | ⟨rfl, _⟩ <;> simp [sufs]
theorem GL.law {i : Nat} {g : Ents} (h : GL i g) (hi : i ≤ 4) {x : Str} (hx : nm (stepsL x) = x) : trueName g x = lawName g x := by
  refine true_law ?_ hx
  have e : nm [] = Str.ofString "/" := by decide +kernel
  rw [e]
  exact isLink_dir (h.dir hi (by decide +kernel))
end Mine
end
section
open PySem PySem.W PyProof.Rows
theorem Mine.offH4 : True := by
  w_top off
  trivial
namespace Mine
section
variable {w : World} {mean : ExcName → Option Value} {mg mb : Str → Option Value} {hdl : Option Value} {dp un : Nat} {gd : Option (List Code)} {cn : Str} {cs : Scope} {a : Addr} {ccd : Value} {cl : List (Str × Addr)} {outer : List Env}
variable {A₀ : Around} {base h₀ : Heap} {L : Addr} {m : Str → Option Value} {news : List (Addr × Obj)} {s : Shared} {Q E : Value → Shared → Prop}
theorem c_ltrueS {x y : Str} {tx : Tok} {ld : Addr} {ol : Obj} {lkvs : List (Str × Value)} {g : Ents} (B : Below A₀ base outer h₀) (F : Fr h₀ L s.heap m) (X : (hd.heap_1 w.params).In h₀) (N : News h₀ L s.heap news) (T : Top hd.view (looseW hd.view []) mean mg mb h₀) (hk : cs.kind = .function)
    (hdp : dp + 40 < recursionLimit) (hun : un + 80 < cLine) (hh : hdl = none) (hx : x.length ≤ 2000) (LO : LinksOk g) (hm : (ld, ol) ∈ news) (hd : ol.IsDictOf (KND w) lkvs) (lo : (ld == sysModules) = false) (LD : LinkD g lkvs) (hy : lawName g x = some y)
    (hret : ∀ ty h' tk', Fr h₀ L h' m → News h₀ L h' news → Q (.str y ty) { s with heap := h', toks := tk' }) :
    wpAny (model PySem.Challenge.rw_pq0279_01.row.prog w) (AR hdl dp un gd cn cs L a ccd cl outer) (call (.ref 332) [.ref ld, .str x tx]) Q E s :=
  c_ltrue B F X N T hk hdp hun hh hx LO hm hd lo LD fun v h' tk' e F' N' => by
    rw [hy] at e
    obtain ⟨ty, rfl⟩ := e
    exact hret ty h' tk' F' N'
theorem c_ltrueN {x : Str} {tx : Tok} {ld : Addr} {ol : Obj} {lkvs : List (Str × Value)} {g : Ents} (B : Below A₀ base outer h₀) (F : Fr h₀ L s.heap m) (X : (hd.heap_1 w.params).In h₀) (N : News h₀ L s.heap news) (T : Top hd.view (looseW hd.view []) mean mg mb h₀) (hk : cs.kind = .function)
    (hdp : dp + 40 < recursionLimit) (hun : un + 80 < cLine) (hh : hdl = none) (hx : x.length ≤ 2000) (LO : LinksOk g) (hm : (ld, ol) ∈ news) (hd : ol.IsDictOf (KND w) lkvs) (lo : (ld == sysModules) = false) (LD : LinkD g lkvs) (hy : lawName g x = none)
    (hret : ∀ h' tk', Fr h₀ L h' m → News h₀ L h' news → Q .none { s with heap := h', toks := tk' }) :
    wpAny (model PySem.Challenge.rw_pq0279_01.row.prog w) (AR hdl dp un gd cn cs L a ccd cl outer) (call (.ref 332) [.ref ld, .str x tx]) Q E s :=
  c_ltrue B F X N T hk hdp hun hh hx LO hm hd lo LD fun v h' tk' e F' N' => by
    rw [hy] at e
    subst e
    exact hret h' tk' F' N'
theorem c_askedS {x y : Str} {tx : Tok} {t td de : Addr} {g : Ents} (B : Below A₀ base [] h₀) (F : Fr h₀ L s.heap m) (X : (hd.heap_1 w.params).In h₀) (N : News h₀ L s.heap news) (T : Top hd.view (looseW hd.view []) mean mg mb h₀) (hk : cs.kind = .function)
    (XB : (hd.heap_1 w.params).In base) (TB : Top hd.view (looseW hd.view []) mean mg mb base)
    (hdp : dp + 60 < recursionLimit) (hun : un + 120 < cLine) (hh : hdl = none) (hx : x.length ≤ 2000) (hx0 : (cpl x).head? = some 47) (LO : LinksOk g) (TR : TreeR w news t td de g) (hy : trueName g x = some y)
    (hret : ∀ ty h' tk', Fr h₀ L h' m → News h₀ L h' news → Q (.str y ty) { s with heap := h', toks := tk' }) :
    wpAny (model PySem.Challenge.rw_pq0279_01.row.prog w) (AR hdl dp un gd cn cs L a ccd [] []) (call (.ref 346) [.ref t, .str x tx]) Q E s :=
  c_asked B F X N T hk XB TB hdp hun hh hx hx0 LO TR fun v h' tk' e F' N' => by
    rw [hy] at e
    obtain ⟨ty, rfl⟩ := e
    exact hret ty h' tk' F' N'
theorem c_askedN {x : Str} {tx : Tok} {t td de : Addr} {g : Ents} (B : Below A₀ base [] h₀) (F : Fr h₀ L s.heap m) (X : (hd.heap_1 w.params).In h₀) (N : News h₀ L s.heap news) (T : Top hd.view (looseW hd.view []) mean mg mb h₀) (hk : cs.kind = .function)
    (XB : (hd.heap_1 w.params).In base) (TB : Top hd.view (looseW hd.view []) mean mg mb base)
    (hdp : dp + 60 < recursionLimit) (hun : un + 120 < cLine) (hh : hdl = none) (hx : x.length ≤ 2000) (hx0 : (cpl x).head? = some 47) (LO : LinksOk g) (TR : TreeR w news t td de g) (hy : trueName g x = none)
    (hret : ∀ h' tk', Fr h₀ L h' m → News h₀ L h' news → Q .none { s with heap := h', toks := tk' }) :
    wpAny (model PySem.Challenge.rw_pq0279_01.row.prog w) (AR hdl dp un gd cn cs L a ccd [] []) (call (.ref 346) [.ref t, .str x tx]) Q E s :=
  c_asked B F X N T hk XB TB hdp hun hh hx hx0 LO TR fun v h' tk' e F' N' => by
    rw [hy] at e
    subst e
    exact hret h' tk' F' N'
theorem c_isplainB {x y : Str} {b : Bool} {tx : Tok} {t td de : Addr} {g : Ents} (B : Below A₀ base outer h₀) (F : Fr h₀ L s.heap m) (X : (hd.heap_1 w.params).In h₀) (N : News h₀ L s.heap news) (T : Top hd.view (looseW hd.view []) mean mg mb h₀) (hk : cs.kind = .function)
    (hdp : dp + 60 < recursionLimit) (hun : un + 120 < cLine) (hh : hdl = none) (hx : x.length ≤ 2000) (hx0 : (cpl x).head? = some 47) (LO : LinksOk g) (TR : TreeR w news t td de g) (hy : trueName g x = some y) (he : isPlainB g y = b)
    (hret : ∀ h' tk', Fr h₀ L h' m → News h₀ L h' news → Q (.bool b) { s with heap := h', toks := tk' }) :
    wpAny (model PySem.Challenge.rw_pq0279_01.row.prog w) (AR hdl dp un gd cn cs L a ccd cl outer) (call (.ref 166) [.ref t, .str x tx]) Q E s :=
  c_isplain B F X N T hk hdp hun hh hx hx0 LO TR hy (by rw [he]; exact hret)
theorem lawToR {w : World} {h₀ h : Heap} {L t td de dk ld fd : Addr} {g : Ents} {n : Nat} {oe old ofd : Obj} {kvs lkvs fkvs : List (Str × Value)} {vs : List Value} {rest Y : List (Addr × Obj)} {p q : Addr × Obj} {t1 t2 t3 : Tok} {cv lv : Value} (_N : News h₀ L h (p :: q :: (t, instObj 295 td) :: (td, treeD w t1 t2 t3 cv lv de) :: (de, oe) :: Y))
    (H : LawS w t td de dk ld fd g n oe kvs vs old lkvs ofd fkvs rest) (hs : ∀ p ∈ rest, p ∈ Y) : TreeR w ((t, instObj 295 td) :: (td, treeD w t1 t2 t3 cv lv de) :: (de, oe) :: Y) t td de g :=
  ⟨.head _, ⟨t1, t2, t3, _, _, .tail _ (.head _)⟩, oe, kvs, .tail _ (.tail _ (.head _)), H.elo, H.ed, H.ee.mono fun p hp => .tail _ (.tail _ (.tail _ (hs p hp)))⟩
theorem ne_same {prog : Program} {A : Around} {s : Shared} {Q : Value → Shared → Prop} {E : Value → Shared → Prop} {l r : Addr} {z : Int} {t u : Tok} (ha : s.heap.IsList l #[.int z t]) (hb : s.heap.IsList r #[.int z u]) (hu : A.units + 64 < cLine) (h : Q (.bool false) s) : wpAny (model prog w) A (compareOp .NotEq (.ref l) (.ref r)) Q E s :=
  ke_ne_ints (xs := [.int z t]) (ys := [.int z u]) (ns := [z]) (ms := [z]) ha hb (.cons _ _ .nil) (.cons _ _ .nil) hu (by simpa using h)
end
section
variable {w : World} {mean : ExcName → Option Value} {mg mb : Str → Option Value} {dp un : Nat} {gd : Option (List Code)} {a : Addr} {ccd : Value}
variable {A₀ : Around} {base h₀ : Heap} {L t td de dk ld fd : Addr} {m : Str → Option Value} {news : List (Addr × Obj)} {s : Shared} {Q : Flow → Shared → Prop} {g : Ents}
local macro_rules | `(tactic| walk_at "call ref") => `(tactic| (k_here; (with_reducible show wpAny _ _ (call (Value.ref 320) _) _ _ _); first | (k_dflt (refine' c_drawU ?B ?F ?X ?N ?T ?hk ?hdp ?hun ?U ?hi ?hl ?hm1 ?hm2 ?_; walk_at "own std8"; (case U => k_updF); (case hi | hl => (with_reducible assumption)); (case hm1 | hm2 => decide)); intro r9 tr9 vs9 ns9 nd9 h9 tk9 F9 N9 hi9 hl9 h09 h19; (try dsimp only at N9)) | refine stop_here ?_))
local macro_rules | `(tactic| walk_at "pyIter ref") => `(tactic| ((with_reducible show wpAny _ _ _ _ _ _); refine stop_here ?_))
local macro_rules | `(tactic| walk_at "subscriptTail") => `(tactic| (k_here; (with_reducible show wpAny _ _ (subscriptTail _ _ (Value.ref _) (Value.int _ _)) _ _ _); k_dflt (refine' pick_item ?N ?m ?h0 ?h1 ?h2 ?p ?_ ?hs; (case N => k_asm); (case m => k_mem); (case h0 => (with_reducible assumption)); (case h1 => (simp only [List.length_cons, List.length_nil]; omega)); (case h2 => (simp only [List.length_cons, List.length_nil]; omega)); (case p => (repeat (first | exact trivial | refine ⟨⟨_, _, rfl, by decide⟩, ?_⟩))); (case hs => with_unfolding_all rfl)); intro y9 t9 hm9 hl9))
local macro_rules | `(tactic| walk_at "call ref") => `(tactic| (k_here; (with_reducible show wpAny _ _ (call (Value.ref 332) _) _ _ _); refine stop_here ?_))
local macro_rules | `(tactic| walk_at "call ref") => `(tactic| (k_here; (with_reducible show wpAny _ _ (call (Value.ref 332) _) _ _ _); first | (k_dflt (refine' c_ltrueS ?B ?F ?X ?N ?T ?hk ?hdp ?hun ?hh ?hx ?LO ?hm ?hd ?lo ?LD ?hy ?_; walk_at "own std8"; (case hh => rfl); (case hx | LO => (with_reducible assumption)); (case hm => k_mem); (case hd | lo | LD | hy => (with_reducible assumption))); intro t9 h9 tk9 F9 N9)))
local macro_rules | `(tactic| walk_at "call ref") => `(tactic| (k_here; (with_reducible show wpAny _ _ (call (Value.ref 332) _) _ _ _); first | (k_dflt (refine' c_ltrueN ?B ?F ?X ?N ?T ?hk ?hdp ?hun ?hh ?hx ?LO ?hm ?hd ?lo ?LD ?hy ?_; walk_at "own std8"; (case hh => rfl); (case hx | LO => (with_reducible assumption)); (case hm => k_mem); (case hd | lo | LD | hy => (with_reducible assumption))); intro h9 tk9 F9 N9)))
local macro_rules | `(tactic| walk_at "call ref") => `(tactic| (k_here; (with_reducible show wpAny _ _ (call (Value.ref 346) _) _ _ _); first | (k_dflt (refine' c_askedS ?B ?F ?X ?N ?T ?hk ?XB ?TB ?hdp ?hun ?hh ?hx ?hx0 ?LO ?TR ?hy ?_; walk_at "own std6"; (case XB | TB => (with_reducible assumption)); (case hdp => ktr_room); (case hun => ktr_units); (case hh => rfl); (case hx | hx0 | LO => (with_reducible assumption)); (case TR => walk_at "own tree"); (case hy => (with_reducible assumption))); intro t9 h9 tk9 F9 N9)))
local macro_rules | `(tactic| walk_at "call ref") => `(tactic| (k_here; (with_reducible show wpAny _ _ (call (Value.ref 346) _) _ _ _); first | (k_dflt (refine' c_askedN ?B ?F ?X ?N ?T ?hk ?XB ?TB ?hdp ?hun ?hh ?hx ?hx0 ?LO ?TR ?hy ?_; walk_at "own std6"; (case XB | TB => (with_reducible assumption)); (case hdp => ktr_room); (case hun => ktr_units); (case hh => rfl); (case hx | hx0 | LO => (with_reducible assumption)); (case TR => walk_at "own tree"); (case hy => (with_reducible assumption))); intro h9 tk9 F9 N9)))
local macro_rules | `(tactic| walk_at "call ref") => `(tactic| (k_here; (with_reducible show wpAny _ _ (call (Value.ref 166) _) _ _ _); first | (k_dflt (refine' c_isplainB ?B ?F ?X ?N ?T ?hk ?hdp ?hun ?hh ?hx ?hx0 ?LO ?TR ?hy ?he ?_; walk_at "own std8"; (case hh => rfl); (case hx | hx0 | LO => (with_reducible assumption)); (case TR => walk_at "own tree"); (case hy | he => (with_reducible assumption))); intro h9 tk9 F9 N9) | refine stop_here ?_))
local macro_rules | `(tactic| walk_at "call ref") => `(tactic| (k_here; (with_reducible show wpAny _ _ (call (Value.ref 187) _) _ _ _); first | (k_dflt (refine' c_read ?B ?F ?X ?N ?T ?hk ?hdp ?hun ?hh ?hx ?hx0 ?LO ?TR ?hy ?hlk ?_; walk_at "own std8"; (case hh => rfl); (case hx | hx0 | LO => (with_reducible assumption)); (case TR => walk_at "own tree"); (case hy | hlk => (with_reducible assumption))); intro l9 tz9 n9 h9 tk9 F9 N9 l1) | refine stop_here ?_))
local macro_rules | `(tactic| walk_at "compareOp NotEq ref ref") => `(tactic| (k_here; k_dflt (refine' ne_same ?a ?b ?u ?_; (case a => exact News.isList (by k_asm) (by k_mem)); (case b => exact News.isList (by k_asm) (by k_mem)); (case u => ktr_units))))
local macro_rules | `(tactic| walk_at "compareOp In str ref") => `(tactic| (k_here; k_dflt (first | (refine' dk_in_none ?N ?m ?d ?l ?hv ?_; (case N => k_asm); (case m => k_mem); (case d => (with_reducible assumption)); (case l => (with_reducible assumption)); (case hv => (with_reducible assumption))) | (refine' dk_in_some ?N ?m ?d ?l ?hv ?_; (case N => k_asm); (case m => k_mem); (case d => (with_reducible assumption)); (case l => (with_reducible assumption)); (case hv => (with_reducible assumption))))))
theorem ph4 {i₀ : Nat} (B : Below A₀ base [] h₀) (F : Fr h₀ L s.heap m) (X : (hd.heap_1 w.params).In h₀) (N : News h₀ L s.heap news) (T : Top hd.view (looseW hd.view []) mean mg mb h₀) (XB : (hd.heap_1 w.params).In base) (TB : Top hd.view (looseW hd.view []) mean mg mb base) (hdp : dp + 200 < recursionLimit) (hun : un + 400 < cLine) (hi₀ : i₀ ≤ 4) (hg : GL i₀ g) (J : LawJ w t td de dk ld fd g 20 5 m news)
    (hnext : ∀ m' nx' h' tk', LawJ w t td de dk ld fd g 20 5 m' nx' → Fr h₀ L h' m' → News h₀ L h' nx' → wpAny (model PySem.Challenge.rw_pq0279_01.row.prog w) (AR none dp un gd (Str.ofString "law") lawRec.scope L a ccd [] []) (execs (lawRec.body.drop 5) (envOf (Str.ofString "law") lawRec.scope L a ccd)) Q (fun _ _ => False) { s with heap := h', toks := tk' }) :
    wpAny (model PySem.Challenge.rw_pq0279_01.row.prog w) (AR none dp un gd (Str.ofString "law") lawRec.scope L a ccd [] []) (execs (lawRec.body.drop 4) (envOf (Str.ofString "law") lawRec.scope L a ccd)) Q (fun _ _ => False) s := by
  delta lawRec recOf at hnext ⊢
  dsimp only [List.drop_succ_cons, List.drop_zero] at hnext ⊢
  have LO := hg.links
  obtain ⟨t1, t2, t3, tn, tm, n, oe, kvs, vs, nd, old, lkvs, ofd, fkvs, rest, rfl, hn, hc, HS, HM⟩ := J
  obtain ⟨ap, hoff, hed, hee, helo, hes, hdi, hdl, hldd, hllo, hll, hls, hfdd, hflo, hff, hfs⟩ := id HS
  obtain ⟨a1, a2, a3, b1, b2, b3, c1, c2, c3, c4, d1, d2, d3, d4, d5⟩ := ap
  obtain ⟨ns, hdi⟩ := hdi
  have hR4 := hoff.o4
  have F4 := LawM.fr HM F
  clear F
  k_steps
  unfold Stop
  rename IsRange _ _ _ _ _ _ _ _ => hr
  rename Fr _ _ _ _ => F2
  rename News _ _ _ _ => N2
  rename IntsAre _ _ => hi2
  rename (_ < (4 : Int)) => hr4
  rename ((0 : Int) ≤ _) => hr0
  rename (List.length (α := Value) _ ≤ 100) => hl2
  have HS2 := HS.deck hi2 hl2
  have N3 : News h₀ L _ (lawL w t td de dk ld fd t1 t2 t3 tn tm ((n : Nat) : Int) oe _ _ old ofd rest ++ []) := newsSub N2 fun p hp => by rw [List.append_nil] at hp; exact hp
  clear N2 hi2 hl2 hdi HS N
  refine it_rangeL (n := (3 + _ : Int).toNat) (m₀ := _) (nx₀ := _) (news := []) (fun i m nx => LawJ w t td de dk ld fd g 20 5 m nx) rfl hr (range_small (by omega) (by omega)) range_size F2 N3 ⟨_, _, _, _, _, _, _, _, _, _, _, _, _, _, _, rfl, hn, hc, HS2, ⟨rfl, rfl, rfl, rfl⟩⟩ rfl ?_ ?_
  · clear HS2 F2 N3 hoff hed hee helo hes hldd hllo hll hls hfdd hflo hff hfs a1 a2 a3 b1 b2 b3 c1 c2 c3 c4 d1 d2 d3 d4 d5 hR4 HM hn hc
    rintro i t' m₁ nx I oI h tk hi ⟨t1, t2, t3, tn, tm, n, oe, kvs, vs, nd, old, lkvs, ofd, fkvs, rest, rfl, hn, hc, HS, HM⟩ hI hI2 F₁ N₁
    obtain ⟨ap, hoff, hed, hee, helo, hes, hdi, hdl, hldd, hllo, hll, hls, hfdd, hflo, hff, hfs⟩ := id HS
    obtain ⟨a1, a2, a3, b1, b2, b3, c1, c2, c3, c4, d1, d2, d3, d4, d5⟩ := ap
    obtain ⟨ns, hdi⟩ := hdi
    obtain ⟨R, hR, N4⟩ := asTreeR N₁
    have hRdk : ∀ p ∈ R, p.1 ≠ dk := fun p hp => by
      rw [hR] at hp
      rcases List.mem_append.mp hp with hp | hp
      · exact hoff.o4 p hp
      · rw [List.mem_singleton.mp hp]; exact Ne.symm (hI2 (dk, listOf vs.toArray nd) (.tail _ (.tail _ (.tail _ (.head _)))))
    have F4 := LawM.fr (HM.bind (x := "lap") (v := some (.int (0 + (i : Int)) t')) (by decide) (by decide) (by decide) (by decide)) F₁
    clear F₁ N₁
    dsimp only
    k_steps
    unfold Stop
    rename Fr _ _ _ _ => F5
    rename News _ _ _ _ => N5
    rename IntsAre _ _ => hi9
    rename (List.length (α := Value) _ ≤ 100) => hl9
    rename (Value.str _ _ ∈ [_, _, _, _, _]) => hmS
    rename (Value.str _ _ ∈ [_, _, _, _]) => hmP
    rename (_ < (4 : Int)) => hd4
    have hq := qname_ok (pres_of hmP) (sufs_of hmS) (by assumption) hd4
    unfold qname at hq
    obtain ⟨hx, hx0, hcan⟩ := hq
    have htl := hg.law hi₀ hcan
    have HSd := HS.deck hi9 hl9
    have hsub : ∀ p ∈ rest, p ∈ R := fun p hp => by rw [hR]; exact List.mem_append_left _ hp
    have TR := lawToR N5 HS (fun p hp => .tail _ (.tail _ (.tail _ (hsub p hp))))
    generalize hrr : lawName g _ = rr at htl
    cases rr with
    | none =>
      k_steps
      rename Fr _ _ _ _ => F7
      rename News _ _ _ _ => N7
      subst hR
      exact TEnd.intro F7 (newsSub N7 (by intro p hp; repeat (first | exact hp | refine List.Mem.tail _ ?_))) (offNew (add := []) hI2 fun p hp => nomatch hp) ⟨_, _, _, _, _, _, _, _, _, _, _, _, _, _, _, rfl, hn, hc, HSd, ⟨rfl, rfl, rfl, rfl⟩⟩
    | some y =>
      have hffy := hff y
      by_cases hp : ∃ z, look g y = some (.plain z)
      · obtain ⟨z, hz⟩ := hp
        rw [hz] at hffy
        obtain ⟨l, tz, nl, hv, hlm⟩ := hffy
        have hlR := hsub _ hlm
        have he : isPlainB g y = true := by unfold isPlainB; rw [hz]
        k_steps
        · rename ((_ != _) = true) => c1
          simp at c1
        · rename Fr _ _ _ _ => F7
          rename News _ _ _ _ => N7
          subst hR
          exact TEnd.intro F7 (newsSub N7 (by intro p hp; repeat (first | exact hp | refine List.Mem.tail _ ?_))) (offNew (add := []) hI2 fun p hp => nomatch hp) ⟨_, _, _, _, _, _, _, _, _, _, _, _, _, _, _, rfl, hn, hc, HSd, ⟨rfl, rfl, rfl, rfl⟩⟩
      · have hv : valueAt fkvs y = none := by
          split at hffy
          · rename_i z q
            exact absurd ⟨z, q⟩ hp
          · exact hffy
        have he : isPlainB g y = false := by
          unfold isPlainB
          split
          · rename_i z q
            exact absurd ⟨z, q⟩ hp
          · rfl
        k_steps
        · rename ((_ != _) = true) => c1
          simp at c1
        · rename Fr _ _ _ _ => F7
          rename News _ _ _ _ => N7
          subst hR
          exact TEnd.intro F7 (newsSub N7 (by intro p hp; repeat (first | exact hp | refine List.Mem.tail _ ?_))) (offNew (add := []) hI2 fun p hp => nomatch hp) ⟨_, _, _, _, _, _, _, _, _, _, _, _, _, _, _, rfl, hn, hc, HSd, ⟨rfl, rfl, rfl, rfl⟩⟩
  · rintro m₁ nx h tk hJ F₁ N₁
    rw [List.append_nil] at N₁
    exact hnext _ _ _ _ hJ F₁ N₁
end
end Mine
end
end
section
open PySem PySem.W PyProof.Rows
theorem Mine.offH5 : True := by
  w_top off
  trivial
namespace Mine
section
variable {w : World} {mean : ExcName → Option Value} {mg mb : Str → Option Value} {dp un : Nat} {gd : Option (List Code)} {a : Addr} {ccd : Value}
variable {A₀ : Around} {base h₀ : Heap} {L t td de dk ld fd : Addr} {m : Str → Option Value} {news : List (Addr × Obj)} {s : Shared} {Q : Flow → Shared → Prop} {g : Ents}
local macro_rules | `(tactic| walk_at "call ref") => `(tactic| (k_here; (with_reducible show wpAny _ _ (call (Value.ref 353) _) _ _ _); first | (k_dflt (refine' c_refused ?B ?F ?X ?N ?T ?hk ?XB ?TB ?hdp ?hun ?hh ?LO ?TR ?hf ?hj ?hfree ?_; walk_at "own std6"; (case XB | TB => (with_reducible assumption)); (case hdp => ktr_room); (case hun => ktr_units); (case hh => rfl); (case LO => (with_reducible assumption)); (case TR => walk_at "own tree"); (case hf | hj | hfree => (with_reducible assumption))); intro h9 tk9 F9 N9) | refine stop_here ?_))
theorem ph5 (B : Below A₀ base [] h₀) (F : Fr h₀ L s.heap m) (X : (hd.heap_1 w.params).In h₀) (N : News h₀ L s.heap news) (T : Top hd.view (looseW hd.view []) mean mg mb h₀) (XB : (hd.heap_1 w.params).In base) (TB : Top hd.view (looseW hd.view []) mean mg mb base) (hdp : dp + 200 < recursionLimit) (hun : un + 400 < cLine)
    (ht : m "tree" = some (.ref t)) (LO : LinksOk g) (TR : TreeR w news t td de g) (hf : firstLink g (parentOf (Str.ofString "/d/none")) = Str.ofString "") (hfree : look g (Str.ofString "/d/none") = none)
    (hret : ∀ m' h' tk', Fr h₀ L h' m' → News h₀ L h' news → Q (.ret (.bool true)) { s with heap := h', toks := tk' }) :
    wpAny (model PySem.Challenge.rw_pq0279_01.row.prog w) (AR none dp un gd (Str.ofString "law") lawRec.scope L a ccd [] []) (execs (lawRec.body.drop 5) (envOf (Str.ofString "law") lawRec.scope L a ccd)) Q (fun _ _ => False) s := by
  have hj : joinedS (parentOf (Str.ofString "/d/none")) (lastPart (Str.ofString "/d/none")) = Str.ofString "/d/none" := by decide +kernel
  have F4 := frN F (p := "tree") ht
  delta lawRec recOf
  dsimp only [List.drop_succ_cons, List.drop_zero]
  k_steps
  exact hret _ _ _ (by k_asm) (by k_asm)
end
end Mine
end
section
open PySem PySem.W PyProof.Rows
theorem Mine.offM1 : True := by
  w_top off
  trivial
namespace Mine
section
variable {w : World} {mean : ExcName → Option Value} {mg mb : Str → Option Value} {dp un : Nat} {gd : Option (List Code)} {a : Addr} {ccd : Value}
variable {A₀ : Around} {base h₀ : Heap} {L t td de dk ld fd : Addr} {m : Str → Option Value} {news : List (Addr × Obj)} {s : Shared} {Q : Flow → Shared → Prop} {g : Ents}
theorem law_all {sc : Addr} {vs : List Value} {ns : List Int} (B : Below A₀ base [] h₀) (F : Fr h₀ L s.heap m) (X : (hd.heap_1 w.params).In h₀) (N : News h₀ L s.heap news) (T : Top hd.view (looseW hd.view []) mean mg mb h₀) (XB : (hd.heap_1 w.params).In base) (TB : Top hd.view (looseW hd.view []) mean mg mb base) (hdp : dp + 200 < recursionLimit) (hun : un + 400 < cLine) (hnil : news = []) (hm : m "script" = some (.ref sc)) (hL : h₀.IsList sc vs.toArray) (hI : IntsAre vs ns) (hn : ns.length ≤ 63)
    (hret : ∀ m' nx' h' tk', Fr h₀ L h' m' → News h₀ L h' nx' → Q (.ret (.bool true)) { s with heap := h', toks := tk' }) :
    wpAny (model PySem.Challenge.rw_pq0279_01.row.prog w) (AR none dp un gd (Str.ofString "law") lawRec.scope L a ccd [] []) (execs lawRec.body (envOf (Str.ofString "law") lawRec.scope L a ccd)) Q (fun _ _ => False) s := by
  show wpAny _ _ (execs (lawRec.body.head! :: lawRec.body.drop 1) _) _ _ _
  refine execs_first (ph0 B F X N T XB TB hdp hun hnil hm hL hI hn ?_)
  rintro f s' ⟨rfl, h1, k1, m1, nx1, t, td, de, dk, ld, fd, rfl, J1, F1, N1⟩
  refine ph1 B F1 X N1 T XB TB hdp hun J1 fun m2 nx2 h2 k2 J2 F2 N2 => ?_
  refine ph2 B F2 X N2 T XB TB hdp hun J2 fun m3 nx3 h3 k3 J3 F3 N3 => ?_
  refine ph3 B F3 X N3 T XB TB hdp hun J3 fun i g m4 nx4 h4 k4 hi hg J4 F4 N4 => ?_
  refine ph4 B F4 X N4 T XB TB hdp hun hi hg J4 fun m5 nx5 h5 k5 J5 F5 N5 => ?_
  obtain ⟨t1, t2, t3, tn, tm, n, oe, kvs, vs, nd, old, lkvs, ofd, fkvs, rest, rfl, hn, hc, HS, HM⟩ := J5
  refine ph5 B F5 X N5 T XB TB hdp hun HM.tree hg.links ⟨.head _, ⟨t1, t2, t3, _, _, .tail _ (.head _)⟩, oe, kvs, .tail _ (.tail _ (.head _)), HS.elo, HS.ed, HS.ee.mono fun p hp => .tail _ (.tail _ (.tail _ (.tail _ (.tail _ (.tail _ hp)))))⟩ ?_ (hg.none hi) fun m6 h6 k6 F6 N6 => hret _ _ _ _ F6 N6
  have e : parentOf (Str.ofString "/d/none") = Str.ofString "/d" := by decide +kernel
  rw [e]
  exact firstLink_fixed (fun y hy => isLink_dir (hg.dir hi hy)) _ (by decide +kernel)
end
end Mine
end
open PySem PySem.W PyProof.Rows
local macro_rules | `(tactic| k_qdec) => `(tactic| decide +kernel)
open Mine in
set_option maxRecDepth 100000 in
set_option maxHeartbeats 8000000 in
theorem PySem.Challenge.cw_pq0279_01_holds : PySem.Challenge.rw_pq0279_01.Holds := by
  refine hd ?_
  k_go0
  rename IntsAre _ _ => hI
  rename Heap.IsList _ _ _ => hL
  rename Fr _ _ _ _ => F0
  rename News _ _ _ _ => N0
  rename (¬ ((63 : Nat) : Int) < _) => h63
  refine wpAny_mono (law_all (below_caller _) F0 (by assumption) N0 (by assumption) (by assumption) (by assumption) (by decide) (by decide) rfl rfl hL hI (by omega) ?_) (fun _ _ x => x) (fun _ _ x => x.elim)
  intro m' nx' h' tk' F' N'
  dsimp only
  wrow_close
