import PyProof.Rows.All
import Wide.All
import OpenK.AllK
import Wide.FinOn
import PySem.Challenge.RW_nu0274_01
open PySem PySem.W PyProof.Rows
set_option Elab.async false
set_option compiler.extract_closed false
set_option maxRecDepth 100000
set_option maxHeartbeats 8000000
namespace Mine
noncomputable abbrev PP : Program := PySem.Challenge.pw_nu0274_01
/-- the text's body without its three plain stores -/
noncomputable def VW : Program := { PySem.Challenge.rw_nu0274_01.row.toRowW.prog with main := { PySem.Challenge.rw_nu0274_01.row.toRowW.prog.main with body := PySem.Challenge.rw_nu0274_01.row.toRowW.prog.main.body.filter fun s => match s with | .Assign .. => false | _ => true } }
/-- the run of the top over a tree of objects, by any step -/
noncomputable def runT (ok : Thread → Bool) (stp : SharedT → Thread → Option (SharedT × Thread)) : Nat → SharedT → Thread → Option SharedT
  | 0, _, _ => none
  | n + 1, s, t => match through t with
    | true => some s
    | false => match ok t with
      | false => none
      | true => match stp s t with
        | some (s', t') => runT ok stp n s' t'
        | none => none
theorem runT_of {tb : String → Option Builtin} {p : Program} {w : World} {n₀ : Nat} {ann : Option Value} : ∀ {n : Nat} {s r : SharedT} {t : Thread}, runT (stepOk n₀ ann) (stepT (denote tb) p w) n s t = some r → topRun tb p w n₀ ann n s.abs t = some r.abs
  | 0, _, _, _, h => by cases h
  | n + 1, s, r, t, h => by
    unfold runT at h
    unfold topRun
    cases ht : through t with
    | true => rw [ht] at h; cases h; rfl
    | false =>
      rw [ht] at h
      cases hk : stepOk n₀ ann t with
      | false => rw [hk] at h; cases h
      | true =>
        rw [hk] at h
        cases hs : stepT (denote tb) p w s t with
        | none => rw [hs] at h; cases h
        | some x => obtain ⟨s₂, t₂⟩ := x; rw [hs] at h; rw [stepT_spec hs]; exact runT_of h
/-- the same with the library's twins of the step and of the looks -/
noncomputable abbrev okQ : Nat → Option Value → Thread → Bool := Fast.tw6613529449190102663
noncomputable abbrev stepQ : (Code → Sem Fin) → Program → World → SharedT → Thread → Option (SharedT × Thread) := Fast.tw10156331382660048174
noncomputable abbrev denQ : Code → Sem Fin := Fast.tw11892475500146522536 Fast.tw14364793385576792824
theorem okQ_eq : stepOk = okQ := Fast.te6613529449190102663
theorem stepQ_eq : stepT (denote treeTable) = stepQ denQ := by rw [Fast.te10156331382660048174, Fast.te11892475500146522536, Fast.te14364793385576792824]
theorem left_tree {p q : Program} {loose : List Str} {Xt : Shared → Bool} {α : Type} {Yf : Shared → α} {Ya : World → α} {N : Nat} {g0 : Bool} {H₀ : Params → Heap} {T₀ : Params → BT} {lf : Params → Life} {gs₀ : Array GenState} {d₀ : Drawn} {k₀ m₀ : Nat}
    (open_ : ∀ w : World, (fencedOpening treeTable p w N).map (fun s => (s.heap, s.gens, s.drawn, s.toks)) = some (H₀ w.params, gs₀, d₀, k₀))
    (tree : ∀ w : World, H₀ w.params = absHeap (T₀ w.params) m₀ (lf w.params))
    (ground : ∀ w : World, ((H₀ w.params).isNs mainGlobals && gs₀.size == 0) = true)
    (looks : ∀ w : World, (fun os => (runT (okQ m₀ ((H₀ w.params).nsMap mainGlobals "__annotations__")) (stepQ denQ p w) N ⟨T₀ w.params, m₀, lf w.params, gs₀, d₀, k₀, os⟩ (topStub p)).map fun r =>
        ((staticsOk (importedModules p.main.body) (H₀ w.params) r.abs.heap && namesBound p r.abs.heap && gensDone r.abs && laidKept (H₀ w.params) r.abs.heap),
          Fast.tw4187177175401517315 q loose (importedModules p.main.body) Xt g0 r.abs, Yf r.abs)) = fun _ => some (true, openGood q loose, Ya w)) : LeftO p q loose Xt Yf Ya N g0 := fun w => by
  obtain ⟨⟨h, gs, d, k, os⟩, e, e'⟩ := Option.map_eq_some_iff.mp (open_ w)
  obtain ⟨rfl, rfl, rfl, rfl⟩ : h = H₀ w.params ∧ gs = gs₀ ∧ d = d₀ ∧ k = k₀ := by simpa using e'
  have lk := congrFun (looks w) os
  rw [← okQ_eq, ← stepQ_eq, ← Fast.te4187177175401517315] at lk
  obtain ⟨r, hr, hl⟩ := Option.map_eq_some_iff.mp lk
  obtain ⟨l1, l2, l3⟩ : _ ∧ _ ∧ _ := by simpa only [Prod.mk.injEq] using hl
  have hz : (H₀ w.params).objs.size = m₀ := by rw [tree w, absHeap_size]
  have run : topRun treeTable p w m₀ ((H₀ w.params).nsMap mainGlobals "__annotations__") N ⟨H₀ w.params, gs, d, k, os⟩ (topStub p) = some r.abs := by
    have := runT_of hr
    unfold SharedT.abs at this
    dsimp only at this
    rw [← tree w] at this
    exact this
  have t : topFrom treeTable p w N ⟨H₀ w.params, gs, d, k, os⟩ = some r.abs := by
    unfold topFrom
    dsimp only
    rw [ground w, hz, run]
    show (match staticsOk (importedModules p.main.body) (H₀ w.params) r.abs.heap && namesBound p r.abs.heap && gensDone r.abs && laidKept (H₀ w.params) r.abs.heap with | true => _ | false => _) = _
    rw [l1]
  unfold openEnds
  rw [e]
  show (topFrom treeTable p w N _).map _ = _
  rw [t]
  exact congrArg some (Prod.ext l2 l3)
/-- a list of objects as a tree -/
noncomputable def treeOf : List Obj → BT → Nat → BT
  | [], t, _ => t
  | o :: os, t, i => treeOf os (t.ins i o) (i + 1)
noncomputable def T0 (P : Params) : BT := treeOf (boot_heap P).objs.toList .nil 0
theorem boot_tree : ∀ w : World, boot_heap w.params = absHeap (T0 w.params) 11 (boot_heap w.params).life := by intro w; kernel_rfl
theorem boot_ground : ∀ w : World, ((boot_heap w.params).isNs mainGlobals && (Array.mk [] : Array GenState).size == 0) = true := by intro w; kernel_rfl
theorem boot_opens : ∀ w : World, (fencedOpening treeTable PySem.Challenge.rw_nu0274_01.row.toRowW.prog w 4766).map (fun s => (s.heap, s.gens, s.drawn, s.toks)) = some (boot_heap w.params, Array.mk [], boot_drawn, boot_toks) :=
  boot_open (by kernel_rfl) (by rfl) (fun s => by kernel_rfl)
theorem said_law : OpenLaw.wellSaid PySem.Challenge.rw_nu0274_01 = true := (congrFun Fast.te9446332074065402090 _).trans (by kernel_rfl)
local macro_rules | `(tactic| o_law) => `(tactic| refine holds_law (l := PySem.Challenge.rw_nu0274_01) said_law fun said => ?_)
local macro_rules | `(tactic| o_head $H) => `(tactic| refine holds_open (q := VW) (loose := []) (Xt := fun s => xlAt VW [] s && recOk (RowW.records PySem.Challenge.rw_nu0274_01.row.toRowW) s) (XP := XL VW []) (Yf := Hook.obs $H) (Ya := Hook.val $H) (YP := Hook.says $H) (N := 4766) (left_tree (H₀ := boot_heap) (T₀ := T0) (lf := fun P => (boot_heap P).life) (m₀ := 11) boot_opens boot_tree boot_ground (by show ∀ w : World, _ = _; intro w; kernel_rfl)) (Hook.of $H) (Hook.keeps $H) (fun s e => xl_of s (Bool.and_eq_true_iff.mp e).1) XL.keeps (by rfl) (by rfl) (by rfl) (fun s e => recFacts_of (Bool.and_eq_true_iff.mp e).2) (by rfl) (by first | assumption | decide +kernel) (by decide +kernel) ⟨rfl, rfl, rfl, rfl, rfl, by decide +kernel⟩ ?hw ?hc)
open_top hd for PySem.Challenge.rw_nu0274_01
noncomputable abbrev KF (w : World) : Frag := hd.heap_1 w.params
end Mine
theorem Mine.filled : PySem.Challenge.rw_nu0274_01 = PySem.Challenge.rw_nu0274_01 ∧ Mine.hd.heap_1 = Mine.hd.heap_1 := by
  k_fill
  exact ⟨rfl, rfl⟩
section
open PySem PySem.W PyProof.Rows PySem.Calls
set_option maxRecDepth 100000
set_option maxHeartbeats 4000000
namespace Mine
theorem off1 : True := by
  w_top off
  trivial
noncomputable abbrev LtN (a b : Nat) : Prop := @LT.lt Nat _ a b
theorem ne_lt {a b : Nat} (h : LtN a b) : @Ne Nat a b := Nat.ne_of_lt h
theorem ne_gt {a b : Nat} (h : LtN b a) : @Ne Nat a b := Nat.ne_of_gt h
theorem lt_tr {a b c : Nat} (h : LtN a b) (h' : LtN b c) : LtN a c := Nat.lt_trans h h'
theorem lt_23 {a c : Nat} (h : LtN (a + 1 + 1 + 1) c) : LtN (a + 1 + 1) c := Nat.lt_trans (Nat.lt_succ_self _) h
theorem lt_13 {a c : Nat} (h : LtN (a + 1 + 1 + 1) c) : LtN (a + 1) c := Nat.lt_trans (Nat.lt_succ_self _) (lt_23 h)
noncomputable abbrev Led : Type := List (Addr × Obj)

theorem News.sub {h₀ h : Heap} {L : Addr} {l l' : Led} (N : News h₀ L h l) (hs : ∀ p ∈ l', p ∈ l) : News h₀ L h l' := fun p hp => N p (hs p hp)
theorem mem_at {l : Led} {x : Addr × Obj} (n : Nat) (h : l[n]? = some x) : x ∈ l := List.mem_of_getElem? h
theorem sub_drop {l r : Led} (n : Nat) (e : l.drop n = r) : ∀ p ∈ r, p ∈ l := fun _ hp => List.mem_of_mem_drop (e ▸ hp)
theorem all_cons {l r : Led} {x : Addr × Obj} (h : x ∈ l) (t : ∀ p ∈ r, p ∈ l) : ∀ p ∈ x :: r, p ∈ l := List.forall_mem_cons.mpr ⟨h, t⟩
theorem all_app {l a b : Led} (h : ∀ p ∈ a, p ∈ l) (t : ∀ p ∈ b, p ∈ l) : ∀ p ∈ a ++ b, p ∈ l := fun p hp => (List.mem_append.mp hp).elim (h p) (t p)
theorem sub_l {a b : Led} : ∀ p ∈ a, p ∈ a ++ b := fun _ h => List.mem_append_left _ h
theorem sub_r {a b : Led} : ∀ p ∈ b, p ∈ a ++ b := fun _ h => List.mem_append_right _ h
theorem sub_t {a b c : Led} (h : ∀ p ∈ a, p ∈ b) (t : ∀ p ∈ b, p ∈ c) : ∀ p ∈ a, p ∈ c := fun p hp => t p (h p hp)
theorem News.rot {h₀ h : Heap} {L : Addr} (as cs r : Led) (N : News h₀ L h (as ++ (cs ++ r))) : News h₀ L h (cs ++ (as ++ r)) := fun p hp => N p (by
  simp only [List.mem_append] at hp ⊢
  rcases hp with h | h | h
  · exact .inr (.inl h)
  · exact .inl h
  · exact .inr (.inr h))
theorem News.app {h₀ h : Heap} {L : Addr} {a b : Led} (N : News h₀ L h a) (N' : News h₀ L h b) : News h₀ L h (a ++ b) := fun p hp => (List.mem_append.mp hp).elim (N p) (N' p)
theorem News.lt {h₀ h : Heap} {L : Addr} {l : Led} (N : News h₀ L h l) : ∀ p ∈ l, LtN p.1 h.objs.size := fun p hp => Heap.lt_size (N p hp).1

/-- a goal at which the walk is to stop -/
noncomputable def Halt (P : Prop) : Prop := P
theorem Halt.go {P : Prop} (h : P) : Halt P := h
theorem Halt.mk {P : Prop} (h : Halt P) : P := h

section
variable {prog : Program} {w : World} {A : Around} {E : Value → Shared → Prop} {s : Shared} {h₀ : Heap} {L : Addr} {m : Str → Option Value} {news : Led} {Q : Value → Shared → Prop}

theorem len_L {l : Addr} {its : Array Value} {n : Nat} (N : News h₀ L s.heap news) (hm : (l, W.listOf its n) ∈ news) (hz : its.size ≤ 16777216)
    (h : ∀ t tk, Q (.int its.size t) { s with toks := tk }) : wpAny (model prog w) A (call (.builtin "len") [.ref l]) Q E s :=
  len_list ⟨_, (N _ hm).1, rfl, _, rfl⟩ (by omega) (h _ _)

noncomputable def tupO (vs : List Value) : Obj := { cls := .type "tuple", data := .seq vs.toArray }
theorem len_T {l : Addr} {vs : List Value} (N : News h₀ L s.heap news) (hm : (l, tupO vs) ∈ news) (hz : vs.length ≤ 16777216)
    (h : ∀ t tk, Q (.int vs.length t) { s with toks := tk }) : wpAny (model prog w) A (call (.builtin "len") [.ref l]) Q E s :=
  len_tuple (items := vs.toArray) ⟨_, (N _ hm).1, rfl, _, rfl⟩ (by simp only [List.size_toArray]; omega) (by simp only [List.size_toArray]; exact h _ _)

/-- what a turn of a loop ends in -/
noncomputable def TurnPost (h₀ : Heap) (L : Addr) (I : Addr) (oI : Obj) (J : (Str → Option Value) → Led → Prop) (s : Shared) (Q : Flow → Shared → Prop) (f : Flow) (s₂ : Shared) : Prop :=
  match f with
  | .ret v => Q (.ret v) s₂
  | .brk => Q .next s₂
  | _ => ∃ h' tk m' news', s₂ = { s with heap := h', toks := tk } ∧ Fr h₀ L h' m' ∧ News h₀ L h' ((I, oI) :: news') ∧ (∀ p ∈ news', p.1 ≠ I) ∧ J m' news'
theorem TurnPost.next {I : Addr} {oI : Obj} {J : (Str → Option Value) → Led → Prop} {s : Shared} {Q : Flow → Shared → Prop} {h' : Heap} {tk : Nat} {m' : Str → Option Value} (news' : Led)
    (F : Fr h₀ L h' m') (N : News h₀ L h' ((I, oI) :: news')) (hI : ∀ p ∈ news', p.1 ≠ I) (j : J m' news') : TurnPost h₀ L I oI J s Q .next { s with heap := h', toks := tk } :=
  ⟨h', tk, m', news', rfl, F, N, hI, j⟩

theorem loop_any {env : Env} {x : Str} {body : List Stmt} {Q : Flow → Shared → Prop} {oI₀ : Obj} {it : Value} {held : Led} {n : Nat} {P : Nat → Value → Prop} {St : Nat → Heap → Prop}
    (J : Nat → (Str → Option Value) → Led → Prop)
    (hit : it = .ref s.heap.objs.size)
    (W : Walks prog w A s.heap.objs.size (s.heap.objs.size :: held.map (·.1)) [s.heap.objs.size] n P St) (st0 : St 0 (s.heap.push oI₀)) (hIo : ∀ i h, St i h → ∃ o, h.get? s.heap.objs.size = some o)
    (F : Fr h₀ env.locals s.heap m) (N : News h₀ env.locals s.heap news) (hj : J 0 m news) (hheld : ∀ i m nx, J i m nx → ∀ p ∈ held, p ∈ nx)
    (turn : ∀ (I : Addr) (oI : Obj) i v m₁ news₁ h tk, i < n → P i v → J i m₁ news₁ → (∀ p ∈ news₁, p.1 ≠ I) → LtN I h.objs.size → Fr h₀ env.locals h (fun y => if y = x then some v else m₁ y) → News h₀ env.locals h ((I, oI) :: news₁) →
      wpAny (model prog w) A (execs body env) (TurnPost h₀ env.locals I oI (J (i + 1)) s Q) E { s with heap := h, toks := tk })
    (done : ∀ m₁ news₁ h tk, J n m₁ news₁ → Fr h₀ env.locals h m₁ → News h₀ env.locals h news₁ → Q .next { s with heap := h, toks := tk }) :
    LoopAtV prog w A h₀ env x body Q E it { s with heap := s.heap.push oI₀ } := by
  subst hit
  have hin : ∀ i m nx, J i m nx → ∀ p ∈ held, p ∈ nx := hheld
  have hheldN : ∀ p ∈ held, p ∈ news := hheld 0 m news hj
  refine ⟨_, _, _, n, P, St, m, news, (fun i m₁ nx => J i m₁ nx ∧ ∀ p ∈ nx, p.1 ≠ s.heap.objs.size), rfl, W, ?_, ?_, ?_, st0, F.push _, (fun p hp => ⟨Heap.get?_push_of_some _ (N p hp).1, (N p hp).2⟩), ⟨hj, fun p hp => Nat.ne_of_lt (Heap.lt_size (N p hp).1)⟩, ?_, ?_⟩
  · intro hm
    rcases List.mem_cons.mp hm with e | hm
    · exact absurd F.ns.lt (e ▸ Nat.lt_irrefl _)
    · obtain ⟨p, hp, e⟩ := List.mem_map.mp hm
      exact (N p (hheldN p hp)).2.1 e
  · intro b hb
    rw [List.mem_singleton.mp hb]
    exact next_is_new F
  · intro p hp hI
    exact absurd (Heap.lt_size (N p hp).1) ((List.mem_singleton.mp hI) ▸ Nat.lt_irrefl _)
  · rintro i v m₁ news₁ s₁ own ⟨hh', tk', rfl⟩ hin' hP ⟨hJ, hnI⟩ hoff hown hget hall hst₁ F₁ N₁
    have hI₀ : h₀.get? s.heap.objs.size = none := next_is_new F
    -- the iterator's object
    have hIthere : ∃ oI, (s.heap.objs.size, oI) ∈ own := by
      obtain ⟨o, ho⟩ := hIo _ _ hst₁
      exact ⟨o, hall _ (.head _) hI₀ o ho⟩
    obtain ⟨oI, hoI⟩ := hIthere
    have hN' : News h₀ env.locals hh' ((s.heap.objs.size, oI) :: news₁) := fun p hp => by
      rcases List.mem_cons.mp hp with rfl | hp
      · exact N₁ _ (List.mem_append_left _ hoI)
      · exact N₁ _ (List.mem_append_right _ hp)
    have hownIs : ∀ p ∈ own, p ∈ (s.heap.objs.size, oI) :: news₁ := fun p hp => by
      rcases List.mem_cons.mp (hown p hp) with e | e
      · have h1 := hget p hp
        have h2 := hget _ hoI
        rw [e] at h1
        have : p.2 = oI := Option.some.inj (h1.symm.trans h2)
        refine List.mem_cons.mpr (.inl ?_)
        rw [← this, ← e]
      · obtain ⟨q, hq, e⟩ := List.mem_map.mp e
        have hq' := hin i m₁ news₁ hJ q hq
        have h1 := hget p hp
        have h2 := (N₁ q (List.mem_append_right _ hq')).1
        rw [← e] at h1
        have : p.2 = q.2 := Option.some.inj (h1.symm.trans h2)
        refine .tail _ ?_
        have : p = q := Prod.ext e.symm this
        rw [this]; exact hq'
    refine wpAny_mono (turn s.heap.objs.size oI i v m₁ news₁ hh' tk' hin' hP hJ hnI (Heap.lt_size (hget _ hoI)) F₁ hN') (fun f s₂ p => ?_) fun _ _ e => e
    have fin : (∃ h' tk m' news', s₂ = { s with heap := h', toks := tk } ∧ Fr h₀ env.locals h' m' ∧ News h₀ env.locals h' ((s.heap.objs.size, oI) :: news') ∧ (∀ p ∈ news', p.1 ≠ s.heap.objs.size) ∧ J (i + 1) m' news') →
        LoopStepU h₀ env.locals [s.heap.objs.size] own (fun m₁ nx => J (i + 1) m₁ nx ∧ ∀ p ∈ nx, p.1 ≠ s.heap.objs.size) { s with heap := hh', toks := tk' } .next s₂ := by
      rintro ⟨h', tk, m', news', e, F', N', hI', j⟩
      refine ⟨rfl, h', tk, m', news', e, F', fun p hp => ?_, fun p hp hq => hI' p hp (List.mem_singleton.mp hq), j, hI'⟩
      rcases List.mem_append.mp hp with hp | hp
      · rcases List.mem_cons.mp (hown p hp) with e | e
        · have h1 := hget p hp
          have h2 := hget _ hoI
          rw [e] at h1
          have : p.2 = oI := Option.some.inj (h1.symm.trans h2)
          have : p = (s.heap.objs.size, oI) := Prod.ext e this
          rw [this]; exact N' _ (.head _)
        · obtain ⟨q, hq, e⟩ := List.mem_map.mp e
          have hq' := hin i m₁ news₁ hJ q hq
          have h1 := hget p hp
          have h2 := (N₁ q (List.mem_append_right _ hq')).1
          rw [← e] at h1
          have : p.2 = q.2 := Option.some.inj (h1.symm.trans h2)
          have : p = q := Prod.ext e.symm this
          rw [this]
          exact N' _ (.tail _ (hin (i + 1) m' news' j q hq))
      · exact N' _ (.tail _ hp)
    cases f with
    | ret v => exact .ret p
    | brk => exact .brk p
    | next => exact .next (fin p)
    | cont => exact .cont (fin p)
  · rintro h' tk m' news' F' N' _ ⟨hJ, _⟩
    exact done m' news' h' tk hJ F' N'

theorem loop_list {env : Env} {x : Str} {body : List Stmt} {Q : Flow → Shared → Prop} {l : Addr} {its : Array Value} {k : Nat} (J : Nat → (Str → Option Value) → Led → Prop) (hh : A.handled = none)
    (F : Fr h₀ env.locals s.heap m) (N : News h₀ env.locals s.heap news) (hj : J 0 m news) (hheld : ∀ i m nx, J i m nx → (l, W.listOf its k) ∈ nx)
    (turn : ∀ (I : Addr) (oI : Obj) i v m₁ news₁ h tk, i < its.size → its[i]? = some v → J i m₁ news₁ → (∀ p ∈ news₁, p.1 ≠ I) → LtN I h.objs.size → Fr h₀ env.locals h (fun y => if y = x then some v else m₁ y) → News h₀ env.locals h ((I, oI) :: news₁) →
      wpAny (model prog w) A (execs body env) (TurnPost h₀ env.locals I oI (J (i + 1)) s Q) E { s with heap := h, toks := tk })
    (done : ∀ m₁ news₁ h tk, J its.size m₁ news₁ → Fr h₀ env.locals h m₁ → News h₀ env.locals h news₁ → Q .next { s with heap := h, toks := tk }) :
    wpAny (model prog w) A (pyIter (.ref l)) (fun it s₂ => LoopAtV prog w A h₀ env x body Q E it s₂) E s := by
  have hm := hheld 0 m news hj
  have hl : s.heap.IsList l its := ⟨_, (N _ hm).1, rfl, _, rfl⟩
  have hlt : l < s.heap.objs.size := Heap.lt_size (N _ hm).1
  refine wpAny_pyIter_list hl ?_
  exact loop_any (held := [(l, W.listOf its k)]) J rfl (Walks.list hh s.heap.objs.size l (Nat.ne_of_lt hlt) its) ⟨⟨_, Heap.get?_push_size _ rfl, rfl, rfl⟩, hl.push _⟩
    (fun i h st => by obtain ⟨o, e, _⟩ := st.1; exact ⟨o, e⟩) F N hj (fun i m nx j p hp => by rw [List.mem_singleton.mp hp]; exact hheld i m nx j) turn done

theorem loop_tuple {env : Env} {x : Str} {body : List Stmt} {Q : Flow → Shared → Prop} {l : Addr} {vs : List Value} (J : Nat → (Str → Option Value) → Led → Prop) (hh : A.handled = none)
    (F : Fr h₀ env.locals s.heap m) (N : News h₀ env.locals s.heap news) (hj : J 0 m news) (hheld : ∀ i m nx, J i m nx → (l, tupO vs) ∈ nx)
    (turn : ∀ (I : Addr) (oI : Obj) i v m₁ news₁ h tk, i < vs.toArray.size → vs.toArray[i]? = some v → J i m₁ news₁ → (∀ p ∈ news₁, p.1 ≠ I) → LtN I h.objs.size → Fr h₀ env.locals h (fun y => if y = x then some v else m₁ y) → News h₀ env.locals h ((I, oI) :: news₁) →
      wpAny (model prog w) A (execs body env) (TurnPost h₀ env.locals I oI (J (i + 1)) s Q) E { s with heap := h, toks := tk })
    (done : ∀ m₁ news₁ h tk, J vs.toArray.size m₁ news₁ → Fr h₀ env.locals h m₁ → News h₀ env.locals h news₁ → Q .next { s with heap := h, toks := tk }) :
    wpAny (model prog w) A (pyIter (.ref l)) (fun it s₂ => LoopAtV prog w A h₀ env x body Q E it s₂) E s := by
  have hm := hheld 0 m news hj
  have hl : s.heap.IsTuple l vs.toArray := ⟨_, (N _ hm).1, rfl, _, rfl⟩
  have hlt : l < s.heap.objs.size := Heap.lt_size (N _ hm).1
  refine wpAny_pyIter_tuple hl ?_
  exact loop_any (held := [(l, tupO vs)]) J rfl (Walks.tuple hh s.heap.objs.size l (Nat.ne_of_lt hlt) vs.toArray) ⟨⟨_, Heap.get?_push_size _ rfl, rfl, rfl⟩, ⟨_, Heap.get?_push_of_some _ (N _ hm).1, rfl, _, rfl⟩⟩
    (fun i h st => by obtain ⟨o, e, _⟩ := st.1; exact ⟨o, e⟩) F N hj (fun i m nx j p hp => by rw [List.mem_singleton.mp hp]; exact hheld i m nx j) turn done

theorem loop_range {env : Env} {x : Str} {body : List Stmt} {Q : Flow → Shared → Prop} {r : Addr} {a b : Int} {t u v : Tok} {n : Nat} (J : Nat → (Str → Option Value) → Led → Prop) (hh : A.handled = none)
    (hr : IsRange s.heap r a b 1 t u v) (hsm : Builtin.Range.small a b 1 = true) (hn : Builtin.Range.rangeSize a b 1 = ((n : Nat) : Int))
    (F : Fr h₀ env.locals s.heap m) (N : News h₀ env.locals s.heap news) (hj : J 0 m news)
    (turn : ∀ (I : Addr) (oI : Obj) i v m₁ news₁ h tk, i < n → (∃ t, v = .int (a + (i : Int)) t) → J i m₁ news₁ → (∀ p ∈ news₁, p.1 ≠ I) → LtN I h.objs.size → Fr h₀ env.locals h (fun y => if y = x then some v else m₁ y) → News h₀ env.locals h ((I, oI) :: news₁) →
      wpAny (model prog w) A (execs body env) (TurnPost h₀ env.locals I oI (J (i + 1)) s Q) E { s with heap := h, toks := tk })
    (done : ∀ m₁ news₁ h tk, J n m₁ news₁ → Fr h₀ env.locals h m₁ → News h₀ env.locals h news₁ → Q .next { s with heap := h, toks := tk }) :
    wpAny (model prog w) A (pyIter (.ref r)) (fun it s₂ => LoopAtV prog w A h₀ env x body Q E it s₂) E s := by
  refine wpAny_pyIter_range hr hsm ?_
  exact loop_any (held := []) J rfl (LCg.range_walks hh a n) (by show IsRangeIter _ _ _ _ _; rw [hn]; simpa using Heap.get?_push_size _ rfl)
    (fun i h st => ⟨_, st⟩) F N hj (fun i m nx j p hp => nomatch hp) turn done
end
end Mine
end
local macro_rules | `(tactic| decreasing_trivial_pre_omega) => `(tactic| ((repeat (first | assumption | exact And.right (a := Mine.LtN _ _) (by assumption) | exact And.left (b := Mine.LtN _ _) (by assumption) | refine Mine.lt_tr (by assumption) ?_)); done))
local macro_rules | `(tactic| omega) => `(tactic| first | (show @Ne Nat _ _; (try dsimp only); with_reducible (first | assumption | (refine Ne.symm ?_; assumption) | (refine Mine.ne_lt ?_; decreasing_trivial_pre_omega) | (refine Mine.ne_gt ?_; decreasing_trivial_pre_omega) | (refine Mine.ne_lt (Mine.lt_23 ?_); decreasing_trivial_pre_omega) | (refine Mine.ne_gt (Mine.lt_23 ?_); decreasing_trivial_pre_omega) | (refine Mine.ne_lt (Mine.lt_13 ?_); decreasing_trivial_pre_omega) | (refine Mine.ne_gt (Mine.lt_13 ?_); decreasing_trivial_pre_omega))) | (show Mine.LtN _ _; (try dsimp only); with_reducible (first | decreasing_trivial_pre_omega | (refine Mine.lt_23 ?_; decreasing_trivial_pre_omega) | (refine Mine.lt_13 ?_; decreasing_trivial_pre_omega))) | (show @LE.le Nat _ _ _; with_reducible first | assumption | exact Nat.le_trans (by assumption) (by decide)) | decide | omega (config := {}))
local macro_rules | `(tactic| sizeOf_list_dec) => `(tactic| first | assumption | (refine Or.inl ?_; sizeOf_list_dec) | (refine Or.inr ?_; sizeOf_list_dec))
local macro_rules | `(tactic| simp [$h:ident]) => `(tactic| first | (show _ ∨ _; with_reducible sizeOf_list_dec) | simp (config := {}) [$h:ident])
local macro_rules | `(tactic| simp) => `(tactic| first | (show _ ∈ (_ :: _); with_reducible ((repeat (first | exact List.Mem.head _ | refine List.Mem.tail _ ?_)); done)) | simp (config := {}))
local macro_rules | `(tactic| size_fits) => `(tactic| (simp only [PySem.sizeLine_eq, Array.size_push]; omega))
local macro_rules | `(tactic| k_room) => `(tactic| ktr_room)
local macro_rules | `(tactic| k_all) => `(tactic| assumption)
section
open PySem PySem.W PyProof.Rows PySem.Calls
set_option maxRecDepth 100000
set_option maxHeartbeats 4000000
namespace Mine
theorem off2 : True := by
  w_top off
  trivial

-- THE PLAIN SIDE
noncomputable abbrev Gate : Type := Option (List Int)
noncomputable def lit (k : List Bool) (g : Int) : Bool := k.getD g.natAbs false == decide (0 < g)
noncomputable def gv (ρ : Nat → Bool) (k : List Bool) : Gate → Bool
  | none => ρ k.length
  | some ps => ps.all (lit k)
noncomputable def vals (ρ : Nat → Bool) (G : List Gate) : List Bool := G.foldl (fun k g => k ++ [gv ρ k g]) [false, true]
noncomputable def GOk (n : Nat) (g : Int) : Prop := g ≠ 0 ∧ g.natAbs < n

theorem vals_snoc (ρ : Nat → Bool) (G : List Gate) (g : Gate) : vals ρ (G ++ [g]) = vals ρ G ++ [gv ρ (vals ρ G) g] := by
  unfold vals; rw [List.foldl_append]; rfl
theorem vals_len (ρ : Nat → Bool) (G : List Gate) : (vals ρ G).length = G.length + 2 := by
  have : ∀ (G : List Gate) (k : List Bool), (G.foldl (fun k g => k ++ [gv ρ k g]) k).length = k.length + G.length := by
    intro G
    induction G with
    | nil => intro k; rfl
    | cons g G ih => intro k; rw [List.foldl_cons, ih, List.length_append, List.length_cons, List.length_cons, List.length_nil]; omega
  unfold vals; rw [this]; simp only [List.length_cons, List.length_nil]; omega
theorem vals_app (ρ : Nat → Bool) (G e : List Gate) : ∃ t, vals ρ (G ++ e) = vals ρ G ++ t := by
  induction e generalizing G with
  | nil => exact ⟨[], by simp⟩
  | cons g e ih =>
    obtain ⟨t, h⟩ := ih (G ++ [g])
    refine ⟨[gv ρ (vals ρ G) g] ++ t, ?_⟩
    rw [show G ++ g :: e = G ++ [g] ++ e by simp, h, vals_snoc, List.append_assoc]
theorem lit_app {k t : List Bool} {g : Int} (h : g.natAbs < k.length) : lit (k ++ t) g = lit k g := by
  unfold lit; rw [List.getD_eq_getElem?_getD, List.getD_eq_getElem?_getD, List.getElem?_append_left h]
theorem lit_ext {ρ : Nat → Bool} {G e : List Gate} {g : Int} (h : GOk (G.length + 2) g) : lit (vals ρ (G ++ e)) g = lit (vals ρ G) g := by
  obtain ⟨t, ht⟩ := vals_app ρ G e
  rw [ht]; exact lit_app (by rw [vals_len]; exact h.2)
theorem vals_01 (ρ : Nat → Bool) (G : List Gate) : (vals ρ G)[0]? = some false ∧ (vals ρ G)[1]? = some true := by
  obtain ⟨t, ht⟩ := vals_app ρ [] G
  rw [List.nil_append] at ht
  rw [ht]; exact ⟨rfl, rfl⟩
theorem lit_one (ρ : Nat → Bool) (G : List Gate) : lit (vals ρ G) 1 = true := by
  unfold lit; rw [List.getD_eq_getElem?_getD]; rw [show (1 : Int).natAbs = 1 from rfl, (vals_01 ρ G).2]; rfl
theorem lit_neg {k : List Bool} {g : Int} (h : g ≠ 0) : lit k (-g) = !lit k g := by
  unfold lit
  rw [Int.natAbs_neg]
  by_cases h1 : 0 < g
  · rw [decide_eq_true h1, decide_eq_false (by omega)]; cases k.getD g.natAbs false <;> rfl
  · rw [decide_eq_false h1, decide_eq_true (by omega)]; cases k.getD g.natAbs false <;> rfl
theorem lit_m1 (ρ : Nat → Bool) (G : List Gate) : lit (vals ρ G) (-1) = false := by rw [lit_neg (by decide), lit_one]; rfl
theorem GOk.neg {n : Nat} {g : Int} (h : GOk n g) : GOk n (-g) := ⟨by have := h.1; omega, by rw [Int.natAbs_neg]; exact h.2⟩
theorem GOk.up {n n' : Nat} {g : Int} (h : GOk n g) (hn : n ≤ n') : GOk n' g := ⟨h.1, Nat.lt_of_lt_of_le h.2 hn⟩
theorem GOk.one {n : Nat} : GOk (n + 2) 1 := ⟨by decide, by show (1 : Nat) < _; omega⟩
theorem GOk.mone {n : Nat} : GOk (n + 2) (-1) := GOk.one.neg

-- THE HEAP SIDE
noncomputable abbrev ent (w : World) (x : Str) (t : Tok) (v : Value) : DictEntry := ⟨PyData.keyHash w.params x, .str x t, v⟩
noncomputable abbrev IK (w : World) : PySem.KeyKind PP w Int := intKind PP w
noncomputable abbrev KX : Type := List Int × Addr × Value
noncomputable abbrev knownO (w : World) (xs : List KX) (n : Nat) : Obj := dictOf (xs.map (entryOfKey (tupleKind (IK w)))) n
noncomputable abbrev circO (w : World) (kL pL nD : Addr) (t1 t2 t3 : Tok) : Obj := dictOf [ent w "kinds" t1 (.ref kL), ent w "parts_now" t2 (.ref pL), ent w "known" t3 (.ref nD)] 3

structure CircOk (G : List Gate) (ks ps : Array Value) (xs : List KX) (rest : Led) : Prop where
  kl : ks.size = G.length + 2
  pl : ps.size = G.length + 2
  kind : ∀ i g, G[i]? = some g → ∃ t, ks[i + 2]? = some (.str (if g.isNone then "input" else "and") t)
  part : ∀ i g, G[i]? = some g → ∃ a vs, ps[i + 2]? = some (.ref a) ∧ (a, tupO vs) ∈ rest ∧ IntsAre vs (g.getD [])
  nodup : (xs.map (·.1)).Nodup
  key : ∀ x ∈ xs, ∃ vs, (x.2.1, tupO vs) ∈ rest ∧ IntsAre vs x.1
  val : ∀ x ∈ xs, ∃ i t, G[i]? = some (some x.1) ∧ x.2.2 = .int ((i + 2 : Nat) : Int) t
  xl : xs.length ≤ G.length
  wf : ∀ i l, G[i]? = some (some l) → ∀ p ∈ l, GOk (i + 2) p
  short : ∀ (i : Nat) (l : List Int), G[i]? = some (some l) → l.length < 60

theorem CircOk.mono {G ks ps xs} {rest rest' : Led} (h : CircOk G ks ps xs rest) (hs : ∀ p ∈ rest, p ∈ rest') : CircOk G ks ps xs rest' :=
  ⟨h.kl, h.pl, h.kind, fun i g e => let ⟨a, vs, x, y, z⟩ := h.part i g e; ⟨a, vs, x, hs _ y, z⟩, h.nodup, fun x hx => let ⟨vs, y, z⟩ := h.key x hx; ⟨vs, hs _ y, z⟩, h.val, h.xl, h.wf, h.short⟩

theorem items_of_ints {w : World} : ∀ {vs : List Value} {ns : List Int}, IntsAre vs ns → ItemsAre (IK w) ns vs
  | _, _, .nil => .nil
  | _, _, .cons n t r => .cons (intKind_is _ _ n t) (items_of_ints r)

/-- the circuit has grown by c gates at most; the tuples made are new -/
structure Grew (fv : List Addr) (rest : Led) (c : Nat) (G G' : List Gate) (tl : Led) : Prop where
  ext : ∃ e : List Gate, G' = G ++ e ∧ e.length ≤ c ∧ ∀ g ∈ e, g.isNone = false
  new : ∀ p ∈ tl, (∀ b ∈ fv, p.1 ≠ b) ∧ ∀ q ∈ rest, q.1 ≠ p.1
section
variable {fv : List Addr} {rest rest' tl tl' : Led} {c c' : Nat} {G G' G'' : List Gate}
theorem Grew.refl : Grew fv rest c G G [] := ⟨⟨[], by simp, Nat.zero_le _, fun _ h => nomatch h⟩, fun _ h => nomatch h⟩
theorem Grew.len (h : Grew fv rest c G G' tl) : G.length ≤ G'.length ∧ G'.length ≤ G.length + c := by
  obtain ⟨e, rfl, hl, _⟩ := h.ext
  rw [List.length_append]; omega
theorem Grew.lit (h : Grew fv rest c G G' tl) (ρ : Nat → Bool) {g : Int} (hg : GOk (G.length + 2) g) : Mine.lit (vals ρ G') g = Mine.lit (vals ρ G) g := by
  obtain ⟨e, rfl, hl, _⟩ := h.ext
  exact lit_ext hg
theorem Grew.ok (h : Grew fv rest c G G' tl) {g : Int} (hg : GOk (G.length + 2) g) : GOk (G'.length + 2) g := hg.up (by have := h.len; omega)
theorem Grew.trans (h : Grew fv rest c G G' tl) (h' : Grew fv rest' c' G' G'' tl') (hs : ∀ p ∈ rest, p ∈ rest') : Grew fv rest (c + c') G G'' (tl ++ tl') := by
  obtain ⟨e, rfl, hl, hn⟩ := h.ext
  obtain ⟨e', rfl, hl', hn'⟩ := h'.ext
  refine ⟨⟨e ++ e', by rw [List.append_assoc], by rw [List.length_append]; omega, fun g hg => (List.mem_append.mp hg).elim (hn g) (hn' g)⟩, fun p hp => ?_⟩
  rcases List.mem_append.mp hp with q | q
  · exact h.new p q
  · exact ⟨(h'.new p q).1, fun r hr => (h'.new p q).2 r (hs r hr)⟩
theorem Grew.up (h : Grew fv rest c G G' tl) (hc : c ≤ c') : Grew fv rest c' G G' tl := by
  obtain ⟨e, r, hl, hn⟩ := h.ext
  exact ⟨⟨e, r, Nat.le_trans hl hc, hn⟩, h.new⟩
theorem Grew.sub (h : Grew fv rest' c G G' tl) (hs : ∀ p ∈ rest, p ∈ rest') : Grew fv rest c G G' tl := ⟨h.ext, fun p hp => ⟨(h.new p hp).1, fun q hq => (h.new p hp).2 q (hs q hq)⟩⟩
end
theorem allLt_mem {d : Addr} {l : Led} (h : AllLt d l) : ∀ q ∈ l, LtN q.1 d := by
  induction l with
  | nil => intro q hq; cases hq
  | cons p r ih =>
    intro q hq
    rcases List.mem_cons.mp hq with e | hq
    · rw [e]; exact h.1
    · exact ih h.2 q hq
theorem new1 {C dC kL pL nD D : Nat} {o : Obj} {rest : Led} (h : LtN C D ∧ LtN dC D ∧ LtN kL D ∧ LtN pL D ∧ LtN nD D ∧ AllLt D rest) : ∀ p ∈ [((D : Addr), o)], (∀ b ∈ ([C, dC, kL, pL, nD] : List Addr), p.1 ≠ b) ∧ ∀ q ∈ rest, q.1 ≠ p.1 := fun p hp => by
  rw [List.mem_singleton.mp hp]
  obtain ⟨h1, h2, h3, h4, h5, h6⟩ := h
  refine ⟨fun b hb => ?_, fun q hq => Nat.ne_of_lt (allLt_mem h6 q hq)⟩
  simp only [List.mem_cons, List.not_mem_nil, or_false] at hb
  rcases hb with e | e | e | e | e <;> rw [e] <;> exact Nat.ne_of_gt (by assumption)
theorem new2 {C dC kL pL nD D : Nat} {o o1 o2 o3 o4 o5 : Obj} {rest : Led} (h : ∀ p ∈ ((C : Addr), o1) :: ((dC : Addr), o2) :: ((kL : Addr), o3) :: ((pL : Addr), o4) :: ((nD : Addr), o5) :: rest, p.1 ≠ D) : ∀ p ∈ [((D : Addr), o)], (∀ b ∈ ([C, dC, kL, pL, nD] : List Addr), p.1 ≠ b) ∧ ∀ q ∈ rest, q.1 ≠ p.1 := fun p hp => by
  rw [List.mem_singleton.mp hp]
  refine ⟨fun b hb => ?_, fun q hq => h q (.tail _ (.tail _ (.tail _ (.tail _ (.tail _ hq)))))⟩
  simp only [List.mem_cons, List.not_mem_nil, or_false] at hb
  rcases hb with e | e | e | e | e <;> rw [e]
  · exact Ne.symm (h _ (.head _))
  · exact Ne.symm (h _ (.tail _ (.head _)))
  · exact Ne.symm (h _ (.tail _ (.tail _ (.head _))))
  · exact Ne.symm (h _ (.tail _ (.tail _ (.tail _ (.head _)))))
  · exact Ne.symm (h _ (.tail _ (.tail _ (.tail _ (.tail _ (.head _))))))
end Mine
end
section
open PySem PySem.W PyProof.Rows PySem.Calls
set_option maxRecDepth 100000
set_option maxHeartbeats 4000000
namespace Mine
theorem off3 : True := by
  w_top off
  trivial
section
variable {w : World} {A : Around} {E : Value → Shared → Prop} {s : Shared} {h₀ : Heap} {L : Addr} {m : Str → Option Value} {news : Led} {d : Addr} {od : Obj} {kvs : List (Int × Value)}

theorem found_dict (N : News h₀ L s.heap news) (hm : (d, od) ∈ news) (hd : od.IsDictOf (IK w) kvs) : s.heap.DictOf (IK w) d kvs :=
  Heap.dictOf_iff.mpr ⟨od, (N _ hm).1, hd⟩
theorem in_found {k : Int} {t : Tok} {Q : Value → Shared → Prop} (N : News h₀ L s.heap news) (hm : (d, od) ∈ news) (lo : (d == sysModules) = false) (hd : od.IsDictOf (IK w) kvs)
    (h : ∀ tk, Q (.bool (valueAt kvs k).isSome) { s with toks := tk }) : wpAny (model PP w) A (compareOp .In (.int k t) (.ref d)) Q E s :=
  wpAny_in_of (knd := IK w) (k := k) (intKind_is _ _ k t) lo (found_dict N hm hd).mapOf (h _)
theorem set_found {k : Int} {t : Tok} {v : Value} {Q : Unit → Shared → Prop} {g : Obj → Led} (F : Fr h₀ L s.heap m) (N : News h₀ L s.heap news) (U : UpdF d od news g) (hd : od.IsDictOf (IK w) kvs) (hz : kvs.length ≤ 1000)
    (h : ∀ h' o' tk, Fr h₀ L h' m → News h₀ L h' (g o') → o'.IsDictOf (IK w) (stored kvs k v) → Q () { s with heap := h', toks := tk }) :
    wpAny (model PP w) A (setItem (.ref d) (.int k t) v) Q E s := by
  obtain ⟨pre, post, rfl, hg, a, b⟩ := U.split
  have hmem := N (d, od) (List.mem_append_right _ (.head _))
  refine wpAny_setItem_pairs (knd := IK w) (k := k) (intKind_is _ _ k t) (found_dict N (List.mem_append_right _ (.head _)) hd) (fun h' hd' hs => ?_) (by rw [sizeLine_eq]; omega)
  obtain ⟨o', ho', hd''⟩ := Heap.dictOf_iff.mp hd'
  exact h h' o' _ (F.change hs hmem.2.1 hmem.2.2) (hg o' ▸ news_set N a b hs ho') hd''

theorem sorted_found {Q : Value → Shared → Prop} (hh : A.handled = none) (F : Fr h₀ L s.heap m) (N : News h₀ L s.heap news) (hm : (d, od) ∈ news) (lo : (d == sysModules) = false) (hd : od.IsDictOf (IK w) kvs) (hz : kvs.length < 64)
    (h : ∀ (D : Addr) (h' : Heap) (tk e : Nat) (vs' : List Value) (ns' : List Int), Fr h₀ L h' m → News h₀ L h' ((D, W.listOf vs'.toArray e) :: news) → (∀ q ∈ news, q.1 < D) → IntsAre vs' ns' → ns'.Perm (kvs.map (·.1)) → ns'.Pairwise (· ≤ ·) →
      Q (.ref D) { s with heap := h', toks := tk }) :
    wpAny (model PP w) A (call (.builtin "sorted") [.ref d]) Q E s := by
  obtain ⟨ep, hat⟩ := (found_dict N hm hd).dictAt
  refine kdu_sorted (kdl_dict (knd := IK w) (kvs := kvs) (ep := ep) lo) hh F N hat (by rw [sizeLine_eq]; omega) fun D h' tk vs F' N' l1 hl hv => ?_
  have hI : IntsAre vs (kvs.map (·.1)) := by
    have go : ∀ (vs : List Value) (kvs : List (Int × Value)), vs.length = kvs.length → (∀ (j : Nat) (v : Value), vs[j]? = some v → ∃ k x, kvs[j]? = some (k, x) ∧ (IK w).is k v = true) → IntsAre vs (kvs.map (·.1)) := by
      intro vs
      induction vs with
      | nil => intro kvs hl _; cases kvs with
        | nil => exact .nil
        | cons => simp at hl
      | cons v vs ih =>
        intro kvs hl hv
        cases kvs with
        | nil => simp at hl
        | cons kv kvs =>
          obtain ⟨k, x, e, hk⟩ := hv 0 v rfl
          simp only [List.getElem?_cons_zero, Option.some.injEq] at e
          subst e
          obtain ⟨t, rfl⟩ := Value.isInt_shape hk
          exact .cons k t (ih kvs (by simpa using hl) fun j u hu => by simpa using hv (j + 1) u (by simpa using hu))
    exact go vs kvs hl hv
  have z := N' (D, W.listOf vs.toArray 0) (.head _)
  refine wpAny_call_entry PyProof.Rows.slot_list_sort ⟨_, z.1, rfl⟩ PyProof.Rows.entry_list_sort (list_sort_tree (n := 0) (vs := vs) z.1 hI (by rw [hl]; omega) fun out ns' hI' hp hP => ⟨.none, rfl, ?_⟩) (PyProof.Rows.args_list_sort _)
  obtain ⟨e, he⟩ := sortedHeap_at (out := out) z.1
  have old : ∀ b o, b ≠ D → h'.get? b = some o → (sortedHeap h' D vs out).get? b = some o := fun b o hb q => (sortedHeap_old hb (Heap.lt_size q)).trans q
  have hD0 := z.2.2
  refine h D _ tk e out.toList ns' ⟨?_, fun b o q => old b o (fun hb => by rw [hb, hD0] at q; cases q) (F'.keep b o q), F'.above⟩ (fun p hp => ?_) l1 hI' hp hP
  · obtain ⟨oL, es, ep', hL, r⟩ := F'.ns
    exact ⟨oL, es, ep', old L oL (Ne.symm z.2.1) hL, r⟩
  · rcases List.mem_cons.mp hp with rfl | hp
    · refine ⟨?_, z.2⟩
      rw [he, Array.toArray_toList]
    · have y := N' p (.tail _ hp)
      exact ⟨old _ _ (Nat.ne_of_lt (l1 p hp)) y.1, y.2⟩

theorem tuple_of {Q : Value → Shared → Prop} {l : Addr} {vs : List Value} {e : Nat} (F : Fr h₀ L s.heap m) (N : News h₀ L s.heap news) (hm : (l, W.listOf vs.toArray e) ∈ news) (hz : vs.length ≤ 1000)
    (h : ∀ (D : Addr) h', Fr h₀ L h' m → News h₀ L h' ((D, tupO vs) :: news) → (∀ q ∈ news, q.1 < D) → Q (.ref D) { s with heap := h' }) :
    wpAny (model PP w) A (call (.type "tuple") [.ref l]) Q E s := by
  refine call_tuple_list (items := vs.toArray) ⟨_, (N _ hm).1, rfl, _, rfl⟩ (fun h' hk => ?_) (by rw [List.size_toArray, sizeLine_eq]; omega)
  have F' : Fr h₀ L h' m := F.keeps hk
  have N' : News h₀ L h' news := fun p hp => ⟨hk _ _ (N p hp).1, (N p hp).2⟩
  exact h _ _ (F'.push _) (N'.push F' _) (fun q hq => Heap.lt_size (N' q hq).1)

-- the dict keyed by tuples
variable {nD : Addr} {xs : List KX} {n3 : Nat} {ta : Addr} {vs : List Value} {ns : List Int}
theorem known_dict (N : News h₀ L s.heap news) (hm : (nD, knownO w xs n3) ∈ news) (hk : ∀ x ∈ xs, ∃ vs, (x.2.1, tupO vs) ∈ news ∧ IntsAre vs x.1) (nd : (xs.map (·.1)).Nodup) : s.heap.DictOfH (tupleKind (IK w)) nD xs :=
  ⟨_, _, _, (N _ hm).1, ⟨rfl, rfl, rfl⟩, rfl, by simp, fun x hx => let ⟨vs, h1, h2⟩ := hk x hx; ⟨_, _, _, (N _ h1).1, rfl, rfl, by simpa using items_of_ints h2⟩, nd⟩
theorem key_at (N : News h₀ L s.heap news) (hm : (ta, tupO vs) ∈ news) (hi : IntsAre vs ns) : (tupleKind (IK w)).is s.heap ns ta :=
  ⟨_, _, _, (N _ hm).1, rfl, rfl, by simpa using items_of_ints hi⟩
theorem known_notin {Q : Value → Shared → Prop} (hu : A.units + 1 < cLine) (N : News h₀ L s.heap news) (hm : (nD, knownO w xs n3) ∈ news) (hk : ∀ x ∈ xs, ∃ vs, (x.2.1, tupO vs) ∈ news ∧ IntsAre vs x.1) (nd : (xs.map (·.1)).Nodup) (lo : (nD == sysModules) = false)
    (ht : (ta, tupO vs) ∈ news) (hi : IntsAre vs ns) (h : ∀ tk, Q (.bool (!(atKey xs ns).isSome)) { s with toks := tk }) : wpAny (model PP w) A (compareOp .NotIn (.ref ta) (.ref nD)) Q E s :=
  wpAny_notIn_heap (knd := tupleKind (IK w)) (tupleKind_room_in1 hu) (key_at N ht hi) lo (known_dict N hm hk nd) (h _)
theorem known_in {Q : Value → Shared → Prop} (hu : A.units + 1 < cLine) (N : News h₀ L s.heap news) (hm : (nD, knownO w xs n3) ∈ news) (hk : ∀ x ∈ xs, ∃ vs, (x.2.1, tupO vs) ∈ news ∧ IntsAre vs x.1) (nd : (xs.map (·.1)).Nodup) (lo : (nD == sysModules) = false)
    (ht : (ta, tupO vs) ∈ news) (hi : IntsAre vs ns) (h : ∀ tk, Q (.bool (atKey xs ns).isSome) { s with toks := tk }) : wpAny (model PP w) A (compareOp .In (.ref ta) (.ref nD)) Q E s :=
  wpAny_in_heap (knd := tupleKind (IK w)) (tupleKind_room_in1 hu) (key_at N ht hi) lo (known_dict N hm hk nd) (h _)
theorem known_item {Q : Value → Shared → Prop} {p : Addr × Value} {value slice : Expr} (hu : A.units + 1 < cLine) (N : News h₀ L s.heap news) (hm : (nD, knownO w xs n3) ∈ news) (hk : ∀ x ∈ xs, ∃ vs, (x.2.1, tupO vs) ∈ news ∧ IntsAre vs x.1) (nd : (xs.map (·.1)).Nodup)
    (ht : (ta, tupO vs) ∈ news) (hi : IntsAre vs ns) (hp : atKey xs ns = some p) (h : ∀ tk, Q p.2 { s with toks := tk })
    (hs : subscripted slice false (.ref nD) (.ref ta) = operate [.ref nD, .ref ta] (getItem (.ref nD) (.ref ta)) := by with_unfolding_all rfl) : wpAny (model PP w) A (subscriptTail value slice (.ref nD) (.ref ta)) Q E s :=
  have hd := known_dict N hm hk nd
  tail_any hd.typeIs slot_dict_getitem.lookup (wpAny_getItem_heap (knd := tupleKind (IK w)) (tupleKind_room_in1 hu) (key_at N ht hi) hd hp (h _)) hs
theorem known_set {Q : Unit → Shared → Prop} {v : Value} {g : Obj → Led} (hu : A.units + 1 < cLine) (F : Fr h₀ L s.heap m) (N : News h₀ L s.heap news) (U : UpdF nD (knownO w xs n3) news g) (hk : ∀ x ∈ xs, ∃ vs, (x.2.1, tupO vs) ∈ news ∧ IntsAre vs x.1) (nd : (xs.map (·.1)).Nodup)
    (ht : (ta, tupO vs) ∈ news) (hi : IntsAre vs ns) (hz : xs.length ≤ 100000) (h : ∀ h' n' tk, Fr h₀ L h' m → News h₀ L h' (g (knownO w (storedH xs ns ta v) n')) → Q () { s with heap := h', toks := tk }) :
    wpAny (model PP w) A (setItem (.ref nD) (.ref ta) v) Q E s := by
  obtain ⟨pre, post, e, hg, a, b⟩ := U.split
  have hmem : (nD, knownO w xs n3) ∈ news := e ▸ List.mem_append_right _ (.head _)
  have z := N _ hmem
  refine wpAny_setItem_heap (knd := tupleKind (IK w)) (tupleKind_room_in1 hu) (key_at N ht hi) (known_dict N hmem hk nd) (fun h' hd' hs => ?_) (by rw [sizeLine_eq]; omega)
  obtain ⟨o, es, ep, ho, hc, hdat, hes, _, _⟩ := hd'
  have ho' : o = knownO w (storedH xs ns ta v) ep := by
    obtain ⟨c, dd, dt, sl⟩ := o
    obtain ⟨c1, c2, c3⟩ := hc
    simp only at c1 c2 c3 hdat
    subst c1 c2 c3 hdat
    show _ = (_ : Obj)
    have : es = ((storedH xs ns ta v).map (entryOfKey (tupleKind (IK w)))).toArray := by rw [← hes, Array.toArray_toList]
    rw [this]
  rw [ho'] at ho
  subst e
  exact h h' ep _ (F.change hs z.2.1 z.2.2) (hg _ ▸ news_set N a b hs ho)
end
end Mine
end
section
open PySem PySem.W PyProof.Rows PySem.Calls
set_option maxRecDepth 100000
set_option maxHeartbeats 4000000
namespace Mine
theorem off4 : True := by
  w_top off
  trivial
theorem fill : PySem.Challenge.rw_nu0274_01 = PySem.Challenge.rw_nu0274_01 ∧ hd.heap_1 = hd.heap_1 := by
  k_fill
  exact ⟨rfl, rfl⟩
section
variable {prog : Program} {w : World} {A : Around} {E : Value → Shared → Prop} {s : Shared} {h₀ : Heap} {L : Addr} {m : Str → Option Value} {news : Led}
/-- a loop over a list or a tuple; its turns store no name but the loop's -/
theorem loop_seq {env : Env} {x : Str} {body : List Stmt} {Q : Flow → Shared → Prop} {l : Addr} {go : Obj} {vs : List Value} (J : Nat → Led → Prop) (hh : A.handled = none)
    (hgo : go = tupO vs ∨ ∃ k, go = W.listOf vs.toArray k)
    (F : Fr h₀ env.locals s.heap m) (N : News h₀ env.locals s.heap news) (hj : J 0 news) (hheld : ∀ i nx, J i nx → (l, go) ∈ nx)
    (turn : ∀ (I : Addr) (oI : Obj) i v news₁ h tk, vs[i]? = some v → J i news₁ → (∀ p ∈ news₁, p.1 ≠ I) → LtN I h.objs.size → Fr h₀ env.locals h (fun y => if y = x then some v else m y) → News h₀ env.locals h ((I, oI) :: news₁) →
      wpAny (model prog w) A (execs body env) (TurnPost h₀ env.locals I oI (fun m₁ nx => (∃ u, m₁ = fun y => if y = x then u else m y) ∧ J (i + 1) nx) s Q) E { s with heap := h, toks := tk })
    (done : ∀ u news₁ h tk, J vs.length news₁ → Fr h₀ env.locals h (fun y => if y = x then u else m y) → News h₀ env.locals h news₁ → Q .next { s with heap := h, toks := tk }) :
    wpAny (model prog w) A (pyIter (.ref l)) (fun it s₂ => LoopAtV prog w A h₀ env x body Q E it s₂) E s := by
  let J' : Nat → (Str → Option Value) → Led → Prop := fun i m₁ nx => (∃ u, m₁ = fun y => if y = x then u else m y) ∧ J i nx
  have j0 : J' 0 m news := ⟨⟨m x, by funext y; by_cases h : y = x <;> simp [h]⟩, hj⟩
  have tn : ∀ (I : Addr) (oI : Obj) i v m₁ news₁ h tk, i < vs.toArray.size → vs.toArray[i]? = some v → J' i m₁ news₁ → (∀ p ∈ news₁, p.1 ≠ I) → LtN I h.objs.size → Fr h₀ env.locals h (fun y => if y = x then some v else m₁ y) → News h₀ env.locals h ((I, oI) :: news₁) →
      wpAny (model prog w) A (execs body env) (TurnPost h₀ env.locals I oI (J' (i + 1)) s Q) E { s with heap := h, toks := tk } := by
    rintro I oI i v m₁ news₁ h tk _ hv ⟨⟨u, rfl⟩, hj⟩ hI hlt F₁ N₁
    have e : (fun y => if y = x then some v else if y = x then u else m y) = fun y => if y = x then some v else m y := by funext y; by_cases h : y = x <;> simp [h]
    rw [e] at F₁
    exact turn I oI i v news₁ h tk (by simpa using hv) hj hI hlt F₁ N₁
  have dn : ∀ m₁ news₁ h tk, J' vs.toArray.size m₁ news₁ → Fr h₀ env.locals h m₁ → News h₀ env.locals h news₁ → Q .next { s with heap := h, toks := tk } := by
    rintro m₁ news₁ h tk ⟨⟨u, rfl⟩, hj⟩ F₁ N₁
    exact done u news₁ h tk (by simpa using hj) F₁ N₁
  rcases hgo with rfl | ⟨k, rfl⟩
  · exact loop_tuple J' hh F N j0 (fun i m nx j => hheld i nx j.2) tn dn
  · exact loop_list J' hh F N j0 (fun i m nx j => hheld i nx j.2) tn dn
end

/-- the keys of the dict that all_of fills -/
structure FoundOk (T K : List Int) : Prop where
  nd : K.Nodup
  sub : ∀ k ∈ K, k ∈ T ∧ k ≠ 1
  cov : ∀ g ∈ T, g = 1 ∨ g ∈ K
  noM : ∀ g ∈ T, g ≠ -1
  noC : ∀ k ∈ K, -k ∉ K
theorem FoundOk.nil : FoundOk [] [] := ⟨.nil, (fun _ h => nomatch h), (fun _ h => nomatch h), (fun _ h => nomatch h), (fun _ h => nomatch h)⟩

theorem nodup_len : ∀ {l l' : List Int}, l.Nodup → (∀ x ∈ l, x ∈ l') → l.length ≤ l'.length
  | [], _, _, _ => Nat.zero_le _
  | x :: l, l', hn, hs => by
    rw [List.nodup_cons] at hn
    have h1 := nodup_len (l := l) (l' := l'.erase x) hn.2 fun y hy => (List.mem_erase_of_ne fun e => hn.1 (by rw [← e]; exact hy)).mpr (hs y (.tail _ hy))
    have hx := hs x (.head _)
    have h2 := List.length_erase_of_mem hx
    have h3 : 0 < l'.length := List.length_pos_of_mem hx
    rw [List.length_cons]; omega
theorem valueAt_some {kvs : List (Int × Value)} {k : Int} : (valueAt kvs k).isSome = true ↔ k ∈ kvs.map (·.1) := by
  unfold valueAt
  rw [Option.isSome_map, List.find?_isSome]
  constructor
  · rintro ⟨x, hx, h⟩
    exact List.mem_map.mpr ⟨x, hx, by simpa using h⟩
  · intro h
    obtain ⟨x, hx, h⟩ := List.mem_map.mp h
    exact ⟨x, hx, by simpa using h⟩
theorem stored_keys {kvs : List (Int × Value)} {k : Int} {v : Value} : (stored kvs k v).map (·.1) = if k ∈ kvs.map (·.1) then kvs.map (·.1) else kvs.map (·.1) ++ [k] := by
  unfold stored
  by_cases h : k ∈ kvs.map (·.1)
  · have ha : (kvs.any fun kv => decide (kv.1 = k)) = true := by
      obtain ⟨x, hx, e⟩ := List.mem_map.mp h
      exact List.any_eq_true.mpr ⟨x, hx, by simpa using e⟩
    rw [if_pos h, if_pos ha, List.map_map]
    refine List.map_congr_left fun x _ => ?_
    show (if x.1 = k then (x.1, v) else x).1 = x.1
    split <;> rfl
  · have ha : ¬ (kvs.any fun kv => decide (kv.1 = k)) = true := by
      intro q
      obtain ⟨x, hx, e⟩ := List.any_eq_true.mp q
      exact h (List.mem_map.mpr ⟨x, hx, by simpa using e⟩)
    rw [if_neg h, if_neg ha, List.map_append]; rfl
theorem FoundOk.skip1 {T K : List Int} (h : FoundOk T K) : FoundOk (T ++ [1]) K :=
  ⟨h.nd, fun k hk => ⟨List.mem_append_left _ (h.sub k hk).1, (h.sub k hk).2⟩, fun g hg => by
    rcases List.mem_append.mp hg with q | q
    · exact h.cov g q
    · exact .inl (List.mem_singleton.mp q), fun g hg => by
    rcases List.mem_append.mp hg with q | q
    · exact h.noM g q
    · rw [List.mem_singleton.mp q]; decide, h.noC⟩
theorem FoundOk.old {T K : List Int} {g : Int} (h : FoundOk T K) (h1 : g ≠ -1) (hg : g ∈ K) : FoundOk (T ++ [g]) K :=
  ⟨h.nd, fun k hk => ⟨List.mem_append_left _ (h.sub k hk).1, (h.sub k hk).2⟩, fun g' hg' => by
    rcases List.mem_append.mp hg' with q | q
    · exact h.cov g' q
    · rw [List.mem_singleton.mp q]; exact .inr hg, fun g' hg' => by
    rcases List.mem_append.mp hg' with q | q
    · exact h.noM g' q
    · rw [List.mem_singleton.mp q]; exact h1, h.noC⟩
theorem FoundOk.add {T K : List Int} {g : Int} (h : FoundOk T K) (h1 : g ≠ -1) (h2 : g ≠ 1) (h0 : g ≠ 0) (hg : g ∉ K) (hn : -g ∉ K) : FoundOk (T ++ [g]) (K ++ [g]) :=
  ⟨List.nodup_append.mpr ⟨h.nd, by simp, fun a ha b hb => by rw [List.mem_singleton.mp hb]; exact fun e => hg (e ▸ ha)⟩, fun k hk => by
    rcases List.mem_append.mp hk with q | q
    · exact ⟨List.mem_append_left _ (h.sub k q).1, (h.sub k q).2⟩
    · rw [List.mem_singleton.mp q]; exact ⟨List.mem_append_right _ (.head _), h2⟩, fun g' hg' => by
    rcases List.mem_append.mp hg' with q | q
    · exact (h.cov g' q).imp id fun r => List.mem_append_left _ r
    · rw [List.mem_singleton.mp q]; exact .inr (List.mem_append_right _ (.head _)), fun g' hg' => by
    rcases List.mem_append.mp hg' with q | q
    · exact h.noM g' q
    · rw [List.mem_singleton.mp q]; exact h1, fun k hk hk' => by
    rcases List.mem_append.mp hk with q | q <;> rcases List.mem_append.mp hk' with r | r
    · exact h.noC k q r
    · have := List.mem_singleton.mp r
      exact hn (by rw [← this, Int.neg_neg]; exact q)
    · rw [List.mem_singleton.mp q] at r; exact hn r
    · rw [List.mem_singleton.mp q] at r; have := List.mem_singleton.mp r; omega⟩
/-- what is found has the whole's value -/
theorem FoundOk.all {T K : List Int} (h : FoundOk T K) {f : Int → Bool} (h1 : f 1 = true) : T.all f = K.all f := by
  rw [Bool.eq_iff_iff, List.all_eq_true, List.all_eq_true]
  exact ⟨fun q k hk => q k (h.sub k hk).1, fun q g hg => (h.cov g hg).elim (fun e => e ▸ h1) fun r => q g r⟩

theorem News.move3 {h₀ h : Heap} {L : Addr} {x y z c1 c2 c3 c4 c5 : Addr × Obj} {r : Led} (N : News h₀ L h (x :: y :: z :: c1 :: c2 :: c3 :: c4 :: c5 :: r)) : News h₀ L h (c1 :: c2 :: c3 :: c4 :: c5 :: (r ++ [x])) := fun p hp => N p (by
  simp only [List.mem_cons, List.mem_append, List.not_mem_nil, or_false] at hp ⊢
  rcases hp with h | h | h | h | h | h | h
  · exact .inr (.inr (.inr (.inl h)))
  · exact .inr (.inr (.inr (.inr (.inl h))))
  · exact .inr (.inr (.inr (.inr (.inr (.inl h)))))
  · exact .inr (.inr (.inr (.inr (.inr (.inr (.inl h))))))
  · exact .inr (.inr (.inr (.inr (.inr (.inr (.inr (.inl h)))))))
  · exact .inr (.inr (.inr (.inr (.inr (.inr (.inr (.inr h)))))))
  · exact .inl h)
theorem vals_get {ρ : Nat → Bool} {G : List Gate} {i : Nat} {g : Gate} (h : G[i]? = some g) : (vals ρ G)[i + 2]? = some (gv ρ (vals ρ (G.take i)) g) := by
  obtain ⟨hl, he⟩ := List.getElem?_eq_some_iff.mp h
  have e : G = G.take i ++ ([g] ++ G.drop (i + 1)) := by rw [← he]; simp
  obtain ⟨t, ht⟩ := vals_app ρ (G.take i ++ [g]) (G.drop (i + 1))
  rw [List.append_assoc, ← e, vals_snoc] at ht
  have hlen : (vals ρ (G.take i)).length = i + 2 := by rw [vals_len, List.length_take]; omega
  rw [ht, List.append_assoc, List.getElem?_append_right (by omega), hlen]; simp
theorem lit_gate {ρ : Nat → Bool} {G : List Gate} {i : Nat} {l : List Int} (h : G[i]? = some (some l)) (wf : ∀ p ∈ l, GOk (i + 2) p) : lit (vals ρ G) ((i + 2 : Nat) : Int) = l.all (lit (vals ρ G)) := by
  obtain ⟨hl, he⟩ := List.getElem?_eq_some_iff.mp h
  have h1 : lit (vals ρ G) ((i + 2 : Nat) : Int) = gv ρ (vals ρ (G.take i)) (some l) := by
    unfold lit
    rw [List.getD_eq_getElem?_getD, show (((i + 2 : Nat) : Int)).natAbs = i + 2 from rfl, vals_get h, decide_eq_true (by omega)]
    cases gv ρ (vals ρ (G.take i)) (some l) <;> rfl
  rw [h1]
  show l.all (lit (vals ρ (G.take i))) = _
  have hlen : (vals ρ (G.take i)).length = i + 2 := by rw [vals_len, List.length_take]; omega
  rw [Bool.eq_iff_iff, List.all_eq_true, List.all_eq_true]
  have e : ∀ p ∈ l, lit (vals ρ G) p = lit (vals ρ (G.take i)) p := fun p hp => by
    obtain ⟨t, ht⟩ := vals_app ρ (G.take i) (G.drop i)
    rw [List.take_append_drop] at ht
    rw [ht]; exact lit_app (by rw [hlen]; exact (wf p hp).2)
  exact ⟨fun q p hp => by rw [e p hp]; exact q p hp, fun q p hp => by rw [← e p hp]; exact q p hp⟩
theorem atKey_none {xs : List KX} {k : List Int} (h : (atKey xs k).isSome = false) : k ∉ xs.map (·.1) := by
  intro hm
  obtain ⟨x, hx, e⟩ := List.mem_map.mp hm
  unfold atKey at h
  rw [Option.isSome_map, List.find?_isSome.mpr ⟨x, hx, by simpa using e⟩] at h
  cases h
theorem atKey_snoc {xs : List KX} {k : List Int} {p : Addr × Value} (h : (atKey xs k).isSome = false) : atKey (xs ++ [(k, p)]) k = some p := by
  have hn : xs.find? (fun x => decide (x.1 = k)) = none := by
    unfold atKey at h
    cases q : xs.find? (fun x => decide (x.1 = k)) with
    | none => rfl
    | some x => rw [q] at h; cases h
  unfold atKey
  rw [List.find?_append, hn, List.find?_cons, decide_eq_true rfl]
  rfl
theorem CircOk.add {G ks ps xs} {rest rest' : Led} (h : CircOk G ks ps xs rest) {l : List Int} {vs : List Value} {ta : Addr} {t n : Tok} (hi : IntsAre vs l) (hl : ∀ p ∈ l, GOk (G.length + 2) p) (h60 : l.length < 60) (hn : (atKey xs l).isSome = false)
    (hm : (ta, tupO vs) ∈ rest') (hs : ∀ p ∈ rest, p ∈ rest') : CircOk (G ++ [some l]) (ks.push (.str "and" t)) (ps.push (.ref ta)) (xs ++ [(l, ta, .int ((G.length + 2 : Nat) : Int) n)]) rest' := by
  have h' := h.mono hs
  have hcase : ∀ {i : Nat} {g : Gate}, (G ++ [some l])[i]? = some g → (G[i]? = some g) ∨ (i = G.length ∧ g = some l) := fun {i g} e => by
    by_cases hi : i < G.length
    · left; rwa [List.getElem?_append_left hi] at e
    · right
      rw [List.getElem?_append_right (by omega)] at e
      have : i - G.length = 0 := by
        cases q : i - G.length with
        | zero => rfl
        | succ k => rw [q] at e; simp at e
      rw [this] at e
      exact ⟨by omega, (Option.some.inj e).symm⟩
  have lt_of : ∀ {i : Nat} {g : Gate}, G[i]? = some g → i < G.length := fun e => (List.getElem?_eq_some_iff.mp e).1
  refine ⟨by rw [Array.size_push, h.kl, List.length_append]; rfl, by rw [Array.size_push, h.pl, List.length_append]; rfl, fun i g e => ?_, fun i g e => ?_, ?_, fun x hx => ?_, fun x hx => ?_, ?_, fun i l' e p hp => ?_, fun i l' e => ?_⟩
  · rcases hcase e with e | ⟨rfl, rfl⟩
    · obtain ⟨t', q⟩ := h'.kind i g e
      exact ⟨t', by rw [Array.getElem?_push_lt (by rw [h.kl]; have := lt_of e; omega)]; rw [← q]; simp⟩
    · exact ⟨t, by rw [← h.kl]; simp⟩
  · rcases hcase e with e | ⟨rfl, rfl⟩
    · obtain ⟨a, vs', q, r⟩ := h'.part i g e
      exact ⟨a, vs', by rw [Array.getElem?_push_lt (by rw [h.pl]; have := lt_of e; omega)]; rw [← q]; simp, r⟩
    · exact ⟨ta, vs, by rw [← h.pl]; simp, hm, hi⟩
  · rw [List.map_append, List.nodup_append]
    refine ⟨h.nodup, by simp, fun a ha b hb => ?_⟩
    rw [List.mem_singleton.mp hb]
    exact fun e => atKey_none hn (by rw [e] at ha; exact ha)
  · rcases List.mem_append.mp hx with q | q
    · exact h'.key x q
    · rw [List.mem_singleton.mp q]; exact ⟨vs, hm, hi⟩
  · rcases List.mem_append.mp hx with q | q
    · obtain ⟨i, t', e, e'⟩ := h.val x q
      exact ⟨i, t', by rw [List.getElem?_append_left (lt_of e)]; exact e, e'⟩
    · rw [List.mem_singleton.mp q]
      exact ⟨G.length, n, by simp, rfl⟩
  · rw [List.length_append, List.length_append]; have := h.xl; simp only [List.length_cons, List.length_nil]; omega
  · rcases hcase e with e | ⟨rfl, e'⟩
    · exact h.wf i l' e p hp
    · cases e'; exact hl p hp
  · rcases hcase e with e | ⟨rfl, e'⟩
    · exact h.short i l' e
    · cases e'; exact h60

local macro_rules | `(tactic| walk_at "exec For Name Name cons nil") => `(tactic| refine Halt.mk ?_)
local macro_rules | `(tactic| walk_at "compareOp In int ref") => `(tactic| refine Halt.mk ?_)
local macro_rules | `(tactic| walk_at "setItem ref int") => `(tactic| refine Halt.mk ?_)
local macro_rules | `(tactic| walk_at "call builtin:sorted") => `(tactic| refine Halt.mk ?_)
local macro_rules | `(tactic| walk_at "TurnPost") => `(tactic| ((with_reducible show TurnPost _ _ _ _ _ _ _ (Flow.ret _) _); dsimp only [TurnPost]))
local macro_rules | `(tactic| walk_at "call builtin:len") => `(tactic| ((with_reducible show wpAny _ _ (call (Value.builtin "len") [Value.ref _]) _ _ _); refine Halt.mk ?_))
set_option pp.deepTerms false
set_option pp.deepTerms.threshold 3
theorem all_of_c (w : World) {p : Program} {loose : List Str} {mean : ExcName → Option Value} {mg mb : Str → Option Value}
  {dp un : Nat} {gd : Option (List Code)} {cn : Str} {cs : Scope} {a : Addr} {ccd : Value} {cl : List (Str × Addr)} {outer : List Env} {A₀ : Around} {base h₀ : Heap} {L : Addr} {m : Str → Option Value} {s : Shared} {Q E : Value → Shared → Prop}
  {C dC kL pL nD : Addr} {t1 t2 t3 : Tok} {ks ps : Array Value} {xs : List KX} {n1 n2 n3 : Nat} {rest tps : Led} {G : List Gate} {gt : Addr} {go : Obj} {vs : List Value} {gs : List Int}
  (hB : Below A₀ base outer h₀) (hF : Fr h₀ L s.heap m) (X : (hd.heap_1 w.params).In h₀)
  (hN : News h₀ L s.heap ((C, instObj 328 dC) :: (dC, circO w kL pL nD t1 t2 t3) :: (kL, W.listOf ks n1) :: (pL, W.listOf ps n2) :: (nD, knownO w xs n3) :: rest))
  (T : Top p loose mean mg mb h₀) (hk : cs.kind = .function)
  (o1 : LtN dC C) (o2 : LtN C kL) (o3 : LtN kL pL) (o4 : LtN pL nD) (r1 : ∀ p ∈ rest, p.1 ≠ C) (r2 : ∀ p ∈ rest, p.1 ≠ dC) (r3 : ∀ p ∈ rest, p.1 ≠ kL) (r4 : ∀ p ∈ rest, p.1 ≠ pL) (r5 : ∀ p ∈ rest, p.1 ≠ nD) (lo3 : (nD == sysModules) = false)
  (hc : CircOk G ks ps xs tps) (hsub : ∀ p ∈ tps, p ∈ rest) (hz : G.length ≤ 1000)
  (hgt : (gt, go) ∈ rest) (hgo : go = tupO vs ∨ ∃ k, go = W.listOf vs.toArray k) (hvs : IntsAre vs gs) (hgs : ∀ g ∈ gs, GOk (G.length + 2) g) (h64 : gs.length < 60)
  (hdp : dp + 2 < recursionLimit) (hun : un + 16 < cLine)
  (hret : ∀ (r : Int) (t : Tok) (h' : Heap) (tk' : Nat) (G' : List Gate) (ks' ps' : Array Value) (xs' : List KX) (n1' n2' n3' : Nat) (tl : Led), Fr h₀ L h' m →
    News h₀ L h' ((C, instObj 328 dC) :: (dC, circO w kL pL nD t1 t2 t3) :: (kL, W.listOf ks' n1') :: (pL, W.listOf ps' n2') :: (nD, knownO w xs' n3') :: (rest ++ tl)) →
    CircOk G' ks' ps' xs' (tps ++ tl) → Grew [C, dC, kL, pL, nD] rest 1 G G' tl → GOk (G'.length + 2) r → (∀ ρ, lit (vals ρ G') r = gs.all (lit (vals ρ G'))) → Q (Value.int r t) { s with heap := h', toks := tk' }) :
  wpAny (model PP w) (ktrTop dp un gd cn cs L a ccd cl outer) (call (.ref 278) [.ref C, .ref gt]) Q E s := by
  have hret0 : ∀ (r : Int) (t : Tok) (h' : Heap) (tk' : Nat), Fr h₀ L h' m → News h₀ L h' ((C, instObj 328 dC) :: (dC, circO w kL pL nD t1 t2 t3) :: (kL, W.listOf ks n1) :: (pL, W.listOf ps n2) :: (nD, knownO w xs n3) :: rest) → GOk (G.length + 2) r → (∀ ρ, lit (vals ρ G) r = gs.all (lit (vals ρ G))) → Q (.int r t) { s with heap := h', toks := tk' } := by
    intro r t h' tk' F' N' h1 h2
    exact hret r t h' tk' G ks ps xs n1 n2 n3 [] F' (by rw [List.append_nil]; exact N') (by rw [List.append_nil]; exact hc) Grew.refl h1 h2
  have hks : ks.size ≤ 2000 := by rw [hc.kl]; omega
  have hps : ps.size ≤ 2000 := by rw [hc.pl]; omega
  refine wpAny_call ?_
  k_dflt ktr_enter
  k_steps
  rename_i gg LL hx1 FG B' X' T' d hx2 od lo hs0 fs0 hd0 fi0 l1 hx3 F' N'
  refine Halt.go (For_invV gg (by rfl) (by rfl) ?_)
  refine nameX_L F' rfl ?_
  refine loop_seq (go := go) (vs := vs) (fun i nx => ∃ od kvs, nx = (d, od) :: ((C, instObj 328 dC) :: (dC, circO w kL pL nD t1 t2 t3) :: (kL, W.listOf ks n1) :: (pL, W.listOf ps n2) :: (nD, knownO w xs n3) :: rest) ∧ od.IsDictOf (IK w) kvs ∧ FoundOk (gs.take i) (kvs.map (·.1))) (by rfl) hgo F' N' ⟨od, [], rfl, hd0, FoundOk.nil⟩ ?hheld ?turn ?done
  case hheld =>
    rintro i nx ⟨od, kvs, rfl, -, -⟩
    exact .tail _ (.tail _ (.tail _ (.tail _ (.tail _ (.tail _ hgt)))))
  case turn =>
    rintro I oI i v news₁ h tk₁ hv ⟨od, kvs, rfl, hd, hfo⟩ hI hlt F₁ N₁
    obtain ⟨g, t, rfl, hgi⟩ := IntsAre.at hvs i _ hv
    have hgm : g ∈ gs := List.mem_of_getElem? hgi
    have htk : gs.take (i + 1) = gs.take i ++ [g] := by rw [List.take_add_one, hgi]; rfl
    have klen : kvs.length < 60 := by
      have h1 := nodup_len hfo.nd fun k hk => List.mem_of_mem_take (hfo.sub k hk).1
      rw [List.length_map] at h1
      omega
    have hId : @Ne Nat d I := hI (d, od) (.head _)
    have hfalse : ∀ x, x ∈ gs → (∀ ρ, lit (vals ρ G) x = false) → ∀ ρ, lit (vals ρ G) (-1) = gs.all (lit (vals ρ G)) := fun x hx hf ρ => by
      rw [lit_m1]; symm; rw [List.all_eq_false]; exact ⟨x, hx, by rw [hf ρ]; decide⟩
    dsimp only
    k_steps
    · rename g = -1 => hg1
      rename Fr _ _ _ _ => kF
      rename News _ _ _ _ => kN
      exact hret0 _ _ _ _ kF (News.sub kN fun p hp => .tail _ (.tail _ hp)) GOk.mone (hfalse g hgm fun ρ => by rw [hg1]; exact lit_m1 ρ G)
    · rename g ≠ -1 => hg1
      refine Halt.go (in_found N₁ (.tail _ (.head _)) lo hd fun tk₂ => ?_)
      k_steps
      · rename _ = true => hin
        rename Fr _ _ _ _ => kF
        rename News _ _ _ _ => kN
        have hk := hfo.sub _ (valueAt_some.mp hin)
        refine hret0 _ _ _ _ kF (News.sub kN fun p hp => .tail _ (.tail _ hp)) GOk.mone fun ρ => ?_
        rw [lit_m1]; symm
        rw [List.all_eq_false]
        have hn : -g ∈ gs := List.mem_of_mem_take hk.1
        by_cases hl : lit (vals ρ G) g = true
        · exact ⟨-g, hn, by rw [lit_neg (hgs g hgm).1, hl]; decide⟩
        · exact ⟨g, hgm, hl⟩
      · rename g ≠ 1 => hg2
        rename (valueAt kvs (-g)).isSome = false => hin
        have hnk : -g ∉ kvs.map (·.1) := fun q => by rw [valueAt_some.mpr q] at hin; cases hin
        refine Halt.go (set_found F₁ N₁ (by k_updF) hd (by have := klen; omega) fun h₂ o₂ tk₃ F₂ N₂ hd₂ => ?_)
        k_steps
        refine TurnPost.next _ F₂ N₂ (fun p hp => ?_) ⟨⟨_, rfl⟩, o₂, _, rfl, hd₂, ?_⟩
        · rcases List.mem_cons.mp hp with rfl | hp
          · exact hId
          · exact hI _ (.tail _ hp)
        · rw [htk, stored_keys]
          split
          · rename_i hm; exact hfo.old hg1 hm
          · rename_i hm; exact hfo.add hg1 hg2 (hgs g hgm).1 hm hnk
      · rename g = 1 => hg2
        refine TurnPost.next _ F₁ N₁ hI ⟨⟨_, rfl⟩, od, kvs, rfl, hd, ?_⟩
        rw [htk, hg2]; exact hfo.skip1
  case done =>
    rintro u news₁ h tk₁ ⟨od, kvs, rfl, hd, hfo⟩ F₁ N₁
    rw [hvs.length, List.take_length] at hfo
    dsimp only
    k_steps
    have klen : kvs.length < 60 := by
      have h1 := nodup_len hfo.nd fun k hk => (hfo.sub k hk).1
      rw [List.length_map] at h1
      omega
    refine Halt.go (sorted_found (by rfl) F₁ N₁ (.head _) lo hd (by omega) fun D h₂ tk₂ e vs' ns' F₂ N₂ l2 hI2 hperm hpw => ?_)
    k_lt l2
    k_steps
    have hlen : ns'.length = kvs.length := by rw [hperm.length_eq, List.length_map]
    refine tuple_of F₂ N₂ (.head _) (by rw [hI2.length]; omega) fun D2 h₃ F₃ N₃ l3 => ?_
    k_lt l3
    k_steps
    have hvl : vs'.length = ns'.length := hI2.length
    rename Fr _ _ _ _ => F4
    rename News _ _ _ _ => N4
    have hall : ∀ ρ, gs.all (lit (vals ρ G)) = ns'.all (lit (vals ρ G)) := fun ρ => by
      rw [hfo.all (lit_one ρ G)]; exact (hperm.all_eq).symm
    have hok : ∀ x ∈ ns', GOk (G.length + 2) x ∧ x ≠ 1 := fun x hx => by
      have hk := hfo.sub x (hperm.mem_iff.mp hx)
      exact ⟨hgs x hk.1, hk.2⟩
    have hkey : ∀ x ∈ xs, ∃ vs, (x.2.1, tupO vs) ∈ ((D2, tupO vs') :: (D, W.listOf vs'.toArray e) :: (d, od) :: ((C, instObj 328 dC) :: (dC, circO w kL pL nD t1 t2 t3) :: (kL, W.listOf ks n1) :: (pL, W.listOf ps n2) :: (nD, knownO w xs n3) :: rest)) ∧ IntsAre vs x.1 := fun x hx => by
      obtain ⟨v, h1, h2⟩ := hc.key x hx
      exact ⟨v, .tail _ (.tail _ (.tail _ (.tail _ (.tail _ (.tail _ (.tail _ (.tail _ (hsub _ h1)))))))), h2⟩
    refine Halt.go (len_T N4 (.head _) (by omega) fun t5 tk5 => ?_)
    k_steps
    · refine Halt.go (len_T N4 (.head _) (by omega) fun t6 tk6 => ?_)
      k_steps
      · rename _ = (1 : Int) => h1
        obtain ⟨x, tx, rfl, rfl⟩ : ∃ x tx, vs' = [.int x tx] ∧ ns' = [x] := by
          cases hI2 with
          | nil => simp at h1
          | cons n t r => cases r with
            | nil => exact ⟨_, _, rfl, rfl⟩
            | cons => simp at h1; omega
        rename Fr _ _ _ _ => kF
        rename News _ _ _ _ => kN
        refine hret0 _ _ _ _ kF (News.sub kN fun p hp => .tail _ (.tail _ (.tail _ hp))) (hok x (.head _)).1 fun ρ => ?_
        rw [hall ρ]; simp
      · rename ¬ _ = (1 : Int) => h1
        rename Fr _ _ _ _ => kF
        rename News _ _ _ _ => kN
        have hnil : ns' = [] := List.eq_nil_of_length_eq_zero (by omega)
        refine hret0 _ _ _ _ kF (News.sub kN fun p hp => .tail _ (.tail _ (.tail _ hp))) GOk.one fun ρ => ?_
        rw [hall ρ, hnil, lit_one]; rfl
    · refine known_notin (by show un + 3 + 1 < cLine; omega) N4 (by repeat' constructor) hkey hc.nodup lo3 (.head _) hI2 fun tk7 => ?_
      k_steps
      · rename (atKey xs ns').isSome = true => hat
        obtain ⟨⟨ta, tv⟩, htv⟩ := Option.isSome_iff_exists.mp hat
        obtain ⟨x, hx, e1, e2⟩ : ∃ x ∈ xs, x.1 = ns' ∧ x.2 = (ta, tv) := by
          unfold atKey at htv
          obtain ⟨x, hx, hx'⟩ := Option.map_eq_some_iff.mp htv
          exact ⟨x, List.mem_of_find?_eq_some hx, by simpa using List.find?_some hx, hx'⟩
        obtain ⟨i, ti, hGi, hvi⟩ := hc.val x hx
        rw [e2] at hvi
        rw [e1] at hGi
        simp only at hvi
        subst hvi
        refine known_item (by show un + 3 + 1 < cLine; omega) N4 (by repeat' constructor) hkey hc.nodup (.head _) hI2 htv fun tk8 => ?_
        k_steps
        rename Fr _ _ _ _ => kF
        rename News _ _ _ _ => kN
        refine hret0 _ _ _ _ kF (News.sub kN fun p hp => .tail _ (.tail _ (.tail _ hp))) ⟨by omega, by show i + 2 < _; have := (List.getElem?_eq_some_iff.mp hGi).1; omega⟩ fun ρ => ?_
        rw [hall ρ]; exact lit_gate hGi fun p hp => hc.wf i ns' hGi p hp
      · rename (atKey xs ns').isSome = false => hat
        rename Fr _ _ _ _ => F5
        rename News _ _ _ _ => N5
        refine Halt.go (len_L N5 (by repeat' constructor) (by rw [Array.size_push]; omega) fun t9 tk9 => ?_)
        k_steps
        rename Fr _ _ _ _ => F6
        rename News _ _ _ _ => N6
        have hsz : ∀ v : Value, ((ks.push v).size : Int) - 1 = ((G.length + 2 : Nat) : Int) := fun v => by rw [Array.size_push, hc.kl]; omega
        simp only [hsz]
        refine known_set (by show un + 3 + 1 < cLine; omega) F6 N6 (by k_updF) (fun x hx => ?_) hc.nodup (.head _) hI2 (by have := hc.xl; omega) fun h₇ n₇ tk7 F7 N7 => ?_
        · obtain ⟨v, h1, h2⟩ := hc.key x hx
          have h1 := hsub _ h1
          exact ⟨v, by repeat' (first | exact h1 | apply List.Mem.tail), h2⟩
        rw [storedH_new (by cases q : atKey xs ns' with | none => rfl | some p => rw [q] at hat; cases hat)] at N7
        k_steps
        have hcN : ∀ t n : Tok, CircOk (G ++ [some ns']) (ks.push (.str "and" t)) (ps.push (.ref D2)) (xs ++ [(ns', D2, .int ((G.length + 2 : Nat) : Int) n)]) (tps ++ [(D2, tupO vs')]) := fun t n =>
          hc.add hI2 (fun p hp => (hok p hp).1) (by omega) hat (List.mem_append_right _ (.head _)) fun p hp => List.mem_append_left _ hp
        have hrest : ∀ (o1 o2 o3 o4 o5 : Obj) (o6 : Obj) (o7 : Obj), ∀ q ∈ tps ++ [(D2, tupO vs')], q ∈ (D2, tupO vs') :: (D, o6) :: (d, o7) :: (C, o1) :: (dC, o2) :: (kL, o3) :: (pL, o4) :: (nD, o5) :: rest := fun o1 o2 o3 o4 o5 o6 o7 q hq => by
          rcases List.mem_append.mp hq with hq | hq
          · exact .tail _ (.tail _ (.tail _ (.tail _ (.tail _ (.tail _ (.tail _ (.tail _ (hsub _ hq))))))))
          · rw [List.mem_singleton.mp hq]; exact .head _
        refine known_item (by show un + 3 + 1 < cLine; omega) N7 (by repeat' constructor) (fun x hx => ?_) (hcN 0 _).nodup (.head _) hI2 (atKey_snoc hat) fun tk8 => ?_
        · obtain ⟨v, h1, h2⟩ := (hcN 0 _).key x hx
          exact ⟨v, hrest _ _ _ _ _ _ _ _ h1, h2⟩
        k_steps
        rename Fr _ _ _ _ => kF
        rename News _ _ _ _ => kN
        refine hret _ _ _ _ (G ++ [some ns']) _ _ _ _ _ _ [(D2, tupO vs')] kF (News.move3 kN) (hcN _ _) ⟨⟨[some ns'], rfl, Nat.le_refl _, fun g hg => by rw [List.mem_singleton.mp hg]; rfl⟩, fun p hp => ?_⟩ ⟨by omega, ?_⟩ fun ρ => ?_
        · exact new1 l3.2.2 p hp
        · show G.length + 2 < _
          rw [List.length_append, List.length_singleton]; omega
        · have hGi : (G ++ [some ns'])[G.length]? = some (some ns') := by simp
          rw [lit_gate hGi fun p hp => (hok p hp).1]
          have e : ∀ x, GOk (G.length + 2) x → lit (vals ρ (G ++ [some ns'])) x = lit (vals ρ G) x := fun x hx => lit_ext hx
          have e1 : ns'.all (lit (vals ρ (G ++ [some ns']))) = ns'.all (lit (vals ρ G)) := by
            rw [Bool.eq_iff_iff, List.all_eq_true, List.all_eq_true]
            exact ⟨fun q p hp => by rw [← e p (hok p hp).1]; exact q p hp, fun q p hp => by rw [e p (hok p hp).1]; exact q p hp⟩
          have e2 : gs.all (lit (vals ρ (G ++ [some ns']))) = gs.all (lit (vals ρ G)) := by
            rw [Bool.eq_iff_iff, List.all_eq_true, List.all_eq_true]
            exact ⟨fun q p hp => by rw [← e p (hgs p hp)]; exact q p hp, fun q p hp => by rw [e p (hgs p hp)]; exact q p hp⟩
          rw [e1, e2, hall ρ]
end Mine
end
section
open PySem PySem.W PyProof.Rows PySem.Calls
set_option maxRecDepth 100000
set_option maxHeartbeats 4000000
namespace Mine
theorem off5 : True := by
  w_top off
  trivial
local macro_rules | `(tactic| omega) => `(tactic| omega (config := {}))
theorem News.back {h₀ h : Heap} {L : Addr} {c1 c2 c3 c4 c5 : Addr × Obj} {rest tl : Led} (own : Led) (N : News h₀ L h (c1 :: c2 :: c3 :: c4 :: c5 :: ((own ++ rest) ++ tl))) : News h₀ L h (c1 :: c2 :: c3 :: c4 :: c5 :: (rest ++ (own ++ tl))) := fun p hp => N p (by
  simp only [List.mem_cons, List.mem_append] at hp ⊢
  rcases hp with h | h | h | h | h | h | h | h
  · exact .inl h
  · exact .inr (.inl h)
  · exact .inr (.inr (.inl h))
  · exact .inr (.inr (.inr (.inl h)))
  · exact .inr (.inr (.inr (.inr (.inl h))))
  · exact .inr (.inr (.inr (.inr (.inr (.inl (.inr h))))))
  · exact .inr (.inr (.inr (.inr (.inr (.inl (.inl h))))))
  · exact .inr (.inr (.inr (.inr (.inr (.inr h))))))
theorem sub_tl {tps rest tl : Led} (h : ∀ p ∈ tps, p ∈ rest) : ∀ p ∈ tps ++ tl, p ∈ rest ++ tl := fun p hp => by
  rcases List.mem_append.mp hp with q | q
  · exact List.mem_append_left _ (h p q)
  · exact List.mem_append_right _ q
theorem CircOk.back {G ks ps xs} {tps tl : Led} (own : Led) (h : CircOk G ks ps xs (tps ++ tl)) : CircOk G ks ps xs (tps ++ (own ++ tl)) := h.mono fun p hp => by
  simp only [List.mem_append] at hp ⊢
  rcases hp with h | h
  · exact .inl h
  · exact .inr (.inr h)
theorem Grew.back {fv : List Addr} {rest tl : Led} {c : Nat} {G G' : List Gate} (own : Led) (h : Grew fv (own ++ rest) c G G' tl) (ho : ∀ p ∈ own, (∀ b ∈ fv, p.1 ≠ b) ∧ ∀ q ∈ rest, q.1 ≠ p.1) : Grew fv rest c G G' (own ++ tl) :=
  ⟨h.ext, fun p hp => by
    rcases List.mem_append.mp hp with q | q
    · exact ho p q
    · exact ⟨(h.new p q).1, fun r hr => (h.new p q).2 r (List.mem_append_right _ hr)⟩⟩
theorem off_tl {fv : List Addr} {b : Addr} {rest tl : Led} {c : Nat} {G G' : List Gate} (h : ∀ p ∈ rest, p.1 ≠ b) (g : Grew fv rest c G G' tl) (hb : b ∈ fv) : ∀ p ∈ rest ++ tl, p.1 ≠ b := fun p hp => by
  rcases List.mem_append.mp hp with q | q
  · exact h p q
  · exact (g.new p q).1 b hb
theorem off_cons {x : Addr × Obj} {rest : Led} {b : Addr} (h1 : @Ne Nat x.1 b) (h2 : ∀ p ∈ rest, p.1 ≠ b) : ∀ p ∈ x :: rest, p.1 ≠ b := List.forall_mem_cons.mpr ⟨h1, h2⟩
local macro_rules | `(tactic| walk_at "call ref") => `(tactic| ((with_reducible show wpAny _ _ (call (Value.ref 278) _) _ _ _); refine Halt.mk ?_))
set_option pp.deepTerms false
set_option pp.deepTerms.threshold 3
theorem both_c (w : World) {p : Program} {loose : List Str} {mean : ExcName → Option Value} {mg mb : Str → Option Value}
  {dp un : Nat} {gd : Option (List Code)} {cn : Str} {cs : Scope} {a : Addr} {ccd : Value} {cl : List (Str × Addr)} {outer : List Env} {A₀ : Around} {base h₀ : Heap} {L : Addr} {m : Str → Option Value} {s : Shared} {Q E : Value → Shared → Prop}
  {C dC kL pL nD : Addr} {t1 t2 t3 : Tok} {ks ps : Array Value} {xs : List KX} {n1 n2 n3 : Nat} {rest tps : Led} {G : List Gate} {x y : Int} {tx ty : Tok}
  (hB : Below A₀ base outer h₀) (hF : Fr h₀ L s.heap m) (X : (hd.heap_1 w.params).In h₀)
  (hN : News h₀ L s.heap ((C, instObj 328 dC) :: (dC, circO w kL pL nD t1 t2 t3) :: (kL, W.listOf ks n1) :: (pL, W.listOf ps n2) :: (nD, knownO w xs n3) :: rest))
  (T : Top p loose mean mg mb h₀) (hk : cs.kind = .function)
  (o1 : LtN dC C) (o2 : LtN C kL) (o3 : LtN kL pL) (o4 : LtN pL nD) (r1 : ∀ p ∈ rest, p.1 ≠ C) (r2 : ∀ p ∈ rest, p.1 ≠ dC) (r3 : ∀ p ∈ rest, p.1 ≠ kL) (r4 : ∀ p ∈ rest, p.1 ≠ pL) (r5 : ∀ p ∈ rest, p.1 ≠ nD) (lo3 : (nD == sysModules) = false)
  (hc : CircOk G ks ps xs tps) (hsub : ∀ p ∈ tps, p ∈ rest) (hz : G.length ≤ 1000) (hx : GOk (G.length + 2) x) (hy : GOk (G.length + 2) y)
  (hdp : dp + 3 < recursionLimit) (hun : un + 24 < cLine)
  (hret : ∀ (r : Int) (t : Tok) (h' : Heap) (tk' : Nat) (G' : List Gate) (ks' ps' : Array Value) (xs' : List KX) (n1' n2' n3' : Nat) (tl : Led), Fr h₀ L h' m →
    News h₀ L h' ((C, instObj 328 dC) :: (dC, circO w kL pL nD t1 t2 t3) :: (kL, W.listOf ks' n1') :: (pL, W.listOf ps' n2') :: (nD, knownO w xs' n3') :: (rest ++ tl)) →
    CircOk G' ks' ps' xs' (tps ++ tl) → Grew [C, dC, kL, pL, nD] rest 1 G G' tl → GOk (G'.length + 2) r → (∀ ρ, lit (vals ρ G') r = (lit (vals ρ G) x && lit (vals ρ G) y)) → Q (Value.int r t) { s with heap := h', toks := tk' }) :
  wpAny (model PP w) (ktrTop dp un gd cn cs L a ccd cl outer) (call (.ref 290) [.ref C, .int x tx, .int y ty]) Q E s := by
  refine wpAny_call ?_
  k_dflt ktr_enter
  k_steps
  rename_i gg LL hx1 FG B' X' T' D hx2 F' N' l1
  refine Halt.go (all_of_c w (gt := D) (vs := [.int x tx, .int y ty]) (gs := [x, y]) B' F' X' (News.rot [_] [_, _, _, _, _] _ N') T' (by rfl) o1 o2 o3 o4 (off_cons (by (try dsimp only); omega) r1) (off_cons (by (try dsimp only); omega) r2) (off_cons (by (try dsimp only); omega) r3) (off_cons (by (try dsimp only); omega) r4) (off_cons (by (try dsimp only); omega) r5) lo3
    hc (fun p hp => .tail _ (hsub p hp)) hz (.head _) (.inl rfl) (.cons _ _ (.cons _ _ .nil)) ?g1 (by show 2 < 60; omega) (by show dp + 1 + 2 < recursionLimit; omega) (by show un + 3 + 16 < cLine; omega) fun r t h₂ tk₂ G' ks' ps' xs' n1' n2' n3' tl F3 N3 hc3 hg3 hr3 hv3 => ?_)
  case g1 =>
    intro g hg
    simp only [List.mem_cons, List.not_mem_nil, or_false] at hg
    rcases hg with rfl | rfl
    · exact hx
    · exact hy
  k_steps
  rename Fr _ _ _ _ => kF
  rename News _ _ _ _ => kN
  refine hret _ _ _ _ _ _ _ _ _ _ _ _ kF (News.back [_] kN) (CircOk.back _ hc3) (Grew.back [_] hg3 ?n1) hr3 fun ρ => ?_
  · exact new1 l1
  · rw [hv3 ρ]
    simp only [List.all_cons, List.all_nil, Bool.and_true]
    rw [hg3.lit ρ hx, hg3.lit ρ hy]
theorem either_c (w : World) {p : Program} {loose : List Str} {mean : ExcName → Option Value} {mg mb : Str → Option Value}
  {dp un : Nat} {gd : Option (List Code)} {cn : Str} {cs : Scope} {a : Addr} {ccd : Value} {cl : List (Str × Addr)} {outer : List Env} {A₀ : Around} {base h₀ : Heap} {L : Addr} {m : Str → Option Value} {s : Shared} {Q E : Value → Shared → Prop}
  {C dC kL pL nD : Addr} {t1 t2 t3 : Tok} {ks ps : Array Value} {xs : List KX} {n1 n2 n3 : Nat} {rest tps : Led} {G : List Gate} {x y : Int} {tx ty : Tok}
  (hB : Below A₀ base outer h₀) (hF : Fr h₀ L s.heap m) (X : (hd.heap_1 w.params).In h₀)
  (hN : News h₀ L s.heap ((C, instObj 328 dC) :: (dC, circO w kL pL nD t1 t2 t3) :: (kL, W.listOf ks n1) :: (pL, W.listOf ps n2) :: (nD, knownO w xs n3) :: rest))
  (T : Top p loose mean mg mb h₀) (hk : cs.kind = .function)
  (o1 : LtN dC C) (o2 : LtN C kL) (o3 : LtN kL pL) (o4 : LtN pL nD) (r1 : ∀ p ∈ rest, p.1 ≠ C) (r2 : ∀ p ∈ rest, p.1 ≠ dC) (r3 : ∀ p ∈ rest, p.1 ≠ kL) (r4 : ∀ p ∈ rest, p.1 ≠ pL) (r5 : ∀ p ∈ rest, p.1 ≠ nD) (lo3 : (nD == sysModules) = false)
  (hc : CircOk G ks ps xs tps) (hsub : ∀ p ∈ tps, p ∈ rest) (hz : G.length ≤ 1000) (hx : GOk (G.length + 2) x) (hy : GOk (G.length + 2) y)
  (hdp : dp + 3 < recursionLimit) (hun : un + 24 < cLine)
  (hret : ∀ (r : Int) (t : Tok) (h' : Heap) (tk' : Nat) (G' : List Gate) (ks' ps' : Array Value) (xs' : List KX) (n1' n2' n3' : Nat) (tl : Led), Fr h₀ L h' m →
    News h₀ L h' ((C, instObj 328 dC) :: (dC, circO w kL pL nD t1 t2 t3) :: (kL, W.listOf ks' n1') :: (pL, W.listOf ps' n2') :: (nD, knownO w xs' n3') :: (rest ++ tl)) →
    CircOk G' ks' ps' xs' (tps ++ tl) → Grew [C, dC, kL, pL, nD] rest 1 G G' tl → GOk (G'.length + 2) r → (∀ ρ, lit (vals ρ G') r = (lit (vals ρ G) x || lit (vals ρ G) y)) → Q (Value.int r t) { s with heap := h', toks := tk' }) :
  wpAny (model PP w) (ktrTop dp un gd cn cs L a ccd cl outer) (call (.ref 297) [.ref C, .int x tx, .int y ty]) Q E s := by
  refine wpAny_call ?_
  k_dflt ktr_enter
  k_steps
  rename_i gg LL hx1 FG B' X' T' D hx2 F' N' l1
  refine Halt.go (all_of_c w (gt := D) (vs := [.int (-x) _, .int (-y) _]) (gs := [-x, -y]) B' F' X' (News.rot [_] [_, _, _, _, _] _ N') T' (by rfl) o1 o2 o3 o4 (off_cons (by (try dsimp only); omega) r1) (off_cons (by (try dsimp only); omega) r2) (off_cons (by (try dsimp only); omega) r3) (off_cons (by (try dsimp only); omega) r4) (off_cons (by (try dsimp only); omega) r5) lo3
    hc (fun p hp => .tail _ (hsub p hp)) hz (.head _) (.inl rfl) (.cons _ _ (.cons _ _ .nil)) ?g1 (by show 2 < 60; omega) (by show dp + 1 + 2 < recursionLimit; omega) (by show un + 3 + 16 < cLine; omega) fun r t h₂ tk₂ G' ks' ps' xs' n1' n2' n3' tl F3 N3 hc3 hg3 hr3 hv3 => ?_)
  case g1 =>
    intro g hg
    simp only [List.mem_cons, List.not_mem_nil, or_false] at hg
    rcases hg with rfl | rfl
    · exact hx.neg
    · exact hy.neg
  k_steps
  rename Fr _ _ _ _ => kF
  rename News _ _ _ _ => kN
  refine hret _ _ _ _ _ _ _ _ _ _ _ _ kF (News.back [_] kN) (CircOk.back _ hc3) (Grew.back [_] hg3 ?n1) hr3.neg fun ρ => ?_
  · exact new1 l1
  · rw [lit_neg hr3.1, hv3 ρ]
    simp only [List.all_cons, List.all_nil, Bool.and_true]
    rw [hg3.lit ρ hx.neg, hg3.lit ρ hy.neg, lit_neg hx.1, lit_neg hy.1]
    cases lit (vals ρ G) x <;> cases lit (vals ρ G) y <;> rfl
theorem implies_c (w : World) {p : Program} {loose : List Str} {mean : ExcName → Option Value} {mg mb : Str → Option Value}
  {dp un : Nat} {gd : Option (List Code)} {cn : Str} {cs : Scope} {a : Addr} {ccd : Value} {cl : List (Str × Addr)} {outer : List Env} {A₀ : Around} {base h₀ : Heap} {L : Addr} {m : Str → Option Value} {s : Shared} {Q E : Value → Shared → Prop}
  {C dC kL pL nD : Addr} {t1 t2 t3 : Tok} {ks ps : Array Value} {xs : List KX} {n1 n2 n3 : Nat} {rest tps : Led} {G : List Gate} {x y : Int} {tx ty : Tok}
  (hB : Below A₀ base outer h₀) (hF : Fr h₀ L s.heap m) (X : (hd.heap_1 w.params).In h₀)
  (hN : News h₀ L s.heap ((C, instObj 328 dC) :: (dC, circO w kL pL nD t1 t2 t3) :: (kL, W.listOf ks n1) :: (pL, W.listOf ps n2) :: (nD, knownO w xs n3) :: rest))
  (T : Top p loose mean mg mb h₀) (hk : cs.kind = .function)
  (o1 : LtN dC C) (o2 : LtN C kL) (o3 : LtN kL pL) (o4 : LtN pL nD) (r1 : ∀ p ∈ rest, p.1 ≠ C) (r2 : ∀ p ∈ rest, p.1 ≠ dC) (r3 : ∀ p ∈ rest, p.1 ≠ kL) (r4 : ∀ p ∈ rest, p.1 ≠ pL) (r5 : ∀ p ∈ rest, p.1 ≠ nD) (lo3 : (nD == sysModules) = false)
  (hc : CircOk G ks ps xs tps) (hsub : ∀ p ∈ tps, p ∈ rest) (hz : G.length ≤ 1000) (hx : GOk (G.length + 2) x) (hy : GOk (G.length + 2) y)
  (hdp : dp + 3 < recursionLimit) (hun : un + 24 < cLine)
  (hret : ∀ (r : Int) (t : Tok) (h' : Heap) (tk' : Nat) (G' : List Gate) (ks' ps' : Array Value) (xs' : List KX) (n1' n2' n3' : Nat) (tl : Led), Fr h₀ L h' m →
    News h₀ L h' ((C, instObj 328 dC) :: (dC, circO w kL pL nD t1 t2 t3) :: (kL, W.listOf ks' n1') :: (pL, W.listOf ps' n2') :: (nD, knownO w xs' n3') :: (rest ++ tl)) →
    CircOk G' ks' ps' xs' (tps ++ tl) → Grew [C, dC, kL, pL, nD] rest 1 G G' tl → GOk (G'.length + 2) r → (∀ ρ, lit (vals ρ G') r = (!lit (vals ρ G) x || lit (vals ρ G) y)) → Q (Value.int r t) { s with heap := h', toks := tk' }) :
  wpAny (model PP w) (ktrTop dp un gd cn cs L a ccd cl outer) (call (.ref 304) [.ref C, .int x tx, .int y ty]) Q E s := by
  refine wpAny_call ?_
  k_dflt ktr_enter
  k_steps
  rename_i gg LL hx1 FG B' X' T' D hx2 F' N' l1
  refine Halt.go (all_of_c w (gt := D) (vs := [.int x _, .int (-y) _]) (gs := [x, -y]) B' F' X' (News.rot [_] [_, _, _, _, _] _ N') T' (by rfl) o1 o2 o3 o4 (off_cons (by (try dsimp only); omega) r1) (off_cons (by (try dsimp only); omega) r2) (off_cons (by (try dsimp only); omega) r3) (off_cons (by (try dsimp only); omega) r4) (off_cons (by (try dsimp only); omega) r5) lo3
    hc (fun p hp => .tail _ (hsub p hp)) hz (.head _) (.inl rfl) (.cons _ _ (.cons _ _ .nil)) ?g1 (by show 2 < 60; omega) (by show dp + 1 + 2 < recursionLimit; omega) (by show un + 3 + 16 < cLine; omega) fun r t h₂ tk₂ G' ks' ps' xs' n1' n2' n3' tl F3 N3 hc3 hg3 hr3 hv3 => ?_)
  case g1 =>
    intro g hg
    simp only [List.mem_cons, List.not_mem_nil, or_false] at hg
    rcases hg with rfl | rfl
    · exact hx
    · exact hy.neg
  k_steps
  rename Fr _ _ _ _ => kF
  rename News _ _ _ _ => kN
  refine hret _ _ _ _ _ _ _ _ _ _ _ _ kF (News.back [_] kN) (CircOk.back _ hc3) (Grew.back [_] hg3 ?n1) hr3.neg fun ρ => ?_
  · exact new1 l1
  · rw [lit_neg hr3.1, hv3 ρ]
    simp only [List.all_cons, List.all_nil, Bool.and_true]
    rw [hg3.lit ρ hx, hg3.lit ρ hy.neg, lit_neg hy.1]
    cases lit (vals ρ G) x <;> cases lit (vals ρ G) y <;> rfl

local macro_rules | `(tactic| walk_at "call ref") => `(tactic| ((with_reducible show wpAny _ _ (call (Value.ref 304) _) _ _ _); refine Halt.mk ?_))
theorem iff_c (w : World) {p : Program} {loose : List Str} {mean : ExcName → Option Value} {mg mb : Str → Option Value}
  {dp un : Nat} {gd : Option (List Code)} {cn : Str} {cs : Scope} {a : Addr} {ccd : Value} {cl : List (Str × Addr)} {outer : List Env} {A₀ : Around} {base h₀ : Heap} {L : Addr} {m : Str → Option Value} {s : Shared} {Q E : Value → Shared → Prop}
  {C dC kL pL nD : Addr} {t1 t2 t3 : Tok} {ks ps : Array Value} {xs : List KX} {n1 n2 n3 : Nat} {rest tps : Led} {G : List Gate} {x y : Int} {tx ty : Tok}
  (hB : Below A₀ base outer h₀) (hF : Fr h₀ L s.heap m) (X : (hd.heap_1 w.params).In h₀)
  (hN : News h₀ L s.heap ((C, instObj 328 dC) :: (dC, circO w kL pL nD t1 t2 t3) :: (kL, W.listOf ks n1) :: (pL, W.listOf ps n2) :: (nD, knownO w xs n3) :: rest))
  (T : Top p loose mean mg mb h₀) (hk : cs.kind = .function)
  (o1 : LtN dC C) (o2 : LtN C kL) (o3 : LtN kL pL) (o4 : LtN pL nD) (r1 : ∀ p ∈ rest, p.1 ≠ C) (r2 : ∀ p ∈ rest, p.1 ≠ dC) (r3 : ∀ p ∈ rest, p.1 ≠ kL) (r4 : ∀ p ∈ rest, p.1 ≠ pL) (r5 : ∀ p ∈ rest, p.1 ≠ nD) (lo3 : (nD == sysModules) = false)
  (hc : CircOk G ks ps xs tps) (hsub : ∀ p ∈ tps, p ∈ rest) (hz : G.length ≤ 998) (hx : GOk (G.length + 2) x) (hy : GOk (G.length + 2) y)
  (hdp : dp + 4 < recursionLimit) (hun : un + 32 < cLine)
  (hret : ∀ (r : Int) (t : Tok) (h' : Heap) (tk' : Nat) (G' : List Gate) (ks' ps' : Array Value) (xs' : List KX) (n1' n2' n3' : Nat) (tl : Led), Fr h₀ L h' m →
    News h₀ L h' ((C, instObj 328 dC) :: (dC, circO w kL pL nD t1 t2 t3) :: (kL, W.listOf ks' n1') :: (pL, W.listOf ps' n2') :: (nD, knownO w xs' n3') :: (rest ++ tl)) →
    CircOk G' ks' ps' xs' (tps ++ tl) → Grew [C, dC, kL, pL, nD] rest 3 G G' tl → GOk (G'.length + 2) r → (∀ ρ, lit (vals ρ G') r = (lit (vals ρ G) x == lit (vals ρ G) y)) → Q (Value.int r t) { s with heap := h', toks := tk' }) :
  wpAny (model PP w) (ktrTop dp un gd cn cs L a ccd cl outer) (call (.ref 311) [.ref C, .int x tx, .int y ty]) Q E s := by
  refine wpAny_call ?_
  k_dflt ktr_enter
  k_steps
  rename_i gg LL hx1 FG F' N' B' X' T'
  refine Halt.go (implies_c w B' F' X' N' T' (by rfl) o1 o2 o3 o4 r1 r2 r3 r4 r5 lo3 hc hsub (by omega) hx hy (by show dp + 1 + 3 < recursionLimit; omega) (by show un + 3 + 24 < cLine; omega) fun ra ta ha tka Ga ksa psa xsa n1a n2a n3a tla Fa Na hca hga hra hva => ?_)
  have r1a := off_tl r1 hga (by simp)
  have r2a := off_tl r2 hga (by simp)
  have r3a := off_tl r3 hga (by simp)
  have r4a := off_tl r4 hga (by simp)
  have r5a := off_tl r5 hga (by simp)
  have hla := hga.len
  k_steps
  refine Halt.go (implies_c w B' Fa X' Na T' (by rfl) o1 o2 o3 o4 r1a r2a r3a r4a r5a lo3 hca (sub_tl hsub) (by omega) (hga.ok hy) (hga.ok hx) (by show dp + 1 + 3 < recursionLimit; omega) (by show un + 3 + 24 < cLine; omega) fun rb tb hb tkb Gb ksb psb xsb n1b n2b n3b tlb Fb Nb hcb hgb hrb hvb => ?_)
  have r1b := off_tl r1a hgb (by simp)
  have r2b := off_tl r2a hgb (by simp)
  have r3b := off_tl r3a hgb (by simp)
  have r4b := off_tl r4a hgb (by simp)
  have r5b := off_tl r5a hgb (by simp)
  have hlb := hgb.len
  k_steps
  rename_i D hx2 F' N' l1
  refine Halt.go (all_of_c w (gt := D) (vs := [.int ra ta, .int rb tb]) (gs := [ra, rb]) B' F' X' (News.rot [_] [_, _, _, _, _] _ N') T' (by rfl) o1 o2 o3 o4 (off_cons (by (try dsimp only); omega) r1b) (off_cons (by (try dsimp only); omega) r2b) (off_cons (by (try dsimp only); omega) r3b) (off_cons (by (try dsimp only); omega) r4b) (off_cons (by (try dsimp only); omega) r5b) lo3
    hcb (fun p hp => .tail _ (sub_tl (sub_tl hsub) p hp)) (by omega) (.head _) (.inl rfl) (.cons _ _ (.cons _ _ .nil)) ?g1 (by show 2 < 60; omega) (by show dp + 1 + 2 < recursionLimit; omega) (by show un + 3 + 16 < cLine; omega) fun r t h₂ tk₂ G' ks' ps' xs' n1' n2' n3' tl F3 N3 hc3 hg3 hr3 hv3 => ?_)
  case g1 =>
    intro g hg
    simp only [List.mem_cons, List.not_mem_nil, or_false] at hg
    rcases hg with rfl | rfl
    · exact hgb.ok hra
    · exact hrb
  k_steps
  rename Fr _ _ _ _ => kF
  rename News _ _ _ _ => kN
  have kN2 := News.back (rest := rest ++ tla ++ tlb) [_] kN
  have hc2 := CircOk.back (tps := tps ++ tla ++ tlb) [(D, tupO [.int ra ta, .int rb tb])] hc3
  have hg2 := Grew.back (rest := rest ++ tla ++ tlb) [_] hg3 (new1 l1)
  have hgf := hga.trans (hgb.trans hg2 fun p hp => List.mem_append_left _ hp) fun p hp => List.mem_append_left _ hp
  simp only [List.append_assoc] at kN2 hc2 hgf
  refine hret _ _ _ _ _ _ _ _ _ _ _ _ kF kN2 hc2 hgf hr3 fun ρ => ?_
  rw [hv3 ρ]
  simp only [List.all_cons, List.all_nil, Bool.and_true]
  rw [hg3.lit ρ (hgb.ok hra), hg3.lit ρ hrb, hgb.lit ρ hra, hva ρ, hvb ρ, hga.lit ρ hx, hga.lit ρ hy]
  cases lit (vals ρ G) x <;> cases lit (vals ρ G) y <;> rfl
end Mine
end
section
open PySem PySem.W PyProof.Rows PySem.Calls
set_option maxRecDepth 100000
set_option maxHeartbeats 4000000
namespace Mine
theorem off6 : True := by
  w_top off
  trivial
local macro_rules | `(tactic| omega) => `(tactic| omega (config := {}))
section
variable {prog : Program} {w : World} {A : Around} {s : Shared} {h₀ : Heap} {L : Addr} {m : Str → Option Value} {env : Env} {elt ct : Expr} {x : Str} {scope : Scope} {cl : List (Str × Addr)} {S : Led → Prop} {P : Nat → Value → Prop} {Fin : List Value → Led → Prop}
theorem compEnd_mono {s₁ s₂ : Shared} {I C D : Addr} {oI oC oD : Obj} {S : Led → Prop} {r r' : Value → Led → Prop} {y : Value} (h : LCg.CompEnd h₀ L m s₁ I oI C oC D oD S r y s₂) (hr : ∀ y n, r y n → r' y n) : LCg.CompEnd h₀ L m s₁ I oI C oC D oD S r' y s₂ := by
  obtain ⟨h', tk, news', a, b, c, d, e, f⟩ := h
  exact ⟨h', tk, news', a, b, c, d, e, hr _ _ f⟩
/-- a comprehension by what holds of it -/
theorem comp_inv (n : Nat) (Inv : Nat → List Value → Led → Prop)
    (step : ∀ i ys news v I oI C oC D m₂ h tk (E' : Value → Shared → Prop), i < n → P i v → Inv i ys news → LCg.NsObj oC m₂ → m₂ x = some v → Fr h₀ L h m → News h₀ L h ((I, oI) :: (C, oC) :: (D, LCg.lst ys) :: news) → LCg.Off3 I C D news → ((@Ne Nat I C) ∧ (@Ne Nat I D) ∧ (@Ne Nat C D)) →
      wpAny (model prog w) A (eval elt (compEnvC scope cl C env)) (LCg.CompEnd h₀ L m { s with heap := h, toks := tk } I oI C oC D (LCg.lst ys) S (fun y news' => Inv (i + 1) (ys ++ [y]) news')) E' { s with heap := h, toks := tk })
    (fin : ∀ ys news, Inv n ys news → Fin ys news) : ∀ k i ys news, i + k = n → Inv i ys news → LCg.CompRest prog w A h₀ L m env elt x scope cl s S P Fin k i ys news := by
  intro k
  induction k with
  | zero => intro i ys news e h; obtain rfl : i = n := by omega
            exact fin ys news h
  | succ k ih =>
    intro i ys news e hI
    refine LCg.CompRest.succ fun v I oI C oC D m₂ h tk E' hP hC hx F N off ne => ?_
    exact wpAny_mono (step i ys news v I oI C oC D m₂ h tk E' (by omega) hP hI hC hx F N off ne) (fun y s' q => compEnd_mono q fun y n r => ih (i + 1) _ _ (by omega) r) fun _ _ e => e
theorem comp_invT (n : Nat) (Inv : Nat → List Value → Led → Prop)
    (step : ∀ i ys news v I oI C oC D m₂ h tk (E' : Value → Shared → Prop), i < n → P i v → Inv i ys news → LCg.NsObj oC m₂ → m₂ x = some v → Fr h₀ L h m → News h₀ L h ((I, oI) :: (C, oC) :: (D, LCg.lst ys) :: news) → LCg.Off3 I C D news → ((@Ne Nat I C) ∧ (@Ne Nat I D) ∧ (@Ne Nat C D)) →
      wpAny (model prog w) A (isTrue ct (compEnvC scope cl C env) (eval ct (compEnvC scope cl C env))) (fun ok s' => if ok = true then
        wpAny (model prog w) A (eval elt (compEnvC scope cl C env)) (LCg.CompEnd h₀ L m { s with heap := h, toks := tk } I oI C oC D (LCg.lst ys) S (fun y news' => Inv (i + 1) (ys ++ [y]) news')) E' s'
        else LCg.CompEnd h₀ L m { s with heap := h, toks := tk } I oI C oC D (LCg.lst ys) S (fun _ news' => Inv (i + 1) ys news') Value.none s') E' { s with heap := h, toks := tk })
    (fin : ∀ ys news, Inv n ys news → Fin ys news) : ∀ k i ys news, i + k = n → Inv i ys news → LCt.CompRestT prog w A h₀ L m env ct elt x scope cl s S P Fin k i ys news := by
  intro k
  induction k with
  | zero => intro i ys news e h; obtain rfl : i = n := by omega
            exact fin ys news h
  | succ k ih =>
    intro i ys news e hI
    refine LCt.CompRestT.succ fun v I oI C oC D m₂ h tk E' hP hC hx F N off ne => ?_
    refine wpAny_mono (step i ys news v I oI C oC D m₂ h tk E' (by omega) hP hI hC hx F N off ne) (fun ok s' q => ?_) fun _ _ e => e
    cases ok with
    | true =>
      simp only [if_true] at q ⊢
      exact wpAny_mono q (fun y s' q => compEnd_mono q fun y n r => ih (i + 1) _ _ (by omega) r) fun _ _ e => e
    | false =>
      simp only [Bool.false_eq_true, if_false] at q ⊢
      exact compEnd_mono q fun y n r => ih (i + 1) _ _ (by omega) r
theorem off1_mem {D : Addr} {l : Led} (h : LCg.Off1 D l) : ∀ p ∈ l, p.1 ≠ D := by
  induction l with
  | nil => intro q hq; cases hq
  | cons p r ih =>
    intro q hq
    rcases List.mem_cons.mp hq with e | hq
    · rw [e]; exact h.1
    · exact ih h.2 q hq
end
theorem ints_snoc {vs : List Value} {ns : List Int} {n : Int} {t : Tok} (h : IntsAre vs ns) : IntsAre (vs ++ [.int n t]) (ns ++ [n]) := by
  induction h with
  | nil => exact .cons _ _ .nil
  | cons k u _ ih => exact .cons k u ih

local macro_rules | `(tactic| walk_at "call ref") => `(tactic| ((with_reducible show wpAny _ _ (call (Value.ref 278) _) _ _ _); refine Halt.mk ?_))
local macro_rules | `(tactic| walk_at "eval ListComp") => `(tactic| refine Halt.mk ?_)
local macro_rules | `(tactic| walk_at "CompEnd") => `(tactic| refine Halt.mk ?_)
set_option pp.deepTerms false
set_option pp.deepTerms.threshold 3
theorem any_of_c (w : World) {p : Program} {loose : List Str} {mean : ExcName → Option Value} {mg mb : Str → Option Value}
  {dp un : Nat} {gd : Option (List Code)} {cn : Str} {cs : Scope} {a : Addr} {ccd : Value} {cl : List (Str × Addr)} {outer : List Env} {A₀ : Around} {base h₀ : Heap} {L : Addr} {m : Str → Option Value} {s : Shared} {Q E : Value → Shared → Prop}
  {C dC kL pL nD : Addr} {t1 t2 t3 : Tok} {ks ps : Array Value} {xs : List KX} {n1 n2 n3 : Nat} {rest tps : Led} {G : List Gate} {gt : Addr} {vs : List Value} {k : Nat} {gs : List Int}
  (hB : Below A₀ base outer h₀) (hF : Fr h₀ L s.heap m) (X : (hd.heap_1 w.params).In h₀)
  (hN : News h₀ L s.heap ((C, instObj 328 dC) :: (dC, circO w kL pL nD t1 t2 t3) :: (kL, W.listOf ks n1) :: (pL, W.listOf ps n2) :: (nD, knownO w xs n3) :: rest))
  (T : Top p loose mean mg mb h₀) (hk : cs.kind = .function)
  (o1 : LtN dC C) (o2 : LtN C kL) (o3 : LtN kL pL) (o4 : LtN pL nD) (r1 : ∀ p ∈ rest, p.1 ≠ C) (r2 : ∀ p ∈ rest, p.1 ≠ dC) (r3 : ∀ p ∈ rest, p.1 ≠ kL) (r4 : ∀ p ∈ rest, p.1 ≠ pL) (r5 : ∀ p ∈ rest, p.1 ≠ nD) (lo3 : (nD == sysModules) = false)
  (hc : CircOk G ks ps xs tps) (hsub : ∀ p ∈ tps, p ∈ rest) (hz : G.length ≤ 1000)
  (hgt : (gt, W.listOf vs.toArray k) ∈ rest) (hvs : IntsAre vs gs) (hgs : ∀ g ∈ gs, GOk (G.length + 2) g) (h64 : gs.length < 60)
  (hdp : dp + 3 < recursionLimit) (hun : un + 24 < cLine)
  (hret : ∀ (r : Int) (t : Tok) (h' : Heap) (tk' : Nat) (G' : List Gate) (ks' ps' : Array Value) (xs' : List KX) (n1' n2' n3' : Nat) (tl : Led), Fr h₀ L h' m →
    News h₀ L h' ((C, instObj 328 dC) :: (dC, circO w kL pL nD t1 t2 t3) :: (kL, W.listOf ks' n1') :: (pL, W.listOf ps' n2') :: (nD, knownO w xs' n3') :: (rest ++ tl)) →
    CircOk G' ks' ps' xs' (tps ++ tl) → Grew [C, dC, kL, pL, nD] rest 1 G G' tl → GOk (G'.length + 2) r → (∀ ρ, lit (vals ρ G') r = gs.any (lit (vals ρ G))) → Q (Value.int r t) { s with heap := h', toks := tk' }) :
  wpAny (model PP w) (ktrTop dp un gd cn cs L a ccd cl outer) (call (.ref 283) [.ref C, .ref gt]) Q E s := by
  refine wpAny_call ?_
  k_dflt ktr_enter
  k_steps
  rename_i gg LL hx1 FG F' N' B' X' T'
  refine Halt.go (LCg.ListComp_U (F₀ := F') (by with_unfolding_all rfl) (by decide) (by rfl) (by decide) (by rfl) ?_)
  refine nameX_L F' rfl ?_
  refine LCg.CompSrc.ledger (by rfl) F' N' (.tail _ (.tail _ (.tail _ (.tail _ (.tail _ hgt))))) (by rw [List.size_toArray, sizeLine_eq, hvs.length]; omega) fun g => ?_
  refine comp_inv vs.toArray.size (fun i ys news => news = ((C, instObj 328 dC) :: (dC, circO w kL pL nD t1 t2 t3) :: (kL, W.listOf ks n1) :: (pL, W.listOf ps n2) :: (nD, knownO w xs n3) :: rest) ∧ IntsAre ys ((gs.take i).map (- ·))) ?step ?fin _ 0 [] _ (by omega) ⟨rfl, .nil⟩
  case step =>
    rintro i ys news v I oI C₁ oC D m₂ h tk₁ E' hi hP ⟨rfl, hys⟩ hC hxv F₁ N₁ off ne
    obtain ⟨n, t, rfl, hn⟩ := IntsAre.at hvs i v (by simpa using hP)
    k_steps
    refine Halt.go (LCg.CompEnd.intro F₁ N₁ _ (fun p hp => hp) off (.inr ⟨_, .tail _ (.tail _ (.tail _ (.tail _ (.tail _ hgt)))), rfl, _, rfl⟩) ⟨rfl, ?_⟩)
    rw [List.take_add_one, hn, List.map_append]
    exact ints_snoc hys
  case fin =>
    rintro ys news ⟨rfl, hys⟩ D h₁ tk₁ F₁ N₁ off
    have hlen : vs.toArray.size = gs.length := by rw [List.size_toArray, hvs.length]
    rw [hlen, List.take_length] at hys
    have od := off1_mem off
    have oC : @Ne Nat D C := Ne.symm (od _ (.head _))
    have odC : @Ne Nat D dC := Ne.symm (od _ (.tail _ (.head _)))
    have okL : @Ne Nat D kL := Ne.symm (od _ (.tail _ (.tail _ (.head _))))
    have opL : @Ne Nat D pL := Ne.symm (od _ (.tail _ (.tail _ (.tail _ (.head _)))))
    have onD : @Ne Nat D nD := Ne.symm (od _ (.tail _ (.tail _ (.tail _ (.tail _ (.head _))))))
    have hIa : ∀ g ∈ gs.map (- ·), GOk (G.length + 2) g := fun g hg => by
      obtain ⟨x, hx, rfl⟩ := List.mem_map.mp hg
      exact (hgs x hx).neg
    k_steps
    refine Halt.go (all_of_c w (gt := D) (go := W.listOf ys.toArray ys.length) (vs := ys) (gs := gs.map (- ·)) B' F₁ X' (News.rot [_] [_, _, _, _, _] _ N₁) T' (by rfl) o1 o2 o3 o4 (off_cons oC r1) (off_cons odC r2) (off_cons okL r3) (off_cons opL r4) (off_cons onD r5) lo3
      hc (fun p hp => .tail _ (hsub p hp)) hz (.head _) (.inr ⟨_, rfl⟩) hys hIa (by rw [List.length_map]; exact h64) (by show dp + 1 + 2 < recursionLimit; omega) (by show un + 3 + 16 < cLine; omega) fun r t h₂ tk₂ G' ks' ps' xs' n1' n2' n3' tl F3 N3 hc3 hg3 hr3 hv3 => ?_)
    k_steps
    rename Fr _ _ _ _ => kF
    rename News _ _ _ _ => kN
    refine hret _ _ _ _ _ _ _ _ _ _ _ _ kF (News.back [_] kN) (CircOk.back _ hc3) (Grew.back [_] hg3 (new2 od)) hr3.neg fun ρ => ?_
    rw [lit_neg hr3.1, hv3 ρ, Bool.eq_iff_iff]
    simp only [Bool.not_eq_true', List.all_eq_false, List.any_eq_true, List.mem_map]
    constructor
    · rintro ⟨y, ⟨x, hx, rfl⟩, hy⟩
      refine ⟨x, hx, ?_⟩
      rw [lit_neg (hgs x hx).1, hg3.lit ρ (hgs x hx)] at hy
      cases q : lit (vals ρ G) x with
      | true => rfl
      | false => rw [q] at hy; exact absurd rfl hy
    · rintro ⟨x, hx, hy⟩
      exact ⟨-x, ⟨x, hx, rfl⟩, by rw [lit_neg (hgs x hx).1, hg3.lit ρ (hgs x hx), hy]; decide⟩
end Mine
end
section
open PySem PySem.W PyProof.Rows PySem.Calls
set_option maxRecDepth 100000
set_option maxHeartbeats 4000000
namespace Mine
theorem off7 : True := by
  w_top off
  trivial
/-- a plain dict, by its entries -/
noncomputable def DRaw (h : Heap) (d : Addr) (es : Array DictEntry) (ep : Nat) : Prop := h.get? d = some ({ cls := .type "dict", data := .dict es ep } : Obj)
section
variable {prog : Program} {w : World} {A : Around} {E : Value → Shared → Prop} {s : Shared} {d it : Addr} {es : Array DictEntry} {i ep : Nat}
theorem DRaw.type (hm : DRaw s.heap d es ep) : s.TypeIs (.ref d) "dict" := ⟨_, hm, rfl⟩

theorem iter_raw {Q : Value → Shared → Prop} (lo : (d == sysModules) = false) (hm : DRaw s.heap d es ep)
    (hQ : Q (.ref s.heap.objs.size) { s with heap := s.heap.push { cls := .type "dict_keyiterator", data := .fields #[.ref d, .int 0 0, .int es.size 0, .int ep 0] } }) :
    wpAny (model prog w) A (pyIter (.ref d)) Q E s := by
  refine wpAny_pyIter_slot hm.type F.slot_dict_iter (wpAny_call_entry F.slot_dict_iter hm.type F.entry_dict_iter ?_ (F.args_dict_iter_1 _))
  unfold Builtin.«dict.__iter__»
  refine wpAny_bind ?_
  unfold Builtin.Dict.dictSlotNone
  refine wpAny_bind (wpAny_notOrdered_dict hm.type ?_)
  refine wpAny_pure ?_
  show wpAny _ _ (Builtin.Dict.showsAll d >>= _) _ _ s
  unfold Builtin.Dict.showsAll
  rw [if_neg (by rw [lo]; exact Bool.false_ne_true)]
  refine wpAny_bind (wpAny_pure ?_)
  refine wpAny_bind (wpAny_dictEntries hm rfl (wpAny_bind (wpAny_dictEpoch hm rfl ?_)))
  exact wpAny_bind (wpAny_newObj_type (wpAny_pure ⟨_, rfl, "dict_keyiterator", _, ⟨_, Heap.get?_push_size _ rfl, rfl⟩, F.slot_dict_keyiterator_next.lookup, hQ⟩))

theorem next_raw {e : DictEntry} {Q : Option Value → Shared → Prop} (hit : s.heap.IsKeyIter it d i es.size ep) (hm : DRaw s.heap d es ep) (he : es[i]? = some e)
    (hQ : ∀ h', h'.IsKeyIter it d (i + 1) es.size ep → Heap.SameBut it s.heap h' → Q (some e.key) { s with heap := h' }) : wpAny (model prog w) A (pyNext (.ref it)) Q E s := by
  obtain ⟨o, ho, hc, hd⟩ := id hit
  unfold pyNext
  refine wpAny_bind (wpAny_attempt (wpAny_callSpecial?_slot (name := Str.ofString "__next__") hit.typeIs F.slot_dict_keyiterator_next
    (wpAny_call_entry F.slot_dict_keyiterator_next hit.typeIs F.entry_dict_keyiterator_next ?_ (F.args_dict_keyiterator_next_1 _))))
  refine wpAny_bind (wpAny_pure ?_)
  refine wpAny_bind (wpAny_bind ?_)
  refine wpAny_bind (wpAny_typeNameOfWhole_keyiter hit.typeIs (wpAny_pure ?_))
  refine wpAny_bind (wpAny_fieldsOf ho hd ?_)
  have hown : Builtin.Dict_items.ownsTuple "dict_keyiterator" = false := by decide
  simp only [hown, Bool.false_eq_true, if_false]
  show wpAny _ _ (if (Value.ref d == Value.none) = true then _ else _) _ _ s
  rw [if_neg (show ¬ ((Value.ref d == Value.none) = true) from Bool.false_ne_true)]
  refine wpAny_bind (wpAny_pure ?_)
  refine wpAny_bind (wpAny_dictEntries hm rfl ?_)
  rw [if_neg (by simp)]
  refine wpAny_bind (wpAny_pure ?_)
  refine wpAny_bind (wpAny_dictEpoch hm rfl ?_)
  rw [if_neg (by simp)]
  refine wpAny_pure ?_
  simp only [show ¬ ((i : Int) < 0) from by omega, if_false, Int.toNat_natCast, he]
  refine wpAny_bind ?_
  refine wpAny_bind (wpAny_typeNameOfWhole_keyiter hit.typeIs (wpAny_pure ?_))
  refine wpAny_bind (wpAny_isOneOf_keyiter hit.typeIs ?_)
  show wpAny _ _ (setField (.ref it) 1 (rawInt ((i : Int) + 1)) >>= _) _ _ s
  refine wpAny_bind (wpAny_setField ho hd (by simp) ?_)
  have hit' : (s.heap.update it (Obj.mapFields (·.setIfInBounds 1 (rawInt ((i : Int) + 1))))).IsKeyIter it d (i + 1) es.size ep :=
    ⟨_, Heap.get?_update_self _ ho (Obj.isFreed_of_fields (Obj.data_mapFields hd _)), (Obj.cls_mapFields ..).trans hc, by rw [Obj.data_mapFields hd]; simp [rawInt]⟩
  refine wpAny_bind (wpAny_holding ?_)
  refine wpAny_bind (wpAny_isOneOf_keyiter (s := { s with heap := s.heap.update it (Obj.mapFields (·.setIfInBounds 1 (rawInt ((i : Int) + 1)))) }) hit'.typeIs ?_)
  show wpAny _ _ (pure e.key) _ _ _
  exact wpAny_pure (wpAny_pure ⟨_, rfl, wpAny_pure (hQ _ hit' (Heap.SameBut.update ..))⟩)

theorem end_raw {Q : Option Value → Shared → Prop} (hh : A.handled = none) (hit : s.heap.IsKeyIter it d i es.size ep) (hm : DRaw s.heap d es ep) (he : es.size ≤ i)
    (hQ : ∀ h', Heap.ExtBut it s.heap h' → Q none { s with heap := h' }) : wpAny (model prog w) A (pyNext (.ref it)) Q E s := by
  obtain ⟨o, ho, hc, hd⟩ := id hit
  unfold pyNext
  refine wpAny_bind (wpAny_attempt (wpAny_callSpecial?_slot (name := Str.ofString "__next__") hit.typeIs F.slot_dict_keyiterator_next
    (wpAny_call_entry F.slot_dict_keyiterator_next hit.typeIs F.entry_dict_keyiterator_next ?_ (F.args_dict_keyiterator_next_1 _))))
  refine wpAny_bind (wpAny_pure ?_)
  refine wpAny_bind (wpAny_bind ?_)
  refine wpAny_bind (wpAny_typeNameOfWhole_keyiter hit.typeIs (wpAny_pure ?_))
  refine wpAny_bind (wpAny_fieldsOf ho hd ?_)
  have hown : Builtin.Dict_items.ownsTuple "dict_keyiterator" = false := by decide
  simp only [hown, Bool.false_eq_true, if_false]
  show wpAny _ _ (if (Value.ref d == Value.none) = true then _ else _) _ _ s
  rw [if_neg (show ¬ ((Value.ref d == Value.none) = true) from Bool.false_ne_true)]
  refine wpAny_bind (wpAny_pure ?_)
  refine wpAny_bind (wpAny_dictEntries hm rfl ?_)
  rw [if_neg (by simp)]
  refine wpAny_bind (wpAny_pure ?_)
  refine wpAny_bind (wpAny_dictEpoch hm rfl ?_)
  rw [if_neg (by simp)]
  refine wpAny_pure ?_
  simp only [show ¬ ((i : Int) < 0) from by omega, if_false, Int.toNat_natCast, Array.getElem?_eq_none he]
  refine wpAny_bind ?_
  refine wpAny_bind (wpAny_typeNameOfWhole_keyiter hit.typeIs (wpAny_pure ?_))
  show wpAny _ _ (setField (.ref it) 0 .none >>= _) _ _ s
  refine wpAny_bind (wpAny_setField ho hd (by simp) ?_)
  show wpAny _ _ (newExc (.type "StopIteration") [] >>= _) _ _ _
  refine wpAny_bind ?_
  simp only [newExc, newTuple]
  refine wpAny_bind (wpAny_newObj_type ?_ (by size_fits))
  refine wpAny_bind (m := firstArgMember _ _) (wpAny_of_eq (a := Value.none) (by first | rfl | (simp only [firstArgMember]; rfl)) ?_)
  refine wpAny_newObj_type ?_ (by size_fits)
  simp only [raiseNew]
  refine wpAny_bind (wpAny_handled ?_)
  rw [show A.in1.handled = none from hh]
  refine wpAny_bind (wpAny_pure (wpAny_throw ?_))
  refine wpAny_bind (wpAny_isInstance (T := "StopIteration") (b := true) ⟨_, Heap.get?_push_size _ rfl, rfl⟩ isSubtype_stop ?_)
  exact wpAny_pure (hQ _ (((Heap.SameBut.update ..).extBut.push _).push _))

theorem walks_raw (hh : A.handled = none) (I d : Addr) (hne : d ≠ I) (es : Array DictEntry) (ep : Nat) :
    Walks prog w A I [I, d] [I] es.size (fun i v => ∃ e, es[i]? = some e ∧ v = e.key) (fun i h => h.IsKeyIter I d i es.size ep ∧ DRaw h d es ep) where
  sub := fun b hb => by simp at hb; simp [hb]
  frame := fun _ _ _ st hk => ⟨st.1.at fun o e => hk I (by simp) o e, hk d (by simp) _ st.2⟩
  item := fun i s Q E hi st hQ => by
    have he : es[i]? = some es[i] := by simp [hi]
    refine next_raw st.1 st.2 he fun h' hit' hs' => ?_
    exact hQ _ h' s.toks ⟨_, he, rfl⟩ ⟨hit', (hs'.2 d hne).trans st.2⟩ fun b o hb e => hs'.extBut b o (fun h => hb (by simp [h])) e
  done := fun s Q E st hQ => end_raw hh st.1 st.2 (Nat.le_refl _) fun h' he' => hQ h' s.toks fun b o hb e => he' b o (fun h => hb (by simp [h])) e
  self := fun _ _ _ _ st hQ => wpAny_pyIter_keyiter st.1 hQ

theorem src_raw (lo : (d == sysModules) = false) : KdlSrc prog w "dict" d d es.size (fun i v => ∃ e, es[i]? = some e ∧ v = e.key) (fun h => DRaw h d es ep) where
  type := fun _ hm => hm.type
  there := fun _ hm => ⟨Heap.lt_size hm, Heap.lt_size hm⟩
  keep := fun _ _ hm hk => hk d (.inl rfl) _ hm
  notList := by decide
  notTuple := by decide
  hint := fun _ _ _ _ hm hq => kdl_hint_dict hm.type hq
  iter := fun _ _ hh hm => ⟨_, _, (fun _ _ hq => iter_raw lo hm hq), walks_raw hh _ d (Nat.ne_of_lt (Heap.lt_size hm)) es ep, ⟨⟨_, Heap.get?_push_size _ rfl, rfl, rfl⟩, Heap.get?_push_of_some _ hm⟩⟩
end
end Mine
end
section
open PySem PySem.W PyProof.Rows PySem.Calls
set_option maxRecDepth 100000
set_option maxHeartbeats 4000000
namespace Mine
theorem off8 : True := by
  w_top off
  trivial
noncomputable def lexlt : List Int → List Int → Bool
  | _, [] => false
  | [], _ :: _ => true
  | a :: as, b :: bs => if a = b then lexlt as bs else decide (a < b)
theorem lexlt_asymm : ∀ {a b : List Int}, lexlt a b = true → lexlt b a = false
  | [], [], h => by simp [lexlt] at h
  | [], _ :: _, _ => rfl
  | _ :: _, [], h => by simp [lexlt] at h
  | x :: a, y :: b, h => by
    unfold lexlt at h ⊢
    by_cases e : x = y
    · subst e
      rw [if_pos rfl] at h ⊢
      exact lexlt_asymm h
    · rw [if_neg e] at h
      rw [if_neg (Ne.symm e)]
      exact decide_eq_false (by have := of_decide_eq_true h; omega)
theorem lexlt_ne {a b : List Int} (h : lexlt a b = true) : a ≠ b := fun e => by
  subst e; have := lexlt_asymm h; rw [h] at this; cases this
section
variable {w : World} {A : Around} {E : Value → Shared → Prop} {s : Shared} {h₀ : Heap} {L : Addr} {m : Str → Option Value} {news : Led}
theorem lex_go {Q : Bool → Shared → Prop} {fin : Bool} : ∀ {va : List Value} {a : List Int} {vb : List Value} {b : List Int} (i : Nat) (s : Shared), IntsAre va a → IntsAre vb b → (fin = decide (va.length < vb.length)) → Q (lexlt a b) s →
    KatLex PP w A true fin Q (va.zip vb) i s
  | [], _, [], _, i, s, .nil, .nil, hf, h => by subst hf; exact kat_nil (by simpa [lexlt] using h)
  | [], _, _ :: _, _, i, s, .nil, .cons _ _ _, hf, h => by subst hf; exact kat_nil (by simpa [lexlt] using h)
  | _ :: _, _, [], _, i, s, .cons _ _ _, .nil, hf, h => by subst hf; exact kat_nil (by simpa [lexlt] using h)
  | _ :: va, _, _ :: vb, _, i, s, .cons x t ha, .cons y u hb, hf, h => by
    rw [List.zip_cons_cons]
    refine kat_cons (wpAny_eqBool_int ?_)
    by_cases e : x = y
    · subst e
      rw [show (x == x) = true by simp]
      exact kat_yes (lex_go (i + 1) s ha hb (by rw [hf]; simp) (by simpa [lexlt] using h))
    · rw [show (x == y) = false by simpa using e]
      refine kat_no ?_
      have hl : Q (decide (x < y)) s := by simpa [lexlt, e] using h
      cases i with
      | zero => exact oneLt_int hl
      | succ i => exact kat_one _ _ (wpAny_lt_int hl)

theorem lt_keys {Q : Bool → Shared → Prop} {x y : Addr} {va vb : List Value} {a b : List Int} (N : News h₀ L s.heap news) (hx : (x, tupO va) ∈ news) (hy : (y, tupO vb) ∈ news) (ha : IntsAre va a) (hb : IntsAre vb b) (h : Q (lexlt a b) s) :
    wpAny (model PP w) A (keyLt' (tuples' true) (.ref x) (.ref y)) Q E s :=
  kat_lt (N _ hx).1 rfl (N _ hy).1 rfl (lex_go 0 s ha hb (by simp) h)

theorem sort_asc {ask : Nat → Nat → (Bool → Shared → Prop) → Shared → Prop} {G : Array Nat → Shared → Prop} {n : Nat} (h2 : 2 ≤ n) (h4 : n ≤ 4)
    (H : ∀ i j C, j < i → i < n → C false s → ask i j C s) (h : G (List.toArray (List.range n)) s) : (kas_sort n).kasWp ask G s := by
  have hn : n = 2 ∨ n = 3 ∨ n = 4 := by omega
  rcases hn with rfl | rfl | rfl
  · exact H 1 0 _ (by omega) (by omega) h
  · exact H 1 0 _ (by omega) (by omega) (H 2 1 _ (by omega) (by omega) h)
  · exact H 1 0 _ (by omega) (by omega) (H 2 1 _ (by omega) (by omega) (H 3 2 _ (by omega) (by omega) h))

/-- the keys of a matrix: tuples of ints, not empty, ascending -/
noncomputable def KeysAsc (news : Led) : List KX → Prop
  | xs => (∀ x ∈ xs, ∃ vs, (x.2.1, tupO vs) ∈ news ∧ IntsAre vs x.1 ∧ x.1 ≠ []) ∧ xs.Pairwise (fun x y => lexlt x.1 y.1 = true)
theorem KeysAsc.mono {news news' : Led} {xs : List KX} (h : KeysAsc news xs) (hs : ∀ p ∈ news, p ∈ news') : KeysAsc news' xs :=
  ⟨fun x hx => let ⟨vs, a, b, c⟩ := h.1 x hx; ⟨vs, hs _ a, b, c⟩, h.2⟩
theorem KeysAsc.nodup {news : Led} {xs : List KX} (h : KeysAsc news xs) : (xs.map (·.1)).Nodup := by
  rw [List.nodup_iff_pairwise_ne, List.pairwise_map]
  exact h.2.imp fun h => lexlt_ne h
theorem KeysAsc.key {news : Led} {xs : List KX} (h : KeysAsc news xs) : ∀ x ∈ xs, ∃ vs, (x.2.1, tupO vs) ∈ news ∧ IntsAre vs x.1 := fun x hx => let ⟨vs, a, b, _⟩ := h.1 x hx; ⟨vs, a, b⟩
noncomputable abbrev refsOf (xs : List KX) : List Value := xs.map fun x => .ref x.2.1

theorem small_sort {D : Addr} {vs : List Value} {n : Nat} {g : Obj → Led} {Q : Value → Shared → Prop} (F : Fr h₀ L s.heap m) (N : News h₀ L s.heap news) (U : UpdF D (W.listOf vs.toArray n) news g) (h1 : vs.length < 2)
    (h : ∀ h' c, Fr h₀ L h' m → News h₀ L h' (g (W.listOf vs.toArray c)) → Q .none { s with heap := h' }) :
    wpAny (model PP w) A (call (.builtin "list.sort") [.ref D]) Q E s := by
  obtain ⟨pre, post, e0, hg, x1, x2⟩ := U.split
  rw [e0] at N
  have nz := N (D, W.listOf vs.toArray n) (List.mem_append_right _ (.head _))
  refine wpAny_call_entry PyProof.Rows.slot_list_sort ⟨_, nz.1, rfl⟩ PyProof.Rows.entry_list_sort ?_ (PyProof.Rows.args_list_sort _)
  rw [list_sort_plain]
  have s1 := Heap.SameBut.update s.heap D (Obj.mapSeq fun _ => (#[] : Array Value))
  obtain ⟨c1, ho1⟩ : ∃ c, (s.heap.update D (Obj.mapSeq fun _ => (#[] : Array Value))).get? D = some (seqObj "list" #[] c) := ⟨_, get?_update_seq nz.1 fun _ => #[]⟩
  refine wpAny_bind (listItems_at nz.1 rfl ?_)
  refine wpAny_bind (listUpdate_at nz.1 rfl ?_ (by rw [List.size_toArray, sizeLine_eq]; omega) (Nat.zero_le _))
  refine wpAny_bind (seqEpoch_at ho1 rfl ?_)
  refine wpAny_bind (wpAny_newTuple ?_ (by show vs.length ≤ _; rw [sizeLine_eq]; omega))
  refine wpAny_bind (wpAny_newList ?_ (Nat.zero_le _))
  refine wpAny_holding ?_
  have hn2 : vs.toArray.size < 2 := by rw [List.size_toArray]; exact h1
  rw [if_pos hn2, if_pos hn2]
  refine wpAny_bind (wpAny_pure ?_)
  refine wpAny_bind (wpAny_pure ?_)
  have F3 : Fr h₀ L (((s.heap.update D (Obj.mapSeq fun _ => (#[] : Array Value))).push (seqObj "tuple" vs.toArray 0)).push (seqObj "list" #[] 0)) m := (((F.change s1 nz.2.1 nz.2.2).push _).push _)
  have ho3 : (((s.heap.update D (Obj.mapSeq fun _ => (#[] : Array Value))).push (seqObj "tuple" vs.toArray 0)).push (seqObj "list" #[] 0)).get? D = some (seqObj "list" #[] c1) := Heap.get?_push_of_some _ (Heap.get?_push_of_some _ ho1)
  have N1 : News h₀ L (s.heap.update D (Obj.mapSeq fun _ => (#[] : Array Value))) (pre ++ (D, seqObj "list" #[] c1) :: post) := news_set N x1 x2 s1 ho1
  have N3 : News h₀ L (((s.heap.update D (Obj.mapSeq fun _ => (#[] : Array Value))).push (seqObj "tuple" vs.toArray 0)).push (seqObj "list" #[] 0)) (pre ++ (D, seqObj "list" #[] c1) :: post) := fun p hp => ⟨Heap.get?_push_of_some _ (Heap.get?_push_of_some _ (N1 p hp).1), (N1 p hp).2⟩
  have hout : (arrOf (SortSt.mk' general' (vs.toArray.zip vs.toArray) #[] 7 none)).map (·.2) = vs.toArray := by
    show (vs.toArray.zip vs.toArray).map (·.2) = vs.toArray
    apply Array.toList_inj.mp
    simp [List.map_snd_zip]
  dsimp only
  refine wpAny_bind (seqEpoch_at ho3 rfl ?_)
  rw [hout]
  have s2 := Heap.SameBut.update (((s.heap.update D (Obj.mapSeq fun _ => (#[] : Array Value))).push (seqObj "tuple" vs.toArray 0)).push (seqObj "list" #[] 0)) D (Obj.mapSeq fun _ => vs.toArray)
  obtain ⟨c2, hc2⟩ : ∃ c, ((((s.heap.update D (Obj.mapSeq fun _ => (#[] : Array Value))).push (seqObj "tuple" vs.toArray 0)).push (seqObj "list" #[] 0)).update D (Obj.mapSeq fun _ => vs.toArray)).get? D = some (seqObj "list" vs.toArray c) := ⟨_, get?_update_seq ho3 fun _ => vs.toArray⟩
  refine wpAny_bind (listUpdate_at ho3 rfl ?_ (Nat.zero_le _) (by rw [List.size_toArray, sizeLine_eq]; omega))
  show wpAny _ _ (if (c1 != c1) = true then _ else _) _ _ _
  simp only [bne_self_eq_false, Bool.false_eq_true, if_false]
  refine wpAny_pure ⟨_, rfl, h _ c2 (F3.change s2 nz.2.1 nz.2.2) ?_⟩
  rw [hg]
  exact news_set N3 x1 x2 s2 hc2

theorem keys_sort {D : Addr} {xs : List KX} {n : Nat} {g : Obj → Led} {Q : Value → Shared → Prop} (F : Fr h₀ L s.heap m) (N : News h₀ L s.heap news) (U : UpdF D (W.listOf (refsOf xs).toArray n) news g) (hk : ∀ o, KeysAsc (g o) xs) (h4 : xs.length ≤ 4)
    (h : ∀ h' c, Fr h₀ L h' m → News h₀ L h' (g (W.listOf (refsOf xs).toArray c)) → Q .none { s with heap := h' }) :
    wpAny (model PP w) A (call (.builtin "list.sort") [.ref D]) Q E s := by
  by_cases h2 : 2 ≤ xs.length
  · refine kat_lsort (vs := refsOf xs) F N U rfl (by rw [List.length_map]; exact h2) (by rw [List.length_map]; omega) fun e1 h' F' N' => ?_
    obtain ⟨pre, post, e0, hg, x1, x2⟩ := U.split
    have hk' := hk (seqObj "list" #[] e1)
    have hfs : ∃ fs, KatTups h' (refsOf xs) fs ∧ fs.length = xs.length ∧ ∀ v ∈ fs, ∃ i t, v = Value.int i t := by
      have go : ∀ ys : List KX, (∀ x ∈ ys, ∃ vs, (x.2.1, tupO vs) ∈ g (seqObj "list" #[] e1) ∧ IntsAre vs x.1 ∧ x.1 ≠ []) → ∃ fs, KatTups h' (refsOf ys) fs ∧ fs.length = ys.length ∧ ∀ v ∈ fs, ∃ i t, v = Value.int i t := by
        intro ys
        induction ys with
        | nil => intro _; exact ⟨[], trivial, rfl, fun _ h => nomatch h⟩
        | cons y ys ih =>
          intro hy
          obtain ⟨fs, a, b, c⟩ := ih fun x hx => hy x (.tail _ hx)
          obtain ⟨vs, p, q, r⟩ := hy y (.head _)
          obtain ⟨yk, ya, yv⟩ := y
          dsimp only at p q r
          cases q with
          | nil => exact absurd rfl r
          | cons i t q =>
            refine ⟨.int i t :: fs, KatTups.cons (N' _ p).1 rfl rfl (by simp) a, by rw [List.length_cons, List.length_cons, b], fun v hv => ?_⟩
            rcases List.mem_cons.mp hv with e | hv
            · exact ⟨i, t, e⟩
            · exact c v hv
      exact go xs hk'.1
    obtain ⟨fs, hfs, hfl, hfi⟩ := hfs
    refine kat_kind (T := .type "int") hfs (by omega) (fun v hv => by obtain ⟨i, t, rfl⟩ := hfi v hv; exact Looks.of_pure rfl) (by decide) ?_
    have hlen : (refsOf xs).length = xs.length := List.length_map ..
    rw [hlen]
    refine sort_asc h2 h4 (fun i j C hji hi hC => ?_) ?_
    · show wpAny _ _ (keyLt' _ ((refsOf xs).getD i .none) ((refsOf xs).getD j .none)) _ _ _
      have ei : (refsOf xs).getD i .none = .ref xs[i].2.1 := by simp [List.getD_eq_getElem?_getD, hi]
      have hj : j < xs.length := by omega
      have ej : (refsOf xs).getD j .none = .ref xs[j].2.1 := by simp [List.getD_eq_getElem?_getD, hj]
      rw [ei, ej]
      obtain ⟨va, a1, a2, _⟩ := hk'.1 xs[i] (List.getElem_mem hi)
      obtain ⟨vb, b1, b2, _⟩ := hk'.1 xs[j] (List.getElem_mem hj)
      refine lt_keys N' a1 b1 a2 b2 ?_
      have hlt := List.pairwise_iff_getElem.mp hk'.2 j i hj hi hji
      rw [lexlt_asymm hlt]; exact hC
    · have hout : ((List.toArray (List.range xs.length)).toList.map fun i => (refsOf xs).getD i Value.none) = refsOf xs := by
        apply List.ext_getElem
        · simp
        · intro k h1 h2
          simp only [List.length_map, List.length_range] at h1
          have hk2 : k < xs.length := by simpa using h1
          simp [List.getD_eq_getElem?_getD, hk2]
      rw [hout]
      have U2 : UpdF D (seqObj "list" #[] e1) (g (seqObj "list" #[] e1)) g := by
        have hu : ∀ (pre post : Led), (∀ p ∈ pre, p.1 ≠ D) → (∀ p ∈ post, p.1 ≠ D) → UpdF D (seqObj "list" #[] e1) (pre ++ (D, seqObj "list" #[] e1) :: post) (fun o' => pre ++ (D, o') :: post) := by
          intro pre
          induction pre with
          | nil => intro post _ h2; exact UpdF.head h2
          | cons p pre ih => intro post h1 h2; exact UpdF.tail (h1 p (.head _)) (ih post (fun q hq => h1 q (.tail _ hq)) h2)
        have := hu pre post x1 x2
        have eg : g = fun o' => pre ++ (D, o') :: post := funext hg
        rw [eg]; exact this
      exact KasFin.intro F' N' U2 fun h'' c F'' N'' => h h'' c F'' N''
  · exact small_sort F N U (by rw [List.length_map]; omega) h

noncomputable abbrev matO (w : World) (xs : List KX) (n : Nat) : Obj := knownO w xs n
theorem sorted_mat {d : Addr} {xs : List KX} {n : Nat} {Q : Value → Shared → Prop} (hh : A.handled = none) (F : Fr h₀ L s.heap m) (N : News h₀ L s.heap news) (hm : (d, matO w xs n) ∈ news) (lo : (d == sysModules) = false) (hk : KeysAsc news xs) (h4 : xs.length ≤ 4)
    (h : ∀ (D : Addr) (h' : Heap) (tk c : Nat), Fr h₀ L h' m → News h₀ L h' ((D, W.listOf (refsOf xs).toArray c) :: news) → (∀ q ∈ news, q.1 < D) → Q (.ref D) { s with heap := h', toks := tk }) :
    wpAny (model PP w) A (call (.builtin "sorted") [.ref d]) Q E s := by
  refine kdu_sorted (src_raw (es := ((xs.map (entryOfKey (tupleKind (IK w)))).toArray)) (ep := n) lo) hh F N (N _ hm).1 (by rw [List.size_toArray, List.length_map, sizeLine_eq]; omega) fun D h' tk vs F' N' l1 hl hv => ?_
  have hvs : vs = refsOf xs := by
    apply List.ext_getElem?
    intro j
    rw [List.getElem?_map]
    cases q : vs[j]? with
    | none =>
      have : xs.length ≤ j := by
        have := List.getElem?_eq_none_iff.mp q
        rw [hl, List.size_toArray, List.length_map] at this; exact this
      rw [List.getElem?_eq_none this]; rfl
    | some v =>
      obtain ⟨e, he, rfl⟩ := hv j v q
      rw [List.getElem?_toArray, List.getElem?_map] at he
      obtain ⟨x, hx, rfl⟩ := Option.map_eq_some_iff.mp he
      rw [hx]; rfl
  subst hvs
  exact keys_sort F' N' (UpdF.head fun p hp => Nat.ne_of_lt (l1 p hp)) (fun o => hk.mono fun p hp => .tail _ hp) h4 fun h₂ c F₂ N₂ => h D h₂ tk c F₂ N₂ l1
end
end Mine
end
section
open PySem PySem.W PyProof.Rows PySem.Calls
set_option maxRecDepth 100000
set_option maxHeartbeats 4000000
namespace Mine
theorem off9 : True := by
  w_top off
  trivial
local macro_rules | `(tactic| walk_at "none such") => `(tactic| skip)
noncomputable def gateOf (x : KX) : Int := match x.2.2 with
  | .int g _ => g
  | _ => 0
/-- a matrix's gates are ints, of gates there are -/
noncomputable def ValsOk (n : Nat) (xs : List KX) : Prop := ∀ x ∈ xs, ∃ g t, x.2.2 = .int g t ∧ GOk n g
theorem News.named {h₀ h : Heap} {L : Addr} {R : Led} (N : News h₀ L h R) : ∃ R', R' = R ∧ News h₀ L h R' := ⟨R, rfl, N⟩
theorem refs_at {xs : List KX} {i : Nat} {v : Value} (h : (refsOf xs).toArray[i]? = some v) : ∃ x, x ∈ xs ∧ xs[i]? = some x ∧ v = .ref x.2.1 := by
  rw [List.getElem?_toArray, List.getElem?_map] at h
  obtain ⟨x, hx, rfl⟩ := Option.map_eq_some_iff.mp h
  exact ⟨x, List.mem_of_getElem? hx, hx, rfl⟩
theorem atKey_mem : ∀ {xs : List KX} {x : KX}, (xs.map (·.1)).Nodup → x ∈ xs → atKey xs x.1 = some x.2 := by
  intro xs x hn hx
  unfold atKey
  have : xs.find? (fun y => decide (y.1 = x.1)) = some x := by
    induction xs with
    | nil => cases hx
    | cons y ys ih =>
      rw [List.map_cons, List.nodup_cons] at hn
      rw [List.find?_cons]
      rcases List.mem_cons.mp hx with rfl | hx
      · rw [decide_eq_true rfl]
      · have : y.1 ≠ x.1 := fun e => hn.1 (e ▸ List.mem_map_of_mem hx)
        rw [decide_eq_false this]
        exact ih hn.2 hx
  rw [this]; rfl
theorem ints_snoc' {vs : List Value} {ns l : List Int} {n : Int} {t : Tok} (h : IntsAre vs ns) (e : l = [n]) : IntsAre (vs ++ [.int n t]) (ns ++ l) := by
  subst e; exact ints_snoc h
local macro_rules | `(tactic| walk_at "eval ListComp") => `(tactic| refine Halt.mk ?_)
local macro_rules | `(tactic| walk_at "CompEnd") => `(tactic| refine Halt.mk ?_)
local macro_rules | `(tactic| walk_at "call builtin:sorted") => `(tactic| refine Halt.mk ?_)
set_option pp.deepTerms false
set_option pp.deepTerms.threshold 3
theorem gates_of_c (w : World) {p : Program} {loose : List Str} {mean : ExcName → Option Value} {mg mb : Str → Option Value}
  {dp un : Nat} {gd : Option (List Code)} {cn : Str} {cs : Scope} {a : Addr} {ccd : Value} {cl : List (Str × Addr)} {outer : List Env} {A₀ : Around} {base h₀ : Heap} {L : Addr} {m : Str → Option Value} {s : Shared} {Q E : Value → Shared → Prop}
  {self : Value} {Am mD : Addr} {ar : Int} {t : Tok} {xs : List KX} {n nG : Nat} {news : Led}
  (hB : Below A₀ base outer h₀) (hF : Fr h₀ L s.heap m) (X : (hd.heap_1 w.params).In h₀)
  (hN : News h₀ L s.heap news)
  (T : Top p loose mean mg mb h₀) (hk : cs.kind = .function)
  (hA : (Am, tupO [.int ar t, .ref mD]) ∈ news) (hD : (mD, matO w xs n) ∈ news) (lo : (mD == sysModules) = false) (hK : KeysAsc news xs) (hV : ValsOk nG xs) (h4 : xs.length ≤ 4)
  (hdp : dp + 3 < recursionLimit) (hun : un + 24 < cLine)
  (hret : ∀ (D : Addr) (h' : Heap) (tk' e : Nat) (vs : List Value), Fr h₀ L h' m → News h₀ L h' ((D, W.listOf vs.toArray e) :: news) → (∀ q ∈ news, q.1 ≠ D) → IntsAre vs (xs.map gateOf) → Q (.ref D) { s with heap := h', toks := tk' }) :
  wpAny (model PP w) (ktrTop dp un gd cn cs L a ccd cl outer) (call (.ref 73) [self, .ref Am]) Q E s := by
  have hN2 : News h₀ L s.heap ((Am, tupO [.int ar t, .ref mD]) :: (mD, matO w xs n) :: news) := by
    intro p hp
    rcases List.mem_cons.mp hp with rfl | hp
    · exact hN _ hA
    rcases List.mem_cons.mp hp with rfl | hp
    · exact hN _ hD
    · exact hN _ hp
  clear hN
  refine wpAny_call ?_
  k_dflt (refine' code_defC ?k1 ?k2 ?k3 ?k4 ?k5 ?kA ?kF ?kK ?k6 ?k7 ?k8 ?k9 ?kB ?kD ?_ ?c2 ?c3 ?c4; (case kA => exact rfl); (case kF => exact rfl); (case kK => assumption); (case k1 => k_asm); (case k2 => k_asm); (case k3 => k_asm); (case k4 => k_asm); (case k5 => k_asm); (case k6 => k_is); (case k7 => k_is); (case k8 => ktr_room); (case k9 => exact BindsTo.of_eq rfl); (case kB => exact rfl); (case kD => decide +kernel); (case c2 => exact rfl); (case c3 => exact rfl); (case c4 => exact rfl); k_whole; intro g' L' h' tk' cells' FG' F' N' Y' B' X' T' l1; (try k_lt l1); k_cells Y'; (try simp only [List.cons_append, List.nil_append] at N'); (try dsimp only); (try k_fold))
  k_steps
  rename Below (ktrTop ..) _ _ _ => kB
  rename Fr _ _ _ (bindL _ _ _) => kF
  refine Halt.go (LCg.ListComp_U (F₀ := kF) (by with_unfolding_all rfl) (by decide) (by rfl) (by decide) (by rfl) ?_)
  k_steps
  refine Halt.go (sorted_mat (by rfl) (by assumption) (by assumption) (xs := xs) (n := n) (.tail _ (.tail _ (.head _))) lo (hK.mono fun p hp => .tail _ (.tail _ (.tail _ hp))) h4 fun D h₁ tk₁ c F₁ N₁ l2 => ?_)
  k_steps
  k_lt l2
  obtain ⟨news₁, hnews₁, N₂⟩ := News.named N₁
  refine LCg.CompSrc.ledger (by rfl) F₁ N₂ (by rw [hnews₁]; exact .head _) (by rw [List.size_toArray, List.length_map, sizeLine_eq]; omega) fun g => ?_
  refine comp_inv (refsOf xs).toArray.size (fun i ys nx => nx = news₁ ∧ IntsAre ys ((xs.take i).map gateOf)) ?step ?fin _ 0 [] _ (by omega) ⟨rfl, .nil⟩
  case step =>
    rintro i ys nx v I oI C₁ oC D₂ m₂ h tk₁ E' hi hP ⟨rfl, hys⟩ hC hxv F₁ N₁ off ne
    subst hnews₁
    obtain ⟨x, hxm, hxi, rfl⟩ := refs_at hP
    obtain ⟨kvs, hk1, hk2⟩ := hK.key x hxm
    obtain ⟨g, t, hg1, hg2⟩ := hV x hxm
    k_steps
    refine known_item (by show un + 3 + 1 < cLine; omega) (xs := xs) (n3 := n) N₁ (by repeat' constructor) (fun x hx => ?_) hK.nodup (ta := x.2.1) (vs := kvs) (by repeat' (first | exact hk1 | apply List.Mem.tail)) hk2 (atKey_mem hK.nodup hxm) fun tk₃ => ?_
    · obtain ⟨v, h1, h2⟩ := hK.key x hx
      exact ⟨v, by repeat' (first | exact h1 | apply List.Mem.tail), h2⟩
    rw [hg1]
    k_steps
    refine Halt.go (LCg.CompEnd.intro F₁ N₁ _ (fun p hp => hp) off (.inr ⟨_, .head _, rfl, _, rfl⟩) ⟨rfl, ?_⟩)
    rw [List.take_add_one, hxi, List.map_append]
    refine ints_snoc' hys ?_
    show [gateOf x] = [g]
    unfold gateOf; rw [hg1]
  case fin =>
    rintro ys nx ⟨rfl, hys⟩ D₂ h₁ tk₁ F₁ N₁ off
    subst hnews₁
    have hlen : (refsOf xs).toArray.size = xs.length := by rw [List.size_toArray, List.length_map]
    rw [hlen, List.take_length] at hys
    have od := off1_mem off
    k_steps
    rename Fr _ _ _ m => kF
    rename News _ L _ _ => kN
    refine hret D₂ _ _ ys.length ys kF (News.sub kN fun p hp => ?_) (fun q hq => od q (by repeat' (first | exact hq | apply List.Mem.tail))) hys
    rcases List.mem_cons.mp hp with rfl | hp
    · exact .head _
    · repeat' (first | exact hp | apply List.Mem.tail)
end Mine
end
section
open PySem PySem.W PyProof.Rows PySem.Calls
set_option maxRecDepth 100000
set_option maxHeartbeats 4000000
namespace Mine
theorem off10 : True := by
  w_top off
  trivial
noncomputable abbrev mergedH (xs ys : List KX) : List KX := ys.foldl (fun acc y => storedH acc y.1 y.2.1 y.2.2) xs
section
variable {w : World} {A : Around} {E : Value → Shared → Prop} {s : Shared}
theorem put_c {knd : HeapKind PP w (List Int)} {d a : Addr} {xs : List KX} {k : List Int} {v : Value} {Q : Unit → Shared → Prop} (hu : knd.room A) (hkey : knd.is s.heap k a) (hm : s.heap.DictOfH knd d xs)
    (hQ : ∀ h', h'.DictOfH knd d (storedH xs k a v) → Heap.SameBut d s.heap h' → Q () { s with heap := h' })
    (hsz : xs.length ≤ sizeLine) :
    wpAny (model PP w) A (dictPut d (knd.hash k) (.ref a) v) Q E s := by
  obtain ⟨o, es, ep, ho, hc, hd, he, his, hn⟩ := hm
  unfold dictPut
  refine wpAny_bind (wpAny_dictFind_heap hu hkey ho hd he his hn ?_ ?_)
  · intro hno
    have hnot : k ∉ xs.map (·.1) := fun hm => by
      obtain ⟨x, hx, rfl⟩ := List.mem_map.mp hm
      obtain ⟨j, hj⟩ := List.getElem?_of_mem hx
      exact hno j x.2 hj
    refine wpAny_updateDictKeys (hz := by have e := size_of_entries he; omega) ho hd (hQ _ ⟨_, _, ep + 1, Heap.get?_update_self _ ho (Obj.isFreed_of_dict (Obj.data_mapDictKeys hd _)),
      hc.mapDictKeys _, Obj.data_mapDictKeys hd _, ?_, ?_, ?_⟩ (Heap.SameBut.update ..))
    · rw [storedH_new (atKey_none_of_get hno)]
      simp [he, entryOfKey]
    · rw [storedH_new (atKey_none_of_get hno)]
      intro x hx
      rcases List.mem_append.mp hx with hx | hx
      · exact knd.keeps (his x hx) ho hd (Heap.SameBut.update ..)
      · simp only [List.mem_singleton] at hx
        subst hx
        exact knd.keeps hkey ho hd (Heap.SameBut.update ..)
    · rw [storedH_new (atKey_none_of_get hno)]
      rw [List.map_append, List.nodup_append]
      refine ⟨hn, by simp, ?_⟩
      intro x hx y hy
      simp only [List.map_cons, List.map_nil, List.mem_singleton] at hy
      subst hy
      exact fun e => hnot (e ▸ hx)
  · intro j p hj
    refine wpAny_updateDict ho hd (hQ _ ⟨_, _, ep, Heap.get?_update_self _ ho (Obj.isFreed_of_dict (Obj.data_mapDict hd _)),
      hc.mapDict _, Obj.data_mapDict hd _, ?_, ?_, ?_⟩ (Heap.SameBut.update ..))
    · rw [storedH_old (atKey_of_get hn hj)]
      have := modify_map_putAt (entryOfKey knd) (fun e : DictEntry => { e with val := v }) k v (fun _ _ => rfl) hn hj
      rw [← he] at this
      obtain ⟨l⟩ := es
      simpa using this
    · rw [storedH_old (atKey_of_get hn hj)]
      intro x hx
      obtain ⟨y, hy, rfl⟩ := List.mem_map.mp hx
      unfold putAt
      split <;> exact knd.keeps (his y hy) ho hd (Heap.SameBut.update ..)
    · rw [storedH_old (atKey_of_get hn hj)]
      rw [keys_map_putAt]; exact hn

theorem filter_apart : ∀ (l : List Int), l.Nodup → ∀ x, (l.filter (· == x)).length ≤ 1
  | [], _, _ => Nat.zero_le _
  | y :: l, hn, x => by
    rw [List.nodup_cons] at hn
    rw [List.filter_cons]
    split
    · rename_i hyx
      have : y = x := by simpa using hyx
      subst this
      rw [List.filter_eq_nil_iff.mpr (fun a ha h => hn.1 (by have : a = y := by simpa using h
                                                             rw [← this]; exact ha))]
      exact Nat.le_refl _
    · exact filter_apart l hn.2 x
/-- no two keys' hashes meet -/
noncomputable def HashApart (knd : HeapKind PP w (List Int)) (ys : List KX) : Prop := (ys.map fun y => knd.hash y.1).Nodup
theorem merge_c {knd : HeapKind PP w (List Int)} {d a : Addr} {xs ys : List KX} {n : Nat} {Q : Unit → Shared → Prop} (hu : knd.room A) (hne : a ≠ d) (lo : (a == sysModules) = false)
    (hm : s.heap.DictOfH knd d xs) (ha : s.heap.get? a = some (dictOf (ys.map (entryOfKey knd)) n)) (hk : ∀ y ∈ ys, knd.is s.heap y.1 y.2.1) (hh : HashApart knd ys) (hsz : xs.length + ys.length ≤ 1000)
    (hs : ∀ y ∈ ys, s.TypeIs (.ref y.2.1) "tuple")
    (hQ : ∀ h', h'.DictOfH knd d (mergedH xs ys) → Heap.SameBut d s.heap h' → Q () { s with heap := h' }) :
    wpAny (model PP w) A (mergeMapping d (.ref a) false) Q E s := by
  have hT : s.TypeIs (.ref a) "dict" := ⟨_, ha, rfl⟩
  unfold mergeMapping
  refine wpAny_bind (wpAny_isInstance (T := "dict") (b := true) hT isSubtype_dict_dict ?_)
  rw [if_pos rfl]
  refine wpAny_bind (wpAny_specialOf hT F.slot_dict_iter.lookup (wpAny_bind (wpAny_pure ?_)))
  have e1 : (some (Value.builtin "dict.__iter__") == some (Value.builtin "dict.__iter__")) = true := by decide
  rw [e1]
  dsimp only
  rw [if_neg (by rw [lo]; exact Bool.false_ne_true)]
  obtain ⟨o, es, ep, ho, hc, hd, he, his, hn⟩ := id hm
  refine wpAny_bind (wpAny_dictEntries ho hd ?_)
  have hloop : wpAny (model PP w) A (do
      let es ← dictEntries a
      let size : Nat := es.size
      let epoch ← dictEpoch a
      forIn (List.range size) PUnit.unit fun i __s => do
        let __do_lift ← dictEntries a
        match __do_lift[i]? with
          | some e => do
            holding [e.key, e.val] (dictPut d e.hash e.key e.val)
            let __do_lift ← dictEpoch a
            if (__do_lift != epoch) = true then do
                unsupported "dict.changed-during-merge"
                pure (ForInStep.yield PUnit.unit)
              else pure (ForInStep.yield PUnit.unit)
          | x => do
            unsupported "dict.changed-during-merge"
            pure (ForInStep.yield PUnit.unit)
      pure () : Sem Unit) Q E s := by
    refine wpAny_bind (wpAny_dictEntries ha rfl ?_)
    refine wpAny_bind (wpAny_dictEpoch ha rfl ?_)
    rw [List.size_toArray, List.length_map]
    have go : ∀ (k i : Nat) (acc : List KX) (s₁ : Shared), i + k = ys.length → acc.length ≤ xs.length + i → s₁ = { s with heap := s₁.heap } → Heap.SameBut d s.heap s₁.heap → s₁.heap.DictOfH knd d acc → mergedH acc (ys.drop i) = mergedH xs ys →
        wpAny (model PP w) A (forIn (List.range' i k) PUnit.unit fun i (__s : PUnit) => (do
          let __do_lift ← dictEntries a
          match __do_lift[i]? with
            | some e => do
              holding [e.key, e.val] (dictPut d e.hash e.key e.val)
              let __do_lift ← dictEpoch a
              if (__do_lift != n) = true then do
                  unsupported "dict.changed-during-merge"
                  pure (ForInStep.yield PUnit.unit)
                else pure (ForInStep.yield PUnit.unit)
            | x => do
              unsupported "dict.changed-during-merge"
              pure (ForInStep.yield PUnit.unit) : Sem (ForInStep PUnit))) (fun _ s' => Q () s') E s₁ := by
      intro k
      induction k with
      | zero =>
        intro i acc s₁ hi _ hs₁ hb hm₁ hmg
        rw [List.range'_zero, List.forIn_nil]
        rw [List.drop_eq_nil_of_le (by omega)] at hmg
        refine wpAny_pure ?_
        rw [hs₁]
        exact hQ _ (hmg ▸ hm₁) hb
      | succ k ih =>
        intro i acc s₁ hi hl hs₁ hb hm₁ hmg
        rw [List.range'_succ, List.forIn_cons]
        have hil : i < ys.length := by omega
        have ha₁ : s₁.heap.get? a = some (dictOf (ys.map (entryOfKey knd)) n) := (hb.2 a hne).trans ha
        refine wpAny_bind (wpAny_bind (wpAny_dictEntries ha₁ rfl ?_))
        have hget : ((ys.map (entryOfKey knd)).toArray)[i]? = some (entryOfKey knd ys[i]) := by simp [hil]
        rw [hget]
        dsimp only
        have hky : knd.is s₁.heap ys[i].1 ys[i].2.1 := knd.keeps (hk _ (List.getElem_mem hil)) ho hd hb
        refine wpAny_bind (wpAny_holding (put_c hu hky hm₁ (fun h' hm' hs' => ?_) (by rw [sizeLine_eq]; omega)))
        have ha₂ : h'.get? a = some (dictOf (ys.map (entryOfKey knd)) n) := (hs'.2 a hne).trans ha₁
        refine wpAny_bind (wpAny_dictEpoch (s := { s₁ with heap := h' }) ha₂ rfl ?_)
        rw [if_neg (by simp)]
        refine wpAny_pure ?_
        refine ih (i + 1) _ _ (by omega) ?_ (by rw [hs₁]) (hb.trans hs') hm' ?_
        · unfold storedH; split
          · rw [List.length_map]; omega
          · rw [List.length_append, List.length_singleton]; omega
        · rw [← hmg, ← List.getElem_cons_drop hil]; rfl
    refine wpAny_bind ?_
    rw [List.range_eq_range']
    exact wpAny_mono (go ys.length 0 xs s (by omega) (by omega) rfl (Heap.SameBut.refl _ _) hm rfl) (fun _ s' h => wpAny_pure h) fun _ _ h => h
  by_cases hem : es.isEmpty = true
  · rw [if_pos hem]
    refine wpAny_bind (wpAny_dictEntries ha rfl ?_)
    refine wpAny_bind ?_
    refine wpAny_mono (?_ : wpAny _ _ _ (fun _ s' => s' = s) E s) (fun _ s' h => by subst h; exact hloop) fun _ _ h => h
    rw [List.forIn_toArray]
    refine wpAny_forIn_list _ (fun rest _ s' => s' = s ∧ ∀ e ∈ rest, ∃ y ∈ ys, e = entryOfKey knd y) _ ?_ (fun _ _ h => h.1) _ _ ⟨rfl, fun e he => ?_⟩
    · rintro e rest b s' ⟨rfl, hr⟩
      obtain ⟨y, hy, rfl⟩ := hr e (.head _)
      have e2 : (some (Value.builtin "tuple.__eq__") != some (Value.builtin "object.__eq__")) = true := by decide
      have hf : ¬ (Array.filter (fun x => x.hash == (entryOfKey knd y).hash) (List.map (entryOfKey knd) ys).toArray).size > 1 := by
        have h1 := filter_apart _ hh (knd.hash y.1)
        rw [List.filter_toArray, List.size_toArray, List.filter_map, List.length_map]
        rw [List.filter_map, List.length_map] at h1
        simpa [Function.comp_def, entryOfKey] using h1
      refine wpAny_bind (wpAny_specialOf (hs y hy) F.slot_tuple_eq.lookup ?_)
      rw [if_pos e2, if_neg hf]
      exact wpAny_pure ⟨rfl, fun e he => hr e (.tail _ he)⟩
    · obtain ⟨y, hy, rfl⟩ := List.mem_map.mp he
      exact ⟨y, hy, rfl⟩
  · rw [if_neg hem]
    exact hloop
end
end Mine
end
section
open PySem PySem.W PyProof.Rows PySem.Calls
set_option maxRecDepth 100000
set_option maxHeartbeats 4000000
namespace Mine
theorem off11 : True := by
  w_top off
  trivial
section
variable {w : World} {A : Around} {E : Value → Shared → Prop} {s : Shared} {h₀ : Heap} {L : Addr} {m : Str → Option Value} {news : Led}
theorem display2 {va vb : Expr} {pos : Pos} {env : Env} {Q : Value → Shared → Prop} (F : Fr h₀ L s.heap m) (N : News h₀ L s.heap news) (hbig : h₀.NoLimit)
    (h : ∀ (D : Addr) (h' : Heap), (D == sysModules) = false → Fr h₀ L h' m → News h₀ L h' ((D, dictOf [] 0) :: news) → (∀ q ∈ news, q.1 < D) →
      wpAny (model PP w) A (eval va env) (fun v₁ s₁ => wpAny (model PP w) A (mergeMapping D v₁ false) (fun _ s₂ => wpAny (model PP w) A (eval vb env) (fun v₂ s₃ => wpAny (model PP w) A (mergeMapping D v₂ false) (fun _ s₄ => Q (.ref D) s₄) (fun _ _ => False) s₃) E s₂) (fun _ _ => False) s₁) E { s with heap := h' }) :
    wpAny (model PP w) A (eval (.Dict [none, none] [va, vb] pos) env) Q E s := by
  rw [arm_eval_Dict]
  refine wpAny_bind (wpAny_standAt ?_)
  simp only [evalEachOpt, evalEach, List.map, List.zip, List.zipWith]
  unfold dictDisplay
  rw [show evalOpt none env = none from rfl]
  dsimp only
  refine wpAny_bind ?_
  rw [List.forIn_cons]
  refine wpAny_bind ?_
  dsimp only
  refine wpAny_bind ?_
  rw [if_pos (by rfl)]
  refine wpAny_pure ?_
  refine wpAny_bind (wpAny_alloc ?_)
  refine wpAny_bind (wpAny_holding (wpAny_bind (wpAny_mono (h _ _ (F.notModules (modules_low hbig)) (F.push _) (N.push F _) (fun q hq => Heap.lt_size (N q hq).1)) (fun v₁ s₁ h₁ => ?_) fun _ _ e => e)))
  refine wpAny_bind (wpAny_standAt (wpAny_pure ?_))
  refine wpAny_bind (wpAny_onRaise (wpAny_tryCatch (wpAny_onRaise (wpAny_holding (wpAny_mono h₁ (fun _ s₂ h₂ => ?_) (fun _ _ e => e.elim))))))
  refine wpAny_pure ?_
  dsimp only
  rw [List.forIn_cons]
  refine wpAny_bind ?_
  dsimp only
  refine wpAny_bind ?_
  rw [if_pos (by rfl)]
  refine wpAny_pure ?_
  refine wpAny_bind (wpAny_pure ?_)
  refine wpAny_bind (wpAny_holding (wpAny_bind (wpAny_mono h₂ (fun v₂ s₃ h₃ => ?_) fun _ _ e => e)))
  refine wpAny_bind (wpAny_standAt (wpAny_pure ?_))
  refine wpAny_bind (wpAny_onRaise (wpAny_tryCatch (wpAny_onRaise (wpAny_holding (wpAny_mono h₃ (fun _ s₄ h₄ => ?_) (fun _ _ e => e.elim))))))
  refine wpAny_pure ?_
  dsimp only
  rw [List.forIn_nil]
  refine wpAny_pure ?_
  dsimp only
  refine wpAny_bind ?_
  rw [if_pos (by rfl)]
  refine wpAny_pure ?_
  exact wpAny_pure h₄
end
end Mine
end
section
open PySem PySem.W PyProof.Rows PySem.Calls
set_option maxRecDepth 100000
set_option maxHeartbeats 4000000
namespace Mine
theorem off12 : True := by
  w_top off
  trivial
section
variable {w : World} {A : Around} {E : Value → Shared → Prop} {s : Shared} {h₀ : Heap} {L : Addr} {m : Str → Option Value} {news : Led}
noncomputable def kasOk (n : Nat) : KasT (Array Nat) → Bool
  | .ret a => a.toList.isPerm (List.range n)
  | .ask i j k => decide (i < n) && decide (j < n) && kasOk n (k true) && kasOk n (k false)
theorem kas_ok {ask : Nat → Nat → (Bool → Shared → Prop) → Shared → Prop} {G : Array Nat → Shared → Prop} {n : Nat}
    (H : ∀ i j C, i < n → j < n → C true s → C false s → ask i j C s) (h : ∀ arr : Array Nat, arr.toList.Perm (List.range n) → G arr s) : ∀ t : KasT (Array Nat), kasOk n t = true → t.kasWp ask G s
  | .ret a, ht => h a (List.isPerm_iff.mp ht)
  | .ask i j k, ht => by
    simp only [kasOk, Bool.and_eq_true, decide_eq_true_eq] at ht
    obtain ⟨⟨⟨h1, h2⟩, h3⟩, h4⟩ := ht
    exact H i j _ h1 h2 (kas_ok H h _ h3) (kas_ok H h _ h4)
theorem sort_any {ask : Nat → Nat → (Bool → Shared → Prop) → Shared → Prop} {G : Array Nat → Shared → Prop} {n : Nat} (h2 : 2 ≤ n) (h4 : n ≤ 4)
    (H : ∀ i j C, i < n → j < n → C true s → C false s → ask i j C s) (h : ∀ arr : Array Nat, arr.toList.Perm (List.range n) → G arr s) : (kas_sort n).kasWp ask G s := by
  have hn : n = 2 ∨ n = 3 ∨ n = 4 := by omega
  rcases hn with rfl | rfl | rfl
  · exact kas_ok H h _ (by decide +kernel)
  · exact kas_ok H h _ (by decide +kernel)
  · exact kas_ok H h _ (by decide +kernel)
/-- keys that can be asked for order: tuples of ints, not empty -/
noncomputable def KeysNz (news : Led) (xs : List KX) : Prop := ∀ x ∈ xs, ∃ vs, (x.2.1, tupO vs) ∈ news ∧ IntsAre vs x.1 ∧ x.1 ≠ []
theorem perm_get {xs : List KX} {dflt : KX} {l : List Nat} (h : l.Perm (List.range xs.length)) : (l.map fun i => xs.getD i dflt).Perm xs := by
  have h1 := h.map fun i => xs.getD i dflt
  have h2 : (List.range xs.length).map (fun i => xs.getD i dflt) = xs := by
    apply List.ext_getElem
    · simp
    · intro k h1 h2; simp [List.getD_eq_getElem?_getD, h2]
  rwa [h2] at h1
theorem keys_sort' {D : Addr} {xs : List KX} {n : Nat} {g : Obj → Led} {Q : Value → Shared → Prop} (F : Fr h₀ L s.heap m) (N : News h₀ L s.heap news) (U : UpdF D (W.listOf (refsOf xs).toArray n) news g) (hk : ∀ o, KeysNz (g o) xs) (h4 : xs.length ≤ 4)
    (h : ∀ h' c zs, zs.Perm xs → Fr h₀ L h' m → News h₀ L h' (g (W.listOf (refsOf zs).toArray c)) → Q .none { s with heap := h' }) :
    wpAny (model PP w) A (call (.builtin "list.sort") [.ref D]) Q E s := by
  by_cases h2 : 2 ≤ xs.length
  · refine kat_lsort (vs := refsOf xs) F N U rfl (by rw [List.length_map]; exact h2) (by rw [List.length_map]; omega) fun e1 h' F' N' => ?_
    obtain ⟨pre, post, e0, hg, x1, x2⟩ := U.split
    have hk' := hk (seqObj "list" #[] e1)
    have hfs : ∃ fs, KatTups h' (refsOf xs) fs ∧ fs.length = xs.length ∧ ∀ v ∈ fs, ∃ i t, v = Value.int i t := by
      have go : ∀ ys : List KX, (∀ x ∈ ys, ∃ vs, (x.2.1, tupO vs) ∈ g (seqObj "list" #[] e1) ∧ IntsAre vs x.1 ∧ x.1 ≠ []) → ∃ fs, KatTups h' (refsOf ys) fs ∧ fs.length = ys.length ∧ ∀ v ∈ fs, ∃ i t, v = Value.int i t := by
        intro ys
        induction ys with
        | nil => intro _; exact ⟨[], trivial, rfl, fun _ h => nomatch h⟩
        | cons y ys ih =>
          intro hy
          obtain ⟨fs, a, b, c⟩ := ih fun x hx => hy x (.tail _ hx)
          obtain ⟨vs, p, q, r⟩ := hy y (.head _)
          obtain ⟨yk, ya, yv⟩ := y
          dsimp only at p q r
          cases q with
          | nil => exact absurd rfl r
          | cons i t q =>
            refine ⟨.int i t :: fs, KatTups.cons (N' _ p).1 rfl rfl (by simp) a, by rw [List.length_cons, List.length_cons, b], fun v hv => ?_⟩
            rcases List.mem_cons.mp hv with e | hv
            · exact ⟨i, t, e⟩
            · exact c v hv
      exact go xs hk'
    obtain ⟨fs, hfs, hfl, hfi⟩ := hfs
    refine kat_kind (T := .type "int") hfs (by omega) (fun v hv => by obtain ⟨i, t, rfl⟩ := hfi v hv; exact Looks.of_pure rfl) (by decide) ?_
    have hlen : (refsOf xs).length = xs.length := List.length_map ..
    rw [hlen]
    refine sort_any h2 h4 (fun i j C hi hj hC1 hC2 => ?_) fun arr harr => ?_
    · show wpAny _ _ (keyLt' _ ((refsOf xs).getD i .none) ((refsOf xs).getD j .none)) _ _ _
      have ei : (refsOf xs).getD i .none = .ref xs[i].2.1 := by simp [List.getD_eq_getElem?_getD, hi]
      have ej : (refsOf xs).getD j .none = .ref xs[j].2.1 := by simp [List.getD_eq_getElem?_getD, hj]
      rw [ei, ej]
      obtain ⟨va, a1, a2, _⟩ := hk' xs[i] (List.getElem_mem hi)
      obtain ⟨vb, b1, b2, _⟩ := hk' xs[j] (List.getElem_mem hj)
      refine lt_keys N' a1 b1 a2 b2 ?_
      cases lexlt xs[i].1 xs[j].1
      · exact hC2
      · exact hC1
    · have hz := perm_get (dflt := ([], 0, .none)) harr
      have hout : (arr.toList.map fun i => (refsOf xs).getD i Value.none) = refsOf (arr.toList.map fun i => xs.getD i ([], 0, .none)) := by
        rw [refsOf, refsOf, List.map_map]
        refine List.map_congr_left fun i hi => ?_
        have hix : i < xs.length := by have := (harr.mem_iff (a := i)).mp hi; simpa using this
        simp [List.getD_eq_getElem?_getD, hix]
      rw [hout]
      have U2 : UpdF D (seqObj "list" #[] e1) (g (seqObj "list" #[] e1)) g := by
        have hu : ∀ (pre post : Led), (∀ p ∈ pre, p.1 ≠ D) → (∀ p ∈ post, p.1 ≠ D) → UpdF D (seqObj "list" #[] e1) (pre ++ (D, seqObj "list" #[] e1) :: post) (fun o' => pre ++ (D, o') :: post) := by
          intro pre
          induction pre with
          | nil => intro post _ h2; exact UpdF.head h2
          | cons p pre ih => intro post h1 h2; exact UpdF.tail (h1 p (.head _)) (ih post (fun q hq => h1 q (.tail _ hq)) h2)
        have := hu pre post x1 x2
        have eg : g = fun o' => pre ++ (D, o') :: post := funext hg
        rw [eg]; exact this
      exact KasFin.intro F' N' U2 fun h'' c F'' N'' => h h'' c _ hz F'' N''
  · exact small_sort F N U (by rw [List.length_map]; omega) fun h' c => h h' c xs (List.Perm.refl _)

theorem sorted_mat' {d : Addr} {xs : List KX} {n : Nat} {Q : Value → Shared → Prop} (hh : A.handled = none) (F : Fr h₀ L s.heap m) (N : News h₀ L s.heap news) (hm : (d, matO w xs n) ∈ news) (lo : (d == sysModules) = false) (hk : KeysNz news xs) (h4 : xs.length ≤ 4)
    (h : ∀ (D : Addr) (h' : Heap) (tk c : Nat) zs, zs.Perm xs → Fr h₀ L h' m → News h₀ L h' ((D, W.listOf (refsOf zs).toArray c) :: news) → (∀ q ∈ news, q.1 < D) → Q (.ref D) { s with heap := h', toks := tk }) :
    wpAny (model PP w) A (call (.builtin "sorted") [.ref d]) Q E s := by
  refine kdu_sorted (src_raw (es := ((xs.map (entryOfKey (tupleKind (IK w)))).toArray)) (ep := n) lo) hh F N (N _ hm).1 (by rw [List.size_toArray, List.length_map, sizeLine_eq]; omega) fun D h' tk vs F' N' l1 hl hv => ?_
  have hvs : vs = refsOf xs := by
    apply List.ext_getElem?
    intro j
    rw [List.getElem?_map]
    cases q : vs[j]? with
    | none =>
      have : xs.length ≤ j := by
        have := List.getElem?_eq_none_iff.mp q
        rw [hl, List.size_toArray, List.length_map] at this; exact this
      rw [List.getElem?_eq_none this]; rfl
    | some v =>
      obtain ⟨e, he, rfl⟩ := hv j v q
      rw [List.getElem?_toArray, List.getElem?_map] at he
      obtain ⟨x, hx, rfl⟩ := Option.map_eq_some_iff.mp he
      rw [hx]; rfl
  subst hvs
  refine keys_sort' F' N' (UpdF.head fun p hp => Nat.ne_of_lt (l1 p hp)) (fun o x hx => ?_) h4 fun h₂ c zs hz F₂ N₂ => h D h₂ tk c zs hz F₂ N₂ l1
  obtain ⟨vs, a, b, c⟩ := hk x hx
  exact ⟨vs, .tail _ a, b, c⟩
/-- the merging of one matrix's dict into a new one, seen from the ledger -/
theorem merge_new {d a : Addr} {xs ys : List KX} {n n' : Nat} {g : Obj → Led} {Q : Unit → Shared → Prop} (hu : A.units + 1 < cLine) (F : Fr h₀ L s.heap m) (N : News h₀ L s.heap news) (U : UpdF d (matO w xs n) news g) (hne : a ≠ d) (lo : (a == sysModules) = false)
    (hk : ∀ x ∈ xs, ∃ vs, (x.2.1, tupO vs) ∈ news ∧ IntsAre vs x.1) (nd : (xs.map (·.1)).Nodup) (ha : (a, matO w ys n') ∈ news)
    (hy : ∀ x ∈ ys, ∃ vs, (x.2.1, tupO vs) ∈ news ∧ IntsAre vs x.1) (hh : HashApart (tupleKind (IK w)) ys) (hsz : xs.length + ys.length ≤ 1000)
    (h : ∀ h' n', Fr h₀ L h' m → News h₀ L h' (g (matO w (mergedH xs ys) n')) → Q () { s with heap := h' }) :
    wpAny (model PP w) A (mergeMapping d (.ref a) false) Q E s := by
  obtain ⟨pre, post, e, hg, x1, x2⟩ := U.split
  have hmem : (d, matO w xs n) ∈ news := e ▸ List.mem_append_right _ (.head _)
  have z := N _ hmem
  refine merge_c (knd := tupleKind (IK w)) (by show A.units < cLine; omega) hne lo (known_dict N hmem hk nd) (N _ ha).1 (fun y hyy => ?_) hh hsz (fun y hyy => ?_) fun h' hd' hs => ?_
  · obtain ⟨vs, a1, a2⟩ := hy y hyy; exact key_at N a1 a2
  · obtain ⟨vs, a1, a2⟩ := hy y hyy; exact ⟨_, (N _ a1).1, rfl⟩
  obtain ⟨o, es, ep, ho, hc, hdat, hes, _, _⟩ := hd'
  have ho' : o = matO w (mergedH xs ys) ep := by
    obtain ⟨c, dd, dt, sl⟩ := o
    obtain ⟨c1, c2, c3⟩ := hc
    simp only at c1 c2 c3 hdat
    subst c1 c2 c3 hdat
    show _ = (_ : Obj)
    have : es = ((mergedH xs ys).map (entryOfKey (tupleKind (IK w)))).toArray := by rw [← hes, Array.toArray_toList]
    rw [this]
  rw [ho'] at ho
  subst e
  exact h h' ep (F.change hs z.2.1 z.2.2) (hg _ ▸ news_set N x1 x2 hs ho)
end
end Mine
end
section
open PySem PySem.W PyProof.Rows PySem.Calls
set_option maxRecDepth 100000
set_option maxHeartbeats 4000000
set_option linter.unusedVariables false
namespace Mine
theorem off13 : True := by
  w_top off
  trivial
theorem putAt_key (k : List Int) (v : Value) (x : KX) : (putAt k v x).1 = x.1 ∧ (putAt k v x).2.1 = x.2.1 := by
  unfold putAt; split <;> exact ⟨rfl, rfl⟩
theorem storedH_mem {xs : List KX} {k : List Int} {a : Addr} {v : Value} {z : KX} (h : z ∈ storedH xs k a v) : (∃ x ∈ xs, z.1 = x.1 ∧ z.2.1 = x.2.1) ∨ (z.1 = k ∧ z.2.1 = a) := by
  unfold storedH at h
  split at h
  · obtain ⟨x, hx, rfl⟩ := List.mem_map.mp h
    exact .inl ⟨x, hx, putAt_key k v x⟩
  · rcases List.mem_append.mp h with h | h
    · exact .inl ⟨z, h, rfl, rfl⟩
    · rw [List.mem_singleton.mp h]; exact .inr ⟨rfl, rfl⟩
theorem storedH_keys {xs : List KX} {k : List Int} {a : Addr} {v : Value} : ∀ q, q ∈ (storedH xs k a v).map (·.1) ↔ q ∈ xs.map (·.1) ∨ q = k := by
  intro q
  unfold storedH
  split
  · rename_i h
    rw [keys_map_putAt]
    constructor
    · exact .inl
    · rintro (h1 | rfl)
      · exact h1
      · obtain ⟨p, hp⟩ := Option.isSome_iff_exists.mp h
        unfold atKey at hp
        obtain ⟨x, hx, _⟩ := Option.map_eq_some_iff.mp hp
        have h1 := List.mem_of_find?_eq_some hx
        have h2 : x.1 = q := by simpa using List.find?_some hx
        exact h2 ▸ List.mem_map_of_mem h1
  · rw [List.map_append, List.mem_append]; simp
theorem storedH_nodup {xs : List KX} {k : List Int} {a : Addr} {v : Value} (hn : (xs.map (·.1)).Nodup) : ((storedH xs k a v).map (·.1)).Nodup := by
  unfold storedH
  split
  · rw [keys_map_putAt]; exact hn
  · rename_i h
    rw [List.map_append, List.nodup_append]
    refine ⟨hn, by simp, fun x hx y hy => ?_⟩
    simp only [List.map_cons, List.map_nil, List.mem_singleton] at hy
    subst hy
    exact fun e => atKey_none (by simpa using h) (e ▸ hx)
theorem merged_mem : ∀ {ys xs : List KX} {z : KX}, z ∈ mergedH xs ys → ∃ x ∈ xs ++ ys, z.1 = x.1 ∧ z.2.1 = x.2.1 := by
  intro ys
  induction ys with
  | nil => intro xs z h; exact ⟨z, by simpa using h, rfl, rfl⟩
  | cons y ys ih =>
    intro xs z h
    obtain ⟨x, hx, e1, e2⟩ := ih h
    rcases List.mem_append.mp hx with hx | hx
    · rcases storedH_mem hx with ⟨x', hx', f1, f2⟩ | ⟨f1, f2⟩
      · exact ⟨x', List.mem_append_left _ hx', e1.trans f1, e2.trans f2⟩
      · exact ⟨y, List.mem_append_right _ (.head _), e1.trans f1, e2.trans f2⟩
    · exact ⟨x, List.mem_append_right _ (.tail _ hx), e1, e2⟩
theorem merged_keys : ∀ {ys xs : List KX} (q : List Int), q ∈ (mergedH xs ys).map (·.1) ↔ q ∈ xs.map (·.1) ∨ q ∈ ys.map (·.1) := by
  intro ys
  induction ys with
  | nil => intro xs q; simp [mergedH]
  | cons y ys ih =>
    intro xs q
    show q ∈ (mergedH (storedH xs y.1 y.2.1 y.2.2) ys).map (·.1) ↔ _
    rw [ih, storedH_keys, List.map_cons, List.mem_cons]
    constructor
    · rintro ((h | h) | h)
      · exact .inl h
      · exact .inr (.inl h)
      · exact .inr (.inr h)
    · rintro (h | h | h)
      · exact .inl (.inl h)
      · exact .inl (.inr h)
      · exact .inr h
theorem merged_nodup : ∀ {ys xs : List KX}, (xs.map (·.1)).Nodup → ((mergedH xs ys).map (·.1)).Nodup := by
  intro ys
  induction ys with
  | nil => intro xs h; exact h
  | cons y ys ih => intro xs h; exact ih (storedH_nodup h)
theorem merged_nil : ∀ {ys acc : List KX}, ((acc ++ ys).map (·.1)).Nodup → mergedH acc ys = acc ++ ys := by
  intro ys
  induction ys with
  | nil => intro acc _; simp [mergedH]
  | cons y ys ih =>
    intro acc h
    have hn : atKey acc y.1 = none := by
      cases q : atKey acc y.1 with
      | none => rfl
      | some p =>
        unfold atKey at q
        obtain ⟨x, hx, _⟩ := Option.map_eq_some_iff.mp q
        have h1 := List.mem_of_find?_eq_some hx
        have h2 : x.1 = y.1 := by simpa using List.find?_some hx
        rw [List.map_append, List.nodup_append] at h
        exact absurd h2 (h.2.2 x.1 (List.mem_map_of_mem h1) y.1 (by simp))
    show mergedH (storedH acc y.1 y.2.1 y.2.2) ys = _
    rw [storedH_new hn, ih (by simpa using h)]
    simp
/-- what is known of a matrix's tuples, in a ledger -/
theorem KeysAsc.nz {news : Led} {xs : List KX} (h : KeysAsc news xs) : KeysNz news xs := h.1
local macro_rules | `(tactic| walk_at "call builtin:sorted") => `(tactic| refine Halt.mk ?_)
local macro_rules | `(tactic| walk_at "eval Dict") => `(tactic| refine Halt.mk ?_)
set_option pp.deepTerms false
set_option pp.deepTerms.threshold 3
theorem keys_of_c (w : World) {p : Program} {loose : List Str} {mean : ExcName → Option Value} {mg mb : Str → Option Value}
  {dp un : Nat} {gd : Option (List Code)} {cn : Str} {cs : Scope} {a : Addr} {ccd : Value} {cl : List (Str × Addr)} {outer : List Env} {A₀ : Around} {base h₀ : Heap} {L : Addr} {m : Str → Option Value} {s : Shared} {Q E : Value → Shared → Prop}
  {self : Value} {Am mD Bm mE : Addr} {ar br : Int} {t u : Tok} {xs ys : List KX} {n n' : Nat} {news : Led}
  (hB : Below A₀ base outer h₀) (hF : Fr h₀ L s.heap m) (X : (hd.heap_1 w.params).In h₀)
  (hN : News h₀ L s.heap news)
  (T : Top p loose mean mg mb h₀) (hk : cs.kind = .function)
  (hA : (Am, tupO [.int ar t, .ref mD]) ∈ news) (hD : (mD, matO w xs n) ∈ news) (lo : (mD == sysModules) = false) (hK : KeysAsc news xs)
  (hA' : (Bm, tupO [.int br u, .ref mE]) ∈ news) (hD' : (mE, matO w ys n') ∈ news) (lo' : (mE == sysModules) = false) (hK' : KeysAsc news ys)
  (h4 : (mergedH xs ys).length ≤ 4) (hx4 : xs.length ≤ 4) (hy4 : ys.length ≤ 4) (hH : HashApart (tupleKind (IK w)) xs) (hH' : HashApart (tupleKind (IK w)) ys)
  (hdp : dp + 3 < recursionLimit) (hun : un + 24 < cLine)
  (hret : ∀ (D : Addr) (h' : Heap) (tk' e : Nat) (zs : List KX), zs.Perm (mergedH xs ys) → Fr h₀ L h' m → News h₀ L h' ((D, W.listOf (refsOf zs).toArray e) :: news) → (∀ q ∈ news, @LT.lt Nat _ q.1 D) → Q (.ref D) { s with heap := h', toks := tk' }) :
  wpAny (model PP w) (ktrTop dp un gd cn cs L a ccd cl outer) (call (.ref 68) [self, .ref Am, .ref Bm]) Q E s := by
  have hN2 : News h₀ L s.heap ((Am, tupO [.int ar t, .ref mD]) :: (mD, matO w xs n) :: (Bm, tupO [.int br u, .ref mE]) :: (mE, matO w ys n') :: news) := by
    intro p hp
    simp only [List.mem_cons] at hp
    rcases hp with rfl | rfl | rfl | rfl | hp
    · exact hN _ hA
    · exact hN _ hD
    · exact hN _ hA'
    · exact hN _ hD'
    · exact hN _ hp
  clear hN
  refine wpAny_call ?_
  k_dflt ktr_enter
  k_steps
  rename Fr _ _ _ _ => kF
  rename News _ _ _ _ => kN
  refine Halt.go (display2 kF kN (TopRead.nolimit (by k_asm)) fun D h₁ loD F₁ N₁ l1 => ?_)
  k_lt l1
  obtain ⟨l1a, l1b, l1c, l1d, l1e⟩ := l1
  k_steps
  refine merge_new (xs := []) (ys := xs) (n := 0) (n' := n) (by show un + 3 + 1 < cLine; omega) F₁ N₁ (by k_updF) (Nat.ne_of_lt l1b) lo (fun _ h => nomatch h) List.nodup_nil (.tail _ (.tail _ (.head _))) (fun x hx => by obtain ⟨v, h1, h2, _⟩ := hK.1 x hx; exact ⟨v, by repeat' (first | exact h1 | apply List.Mem.tail), h2⟩) hH (by rw [List.length_nil]; omega) fun h₂ n₂ F₂ N₂ => ?_
  rw [merged_nil (by simpa using hK.nodup)] at N₂
  rw [List.nil_append] at N₂
  k_steps
  refine merge_new (xs := xs) (ys := ys) (n := n₂) (n' := n') (by show un + 3 + 1 < cLine; omega) F₂ N₂ (by k_updF) (Nat.ne_of_lt l1d) lo' (fun x hx => by obtain ⟨v, h1, h2, _⟩ := hK.1 x hx; exact ⟨v, by repeat' (first | exact h1 | apply List.Mem.tail), h2⟩) hK.nodup (.tail _ (.tail _ (.tail _ (.tail _ (.head _))))) (fun x hx => by obtain ⟨v, h1, h2, _⟩ := hK'.1 x hx; exact ⟨v, by repeat' (first | exact h1 | apply List.Mem.tail), h2⟩) hH' (by omega) fun h₃ n₃ F₃ N₃ => ?_
  k_steps
  refine Halt.go (sorted_mat' (by rfl) F₃ N₃ (xs := mergedH xs ys) (n := n₃) (.head _) loD (fun x hx => ?_) h4 fun D₂ h₄ tk₄ c zs hzs F₄ N₄ l2 => ?_)
  · obtain ⟨x', hx', e1, e2⟩ := merged_mem hx
    rw [e1, e2]
    rcases List.mem_append.mp hx' with hx' | hx'
    · obtain ⟨v, h1, h2⟩ := hK.1 x' hx'; exact ⟨v, by repeat' (first | exact h1 | apply List.Mem.tail), h2⟩
    · obtain ⟨v, h1, h2⟩ := hK'.1 x' hx'; exact ⟨v, by repeat' (first | exact h1 | apply List.Mem.tail), h2⟩
  k_lt l2
  k_steps
  rename Fr _ _ _ m => kF'
  rename News _ L _ _ => kN'
  refine hret D₂ _ _ c zs hzs kF' (News.sub kN' fun p hp => ?_) (fun q hq => allLt_mem l2.2.2.2.2.2 q hq)
  rcases List.mem_cons.mp hp with rfl | hp
  · exact .head _
  · repeat' (first | exact hp | apply List.Mem.tail)
end Mine
end
section
open PySem PySem.W PyProof.Rows PySem.Calls
set_option maxRecDepth 100000
set_option maxHeartbeats 4000000
set_option linter.unusedVariables false
namespace Mine
theorem off14 : True := by
  w_top off
  trivial
local macro_rules | `(tactic| omega) => `(tactic| omega (config := {}))
/-- the gate of a tuple, the false one where it is absent -/
noncomputable def getG (xs : List KX) (k : List Int) : Int := match xs.find? (fun x => decide (x.1 = k)) with
  | some x => gateOf x
  | none => -1
theorem getG_val {n : Nat} {xs : List KX} (h : ValsOk n xs) (hn : 2 ≤ n) (k : List Int) (d : Tok) : (∃ t, ((atKey xs k).map (·.2)).getD (.int (-1) d) = .int (getG xs k) t) ∧ GOk n (getG xs k) := by
  unfold atKey getG
  cases q : xs.find? (fun x => decide (x.1 = k)) with
  | none => exact ⟨⟨d, rfl⟩, by
    obtain ⟨j, rfl⟩ : ∃ j, n = j + 2 := ⟨n - 2, by omega⟩
    exact GOk.mone⟩
  | some x =>
    obtain ⟨g, t, e1, e2⟩ := h x (List.mem_of_find?_eq_some q)
    have eg : gateOf x = g := by unfold gateOf; rw [e1]
    show (∃ t, x.2.2 = .int (gateOf x) t) ∧ GOk n (gateOf x)
    rw [eg]
    exact ⟨⟨t, e1⟩, e2⟩
theorem getG_mem {xs : List KX} {x : KX} (hn : (xs.map (·.1)).Nodup) (hx : x ∈ xs) : getG xs x.1 = gateOf x := by
  have h1 := atKey_mem hn hx
  unfold atKey at h1
  unfold getG
  obtain ⟨y, hy, e⟩ := Option.map_eq_some_iff.mp h1
  rw [hy]
  have : y.1 = x.1 := by simpa using List.find?_some hy
  show gateOf y = gateOf x
  unfold gateOf; rw [e]
theorem ValsOk.gate {n : Nat} {xs : List KX} (h : ValsOk n xs) {x : KX} (hx : x ∈ xs) : GOk n (gateOf x) := by
  obtain ⟨g, t, e1, e2⟩ := h x hx
  unfold gateOf; rw [e1]; exact e2
theorem ValsOk.up {n n' : Nat} {xs : List KX} (h : ValsOk n xs) (hn : n ≤ n') : ValsOk n' xs := fun x hx => by
  obtain ⟨g, t, e1, e2⟩ := h x hx
  exact ⟨g, t, e1, e2.up hn⟩
section
variable {w : World} {A : Around} {E : Value → Shared → Prop} {s : Shared} {h₀ h : Heap} {L : Addr} {m : Str → Option Value} {news : Led}
theorem known_get {xs : List KX} {ta nD : Addr} {vs : List Value} {ns : List Int} {n3 : Nat} {Q : Value → Shared → Prop} {d : Tok} {n : Nat} (hu : A.units + 1 < cLine) (N : News h₀ L s.heap news) (hm : (nD, matO w xs n3) ∈ news) (hk : ∀ x ∈ xs, ∃ vs, (x.2.1, tupO vs) ∈ news ∧ IntsAre vs x.1) (nd : (xs.map (·.1)).Nodup) (lo : (nD == sysModules) = false)
    (ht : (ta, tupO vs) ∈ news) (hi : IntsAre vs ns) (hV : ValsOk n xs) (hn : 2 ≤ n) (h : ∀ tk t, GOk n (getG xs ns) → Q (.int (getG xs ns) t) { s with toks := tk }) : wpAny (model PP w) A (call (.builtin "dict.get") [.ref nD, .ref ta, .int (-1) d]) Q E s := by
  have hd := known_dict N hm hk nd
  obtain ⟨⟨t, e1⟩, e2⟩ := getG_val hV hn ns d
  exact call_meetsIn F.slot_dict_get hd.typeIs F.entry_dict_get (F.args_dict_get_3 _ _ _) (meetsH_dict_get_default (tupleKind (IK w)) nD ta lo _) ⟨tupleKind_room_in1 hu, ns, xs, key_at N ht hi, hd, by
    rw [e1]; exact h _ t e2⟩
theorem method_mat {d : Addr} {xs : List KX} {n : Nat} {name : Str} {id : String} {pl : Sem Bool} {Q : Value × List Value → Shared → Prop} (slot : Slot "dict" name id) (hty : typeOf (.builtin id) = pure (.type "method_descriptor")) (N : News h₀ L s.heap news) (hm : (d, matO w xs n) ∈ news)
    (h : Q (.builtin id, [.ref d]) s) : wpAny (model PP w) A (getMethod (.ref d) name pl) Q E s :=
  getMethod_builtin ⟨_, (N _ hm).1, rfl⟩ F.plainAttrs_dict slot hty (fun b e => by injection e with e; subst e; exact ⟨_, (N _ hm).1, rfl⟩) h
theorem News.pick {d c1 c2 c3 e1 e2 e3 e4 e5 e6 k1 k2 k3 k4 k5 : Addr × Obj} {rest : Led} (N : News h₀ L h (d :: c1 :: c2 :: c3 :: e1 :: e2 :: e3 :: e4 :: e5 :: e6 :: k1 :: k2 :: k3 :: k4 :: k5 :: rest)) : ∃ R, R = d :: c1 :: c2 :: c3 :: rest ∧ News h₀ L h (k1 :: k2 :: k3 :: k4 :: k5 :: R) :=
  ⟨_, rfl, News.sub N (all_cons (mem_at 10 rfl) (all_cons (mem_at 11 rfl) (all_cons (mem_at 12 rfl) (all_cons (mem_at 13 rfl) (all_cons (mem_at 14 rfl) (all_cons (mem_at 0 rfl) (all_cons (mem_at 1 rfl) (all_cons (mem_at 2 rfl) (all_cons (mem_at 3 rfl) (sub_drop 15 rfl))))))))))⟩
theorem News.open {i c d k1 k2 k3 k4 k5 r1 r2 r3 r4 e1 e2 e3 e4 e5 e6 : Addr × Obj} {rest tl : Led} (N : News h₀ L h (i :: c :: d :: k1 :: k2 :: k3 :: k4 :: k5 :: ((r1 :: r2 :: r3 :: r4 :: rest) ++ tl))) (m1 : e1 ∈ rest) (m2 : e2 ∈ rest) (m3 : e3 ∈ rest) (m4 : e4 ∈ rest) (m5 : e5 ∈ rest) (m6 : e6 ∈ rest) :
    News h₀ L h (i :: c :: d :: k1 :: k2 :: k3 :: k4 :: k5 :: r1 :: r2 :: r3 :: r4 :: e1 :: e2 :: e3 :: e4 :: e5 :: e6 :: (rest ++ tl)) := News.sub (l := i :: c :: d :: k1 :: k2 :: k3 :: k4 :: k5 :: ((r1 :: r2 :: r3 :: r4 :: rest) ++ tl)) N (all_cons (mem_at 0 rfl) (all_cons (mem_at 1 rfl) (all_cons (mem_at 2 rfl) (all_cons (mem_at 3 rfl) (all_cons (mem_at 4 rfl) (all_cons (mem_at 5 rfl) (all_cons (mem_at 6 rfl) (all_cons (mem_at 7 rfl) (all_cons (mem_at 8 rfl) (all_cons (mem_at 9 rfl) (all_cons (mem_at 10 rfl) (all_cons (mem_at 11 rfl) (all_cons (sub_drop 12 rfl _ (List.mem_append_left _ m1)) (all_cons (sub_drop 12 rfl _ (List.mem_append_left _ m2)) (all_cons (sub_drop 12 rfl _ (List.mem_append_left _ m3)) (all_cons (sub_drop 12 rfl _ (List.mem_append_left _ m4)) (all_cons (sub_drop 12 rfl _ (List.mem_append_left _ m5)) (all_cons (sub_drop 12 rfl _ (List.mem_append_left _ m6)) (sub_drop 12 rfl)))))))))))))))))))
theorem News.opened {e1 e2 e3 e4 e5 e6 k1 k2 k3 k4 k5 : Addr × Obj} {rest : Led} (N : News h₀ L h (k1 :: k2 :: k3 :: k4 :: k5 :: rest)) (m1 : e1 ∈ rest) (m2 : e2 ∈ rest) (m3 : e3 ∈ rest) (m4 : e4 ∈ rest) (m5 : e5 ∈ rest) (m6 : e6 ∈ rest) :
    News h₀ L h (e1 :: e2 :: e3 :: e4 :: e5 :: e6 :: k1 :: k2 :: k3 :: k4 :: k5 :: rest) := News.sub N (all_cons (sub_drop 5 rfl _ m1) (all_cons (sub_drop 5 rfl _ m2) (all_cons (sub_drop 5 rfl _ m3) (all_cons (sub_drop 5 rfl _ m4) (all_cons (sub_drop 5 rfl _ m5) (all_cons (sub_drop 5 rfl _ m6) (all_cons (mem_at 0 rfl) (all_cons (mem_at 1 rfl) (all_cons (mem_at 2 rfl) (all_cons (mem_at 3 rfl) (all_cons (mem_at 4 rfl) (sub_drop 5 rfl))))))))))))
theorem News.close {i c d k1 k2 k3 k4 k5 r1 r2 r3 r4 e1 e2 e3 e4 e5 e6 : Addr × Obj} {rest tl : Led} (N : News h₀ L h (i :: c :: d :: k1 :: k2 :: k3 :: k4 :: k5 :: r1 :: r2 :: r3 :: r4 :: e1 :: e2 :: e3 :: e4 :: e5 :: e6 :: (rest ++ tl))) :
    News h₀ L h (k1 :: k2 :: k3 :: k4 :: k5 :: i :: c :: d :: ((r1 :: r2 :: r3 :: r4 :: rest) ++ tl)) := News.sub N (all_cons (mem_at 3 rfl) (all_cons (mem_at 4 rfl) (all_cons (mem_at 5 rfl) (all_cons (mem_at 6 rfl) (all_cons (mem_at 7 rfl) (all_cons (mem_at 0 rfl) (all_cons (mem_at 1 rfl) (all_cons (mem_at 2 rfl) (all_cons (mem_at 8 rfl) (all_cons (mem_at 9 rfl) (all_cons (mem_at 10 rfl) (all_cons (mem_at 11 rfl) (sub_drop 18 rfl)))))))))))))
theorem News.after {i c d k1 k2 k3 k4 k5 : Addr × Obj} {R tl tl' : Led} (N : News h₀ L h (k1 :: k2 :: k3 :: k4 :: k5 :: ((i :: c :: d :: (R ++ tl)) ++ tl'))) :
    News h₀ L h (i :: c :: d :: k1 :: k2 :: k3 :: k4 :: k5 :: (R ++ (tl ++ tl'))) := News.sub (l := k1 :: k2 :: k3 :: k4 :: k5 :: ((i :: c :: d :: (R ++ tl)) ++ tl')) N (all_cons (mem_at 5 rfl) (all_cons (mem_at 6 rfl) (all_cons (mem_at 7 rfl) (all_cons (mem_at 0 rfl) (all_cons (mem_at 1 rfl) (all_cons (mem_at 2 rfl) (all_cons (mem_at 3 rfl) (all_cons (mem_at 4 rfl) (all_app (sub_t sub_l (sub_t sub_l (sub_drop 8 rfl))) (all_app (sub_t sub_r (sub_t sub_l (sub_drop 8 rfl))) (sub_t sub_r (sub_drop 8 rfl))))))))))))
theorem News.last {x k1 k2 k3 k4 k5 r1 r2 r3 r4 : Addr × Obj} {rest tl tl' : Led} (N : News h₀ L h (k1 :: k2 :: k3 :: k4 :: k5 :: ((x :: ((r1 :: r2 :: r3 :: r4 :: rest) ++ tl)) ++ tl'))) :
    News h₀ L h (k1 :: k2 :: k3 :: k4 :: k5 :: (rest ++ (x :: r1 :: r2 :: r3 :: r4 :: (tl ++ tl')))) := News.sub (l := k1 :: k2 :: k3 :: k4 :: k5 :: ((x :: ((r1 :: r2 :: r3 :: r4 :: rest) ++ tl)) ++ tl')) N (all_cons (mem_at 0 rfl) (all_cons (mem_at 1 rfl) (all_cons (mem_at 2 rfl) (all_cons (mem_at 3 rfl) (all_cons (mem_at 4 rfl) (all_app (sub_t sub_l (sub_t sub_l (sub_drop 10 rfl))) (all_cons (mem_at 5 rfl) (all_cons (mem_at 6 rfl) (all_cons (mem_at 7 rfl) (all_cons (mem_at 8 rfl) (all_cons (mem_at 9 rfl) (all_app (sub_t sub_r (sub_t sub_l (sub_drop 10 rfl))) (sub_t sub_r (sub_drop 10 rfl))))))))))))))
end
theorem off_comp {I C₁ D₂ b : Addr} {oI oC oD : Obj} {R0 tl : Led} {fv : List Addr} {c : Nat} {G G' : List Gate} (h : b ≠ I ∧ b ≠ C₁ ∧ b ≠ D₂) (hR : ∀ p ∈ R0, p.1 ≠ b) (hg : Grew fv R0 c G G' tl) (hb : b ∈ fv) : ∀ p ∈ (I, oI) :: (C₁, oC) :: (D₂, oD) :: (R0 ++ tl), p.1 ≠ b :=
  off_cons (Ne.symm h.1) (off_cons (Ne.symm h.2.1) (off_cons (Ne.symm h.2.2) (off_tl hR hg hb)))
theorem Grew.cons {fv : List Addr} {rest tl : Led} {c : Nat} {G G' : List Gate} {p : Addr × Obj} (h : Grew fv rest c G G' tl) (h1 : ∀ b ∈ fv, p.1 ≠ b) (h2 : ∀ q ∈ rest, q.1 ≠ p.1) : Grew fv rest c G G' (p :: tl) :=
  ⟨h.ext, fun q hq => by
    rcases List.mem_cons.mp hq with rfl | hq
    · exact ⟨h1, h2⟩
    · exact h.new q hq⟩
theorem all_ext {fv : List Addr} {rest tl : Led} {c : Nat} {G G' : List Gate} {gs : List Int} (h : Grew fv rest c G G' tl) (hgs : ∀ g ∈ gs, GOk (G.length + 2) g) (ρ : Nat → Bool) : gs.all (lit (vals ρ G')) = gs.all (lit (vals ρ G)) := by
  rw [Bool.eq_iff_iff, List.all_eq_true, List.all_eq_true]
  exact ⟨fun q p hp => by rw [← h.lit ρ (hgs p hp)]; exact q p hp, fun q p hp => by rw [h.lit ρ (hgs p hp)]; exact q p hp⟩
theorem new5 {C dC kL pL nD D : Nat} (h : LtN C D ∧ LtN dC D ∧ LtN kL D ∧ LtN pL D ∧ LtN nD D) : ∀ b ∈ ([C, dC, kL, pL, nD] : List Addr), @Ne Addr D b := fun b hb => by
  obtain ⟨h1, h2, h3, h4, h5⟩ := h
  simp only [List.mem_cons, List.not_mem_nil, or_false] at hb
  rcases hb with e | e | e | e | e <;> rw [e] <;> exact Nat.ne_of_gt (by assumption)
local macro_rules | `(tactic| walk_at "eval ListComp") => `(tactic| refine Halt.mk ?_)
local macro_rules | `(tactic| walk_at "CompEnd") => `(tactic| refine Halt.mk ?_)
local macro_rules | `(tactic| walk_at "call builtin:sorted") => `(tactic| refine Halt.mk ?_)
local macro_rules | `(tactic| walk_at "call builtin:dict.get") => `(tactic| refine Halt.mk ?_)
local macro_rules | `(tactic| walk_at "call ref") => `(tactic| ((with_reducible show wpAny _ _ (call (Value.ref 278) _) _ _ _); refine Halt.mk ?_))
local macro_rules | `(tactic| walk_at "call ref") => `(tactic| ((with_reducible show wpAny _ _ (call (Value.ref 304) _) _ _ _); refine Halt.mk ?_))
set_option pp.deepTerms false
set_option pp.deepTerms.threshold 3
theorem within_c (w : World) {p : Program} {loose : List Str} {mean : ExcName → Option Value} {mg mb : Str → Option Value}
  {dp un : Nat} {gd : Option (List Code)} {cn : Str} {cs : Scope} {a : Addr} {ccd : Value} {cl : List (Str × Addr)} {outer : List Env} {A₀ : Around} {base h₀ : Heap} {L : Addr} {m : Str → Option Value} {s : Shared} {Q E : Value → Shared → Prop}
  {C dC kL pL nD : Addr} {t1 t2 t3 : Tok} {ks ps : Array Value} {xs : List KX} {n1 n2 n3 : Nat} {rest tps : Led} {G : List Gate} {Mk dM : Addr} {tc tn : Tok} {nv : Value} {nM : Nat} {Am mD Bm mE : Addr} {ar br : Int} {at' bt' : Tok} {xs1 xs2 : List KX} {m1 m2 : Nat}
  (hB : Below A₀ base outer h₀) (hF : Fr h₀ L s.heap m) (X : (hd.heap_1 w.params).In h₀)
  (hN : News h₀ L s.heap ((C, instObj 328 dC) :: (dC, circO w kL pL nD t1 t2 t3) :: (kL, W.listOf ks n1) :: (pL, W.listOf ps n2) :: (nD, knownO w xs n3) :: rest))
  (T : Top p loose mean mg mb h₀) (hk : cs.kind = .function)
  (o1 : LtN dC C) (o2 : LtN C kL) (o3 : LtN kL pL) (o4 : LtN pL nD) (r1 : ∀ p ∈ rest, p.1 ≠ C) (r2 : ∀ p ∈ rest, p.1 ≠ dC) (r3 : ∀ p ∈ rest, p.1 ≠ kL) (r4 : ∀ p ∈ rest, p.1 ≠ pL) (r5 : ∀ p ∈ rest, p.1 ≠ nD) (lo3 : (nD == sysModules) = false)
  (hc : CircOk G ks ps xs tps) (hsub : ∀ p ∈ tps, p ∈ rest) (hz : G.length ≤ 900)
  (hMk : (Mk, instObj 220 dM) ∈ rest) (hdM : (dM, dictOf [ent w "circuit" tc (.ref C), ent w "n" tn nv] nM) ∈ rest)
  (hA : (Am, tupO [.int ar at', .ref mD]) ∈ rest) (hD : (mD, matO w xs1 m1) ∈ rest) (loD : (mD == sysModules) = false) (hK : KeysAsc rest xs1) (hV : ValsOk (G.length + 2) xs1) (h4 : xs1.length ≤ 4) (hA' : (Bm, tupO [.int br bt', .ref mE]) ∈ rest) (hD' : (mE, matO w xs2 m2) ∈ rest) (loE : (mE == sysModules) = false) (hK' : KeysAsc rest xs2) (hV' : ValsOk (G.length + 2) xs2) (h4' : xs2.length ≤ 4)
  (hdp : dp + 5 < recursionLimit) (hun : un + 40 < cLine)
  (hret : ∀ (r : Int) (t : Tok) (h' : Heap) (tk' : Nat) (G' : List Gate) (ks' ps' : Array Value) (xs' : List KX) (n1' n2' n3' : Nat) (tl : Led), Fr h₀ L h' m →
    News h₀ L h' ((C, instObj 328 dC) :: (dC, circO w kL pL nD t1 t2 t3) :: (kL, W.listOf ks' n1') :: (pL, W.listOf ps' n2') :: (nD, knownO w xs' n3') :: (rest ++ tl)) →
    CircOk G' ks' ps' xs' (tps ++ tl) → Grew [C, dC, kL, pL, nD] rest 5 G G' tl → GOk (G'.length + 2) r → (∀ ρ, lit (vals ρ G') r = xs1.all fun x => !lit (vals ρ G) (gateOf x) || lit (vals ρ G) (getG xs2 x.1)) → Q (Value.int r t) { s with heap := h', toks := tk' }) :
  wpAny (model PP w) (ktrTop dp un gd cn cs L a ccd cl outer) (call (.ref 184) [.ref Mk, .ref Am, .ref Bm]) Q E s := by
  have hN2 := News.opened hN hA hD hA' hD' hMk hdM
  refine wpAny_call ?_
  k_dflt (refine' code_defC ?k1 ?k2 ?k3 ?k4 ?k5 ?kA ?kF ?kK ?k6 ?k7 ?k8 ?k9 ?kB ?kD ?_ ?c2 ?c3 ?c4; (case kA => exact rfl); (case kF => exact rfl); (case kK => assumption); (case k1 => k_asm); (case k2 => k_asm); (case k3 => k_asm); (case k4 => k_asm); (case k5 => k_asm); (case k6 => k_is); (case k7 => k_is); (case k8 => ktr_room); (case k9 => exact BindsTo.of_eq rfl); (case kB => exact rfl); (case kD => decide +kernel); (case c2 => exact rfl); (case c3 => exact rfl); (case c4 => exact rfl); k_whole; intro g' L' h' tk' cells' FG' F' N' Y' B' X' T' l1; (try k_lt l1); k_cells Y'; (try simp only [List.cons_append, List.nil_append] at N'); (try dsimp only); (try k_fold))
  k_steps
  rename Below (ktrTop ..) _ _ _ => kB
  rename Fr _ _ _ (bindL _ _ _) => kF
  refine Halt.go (LCg.ListComp_U (F₀ := kF) (by with_unfolding_all rfl) (by decide) (by rfl) (by decide) (by rfl) ?_)
  k_steps
  refine Halt.go (sorted_mat (by rfl) kF N' (xs := xs1) (n := m1) (.tail _ (.tail _ (.tail _ (.tail _ (.head _))))) loD (hK.mono fun p hp => by repeat' (first | exact hp | apply List.Mem.tail)) h4 fun D h₁ tk₁ c F₁ N₁ l2 => ?_)
  k_lt l2
  obtain ⟨R0, hR0, N₂⟩ := News.pick N₁
  have q1 : ∀ p ∈ R0, p.1 ≠ C := by rw [hR0]; exact (off_cons (by (try dsimp only); omega) (off_cons (by (try dsimp only); omega) (off_cons (by (try dsimp only); omega) (off_cons (by (try dsimp only); omega) r1))))
  have q2 : ∀ p ∈ R0, p.1 ≠ dC := by rw [hR0]; exact (off_cons (by (try dsimp only); omega) (off_cons (by (try dsimp only); omega) (off_cons (by (try dsimp only); omega) (off_cons (by (try dsimp only); omega) r2))))
  have q3 : ∀ p ∈ R0, p.1 ≠ kL := by rw [hR0]; exact (off_cons (by (try dsimp only); omega) (off_cons (by (try dsimp only); omega) (off_cons (by (try dsimp only); omega) (off_cons (by (try dsimp only); omega) r3))))
  have q4 : ∀ p ∈ R0, p.1 ≠ pL := by rw [hR0]; exact (off_cons (by (try dsimp only); omega) (off_cons (by (try dsimp only); omega) (off_cons (by (try dsimp only); omega) (off_cons (by (try dsimp only); omega) r4))))
  have q5 : ∀ p ∈ R0, p.1 ≠ nD := by rw [hR0]; exact (off_cons (by (try dsimp only); omega) (off_cons (by (try dsimp only); omega) (off_cons (by (try dsimp only); omega) (off_cons (by (try dsimp only); omega) r5))))
  have hR1 : ∀ p ∈ rest, p ∈ R0 := fun p hp => by rw [hR0]; exact .tail _ (.tail _ (.tail _ (.tail _ hp)))
  have hDR : (D, W.listOf (refsOf xs1).toArray c) ∈ R0 := by rw [hR0]; exact .head _
  have hL5 : ∀ b ∈ ([C, dC, kL, pL, nD] : List Addr), LtN b L' := fun b hb => by
    simp only [List.mem_cons, List.not_mem_nil, or_false] at hb
    rcases hb with e | e | e | e | e <;> rw [e] <;> omega
  have hD5 : ∀ b ∈ ([C, dC, kL, pL, nD] : List Addr), LtN b D := fun b hb => by
    simp only [List.mem_cons, List.not_mem_nil, or_false] at hb
    rcases hb with e | e | e | e | e <;> rw [e] <;> omega
  have hLr : ∀ q ∈ rest, LtN q.1 L' := allLt_mem l1.2.2.2.2.2.2.2.2.2.2.2
  have hDr : ∀ q ∈ rest, LtN q.1 D := allLt_mem l2.2.2.2.2.2.2.2.2.2.2.2.2.2.2
  refine LCg.CompSrc.ledger (by rfl) F₁ N₂ (.tail _ (.tail _ (.tail _ (.tail _ (.tail _ hDR))))) (by rw [List.size_toArray, List.length_map, sizeLine_eq]; omega) fun g => ?_
  refine comp_inv (refsOf xs1).toArray.size (fun i ys nx => ∃ (G1 : List Gate) (ks1 ps1 : Array Value) (ys1 : List KX) (n11 n21 n31 : Nat) (tl1 : Led), nx = ((C, instObj 328 dC) :: (dC, circO w kL pL nD t1 t2 t3) :: (kL, W.listOf ks1 n11) :: (pL, W.listOf ps1 n21) :: (nD, knownO w ys1 n31) :: (R0 ++ tl1)) ∧ CircOk G1 ks1 ps1 ys1 (tps ++ tl1) ∧ Grew [C, dC, kL, pL, nD] R0 (i * 1) G G1 tl1 ∧ ∃ gs, IntsAre ys gs ∧ gs.length = i ∧ (∀ g ∈ gs, GOk (G1.length + 2) g) ∧ ∀ ρ, gs.all (lit (vals ρ G1)) = (xs1.take i).all fun x => !lit (vals ρ G) (gateOf x) || lit (vals ρ G) (getG xs2 x.1)) ?step ?fin _ 0 [] _ (by omega)
    ⟨G, ks, ps, xs, n1, n2, n3, [], by rw [List.append_nil], by rw [List.append_nil]; exact hc, by rw [Nat.zero_mul]; exact Grew.refl, [], .nil, rfl, (fun _ h => nomatch h), fun _ => rfl⟩
  case step =>
    rintro i ys nx v I oI C₁ oC D₂ m₂ h tk₁ E' hi hP ⟨G1, ks1, ps1, ys1, n11, n21, n31, tl1, rfl, hc1, hg1, gs, hys, hgl, hgs, hval⟩ hC hxv F₁ N₁ off ne
    obtain ⟨x, hxm, hxi, rfl⟩ := refs_at hP
    obtain ⟨kvs, hk1, hk2⟩ := hK.key x hxm
    have hxg := hV.gate hxm
    obtain ⟨g, t, e1, e2⟩ := hV x hxm
    have hi4 : i < xs1.length := by simpa using hi
    have hl1 := hg1.len
    have om := LCg.Off3.mem off
    have N₃ := News.open (hR0 ▸ N₁) hA hD hA' hD' hMk hdM
    clear N₁ N₂
    k_steps
    refine known_item (by show un + 3 + 1 < cLine; omega) (xs := xs1) (n3 := m1) N₃ (by repeat' constructor) (fun x hx => ?_) hK.nodup (ta := x.2.1) (vs := kvs) (by have h1 := List.mem_append_left tl1 hk1; repeat' (first | exact h1 | apply List.Mem.tail)) hk2 (atKey_mem hK.nodup hxm) fun tk₃ => ?_
    · obtain ⟨v, h1, h2⟩ := hK.key x hx
      have h1 := List.mem_append_left tl1 h1
      exact ⟨v, by repeat' (first | exact h1 | apply List.Mem.tail), h2⟩
    have eg : gateOf x = g := by unfold gateOf; rw [e1]
    rw [e1]
    k_steps
    rename Fr _ _ _ _ => kF2
    rename News _ _ _ _ => kN2
    refine method_mat F.slot_dict_get F.type_dict_get kN2 (xs := xs2) (n := m2) (by repeat' constructor) ?_
    k_steps
    refine Halt.go (known_get (n := G.length + 2) (by show un + 3 + 1 < cLine; omega) kN2 (xs := xs2) (n3 := m2) (by repeat' constructor) (fun x hx => ?_) hK'.nodup loE (ta := x.2.1) (vs := kvs) (by have h1 := List.mem_append_left tl1 hk1; repeat' (first | exact h1 | apply List.Mem.tail)) hk2 hV' (by omega) fun tk₄ t₄ hgt => ?_)
    · obtain ⟨v, h1, h2⟩ := hK'.key x hx
      have h1 := List.mem_append_left tl1 h1
      exact ⟨v, by repeat' (first | exact h1 | apply List.Mem.tail), h2⟩
    k_steps
    rename Fr _ _ _ _ => kF3
    rename News _ _ _ _ => kN3
    refine Halt.go (implies_c w (G := G1) (ks := ks1) (ps := ps1) (xs := ys1) (n1 := n11) (n2 := n21) (n3 := n31) (tps := tps ++ tl1) kB kF3 X' (News.close kN3) T' (by rfl) o1 o2 o3 o4 (off_comp (om _ (.head _)) (hR0 ▸ q1) (hR0 ▸ hg1) (by simp)) (off_comp (om _ (.tail _ (.head _))) (hR0 ▸ q2) (hR0 ▸ hg1) (by simp)) (off_comp (om _ (.tail _ (.tail _ (.head _)))) (hR0 ▸ q3) (hR0 ▸ hg1) (by simp)) (off_comp (om _ (.tail _ (.tail _ (.tail _ (.head _))))) (hR0 ▸ q4) (hR0 ▸ hg1) (by simp)) (off_comp (om _ (.tail _ (.tail _ (.tail _ (.tail _ (.head _)))))) (hR0 ▸ q5) (hR0 ▸ hg1) (by simp)) lo3
      hc1 (fun p hp => .tail _ (.tail _ (.tail _ (sub_tl (fun q hq => hR0 ▸ hR1 q (hsub q hq)) p hp)))) (by omega) (hg1.ok (eg ▸ hxg)) (hg1.ok hgt) (by show dp + 1 + 3 < recursionLimit; omega) (by show un + 3 + 24 < cLine; omega) fun r t5 h₅ tk₅ G2 ks2 ps2 zs2 n12 n22 n32 tl2 F2 N2 hc2 hg2 hr2 hv2 => ?_)
    k_steps
    rename Fr _ _ _ _ => kF4
    rename News _ _ _ _ => kN4
    have hn2 : ∀ p ∈ tl2, p.1 ≠ I ∧ p.1 ≠ C₁ ∧ p.1 ≠ D₂ := fun p hp => by
      have hq := (hg2.new p hp).2
      exact ⟨Ne.symm (hq _ (.head _)), Ne.symm (hq _ (.tail _ (.head _))), Ne.symm (hq _ (.tail _ (.tail _ (.head _))))⟩
    have hg2' : Grew [C, dC, kL, pL, nD] (R0 ++ tl1) 1 G1 G2 tl2 := hg2.sub fun p hp => .tail _ (.tail _ (.tail _ (hR0 ▸ hp)))
    refine Halt.go (LCg.CompEnd.intro kF4 (News.after kN4) (((C, instObj 328 dC) :: (dC, circO w kL pL nD t1 t2 t3) :: (kL, W.listOf ks2 n12) :: (pL, W.listOf ps2 n22) :: (nD, knownO w zs2 n32) :: (R0 ++ (tl1 ++ tl2)))) (fun p hp => by rw [hR0] at hp; exact hp) (LCg.Off3.of fun p hp => ?_) (.inr ⟨_, .tail _ (.tail _ (.tail _ (.tail _ (.tail _ (List.mem_append_left _ hDR))))), rfl, _, rfl⟩)
      ⟨G2, ks2, ps2, zs2, n12, n22, n32, tl1 ++ tl2, rfl, by rw [← List.append_assoc]; exact hc2, by rw [Nat.add_mul, Nat.one_mul]; exact hg1.trans hg2' (fun p hp => List.mem_append_left _ hp), gs ++ [r], ints_snoc hys, by rw [List.length_append, List.length_singleton, hgl], fun q hq => ?_, fun ρ => ?_⟩)
    · simp only [List.mem_cons] at hp
      rcases hp with rfl | rfl | rfl | rfl | rfl | hp
      · exact om _ (.head _)
      · exact om (dC, circO w kL pL nD t1 t2 t3) (.tail _ (.head _))
      · exact om (kL, W.listOf ks1 n11) (.tail _ (.tail _ (.head _)))
      · exact om (pL, W.listOf ps1 n21) (.tail _ (.tail _ (.tail _ (.head _))))
      · exact om (nD, knownO w ys1 n31) (.tail _ (.tail _ (.tail _ (.tail _ (.head _)))))
      · rw [← List.append_assoc] at hp
        rcases List.mem_append.mp hp with hp | hp
        · exact om _ (.tail _ (.tail _ (.tail _ (.tail _ (.tail _ hp)))))
        · exact hn2 p hp
    · rcases List.mem_append.mp hq with hq | hq
      · exact hg2.ok (hgs q hq)
      · rw [List.mem_singleton.mp hq]; exact hr2
    · rw [List.all_append, all_ext hg2 hgs ρ, hval ρ, List.take_add_one, hxi, List.all_append]
      show _ = (_ && List.all [x] _)
      simp only [List.all_cons, List.all_nil, Bool.and_true]
      rw [hv2 ρ, hg1.lit ρ (eg ▸ hxg), hg1.lit ρ hgt, eg]
  case fin =>
    rintro ys nx ⟨G1, ks1, ps1, ys1, n11, n21, n31, tl1, rfl, hc1, hg1, gs, hys, hgl, hgs, hval⟩ D₂ h₁ tk₁ F₁ N₁ off
    have hlen : (refsOf xs1).toArray.size = xs1.length := by rw [List.size_toArray, List.length_map]
    rw [hlen] at hgl hg1 hval
    rw [List.take_length] at hval
    have od := off1_mem off
    have hl1 := hg1.len
    have N₃ : News _ _ _ ((C, instObj 328 dC) :: (dC, circO w kL pL nD t1 t2 t3) :: (kL, W.listOf ks1 n11) :: (pL, W.listOf ps1 n21) :: (nD, knownO w ys1 n31) :: ((D₂, LCg.lst ys) :: (R0 ++ tl1))) := News.rot [_] [_, _, _, _, _] _ N₁
    have oDC : ∀ b ∈ ([C, dC, kL, pL, nD] : List Addr), @Ne Nat D₂ b := fun b hb => by
      simp only [List.mem_cons, List.not_mem_nil, or_false] at hb
      rcases hb with e | e | e | e | e <;> rw [e]
      · exact Ne.symm (od _ (.head _))
      · exact Ne.symm (od _ (.tail _ (.head _)))
      · exact Ne.symm (od _ (.tail _ (.tail _ (.head _))))
      · exact Ne.symm (od _ (.tail _ (.tail _ (.tail _ (.head _)))))
      · exact Ne.symm (od _ (.tail _ (.tail _ (.tail _ (.tail _ (.head _))))))
    clear N₁ N₂
    k_steps
    refine Halt.go (all_of_c w (gt := D₂) (go := W.listOf ys.toArray ys.length) (vs := ys) (gs := gs) (tps := tps ++ tl1) kB F₁ X' N₃ T' (by rfl) o1 o2 o3 o4 (off_cons (oDC C (by simp)) (off_tl q1 hg1 (by simp))) (off_cons (oDC dC (by simp)) (off_tl q2 hg1 (by simp))) (off_cons (oDC kL (by simp)) (off_tl q3 hg1 (by simp))) (off_cons (oDC pL (by simp)) (off_tl q4 hg1 (by simp))) (off_cons (oDC nD (by simp)) (off_tl q5 hg1 (by simp))) lo3
      hc1 (fun p hp => .tail _ (sub_tl (fun q hq => hR1 q (hsub q hq)) p hp)) (by omega) (.head _) (.inr ⟨_, rfl⟩) hys hgs (by omega) (by show dp + 1 + 2 < recursionLimit; omega) (by show un + 3 + 16 < cLine; omega) fun r t h₂ tk₂ G2 ks2 ps2 zs2 n12 n22 n32 tl2 F2 N2 hc2 hg2 hr2 hv2 => ?_)
    k_steps
    rename Fr _ _ _ m => kF5
    rename News _ L _ _ => kN5
    have oDr : ∀ q ∈ rest, @Ne Nat q.1 D₂ := fun q hq => od q (.tail _ (.tail _ (.tail _ (.tail _ (.tail _ (List.mem_append_left _ (hR1 q hq)))))))
    refine hret r t _ _ G2 ks2 ps2 zs2 n12 n22 n32 _ kF5 (News.last (hR0 ▸ kN5)) (hc2.mono fun p hp => ?_) ?hgF hr2 fun ρ => ?_
    case hgF => exact (Grew.cons (Grew.cons (Grew.cons (Grew.cons (Grew.cons (((hg1.trans (hg2.sub fun p hp => .tail _ hp) (fun p hp => List.mem_append_left _ hp)).sub hR1).up (by omega) : Grew [C, dC, kL, pL, nD] rest 5 G G2 (tl1 ++ tl2)) (fun b hb => by have := hL5 b hb; show @Ne Nat _ _; (try dsimp only); omega) (fun q hq => by have := hLr q hq; show @Ne Nat _ _; (try dsimp only); omega)) (fun b hb => by have := hL5 b hb; show @Ne Nat _ _; (try dsimp only); omega) (fun q hq => by have := hLr q hq; show @Ne Nat _ _; (try dsimp only); omega)) (fun b hb => by have := hL5 b hb; show @Ne Nat _ _; (try dsimp only); omega) (fun q hq => by have := hLr q hq; show @Ne Nat _ _; (try dsimp only); omega)) (fun b hb => by have := hD5 b hb; show @Ne Nat _ _; (try dsimp only); omega) (fun q hq => by have := hDr q hq; show @Ne Nat _ _; (try dsimp only); omega)) oDC oDr)
    · simp only [List.mem_append, List.mem_cons] at hp ⊢
      rcases hp with (hp | hp) | hp <;> simp [hp]
    · rw [hv2 ρ, all_ext hg2 hgs ρ, hval ρ]
end Mine
end
section
open PySem PySem.W PyProof.Rows PySem.Calls
set_option maxRecDepth 100000
set_option maxHeartbeats 4000000
set_option linter.unusedVariables false
namespace Mine
theorem off15 : True := by
  w_top off
  trivial
local macro_rules | `(tactic| omega) => `(tactic| omega (config := {}))
local macro_rules | `(tactic| walk_at "eval ListComp") => `(tactic| refine Halt.mk ?_)
local macro_rules | `(tactic| walk_at "CompEnd") => `(tactic| refine Halt.mk ?_)
local macro_rules | `(tactic| walk_at "call builtin:sorted") => `(tactic| refine Halt.mk ?_)
local macro_rules | `(tactic| walk_at "call builtin:dict.get") => `(tactic| refine Halt.mk ?_)
local macro_rules | `(tactic| walk_at "call ref") => `(tactic| ((with_reducible show wpAny _ _ (call (Value.ref 278) _) _ _ _); refine Halt.mk ?_))
local macro_rules | `(tactic| walk_at "call ref") => `(tactic| ((with_reducible show wpAny _ _ (call (Value.ref 311) _) _ _ _); refine Halt.mk ?_))
local macro_rules | `(tactic| walk_at "call ref") => `(tactic| ((with_reducible show wpAny _ _ (call (Value.ref 68) _) _ _ _); refine Halt.mk ?_))
set_option pp.deepTerms false
set_option pp.deepTerms.threshold 3
theorem same_c (w : World) {p : Program} {loose : List Str} {mean : ExcName → Option Value} {mg mb : Str → Option Value}
  {dp un : Nat} {gd : Option (List Code)} {cn : Str} {cs : Scope} {a : Addr} {ccd : Value} {cl : List (Str × Addr)} {outer : List Env} {A₀ : Around} {base h₀ : Heap} {L : Addr} {m : Str → Option Value} {s : Shared} {Q E : Value → Shared → Prop}
  {C dC kL pL nD : Addr} {t1 t2 t3 : Tok} {ks ps : Array Value} {xs : List KX} {n1 n2 n3 : Nat} {rest tps : Led} {G : List Gate} {Mk dM : Addr} {tc tn : Tok} {nv : Value} {nM : Nat} {Am mD Bm mE : Addr} {ar br : Int} {at' bt' : Tok} {xs1 xs2 : List KX} {m1 m2 : Nat}
  (hB : Below A₀ base outer h₀) (hF : Fr h₀ L s.heap m) (X : (hd.heap_1 w.params).In h₀)
  (hN : News h₀ L s.heap ((C, instObj 328 dC) :: (dC, circO w kL pL nD t1 t2 t3) :: (kL, W.listOf ks n1) :: (pL, W.listOf ps n2) :: (nD, knownO w xs n3) :: rest))
  (T : Top p loose mean mg mb h₀) (hk : cs.kind = .function)
  (o1 : LtN dC C) (o2 : LtN C kL) (o3 : LtN kL pL) (o4 : LtN pL nD) (r1 : ∀ p ∈ rest, p.1 ≠ C) (r2 : ∀ p ∈ rest, p.1 ≠ dC) (r3 : ∀ p ∈ rest, p.1 ≠ kL) (r4 : ∀ p ∈ rest, p.1 ≠ pL) (r5 : ∀ p ∈ rest, p.1 ≠ nD) (lo3 : (nD == sysModules) = false)
  (hc : CircOk G ks ps xs tps) (hsub : ∀ p ∈ tps, p ∈ rest) (hz : G.length ≤ 900)
  (hMk : (Mk, instObj 220 dM) ∈ rest) (hdM : (dM, dictOf [ent w "circuit" tc (.ref C), ent w "n" tn nv] nM) ∈ rest)
  (hA : (Am, tupO [.int ar at', .ref mD]) ∈ rest) (hD : (mD, matO w xs1 m1) ∈ rest) (loD : (mD == sysModules) = false) (hK : KeysAsc rest xs1) (hV : ValsOk (G.length + 2) xs1) (h4 : xs1.length ≤ 4) (hA' : (Bm, tupO [.int br bt', .ref mE]) ∈ rest) (hD' : (mE, matO w xs2 m2) ∈ rest) (loE : (mE == sysModules) = false) (hK' : KeysAsc rest xs2) (hV' : ValsOk (G.length + 2) xs2) (h4' : xs2.length ≤ 4)
  (hm4 : (mergedH xs1 xs2).length ≤ 4) (hH : HashApart (tupleKind (IK w)) xs1) (hH' : HashApart (tupleKind (IK w)) xs2)
  (hdp : dp + 6 < recursionLimit) (hun : un + 48 < cLine)
  (hret : ∀ (r : Int) (t : Tok) (h' : Heap) (tk' : Nat) (G' : List Gate) (ks' ps' : Array Value) (xs' : List KX) (n1' n2' n3' : Nat) (tl : Led), Fr h₀ L h' m →
    News h₀ L h' ((C, instObj 328 dC) :: (dC, circO w kL pL nD t1 t2 t3) :: (kL, W.listOf ks' n1') :: (pL, W.listOf ps' n2') :: (nD, knownO w xs' n3') :: (rest ++ tl)) →
    CircOk G' ks' ps' xs' (tps ++ tl) → Grew [C, dC, kL, pL, nD] rest 13 G G' tl → GOk (G'.length + 2) r → (∀ ρ, lit (vals ρ G') r = (mergedH xs1 xs2).all fun x => lit (vals ρ G) (getG xs1 x.1) == lit (vals ρ G) (getG xs2 x.1)) → Q (Value.int r t) { s with heap := h', toks := tk' }) :
  wpAny (model PP w) (ktrTop dp un gd cn cs L a ccd cl outer) (call (.ref 189) [.ref Mk, .ref Am, .ref Bm]) Q E s := by
  have hN2 := News.opened hN hA hD hA' hD' hMk hdM
  refine wpAny_call ?_
  k_dflt (refine' code_defC ?k1 ?k2 ?k3 ?k4 ?k5 ?kA ?kF ?kK ?k6 ?k7 ?k8 ?k9 ?kB ?kD ?_ ?c2 ?c3 ?c4; (case kA => exact rfl); (case kF => exact rfl); (case kK => assumption); (case k1 => k_asm); (case k2 => k_asm); (case k3 => k_asm); (case k4 => k_asm); (case k5 => k_asm); (case k6 => k_is); (case k7 => k_is); (case k8 => ktr_room); (case k9 => exact BindsTo.of_eq rfl); (case kB => exact rfl); (case kD => decide +kernel); (case c2 => exact rfl); (case c3 => exact rfl); (case c4 => exact rfl); k_whole; intro g' L' h' tk' cells' FG' F' N' Y' B' X' T' l1; (try k_lt l1); k_cells Y'; (try simp only [List.cons_append, List.nil_append] at N'); (try dsimp only); (try k_fold))
  k_steps
  rename Below (ktrTop ..) _ _ _ => kB
  rename Fr _ _ _ (bindL _ _ _) => kF
  refine Halt.go (keys_of_c w kB kF X' N' T' (by rfl) (by repeat' (first | exact hA | apply List.Mem.tail)) (by repeat' (first | exact hD | apply List.Mem.tail)) loD (hK.mono fun p hp => by repeat' (first | exact hp | apply List.Mem.tail)) (by repeat' (first | exact hA' | apply List.Mem.tail)) (by repeat' (first | exact hD' | apply List.Mem.tail)) loE (hK'.mono fun p hp => by repeat' (first | exact hp | apply List.Mem.tail)) hm4 h4 h4' hH hH' (by show dp + 1 + 3 < recursionLimit; omega) (by show un + 3 + 24 < cLine; omega) fun D h₁ tk₁ c zs hzs F₁ N₁ l2 => ?_)
  k_lt l2
  k_steps
  rename Fr _ _ _ _ => kFc
  rename News _ _ _ _ => kNc
  refine Halt.go (LCg.ListComp_U (F₀ := kFc) (by with_unfolding_all rfl) (by decide) (by rfl) (by decide) (by rfl) ?_)
  obtain ⟨R0, hR0, N₂⟩ := News.pick kNc
  have q1 : ∀ p ∈ R0, p.1 ≠ C := by rw [hR0]; exact (off_cons (by (try dsimp only); omega) (off_cons (by (try dsimp only); omega) (off_cons (by (try dsimp only); omega) (off_cons (by (try dsimp only); omega) r1))))
  have q2 : ∀ p ∈ R0, p.1 ≠ dC := by rw [hR0]; exact (off_cons (by (try dsimp only); omega) (off_cons (by (try dsimp only); omega) (off_cons (by (try dsimp only); omega) (off_cons (by (try dsimp only); omega) r2))))
  have q3 : ∀ p ∈ R0, p.1 ≠ kL := by rw [hR0]; exact (off_cons (by (try dsimp only); omega) (off_cons (by (try dsimp only); omega) (off_cons (by (try dsimp only); omega) (off_cons (by (try dsimp only); omega) r3))))
  have q4 : ∀ p ∈ R0, p.1 ≠ pL := by rw [hR0]; exact (off_cons (by (try dsimp only); omega) (off_cons (by (try dsimp only); omega) (off_cons (by (try dsimp only); omega) (off_cons (by (try dsimp only); omega) r4))))
  have q5 : ∀ p ∈ R0, p.1 ≠ nD := by rw [hR0]; exact (off_cons (by (try dsimp only); omega) (off_cons (by (try dsimp only); omega) (off_cons (by (try dsimp only); omega) (off_cons (by (try dsimp only); omega) r5))))
  have hR1 : ∀ p ∈ rest, p ∈ R0 := fun p hp => by rw [hR0]; exact .tail _ (.tail _ (.tail _ (.tail _ hp)))
  have hDR : (D, W.listOf (refsOf zs).toArray c) ∈ R0 := by rw [hR0]; exact .head _
  have hL5 : ∀ b ∈ ([C, dC, kL, pL, nD] : List Addr), LtN b L' := fun b hb => by
    simp only [List.mem_cons, List.not_mem_nil, or_false] at hb
    rcases hb with e | e | e | e | e <;> rw [e] <;> omega
  have hD5 : ∀ b ∈ ([C, dC, kL, pL, nD] : List Addr), LtN b D := fun b hb => by
    simp only [List.mem_cons, List.not_mem_nil, or_false] at hb
    rcases hb with e | e | e | e | e <;> rw [e] <;> omega
  have hLr : ∀ q ∈ rest, LtN q.1 L' := allLt_mem l1.2.2.2.2.2.2.2.2.2.2.2
  have hDr : ∀ q ∈ rest, LtN q.1 D := allLt_mem l2.2.2.2.2.2.2.2.2.2.2.2.2.2.2
  have hz4 : zs.length ≤ 4 := by rw [hzs.length_eq]; exact hm4
  have hzk : ∀ z ∈ zs, ∃ vs, (z.2.1, tupO vs) ∈ rest ∧ IntsAre vs z.1 := fun z hz => by
    obtain ⟨x', hx', e1, e2⟩ := merged_mem (hzs.mem_iff.mp hz)
    rw [e1, e2]
    rcases List.mem_append.mp hx' with hx' | hx'
    · exact hK.key x' hx'
    · exact hK'.key x' hx'
  refine nameX_L kFc rfl ?_
  refine LCg.CompSrc.ledger (by rfl) kFc N₂ (.tail _ (.tail _ (.tail _ (.tail _ (.tail _ hDR))))) (by rw [List.size_toArray, List.length_map, sizeLine_eq]; omega) fun g => ?_
  refine comp_inv (refsOf zs).toArray.size (fun i ys nx => ∃ (G1 : List Gate) (ks1 ps1 : Array Value) (ys1 : List KX) (n11 n21 n31 : Nat) (tl1 : Led), nx = ((C, instObj 328 dC) :: (dC, circO w kL pL nD t1 t2 t3) :: (kL, W.listOf ks1 n11) :: (pL, W.listOf ps1 n21) :: (nD, knownO w ys1 n31) :: (R0 ++ tl1)) ∧ CircOk G1 ks1 ps1 ys1 (tps ++ tl1) ∧ Grew [C, dC, kL, pL, nD] R0 (i * 3) G G1 tl1 ∧ ∃ gs, IntsAre ys gs ∧ gs.length = i ∧ (∀ g ∈ gs, GOk (G1.length + 2) g) ∧ ∀ ρ, gs.all (lit (vals ρ G1)) = (zs.take i).all fun x => lit (vals ρ G) (getG xs1 x.1) == lit (vals ρ G) (getG xs2 x.1)) ?step ?fin _ 0 [] _ (by omega)
    ⟨G, ks, ps, xs, n1, n2, n3, [], by rw [List.append_nil], by rw [List.append_nil]; exact hc, by rw [Nat.zero_mul]; exact Grew.refl, [], .nil, rfl, (fun _ h => nomatch h), fun _ => rfl⟩
  case step =>
    rintro i ys nx v I oI C₁ oC D₂ m₂ h tk₁ E' hi hP ⟨G1, ks1, ps1, ys1, n11, n21, n31, tl1, rfl, hc1, hg1, gs, hys, hgl, hgs, hval⟩ hC hxv F₁ N₁ off ne
    obtain ⟨x, hxm, hxi, rfl⟩ := refs_at hP
    obtain ⟨kvs, hk1, hk2⟩ := hzk x hxm
    have hi4 : i < zs.length := by simpa using hi
    have hl1 := hg1.len
    have om := LCg.Off3.mem off
    have N₃ := News.open (hR0 ▸ N₁) hA hD hA' hD' hMk hdM
    clear N₁ N₂
    k_steps
    rename Fr _ _ _ _ => kF1
    rename News _ _ _ _ => kN1
    refine method_mat F.slot_dict_get F.type_dict_get kN1 (xs := xs1) (n := m1) (by repeat' constructor) ?_
    k_steps
    refine Halt.go (known_get (n := G.length + 2) (by show un + 3 + 1 < cLine; omega) kN1 (xs := xs1) (n3 := m1) (by repeat' constructor) (fun x hx => ?_) hK.nodup loD (ta := x.2.1) (vs := kvs) (by have h1 := List.mem_append_left tl1 hk1; repeat' (first | exact h1 | apply List.Mem.tail)) hk2 hV (by omega) fun tk₃ t₃ hgs1 => ?_)
    · obtain ⟨v, h1, h2⟩ := hK.key x hx
      have h1 := List.mem_append_left tl1 h1
      exact ⟨v, by repeat' (first | exact h1 | apply List.Mem.tail), h2⟩
    k_steps
    rename Fr _ _ _ _ => kF2
    rename News _ _ _ _ => kN2
    refine method_mat F.slot_dict_get F.type_dict_get kN2 (xs := xs2) (n := m2) (by repeat' constructor) ?_
    k_steps
    refine Halt.go (known_get (n := G.length + 2) (by show un + 3 + 1 < cLine; omega) kN2 (xs := xs2) (n3 := m2) (by repeat' constructor) (fun x hx => ?_) hK'.nodup loE (ta := x.2.1) (vs := kvs) (by have h1 := List.mem_append_left tl1 hk1; repeat' (first | exact h1 | apply List.Mem.tail)) hk2 hV' (by omega) fun tk₄ t₄ hgt => ?_)
    · obtain ⟨v, h1, h2⟩ := hK'.key x hx
      have h1 := List.mem_append_left tl1 h1
      exact ⟨v, by repeat' (first | exact h1 | apply List.Mem.tail), h2⟩
    k_steps
    rename Fr _ _ _ _ => kF3
    rename News _ _ _ _ => kN3
    refine Halt.go (iff_c w (G := G1) (ks := ks1) (ps := ps1) (xs := ys1) (n1 := n11) (n2 := n21) (n3 := n31) (tps := tps ++ tl1) kB kF3 X' (News.close kN3) T' (by rfl) o1 o2 o3 o4 (off_comp (om _ (.head _)) (hR0 ▸ q1) (hR0 ▸ hg1) (by simp)) (off_comp (om _ (.tail _ (.head _))) (hR0 ▸ q2) (hR0 ▸ hg1) (by simp)) (off_comp (om _ (.tail _ (.tail _ (.head _)))) (hR0 ▸ q3) (hR0 ▸ hg1) (by simp)) (off_comp (om _ (.tail _ (.tail _ (.tail _ (.head _))))) (hR0 ▸ q4) (hR0 ▸ hg1) (by simp)) (off_comp (om _ (.tail _ (.tail _ (.tail _ (.tail _ (.head _)))))) (hR0 ▸ q5) (hR0 ▸ hg1) (by simp)) lo3
      hc1 (fun p hp => .tail _ (.tail _ (.tail _ (sub_tl (fun q hq => hR0 ▸ hR1 q (hsub q hq)) p hp)))) (by omega) (hg1.ok hgs1) (hg1.ok hgt) (by show dp + 1 + 4 < recursionLimit; omega) (by show un + 3 + 32 < cLine; omega) fun r t5 h₅ tk₅ G2 ks2 ps2 zs2 n12 n22 n32 tl2 F2 N2 hc2 hg2 hr2 hv2 => ?_)
    k_steps
    rename Fr _ _ _ _ => kF4
    rename News _ _ _ _ => kN4
    have hn2 : ∀ p ∈ tl2, p.1 ≠ I ∧ p.1 ≠ C₁ ∧ p.1 ≠ D₂ := fun p hp => by
      have hq := (hg2.new p hp).2
      exact ⟨Ne.symm (hq _ (.head _)), Ne.symm (hq _ (.tail _ (.head _))), Ne.symm (hq _ (.tail _ (.tail _ (.head _))))⟩
    have hg2' : Grew [C, dC, kL, pL, nD] (R0 ++ tl1) 3 G1 G2 tl2 := hg2.sub fun p hp => .tail _ (.tail _ (.tail _ (hR0 ▸ hp)))
    refine Halt.go (LCg.CompEnd.intro kF4 (News.after kN4) (((C, instObj 328 dC) :: (dC, circO w kL pL nD t1 t2 t3) :: (kL, W.listOf ks2 n12) :: (pL, W.listOf ps2 n22) :: (nD, knownO w zs2 n32) :: (R0 ++ (tl1 ++ tl2)))) (fun p hp => by rw [hR0] at hp; exact hp) (LCg.Off3.of fun p hp => ?_) (.inr ⟨_, .tail _ (.tail _ (.tail _ (.tail _ (.tail _ (List.mem_append_left _ hDR))))), rfl, _, rfl⟩)
      ⟨G2, ks2, ps2, zs2, n12, n22, n32, tl1 ++ tl2, rfl, by rw [← List.append_assoc]; exact hc2, by rw [Nat.add_mul]; exact hg1.trans hg2' (fun p hp => List.mem_append_left _ hp), gs ++ [r], ints_snoc hys, by rw [List.length_append, List.length_singleton, hgl], fun q hq => ?_, fun ρ => ?_⟩)
    · simp only [List.mem_cons] at hp
      rcases hp with rfl | rfl | rfl | rfl | rfl | hp
      · exact om _ (.head _)
      · exact om (dC, circO w kL pL nD t1 t2 t3) (.tail _ (.head _))
      · exact om (kL, W.listOf ks1 n11) (.tail _ (.tail _ (.head _)))
      · exact om (pL, W.listOf ps1 n21) (.tail _ (.tail _ (.tail _ (.head _))))
      · exact om (nD, knownO w ys1 n31) (.tail _ (.tail _ (.tail _ (.tail _ (.head _)))))
      · rw [← List.append_assoc] at hp
        rcases List.mem_append.mp hp with hp | hp
        · exact om _ (.tail _ (.tail _ (.tail _ (.tail _ (.tail _ hp)))))
        · exact hn2 p hp
    · rcases List.mem_append.mp hq with hq | hq
      · exact hg2.ok (hgs q hq)
      · rw [List.mem_singleton.mp hq]; exact hr2
    · rw [List.all_append, all_ext hg2 hgs ρ, hval ρ, List.take_add_one, hxi, List.all_append]
      show _ = (_ && List.all [x] _)
      simp only [List.all_cons, List.all_nil, Bool.and_true]
      rw [hv2 ρ, hg1.lit ρ hgs1, hg1.lit ρ hgt]
  case fin =>
    rintro ys nx ⟨G1, ks1, ps1, ys1, n11, n21, n31, tl1, rfl, hc1, hg1, gs, hys, hgl, hgs, hval⟩ D₂ h₁ tk₁ F₁ N₁ off
    have hlen : (refsOf zs).toArray.size = zs.length := by rw [List.size_toArray, List.length_map]
    rw [hlen] at hgl hg1 hval
    rw [List.take_length] at hval
    have od := off1_mem off
    have hl1 := hg1.len
    have N₃ : News _ _ _ ((C, instObj 328 dC) :: (dC, circO w kL pL nD t1 t2 t3) :: (kL, W.listOf ks1 n11) :: (pL, W.listOf ps1 n21) :: (nD, knownO w ys1 n31) :: ((D₂, LCg.lst ys) :: (R0 ++ tl1))) := News.rot [_] [_, _, _, _, _] _ N₁
    have oDC : ∀ b ∈ ([C, dC, kL, pL, nD] : List Addr), @Ne Nat D₂ b := fun b hb => by
      simp only [List.mem_cons, List.not_mem_nil, or_false] at hb
      rcases hb with e | e | e | e | e <;> rw [e]
      · exact Ne.symm (od _ (.head _))
      · exact Ne.symm (od _ (.tail _ (.head _)))
      · exact Ne.symm (od _ (.tail _ (.tail _ (.head _))))
      · exact Ne.symm (od _ (.tail _ (.tail _ (.tail _ (.head _)))))
      · exact Ne.symm (od _ (.tail _ (.tail _ (.tail _ (.tail _ (.head _))))))
    clear N₁ N₂
    k_steps
    refine Halt.go (all_of_c w (gt := D₂) (go := W.listOf ys.toArray ys.length) (vs := ys) (gs := gs) (tps := tps ++ tl1) kB F₁ X' N₃ T' (by rfl) o1 o2 o3 o4 (off_cons (oDC C (by simp)) (off_tl q1 hg1 (by simp))) (off_cons (oDC dC (by simp)) (off_tl q2 hg1 (by simp))) (off_cons (oDC kL (by simp)) (off_tl q3 hg1 (by simp))) (off_cons (oDC pL (by simp)) (off_tl q4 hg1 (by simp))) (off_cons (oDC nD (by simp)) (off_tl q5 hg1 (by simp))) lo3
      hc1 (fun p hp => .tail _ (sub_tl (fun q hq => hR1 q (hsub q hq)) p hp)) (by omega) (.head _) (.inr ⟨_, rfl⟩) hys hgs (by omega) (by show dp + 1 + 2 < recursionLimit; omega) (by show un + 3 + 16 < cLine; omega) fun r t h₂ tk₂ G2 ks2 ps2 zs2 n12 n22 n32 tl2 F2 N2 hc2 hg2 hr2 hv2 => ?_)
    k_steps
    rename Fr _ _ _ m => kF5
    rename News _ L _ _ => kN5
    have oDr : ∀ q ∈ rest, @Ne Nat q.1 D₂ := fun q hq => od q (.tail _ (.tail _ (.tail _ (.tail _ (.tail _ (List.mem_append_left _ (hR1 q hq)))))))
    refine hret r t _ _ G2 ks2 ps2 zs2 n12 n22 n32 _ kF5 (News.last (hR0 ▸ kN5)) (hc2.mono fun p hp => ?_) ?hgF hr2 fun ρ => ?_
    case hgF => exact (Grew.cons (Grew.cons (Grew.cons (Grew.cons (Grew.cons (((hg1.trans (hg2.sub fun p hp => .tail _ hp) (fun p hp => List.mem_append_left _ hp)).sub hR1).up (by omega) : Grew [C, dC, kL, pL, nD] rest 13 G G2 (tl1 ++ tl2)) (fun b hb => by have := hL5 b hb; show @Ne Nat _ _; (try dsimp only); omega) (fun q hq => by have := hLr q hq; show @Ne Nat _ _; (try dsimp only); omega)) (fun b hb => by have := hL5 b hb; show @Ne Nat _ _; (try dsimp only); omega) (fun q hq => by have := hLr q hq; show @Ne Nat _ _; (try dsimp only); omega)) (fun b hb => by have := hL5 b hb; show @Ne Nat _ _; (try dsimp only); omega) (fun q hq => by have := hLr q hq; show @Ne Nat _ _; (try dsimp only); omega)) (fun b hb => by have := hD5 b hb; show @Ne Nat _ _; (try dsimp only); omega) (fun q hq => by have := hDr q hq; show @Ne Nat _ _; (try dsimp only); omega)) oDC oDr)
    · simp only [List.mem_append, List.mem_cons] at hp ⊢
      rcases hp with (hp | hp) | hp <;> simp [hp]
    · rw [hv2 ρ, all_ext hg2 hgs ρ, hval ρ]; exact hzs.all_eq
end Mine
end
section
open PySem PySem.W PyProof.Rows PySem.Calls
set_option maxRecDepth 100000
set_option maxHeartbeats 4000000
set_option linter.unusedVariables false
namespace Mine
theorem off16 : True := by
  w_top off
  trivial
local macro_rules | `(tactic| omega) => `(tactic| omega (config := {}))
section
variable {h₀ h : Heap} {L : Addr}
theorem News.opened2 {e5 e6 k1 k2 k3 k4 k5 : Addr × Obj} {rest : Led} (N : News h₀ L h (k1 :: k2 :: k3 :: k4 :: k5 :: rest)) (m5 : e5 ∈ rest) (m6 : e6 ∈ rest) :
    News h₀ L h (e5 :: e6 :: k1 :: k2 :: k3 :: k4 :: k5 :: rest) := News.sub N fun p hp => by
  simp only [List.mem_cons] at hp
  rcases hp with rfl | rfl | hp
  · exact .tail _ (.tail _ (.tail _ (.tail _ (.tail _ m5))))
  · exact .tail _ (.tail _ (.tail _ (.tail _ (.tail _ m6))))
  · simpa only [List.mem_cons] using hp
theorem News.drop2 {d e5 e6 k1 k2 k3 k4 k5 : Addr × Obj} {rest : Led} (N : News h₀ L h (d :: e5 :: e6 :: k1 :: k2 :: k3 :: k4 :: k5 :: rest)) : News h₀ L h (k1 :: k2 :: k3 :: k4 :: k5 :: d :: rest) := News.sub N (all_cons (mem_at 3 rfl) (all_cons (mem_at 4 rfl) (all_cons (mem_at 5 rfl) (all_cons (mem_at 6 rfl) (all_cons (mem_at 7 rfl) (all_cons (mem_at 0 rfl) (sub_drop 8 rfl)))))))
theorem News.drop2' {e5 e6 k1 k2 k3 k4 k5 : Addr × Obj} {rest : Led} (N : News h₀ L h (e5 :: e6 :: k1 :: k2 :: k3 :: k4 :: k5 :: rest)) : News h₀ L h (k1 :: k2 :: k3 :: k4 :: k5 :: rest) := News.sub N fun p hp => .tail _ (.tail _ hp)
end
local macro_rules | `(tactic| walk_at "call ref") => `(tactic| ((with_reducible show wpAny _ _ (call (Value.ref 73) _) _ _ _); refine Halt.mk ?_))
local macro_rules | `(tactic| walk_at "call ref") => `(tactic| ((with_reducible show wpAny _ _ (call (Value.ref 283) _) _ _ _); refine Halt.mk ?_))
set_option pp.deepTerms false
set_option pp.deepTerms.threshold 3
theorem some_c (w : World) {p : Program} {loose : List Str} {mean : ExcName → Option Value} {mg mb : Str → Option Value}
  {dp un : Nat} {gd : Option (List Code)} {cn : Str} {cs : Scope} {a : Addr} {ccd : Value} {cl : List (Str × Addr)} {outer : List Env} {A₀ : Around} {base h₀ : Heap} {L : Addr} {m : Str → Option Value} {s : Shared} {Q E : Value → Shared → Prop}
  {C dC kL pL nD : Addr} {t1 t2 t3 : Tok} {ks ps : Array Value} {xs : List KX} {n1 n2 n3 : Nat} {rest tps : Led} {G : List Gate} {Mk dM : Addr} {tc tn : Tok} {nv : Value} {nM : Nat} {Am mD : Addr} {ar : Int} {at' : Tok} {xs1 : List KX} {m1 : Nat}
  (hB : Below A₀ base outer h₀) (hF : Fr h₀ L s.heap m) (X : (hd.heap_1 w.params).In h₀)
  (hN : News h₀ L s.heap ((C, instObj 328 dC) :: (dC, circO w kL pL nD t1 t2 t3) :: (kL, W.listOf ks n1) :: (pL, W.listOf ps n2) :: (nD, knownO w xs n3) :: rest))
  (T : Top p loose mean mg mb h₀) (hk : cs.kind = .function)
  (o1 : LtN dC C) (o2 : LtN C kL) (o3 : LtN kL pL) (o4 : LtN pL nD) (r1 : ∀ p ∈ rest, p.1 ≠ C) (r2 : ∀ p ∈ rest, p.1 ≠ dC) (r3 : ∀ p ∈ rest, p.1 ≠ kL) (r4 : ∀ p ∈ rest, p.1 ≠ pL) (r5 : ∀ p ∈ rest, p.1 ≠ nD) (lo3 : (nD == sysModules) = false)
  (hc : CircOk G ks ps xs tps) (hsub : ∀ p ∈ tps, p ∈ rest) (hz : G.length ≤ 900)
  (hMk : (Mk, instObj 220 dM) ∈ rest) (hdM : (dM, dictOf [ent w "circuit" tc (.ref C), ent w "n" tn nv] nM) ∈ rest)
  (hA : (Am, tupO [.int ar at', .ref mD]) ∈ rest) (hD : (mD, matO w xs1 m1) ∈ rest) (loD : (mD == sysModules) = false) (hK : KeysAsc rest xs1) (hV : ValsOk (G.length + 2) xs1) (h4 : xs1.length ≤ 4)
  (hdp : dp + 5 < recursionLimit) (hun : un + 40 < cLine)
  (hret : ∀ (r : Int) (t : Tok) (h' : Heap) (tk' : Nat) (G' : List Gate) (ks' ps' : Array Value) (xs' : List KX) (n1' n2' n3' : Nat) (tl : Led), Fr h₀ L h' m →
    News h₀ L h' ((C, instObj 328 dC) :: (dC, circO w kL pL nD t1 t2 t3) :: (kL, W.listOf ks' n1') :: (pL, W.listOf ps' n2') :: (nD, knownO w xs' n3') :: (rest ++ tl)) →
    CircOk G' ks' ps' xs' (tps ++ tl) → Grew [C, dC, kL, pL, nD] rest 1 G G' tl → GOk (G'.length + 2) r → (∀ ρ, lit (vals ρ G') r = xs1.any fun x => lit (vals ρ G) (gateOf x)) → Q (Value.int r t) { s with heap := h', toks := tk' }) :
  wpAny (model PP w) (ktrTop dp un gd cn cs L a ccd cl outer) (call (.ref 196) [.ref Mk, .ref Am]) Q E s := by
  have hN2 := News.opened2 hN hMk hdM
  refine wpAny_call ?_
  k_dflt ktr_enter
  k_steps
  rename Below (ktrTop ..) _ _ _ => kB
  rename Fr _ _ _ (fun y => List.lookup y _) => kF
  rename News _ _ _ (_ :: _) => kN
  rename Top _ _ _ _ _ _ => kT
  rename (hd.heap_1 _).In _ => kX
  refine Halt.go (gates_of_c w (nG := G.length + 2) kB kF kX kN kT (by rfl) (by repeat' (first | exact hA | apply List.Mem.tail)) (by repeat' (first | exact hD | apply List.Mem.tail)) loD (hK.mono fun p hp => by repeat' (first | exact hp | apply List.Mem.tail)) hV h4 (by show dp + 1 + 3 < recursionLimit; omega) (by show un + 3 + 24 < cLine; omega) fun D h₁ tk₁ e vs F₁ N₁ l2 hvs => ?_)
  have od := l2
  k_steps
  have ho : ∀ q ∈ rest, q.1 ≠ D := fun q hq => od q (by repeat' (first | exact hq | apply List.Mem.tail))
  have ob : ∀ b ∈ ([C, dC, kL, pL, nD] : List Addr), @Ne Nat D b := fun b hb => by
    simp only [List.mem_cons, List.not_mem_nil, or_false] at hb
    rcases hb with e | e | e | e | e <;> rw [e]
    · exact Ne.symm (od _ (.tail _ (.tail _ (.head _))))
    · exact Ne.symm (od _ (.tail _ (.tail _ (.tail _ (.head _)))))
    · exact Ne.symm (od _ (.tail _ (.tail _ (.tail _ (.tail _ (.head _))))))
    · exact Ne.symm (od _ (.tail _ (.tail _ (.tail _ (.tail _ (.tail _ (.head _)))))))
    · exact Ne.symm (od _ (.tail _ (.tail _ (.tail _ (.tail _ (.tail _ (.tail _ (.head _))))))))
  have N₂ := News.drop2 N₁
  refine Halt.go (any_of_c w (gt := D) (vs := vs) (k := e) (gs := xs1.map gateOf) kB F₁ kX N₂ kT (by rfl) o1 o2 o3 o4 (off_cons (ob C (by simp)) r1) (off_cons (ob dC (by simp)) r2) (off_cons (ob kL (by simp)) r3) (off_cons (ob pL (by simp)) r4) (off_cons (ob nD (by simp)) r5) lo3
      hc (fun p hp => .tail _ (hsub p hp)) (by omega) (.head _) hvs (fun g hg => ?_) (by rw [List.length_map]; omega) (by show dp + 1 + 3 < recursionLimit; omega) (by show un + 3 + 24 < cLine; omega) fun r t h₂ tk₂ G2 ks2 ps2 xs2 n12 n22 n32 tl2 F2 N2 hc2 hg2 hr2 hv2 => ?_)
  · obtain ⟨x, hx, rfl⟩ := List.mem_map.mp hg
    exact hV.gate hx
  k_steps
  rename Fr _ _ _ m => kF5
  rename News _ L _ _ => kN5
  refine hret r t _ _ G2 ks2 ps2 xs2 n12 n22 n32 _ kF5 (News.back (rest := rest) [_] kN5) (CircOk.back _ hc2) (Grew.back [_] hg2 (fun p hp => ?_)) hr2 fun ρ => ?_
  · rw [List.mem_singleton.mp hp]; exact ⟨ob, ho⟩
  · rw [hv2 ρ, List.any_map]; rfl
end Mine
end
section
open PySem PySem.W PyProof.Rows PySem.Calls
set_option maxRecDepth 100000
set_option maxHeartbeats 4000000
set_option linter.unusedVariables false
namespace Mine
theorem off17 : True := by
  w_top off
  trivial
noncomputable def pairs2 (l : Int → Bool) : List Int → Bool
  | [] => false
  | g :: gs => (l g && gs.any l) || pairs2 l gs
theorem pairs2_snoc (l : Int → Bool) : ∀ (gs : List Int) (g : Int), pairs2 l (gs ++ [g]) = (pairs2 l gs || (gs.any l && l g)) := by
  intro gs g
  induction gs with
  | nil => simp [pairs2]
  | cons x gs ih =>
    show ((l x && (gs ++ [g]).any l) || pairs2 l (gs ++ [g])) = (((l x && gs.any l) || pairs2 l gs) || ((l x || gs.any l) && l g))
    rw [ih, List.any_append]
    simp only [List.any_cons, List.any_nil, Bool.or_false]
    cases l x <;> cases gs.any l <;> cases pairs2 l gs <;> cases l g <;> rfl
theorem any_ext {fv : List Addr} {rest tl : Led} {c : Nat} {G G' : List Gate} {gs : List Int} (h : Grew fv rest c G G' tl) (hgs : ∀ g ∈ gs, GOk (G.length + 2) g) (ρ : Nat → Bool) : gs.any (lit (vals ρ G')) = gs.any (lit (vals ρ G)) := by
  rw [Bool.eq_iff_iff, List.any_eq_true, List.any_eq_true]
  exact ⟨fun ⟨p, hp, q⟩ => ⟨p, hp, by rw [← h.lit ρ (hgs p hp)]; exact q⟩, fun ⟨p, hp, q⟩ => ⟨p, hp, by rw [h.lit ρ (hgs p hp)]; exact q⟩⟩
section
variable {h₀ h : Heap} {L : Addr}
theorem News.openL {i t k1 k2 k3 k4 k5 d e5 e6 : Addr × Obj} {rest tl : Led} (N : News h₀ L h (i :: t :: k1 :: k2 :: k3 :: k4 :: k5 :: ((d :: rest) ++ tl))) (m5 : e5 ∈ rest) (m6 : e6 ∈ rest) :
    News h₀ L h (i :: t :: e5 :: e6 :: k1 :: k2 :: k3 :: k4 :: k5 :: d :: (rest ++ tl)) := News.sub (l := i :: t :: k1 :: k2 :: k3 :: k4 :: k5 :: ((d :: rest) ++ tl)) N (all_cons (mem_at 0 rfl) (all_cons (mem_at 1 rfl) (all_cons (sub_drop 8 rfl _ (List.mem_append_left _ m5)) (all_cons (sub_drop 8 rfl _ (List.mem_append_left _ m6)) (all_cons (mem_at 2 rfl) (all_cons (mem_at 3 rfl) (all_cons (mem_at 4 rfl) (all_cons (mem_at 5 rfl) (all_cons (mem_at 6 rfl) (all_cons (mem_at 7 rfl) (sub_drop 8 rfl)))))))))))
theorem News.closeL {i t k1 k2 k3 k4 k5 d e5 e6 : Addr × Obj} {rest tl : Led} (N : News h₀ L h (i :: t :: e5 :: e6 :: k1 :: k2 :: k3 :: k4 :: k5 :: d :: (rest ++ tl))) :
    News h₀ L h (k1 :: k2 :: k3 :: k4 :: k5 :: i :: t :: ((d :: rest) ++ tl)) := News.sub N (all_cons (mem_at 4 rfl) (all_cons (mem_at 5 rfl) (all_cons (mem_at 6 rfl) (all_cons (mem_at 7 rfl) (all_cons (mem_at 8 rfl) (all_cons (mem_at 0 rfl) (all_cons (mem_at 1 rfl) (all_cons (mem_at 9 rfl) (sub_drop 10 rfl)))))))))
theorem News.openL' {i t k1 k2 k3 k4 k5 d e5 e6 : Addr × Obj} {rest tl tl' : Led} (N : News h₀ L h (k1 :: k2 :: k3 :: k4 :: k5 :: ((i :: t :: ((d :: rest) ++ tl)) ++ tl'))) (m5 : e5 ∈ rest) (m6 : e6 ∈ rest) :
    News h₀ L h (i :: t :: e5 :: e6 :: k1 :: k2 :: k3 :: k4 :: k5 :: d :: (rest ++ (tl ++ tl'))) := News.sub (l := k1 :: k2 :: k3 :: k4 :: k5 :: ((i :: t :: ((d :: rest) ++ tl)) ++ tl')) N (all_cons (mem_at 5 rfl) (all_cons (mem_at 6 rfl) (all_cons (sub_drop 8 rfl _ (List.mem_append_left _ (List.mem_append_left _ m5))) (all_cons (sub_drop 8 rfl _ (List.mem_append_left _ (List.mem_append_left _ m6))) (all_cons (mem_at 0 rfl) (all_cons (mem_at 1 rfl) (all_cons (mem_at 2 rfl) (all_cons (mem_at 3 rfl) (all_cons (mem_at 4 rfl) (all_cons (mem_at 7 rfl) (all_app (sub_t sub_l (sub_t sub_l (sub_drop 8 rfl))) (all_app (sub_t sub_r (sub_t sub_l (sub_drop 8 rfl))) (sub_t sub_r (sub_drop 8 rfl))))))))))))))
theorem News.turnL {i t k1 k2 k3 k4 k5 d e5 e6 : Addr × Obj} {rest tl : Led} (N : News h₀ L h (i :: t :: e5 :: e6 :: k1 :: k2 :: k3 :: k4 :: k5 :: d :: (rest ++ tl))) :
    News h₀ L h (i :: t :: k1 :: k2 :: k3 :: k4 :: k5 :: ((d :: rest) ++ tl)) := News.sub N (all_cons (mem_at 0 rfl) (all_cons (mem_at 1 rfl) (all_cons (mem_at 4 rfl) (all_cons (mem_at 5 rfl) (all_cons (mem_at 6 rfl) (all_cons (mem_at 7 rfl) (all_cons (mem_at 8 rfl) (all_cons (mem_at 9 rfl) (sub_drop 10 rfl)))))))))
end
theorem off_loop {I TW b : Addr} {oI oT : Obj} {R0 tl : Led} {fv : List Addr} {c : Nat} {G G' : List Gate} (hI : b ≠ I) (hT : @Ne Nat TW b) (hR : ∀ p ∈ R0, p.1 ≠ b) (hg : Grew fv R0 c G G' tl) (hb : b ∈ fv) : ∀ p ∈ (I, oI) :: (TW, oT) :: (R0 ++ tl), p.1 ≠ b :=
  off_cons (Ne.symm hI) (off_cons hT (off_tl hR hg hb))
theorem Fr.named {h₀ h : Heap} {L : Addr} {m : Str → Option Value} (F : Fr h₀ L h m) : ∃ m', m' = m ∧ Fr h₀ L h m' := ⟨m, rfl, F⟩
local macro_rules | `(tactic| walk_at "call ref") => `(tactic| ((with_reducible show wpAny _ _ (call (Value.ref 73) _) _ _ _); refine Halt.mk ?_))
local macro_rules | `(tactic| walk_at "call ref") => `(tactic| ((with_reducible show wpAny _ _ (call (Value.ref 283) _) _ _ _); refine Halt.mk ?_))
local macro_rules | `(tactic| walk_at "call ref") => `(tactic| ((with_reducible show wpAny _ _ (call (Value.ref 290) _) _ _ _); refine Halt.mk ?_))
local macro_rules | `(tactic| walk_at "call ref") => `(tactic| ((with_reducible show wpAny _ _ (call (Value.ref 297) _) _ _ _); refine Halt.mk ?_))
local macro_rules | `(tactic| walk_at "exec For Name Call cons nil") => `(tactic| refine Halt.mk ?_)
local macro_rules | `(tactic| walk_at "exec For Name Call Attribute cons nil") => `(tactic| refine Halt.mk ?_)
local macro_rules | `(tactic| walk_at "TurnPost") => `(tactic| ((with_reducible show TurnPost _ _ _ _ _ _ _ (Flow.ret _) _); dsimp only [TurnPost]))
set_option pp.deepTerms false
set_option pp.deepTerms.threshold 3
theorem lone_c (w : World) {p : Program} {loose : List Str} {mean : ExcName → Option Value} {mg mb : Str → Option Value}
  {dp un : Nat} {gd : Option (List Code)} {cn : Str} {cs : Scope} {a : Addr} {ccd : Value} {cl : List (Str × Addr)} {outer : List Env} {A₀ : Around} {base h₀ : Heap} {L : Addr} {m : Str → Option Value} {s : Shared} {Q E : Value → Shared → Prop}
  {C dC kL pL nD : Addr} {t1 t2 t3 : Tok} {ks ps : Array Value} {xs : List KX} {n1 n2 n3 : Nat} {rest tps : Led} {G : List Gate} {Mk dM : Addr} {tc tn : Tok} {nv : Value} {nM : Nat} {Am mD : Addr} {ar : Int} {at' : Tok} {xs1 : List KX} {m1 : Nat}
  (hB : Below A₀ base outer h₀) (hF : Fr h₀ L s.heap m) (X : (hd.heap_1 w.params).In h₀)
  (hN : News h₀ L s.heap ((C, instObj 328 dC) :: (dC, circO w kL pL nD t1 t2 t3) :: (kL, W.listOf ks n1) :: (pL, W.listOf ps n2) :: (nD, knownO w xs n3) :: rest))
  (T : Top p loose mean mg mb h₀) (hk : cs.kind = .function)
  (o1 : LtN dC C) (o2 : LtN C kL) (o3 : LtN kL pL) (o4 : LtN pL nD) (r1 : ∀ p ∈ rest, p.1 ≠ C) (r2 : ∀ p ∈ rest, p.1 ≠ dC) (r3 : ∀ p ∈ rest, p.1 ≠ kL) (r4 : ∀ p ∈ rest, p.1 ≠ pL) (r5 : ∀ p ∈ rest, p.1 ≠ nD) (lo3 : (nD == sysModules) = false)
  (hc : CircOk G ks ps xs tps) (hsub : ∀ p ∈ tps, p ∈ rest) (hz : G.length ≤ 900)
  (hMk : (Mk, instObj 220 dM) ∈ rest) (hdM : (dM, dictOf [ent w "circuit" tc (.ref C), ent w "n" tn nv] nM) ∈ rest)
  (hA : (Am, tupO [.int ar at', .ref mD]) ∈ rest) (hD : (mD, matO w xs1 m1) ∈ rest) (loD : (mD == sysModules) = false) (hK : KeysAsc rest xs1) (hV : ValsOk (G.length + 2) xs1) (h4 : xs1.length ≤ 4)
  (hdp : dp + 5 < recursionLimit) (hun : un + 40 < cLine)
  (hret : ∀ (r : Int) (t : Tok) (h' : Heap) (tk' : Nat) (G' : List Gate) (ks' ps' : Array Value) (xs' : List KX) (n1' n2' n3' : Nat) (tl : Led), Fr h₀ L h' m →
    News h₀ L h' ((C, instObj 328 dC) :: (dC, circO w kL pL nD t1 t2 t3) :: (kL, W.listOf ks' n1') :: (pL, W.listOf ps' n2') :: (nD, knownO w xs' n3') :: (rest ++ tl)) →
    CircOk G' ks' ps' xs' (tps ++ tl) → Grew [C, dC, kL, pL, nD] rest 9 G G' tl → GOk (G'.length + 2) r → (∀ ρ, lit (vals ρ G') r = !pairs2 (lit (vals ρ G)) (xs1.map gateOf)) → Q (Value.int r t) { s with heap := h', toks := tk' }) :
  wpAny (model PP w) (ktrTop dp un gd cn cs L a ccd cl outer) (call (.ref 210) [.ref Mk, .ref Am]) Q E s := by
  have hN2 := News.opened2 hN hMk hdM
  refine wpAny_call ?_
  k_dflt ktr_enter
  k_steps
  rename_i gg LL h5a FG kB kX kT tk0 TW h4a l1 Dt h3a l1t h2a h1a h0a kF kN
  refine Halt.go (For_invV gg (by rfl) (by rfl) ?_)
  have kN1 := News.sub (l' := (TW, W.listOf #[] 0) :: _) kN fun p hp => List.Mem.tail _ hp
  clear kN
  k_steps
  refine Halt.go (gates_of_c w (nG := G.length + 2) kB kF kX kN1 kT (by rfl) (by repeat' (first | exact hA | apply List.Mem.tail)) (by repeat' (first | exact hD | apply List.Mem.tail)) loD (hK.mono fun p hp => by repeat' (first | exact hp | apply List.Mem.tail)) hV h4 (by show dp + 1 + 3 < recursionLimit; omega) (by show un + 3 + 24 < cLine; omega) fun D h₁ tk₁ e vs F₁ N₁ l2 hvs => ?_)
  have hDTW : @Ne Nat TW D := l2 _ (.head _)
  obtain ⟨mB, hmB, kF1⟩ := Fr.named F₁
  clear kF F₁
  obtain ⟨R0, hR0⟩ : ∃ R0, R0 = (D, W.listOf vs.toArray e) :: rest := ⟨_, rfl⟩
  have l2' : ∀ b ∈ ([C, dC, kL, pL, nD] : List Addr), @Ne Nat D b := fun b hb => by
    simp only [List.mem_cons, List.not_mem_nil, or_false] at hb
    rcases hb with q | q | q | q | q <;> rw [q]
    · exact Ne.symm (l2 _ (.tail _ (.tail _ (.tail _ (.head _)))))
    · exact Ne.symm (l2 _ (.tail _ (.tail _ (.tail _ (.tail _ (.head _))))))
    · exact Ne.symm (l2 _ (.tail _ (.tail _ (.tail _ (.tail _ (.tail _ (.head _)))))))
    · exact Ne.symm (l2 _ (.tail _ (.tail _ (.tail _ (.tail _ (.tail _ (.tail _ (.head _))))))))
    · exact Ne.symm (l2 _ (.tail _ (.tail _ (.tail _ (.tail _ (.tail _ (.tail _ (.tail _ (.head _)))))))))
  have l2r : ∀ q ∈ rest, q.1 ≠ D := fun q hq => l2 q (by repeat' (first | exact hq | apply List.Mem.tail))
  have q1 : ∀ p ∈ R0, p.1 ≠ C := by rw [hR0]; exact off_cons (l2' C (by simp)) r1
  have q2 : ∀ p ∈ R0, p.1 ≠ dC := by rw [hR0]; exact off_cons (l2' dC (by simp)) r2
  have q3 : ∀ p ∈ R0, p.1 ≠ kL := by rw [hR0]; exact off_cons (l2' kL (by simp)) r3
  have q4 : ∀ p ∈ R0, p.1 ≠ pL := by rw [hR0]; exact off_cons (l2' pL (by simp)) r4
  have q5 : ∀ p ∈ R0, p.1 ≠ nD := by rw [hR0]; exact off_cons (l2' nD (by simp)) r5
  have hTr : ∀ q ∈ rest, @Ne Nat q.1 TW := fun q hq => Nat.ne_of_lt (allLt_mem l1.2.2.2.2.2.2.2 q hq)
  have hR1 : ∀ p ∈ rest, p ∈ R0 := fun p hp => by rw [hR0]; exact .tail _ hp
  have N₂ : News gg LL h₁ ((TW, W.listOf #[] 0) :: ((C, instObj 328 dC) :: (dC, circO w kL pL nD t1 t2 t3) :: (kL, W.listOf ks n1) :: (pL, W.listOf ps n2) :: (nD, knownO w xs n3) :: R0)) := by
    rw [hR0]
    exact News.sub N₁ fun p hp => by
      simp only [List.mem_cons] at hp ⊢
      rcases hp with h | h | h | h | h | h | h | h <;> simp [h]
  obtain ⟨ts0, hts0⟩ : ∃ t, mB (Str.ofString "seen") = some (.int (-1) t) := ⟨_, by rw [hmB]; rfl⟩
  refine loop_list (l := D) (its := vs.toArray) (k := e) (m := mB)
    (fun i m₁ nx => ∃ (sn : Int) (ts : Tok) (u : Option Value) (G1 : List Gate) (ks1 ps1 : Array Value) (ys1 : List KX) (n11 n21 n31 : Nat) (tl1 : Led) (ys : List Value) (gs : List Int) (k : Nat),
      m₁ = (fun y => if y = Str.ofString "gate" then u else if y = Str.ofString "seen" then some (.int sn ts) else mB y) ∧ nx = (TW, W.listOf ys.toArray k) :: ((C, instObj 328 dC) :: (dC, circO w kL pL nD t1 t2 t3) :: (kL, W.listOf ks1 n11) :: (pL, W.listOf ps1 n21) :: (nD, knownO w ys1 n31) :: (R0 ++ tl1)) ∧ CircOk G1 ks1 ps1 ys1 (tps ++ tl1) ∧ Grew [C, dC, kL, pL, nD] R0 (i * 2) G G1 tl1 ∧ (∀ p ∈ tl1, p.1 ≠ TW) ∧
      IntsAre ys gs ∧ gs.length = i ∧ (∀ g ∈ gs, GOk (G1.length + 2) g) ∧ GOk (G1.length + 2) sn ∧ ∀ ρ, lit (vals ρ G1) sn = ((xs1.map gateOf).take i).any (lit (vals ρ G)) ∧ gs.any (lit (vals ρ G1)) = pairs2 (lit (vals ρ G)) ((xs1.map gateOf).take i))
    (by rfl) kF1 N₂ ⟨-1, ts0, mB (Str.ofString "gate"), G, ks, ps, xs, n1, n2, n3, [], [], [], 0, ?j0, by rw [List.append_nil], by rw [List.append_nil]; exact hc, by rw [Nat.zero_mul]; exact Grew.refl, (fun _ h => nomatch h), .nil, rfl, (fun _ h => nomatch h), GOk.mone, fun ρ => ⟨lit_m1 ρ G, rfl⟩⟩ ?held ?turn ?done
  case j0 =>
    funext y
    by_cases h1 : y = Str.ofString "gate"
    · rw [if_pos h1, h1]
    · rw [if_neg h1]
      by_cases h2 : y = Str.ofString "seen"
      · rw [if_pos h2, h2, hts0]
      · rw [if_neg h2]
  case held =>
    rintro i m₁ nx ⟨sn, ts, u, G1, ks1, ps1, ys1, n11, n21, n31, tl1, ys, gs, k, rfl, rfl, -⟩
    exact .tail _ (.tail _ (.tail _ (.tail _ (.tail _ (.tail _ (List.mem_append_left _ (by rw [hR0]; exact .head _)))))))
  case turn =>
    rintro I oI i v m₁ nx h tk₁ hi hv ⟨sn, ts, u, G1, ks1, ps1, ys1, n11, n21, n31, tl1, ys, gs, k, rfl, rfl, hc1, hg1, hTl, hys, hgl, hgs, hsn, hval⟩ hI hlt F₁ N₁
    obtain ⟨g, t, rfl, hgi⟩ := IntsAre.at hvs i _ (by simpa using hv)
    have hgm : g ∈ xs1.map gateOf := List.mem_of_getElem? hgi
    have hgok : GOk (G.length + 2) g := by
      obtain ⟨x, hx, rfl⟩ := List.mem_map.mp hgm
      exact hV.gate hx
    have hi4 : i < 4 := by
      have h1 : vs.toArray.size = xs1.length := by rw [List.size_toArray, hvs.length, List.length_map]
      omega
    have hl1 := hg1.len
    have hTI : @Ne Nat TW I := hI _ (.head _)
    have N₃ := News.openL (hR0 ▸ N₁) hMk hdM
    have hoT : ∀ p ∈ rest ++ tl1, p.1 ≠ TW := fun p hp => (List.mem_append.mp hp).elim (hTr p) (hTl p)
    have hI5 : ∀ b ∈ ([C, dC, kL, pL, nD] : List Addr), b ≠ I := fun b hb => by
      simp only [List.mem_cons, List.not_mem_nil, or_false] at hb
      rcases hb with q | q | q | q | q <;> rw [q]
      · exact hI _ (.tail _ (.head _))
      · exact hI _ (.tail _ (.tail _ (.head _)))
      · exact hI _ (.tail _ (.tail _ (.tail _ (.head _))))
      · exact hI _ (.tail _ (.tail _ (.tail _ (.tail _ (.head _)))))
      · exact hI _ (.tail _ (.tail _ (.tail _ (.tail _ (.tail _ (.head _))))))
    have hT5 : ∀ b ∈ ([C, dC, kL, pL, nD] : List Addr), @Ne Nat TW b := fun b hb => by
      simp only [List.mem_cons, List.not_mem_nil, or_false] at hb
      rcases hb with q | q | q | q | q <;> rw [q] <;> omega
    clear N₁ N₂ kN1
    subst hmB
    dsimp only
    k_steps
    rename Fr _ _ _ _ => kF3
    rename News _ _ _ _ => kN3
    refine Halt.go (both_c w (G := G1) (ks := ks1) (ps := ps1) (xs := ys1) (n1 := n11) (n2 := n21) (n3 := n31) (tps := tps ++ tl1) kB kF3 kX (News.closeL kN3) kT (by rfl) o1 o2 o3 o4 (off_loop (hI5 C (by simp)) (hT5 C (by simp)) (hR0 ▸ q1) (hR0 ▸ hg1) (by simp)) (off_loop (hI5 dC (by simp)) (hT5 dC (by simp)) (hR0 ▸ q2) (hR0 ▸ hg1) (by simp)) (off_loop (hI5 kL (by simp)) (hT5 kL (by simp)) (hR0 ▸ q3) (hR0 ▸ hg1) (by simp)) (off_loop (hI5 pL (by simp)) (hT5 pL (by simp)) (hR0 ▸ q4) (hR0 ▸ hg1) (by simp)) (off_loop (hI5 nD (by simp)) (hT5 nD (by simp)) (hR0 ▸ q5) (hR0 ▸ hg1) (by simp)) lo3
      hc1 (fun p hp => .tail _ (.tail _ (sub_tl (fun q hq => hR0 ▸ hR1 q (hsub q hq)) p hp))) (by omega) hsn (hg1.ok hgok) (by show dp + 1 + 3 < recursionLimit; omega) (by show un + 3 + 24 < cLine; omega) fun r t5 h₅ tk₅ G2 ks2 ps2 xs2 n12 n22 n32 tl2 F2 N2 hc2 hg2 hr2 hv2 => ?_)
    have N₄ := News.openL' N2 hMk hdM
    clear N2 kN3
    have hg12 : Grew [C, dC, kL, pL, nD] R0 (i * 2 + 1) G G2 (tl1 ++ tl2) := hg1.trans (hg2.sub fun p hp => .tail _ (.tail _ (hR0 ▸ hp))) (fun p hp => List.mem_append_left _ hp)
    have hl2 := hg12.len
    have hT2 : ∀ p ∈ tl2, p.1 ≠ TW := fun p hp => Ne.symm ((hg2.new p hp).2 _ (.tail _ (.head _)))
    have hI2 : ∀ p ∈ tl2, p.1 ≠ I := fun p hp => Ne.symm ((hg2.new p hp).2 _ (.head _))
    have hoT2 : ∀ p ∈ rest ++ (tl1 ++ tl2), p.1 ≠ TW := fun p hp => by
      rcases List.mem_append.mp hp with q | q
      · exact hTr p q
      · exact (List.mem_append.mp q).elim (hTl p) (hT2 p)
    k_steps
    rename Fr _ _ _ _ => kF4
    rename News _ _ _ _ => kN4
    have hc2' : CircOk G2 ks2 ps2 xs2 (tps ++ (tl1 ++ tl2)) := by rw [← List.append_assoc]; exact hc2
    refine Halt.go (either_c w (G := G2) (ks := ks2) (ps := ps2) (xs := xs2) (n1 := n12) (n2 := n22) (n3 := n32) (tps := tps ++ (tl1 ++ tl2)) kB kF4 kX (News.closeL kN4) kT (by rfl) o1 o2 o3 o4 (off_loop (hI5 C (by simp)) (hT5 C (by simp)) (hR0 ▸ q1) (hR0 ▸ hg12) (by simp)) (off_loop (hI5 dC (by simp)) (hT5 dC (by simp)) (hR0 ▸ q2) (hR0 ▸ hg12) (by simp)) (off_loop (hI5 kL (by simp)) (hT5 kL (by simp)) (hR0 ▸ q3) (hR0 ▸ hg12) (by simp)) (off_loop (hI5 pL (by simp)) (hT5 pL (by simp)) (hR0 ▸ q4) (hR0 ▸ hg12) (by simp)) (off_loop (hI5 nD (by simp)) (hT5 nD (by simp)) (hR0 ▸ q5) (hR0 ▸ hg12) (by simp)) lo3
      hc2' (fun p hp => .tail _ (.tail _ (sub_tl (fun q hq => hR0 ▸ hR1 q (hsub q hq)) p hp))) (by omega) (hg2.ok hsn) (hg12.ok hgok) (by show dp + 1 + 3 < recursionLimit; omega) (by show un + 3 + 24 < cLine; omega) fun r' t6 h₆ tk₆ G3 ks3 ps3 xs3 n13 n23 n33 tl3 F3 N3 hc3 hg3 hr3 hv3 => ?_)
    have N₅ := News.openL' N3 hMk hdM
    clear N3 kN4
    have hg13 : Grew [C, dC, kL, pL, nD] R0 ((i + 1) * 2) G G3 (tl1 ++ tl2 ++ tl3) := (hg12.trans (hg3.sub fun p hp => .tail _ (.tail _ (hR0 ▸ hp))) (fun p hp => List.mem_append_left _ hp)).up (by omega)
    have hT3 : ∀ p ∈ tl3, p.1 ≠ TW := fun p hp => Ne.symm ((hg3.new p hp).2 _ (.tail _ (.head _)))
    have hI3 : ∀ p ∈ tl3, p.1 ≠ I := fun p hp => Ne.symm ((hg3.new p hp).2 _ (.head _))
    k_steps
    rename Fr _ _ _ _ => kF6
    rename News _ _ _ _ => kN6
    have kN7 := News.turnL kN6
    refine TurnPost.next (oI := oI) ((TW, W.listOf (ys ++ [Value.int r t5]).toArray (k + 1)) :: ((C, instObj 328 dC) :: (dC, circO w kL pL nD t1 t2 t3) :: (kL, W.listOf ks3 n13) :: (pL, W.listOf ps3 n23) :: (nD, knownO w xs3 n33) :: (R0 ++ (tl1 ++ tl2 ++ tl3)))) kF6 ?_ (fun p hp => ?_) ⟨r', t6, some (.int g t), G3, ks3, ps3, xs3, n13, n23, n33, tl1 ++ tl2 ++ tl3, ys ++ [Value.int r t5], gs ++ [r], k + 1, ?_, rfl, hc3.mono fun p hp => ?_, hg13, fun p hp => ?_, ints_snoc hys, ?_, fun p hp => ?_, hr3, fun ρ => ?_⟩
    · rw [hR0, show (ys ++ [Value.int r t5]).toArray = ys.toArray.push (.int r t5) by simp]
      exact kN7
    · rcases List.mem_cons.mp hp with rfl | hp
      · exact hTI
      rcases List.mem_cons.mp hp with rfl | hp
      · exact hI5 _ (by simp)
      rcases List.mem_cons.mp hp with rfl | hp
      · exact hI5 _ (by simp)
      rcases List.mem_cons.mp hp with rfl | hp
      · exact hI5 _ (by simp)
      rcases List.mem_cons.mp hp with rfl | hp
      · exact hI5 _ (by simp)
      rcases List.mem_cons.mp hp with rfl | hp
      · exact hI5 _ (by simp)
      rcases List.mem_append.mp hp with hp | hp
      · exact hI p (.tail _ (.tail _ (.tail _ (.tail _ (.tail _ (.tail _ (List.mem_append_left _ (hR0 ▸ hp))))))))
      rcases List.mem_append.mp hp with hp | hp
      · rcases List.mem_append.mp hp with hp | hp
        · exact hI p (.tail _ (.tail _ (.tail _ (.tail _ (.tail _ (.tail _ (List.mem_append_right _ hp)))))))
        · exact hI2 p hp
      · exact hI3 p hp
    · funext y
      by_cases h1 : y = Str.ofString "gate"
      · subst h1; rfl
      · by_cases h2 : y = Str.ofString "seen"
        · subst h2; rfl
        · simp only [h1, h2, if_false]
    · simp only [List.mem_append] at hp ⊢
      rcases hp with (hp | hp | hp) | hp <;> simp [hp]
    · rcases List.mem_append.mp hp with hp | hp
      · exact (List.mem_append.mp hp).elim (hTl p) (hT2 p)
      · exact hT3 p hp
    · rw [List.length_append, List.length_singleton, hgl]
    · rcases List.mem_append.mp hp with hp | hp
      · exact hg3.ok (hg2.ok (hgs p hp))
      · rw [List.mem_singleton.mp hp]; exact hg3.ok hr2
    · have hsum : (xs1.map gateOf).take (i + 1) = (xs1.map gateOf).take i ++ [g] := by rw [List.take_add_one, hgi]; rfl
      obtain ⟨hv1, hv1'⟩ := hval ρ
      constructor
      · rw [hv3 ρ, hsum, List.any_append, hg2.lit ρ hsn, hv1, hg12.lit ρ hgok]
        simp
      · rw [List.any_append, any_ext hg3 (fun q hq => hg2.ok (hgs q hq)) ρ, any_ext hg2 hgs ρ, hv1', hsum, pairs2_snoc]
        simp only [List.any_cons, List.any_nil, Bool.or_false]
        rw [hg3.lit ρ hr2, hv2 ρ, hv1, hg1.lit ρ hgok]
  case done =>
    rintro m₁ nx h tk₁ ⟨sn, ts, u, G1, ks1, ps1, ys1, n11, n21, n31, tl1, ys, gs, k, rfl, rfl, hc1, hg1, hTl, hys, hgl, hgs, hsn, hval⟩ F₁ N₁
    have hlen : vs.toArray.size = xs1.length := by rw [List.size_toArray, hvs.length, List.length_map]
    rw [hlen] at hgl hg1 hval
    have htk : (xs1.map gateOf).take xs1.length = xs1.map gateOf := by rw [← List.length_map (f := gateOf), List.take_length]
    rw [htk] at hval
    have hl1 := hg1.len
    have hT5 : ∀ b ∈ ([C, dC, kL, pL, nD] : List Addr), @Ne Nat TW b := fun b hb => by
      simp only [List.mem_cons, List.not_mem_nil, or_false] at hb
      rcases hb with q | q | q | q | q <;> rw [q] <;> omega
    have N₃ : News gg LL h ((TW, W.listOf ys.toArray k) :: (Mk, instObj 220 dM) :: (dM, dictOf [ent w "circuit" tc (.ref C), ent w "n" tn nv] nM) :: ((C, instObj 328 dC) :: (dC, circO w kL pL nD t1 t2 t3) :: (kL, W.listOf ks1 n11) :: (pL, W.listOf ps1 n21) :: (nD, knownO w ys1 n31) :: (R0 ++ tl1))) := by
      intro p hp
      rcases List.mem_cons.mp hp with rfl | hp
      · exact N₁ _ (.head _)
      rcases List.mem_cons.mp hp with rfl | hp
      · exact N₁ _ (.tail _ (.tail _ (.tail _ (.tail _ (.tail _ (.tail _ (List.mem_append_left _ (hR1 _ hMk))))))))
      rcases List.mem_cons.mp hp with rfl | hp
      · exact N₁ _ (.tail _ (.tail _ (.tail _ (.tail _ (.tail _ (.tail _ (List.mem_append_left _ (hR1 _ hdM))))))))
      · exact N₁ _ (.tail _ hp)
    clear N₁ N₂ kN1
    subst hmB
    dsimp only
    k_steps
    rename Fr _ _ _ _ => kF3
    rename News _ _ _ _ => kN3
    have N₄ := News.drop2 kN3
    refine Halt.go (any_of_c w (gt := TW) (vs := ys) (k := k) (gs := gs) (tps := tps ++ tl1) kB kF3 kX N₄ kT (by rfl) o1 o2 o3 o4 (off_cons (hT5 C (by simp)) (off_tl q1 hg1 (by simp))) (off_cons (hT5 dC (by simp)) (off_tl q2 hg1 (by simp))) (off_cons (hT5 kL (by simp)) (off_tl q3 hg1 (by simp))) (off_cons (hT5 pL (by simp)) (off_tl q4 hg1 (by simp))) (off_cons (hT5 nD (by simp)) (off_tl q5 hg1 (by simp))) lo3
      hc1 (fun p hp => .tail _ (sub_tl (fun q hq => hR1 q (hsub q hq)) p hp)) (by omega) (.head _) hys hgs (by omega) (by show dp + 1 + 3 < recursionLimit; omega) (by show un + 3 + 24 < cLine; omega) fun r t h₂ tk₂ G2 ks2 ps2 xs2 n12 n22 n32 tl2 F2 N2 hc2 hg2 hr2 hv2 => ?_)
    k_steps
    rename Fr _ _ _ m => kF5
    rename News _ L _ _ => kN5
    refine hret (-r) _ _ _ G2 ks2 ps2 xs2 n12 n22 n32 ((TW, W.listOf ys.toArray k) :: (D, W.listOf vs.toArray e) :: (tl1 ++ tl2)) kF5 (News.sub (l := ((C, instObj 328 dC) :: (dC, circO w kL pL nD t1 t2 t3) :: (kL, W.listOf ks2 n12) :: (pL, W.listOf ps2 n22) :: (nD, knownO w xs2 n32) :: (((TW, W.listOf ys.toArray k) :: (R0 ++ tl1)) ++ tl2))) kN5 fun p hp => ?_) (hc2.mono fun p hp => ?_)
      (Grew.cons (Grew.cons (((hg1.trans (hg2.sub fun p hp => .tail _ hp) (fun p hp => List.mem_append_left _ hp)).sub hR1).up (by omega)) l2' l2r) hT5 hTr) hr2.neg fun ρ => ?_
    · simp only [hR0, List.mem_cons, List.mem_append] at hp ⊢
      rcases hp with hp | hp | hp | hp | hp | hp | hp | hp | hp | hp <;> simp [hp]
    · simp only [List.mem_append, List.mem_cons] at hp ⊢
      rcases hp with (hp | hp) | hp <;> simp [hp]
    · rw [lit_neg hr2.1, hv2 ρ, (hval ρ).2]
end Mine
end
section
open PySem PySem.W PyProof.Rows PySem.Calls
set_option maxRecDepth 100000
set_option maxHeartbeats 4000000
set_option linter.unusedVariables false
namespace Mine
theorem off18 : True := by
  w_top off
  trivial
local macro_rules | `(tactic| omega) => `(tactic| omega (config := {}))
section
variable {h₀ h : Heap} {L : Addr}
theorem News.reopen {e5 e6 k1 k2 k3 k4 k5 : Addr × Obj} {rest tl : Led} (N : News h₀ L h (k1 :: k2 :: k3 :: k4 :: k5 :: (rest ++ tl))) (m5 : e5 ∈ rest) (m6 : e6 ∈ rest) :
    News h₀ L h (e5 :: e6 :: k1 :: k2 :: k3 :: k4 :: k5 :: (rest ++ tl)) := News.opened2 N (List.mem_append_left _ m5) (List.mem_append_left _ m6)
end
theorem pairs2_ext {l l' : Int → Bool} : ∀ {gs : List Int}, (∀ g ∈ gs, l g = l' g) → pairs2 l gs = pairs2 l' gs
  | [], _ => rfl
  | g :: gs, h => by
    have h1 : gs.any l = gs.any l' := by
      rw [Bool.eq_iff_iff, List.any_eq_true, List.any_eq_true]
      exact ⟨fun ⟨p, hp, q⟩ => ⟨p, hp, by rw [← h p (.tail _ hp)]; exact q⟩, fun ⟨p, hp, q⟩ => ⟨p, hp, by rw [h p (.tail _ hp)]; exact q⟩⟩
    show ((l g && gs.any l) || pairs2 l gs) = ((l' g && gs.any l') || pairs2 l' gs)
    rw [h g (.head _), h1, pairs2_ext fun g hg => h g (.tail _ hg)]
theorem KeysAsc.app {rest tl : Led} {xs : List KX} (h : KeysAsc rest xs) : KeysAsc (rest ++ tl) xs := h.mono fun p hp => List.mem_append_left _ hp
local macro_rules | `(tactic| walk_at "call ref") => `(tactic| ((with_reducible show wpAny _ _ (call (Value.ref 196) _) _ _ _); refine Halt.mk ?_))
local macro_rules | `(tactic| walk_at "call ref") => `(tactic| ((with_reducible show wpAny _ _ (call (Value.ref 210) _) _ _ _); refine Halt.mk ?_))
local macro_rules | `(tactic| walk_at "call ref") => `(tactic| ((with_reducible show wpAny _ _ (call (Value.ref 290) _) _ _ _); refine Halt.mk ?_))
set_option pp.deepTerms false
set_option pp.deepTerms.threshold 3
theorem no_c (w : World) {p : Program} {loose : List Str} {mean : ExcName → Option Value} {mg mb : Str → Option Value}
  {dp un : Nat} {gd : Option (List Code)} {cn : Str} {cs : Scope} {a : Addr} {ccd : Value} {cl : List (Str × Addr)} {outer : List Env} {A₀ : Around} {base h₀ : Heap} {L : Addr} {m : Str → Option Value} {s : Shared} {Q E : Value → Shared → Prop}
  {C dC kL pL nD : Addr} {t1 t2 t3 : Tok} {ks ps : Array Value} {xs : List KX} {n1 n2 n3 : Nat} {rest tps : Led} {G : List Gate} {Mk dM : Addr} {tc tn : Tok} {nv : Value} {nM : Nat} {Am mD : Addr} {ar : Int} {at' : Tok} {xs1 : List KX} {m1 : Nat}
  (hB : Below A₀ base outer h₀) (hF : Fr h₀ L s.heap m) (X : (hd.heap_1 w.params).In h₀)
  (hN : News h₀ L s.heap ((C, instObj 328 dC) :: (dC, circO w kL pL nD t1 t2 t3) :: (kL, W.listOf ks n1) :: (pL, W.listOf ps n2) :: (nD, knownO w xs n3) :: rest))
  (T : Top p loose mean mg mb h₀) (hk : cs.kind = .function)
  (o1 : LtN dC C) (o2 : LtN C kL) (o3 : LtN kL pL) (o4 : LtN pL nD) (r1 : ∀ p ∈ rest, p.1 ≠ C) (r2 : ∀ p ∈ rest, p.1 ≠ dC) (r3 : ∀ p ∈ rest, p.1 ≠ kL) (r4 : ∀ p ∈ rest, p.1 ≠ pL) (r5 : ∀ p ∈ rest, p.1 ≠ nD) (lo3 : (nD == sysModules) = false)
  (hc : CircOk G ks ps xs tps) (hsub : ∀ p ∈ tps, p ∈ rest) (hz : G.length ≤ 900)
  (hMk : (Mk, instObj 220 dM) ∈ rest) (hdM : (dM, dictOf [ent w "circuit" tc (.ref C), ent w "n" tn nv] nM) ∈ rest)
  (hA : (Am, tupO [.int ar at', .ref mD]) ∈ rest) (hD : (mD, matO w xs1 m1) ∈ rest) (loD : (mD == sysModules) = false) (hK : KeysAsc rest xs1) (hV : ValsOk (G.length + 2) xs1) (h4 : xs1.length ≤ 4)
  (hdp : dp + 6 < recursionLimit) (hun : un + 48 < cLine)
  (hret : ∀ (r : Int) (t : Tok) (h' : Heap) (tk' : Nat) (G' : List Gate) (ks' ps' : Array Value) (xs' : List KX) (n1' n2' n3' : Nat) (tl : Led), Fr h₀ L h' m →
    News h₀ L h' ((C, instObj 328 dC) :: (dC, circO w kL pL nD t1 t2 t3) :: (kL, W.listOf ks' n1') :: (pL, W.listOf ps' n2') :: (nD, knownO w xs' n3') :: (rest ++ tl)) →
    CircOk G' ks' ps' xs' (tps ++ tl) → Grew [C, dC, kL, pL, nD] rest 1 G G' tl → GOk (G'.length + 2) r → (∀ ρ, lit (vals ρ G') r = !xs1.any fun x => lit (vals ρ G) (gateOf x)) → Q (Value.int r t) { s with heap := h', toks := tk' }) :
  wpAny (model PP w) (ktrTop dp un gd cn cs L a ccd cl outer) (call (.ref 203) [.ref Mk, .ref Am]) Q E s := by
  have hN2 := News.opened2 hN hMk hdM
  refine wpAny_call ?_
  k_dflt ktr_enter
  k_steps
  rename Below (ktrTop ..) _ _ _ => kB
  rename Fr _ _ _ (fun y => List.lookup y _) => kF
  rename News _ _ _ (_ :: _) => kN
  rename Top _ _ _ _ _ _ => kT
  rename (hd.heap_1 _).In _ => kX
  refine Halt.go (some_c w kB kF kX (News.drop2' kN) kT (by rfl) o1 o2 o3 o4 r1 r2 r3 r4 r5 lo3 hc hsub hz hMk hdM hA hD loD hK hV h4 (by show dp + 1 + 5 < recursionLimit; omega) (by show un + 3 + 40 < cLine; omega) fun r t h₂ tk₂ G2 ks2 ps2 xs2 n12 n22 n32 tl2 F2 N2 hc2 hg2 hr2 hv2 => ?_)
  k_steps
  rename Fr _ _ _ m => kF5
  rename News _ L _ _ => kN5
  exact hret (-r) _ _ _ G2 ks2 ps2 xs2 n12 n22 n32 tl2 kF5 kN5 hc2 hg2 hr2.neg fun ρ => by rw [lit_neg hr2.1, hv2 ρ]
theorem one_c (w : World) {p : Program} {loose : List Str} {mean : ExcName → Option Value} {mg mb : Str → Option Value}
  {dp un : Nat} {gd : Option (List Code)} {cn : Str} {cs : Scope} {a : Addr} {ccd : Value} {cl : List (Str × Addr)} {outer : List Env} {A₀ : Around} {base h₀ : Heap} {L : Addr} {m : Str → Option Value} {s : Shared} {Q E : Value → Shared → Prop}
  {C dC kL pL nD : Addr} {t1 t2 t3 : Tok} {ks ps : Array Value} {xs : List KX} {n1 n2 n3 : Nat} {rest tps : Led} {G : List Gate} {Mk dM : Addr} {tc tn : Tok} {nv : Value} {nM : Nat} {Am mD : Addr} {ar : Int} {at' : Tok} {xs1 : List KX} {m1 : Nat}
  (hB : Below A₀ base outer h₀) (hF : Fr h₀ L s.heap m) (X : (hd.heap_1 w.params).In h₀)
  (hN : News h₀ L s.heap ((C, instObj 328 dC) :: (dC, circO w kL pL nD t1 t2 t3) :: (kL, W.listOf ks n1) :: (pL, W.listOf ps n2) :: (nD, knownO w xs n3) :: rest))
  (T : Top p loose mean mg mb h₀) (hk : cs.kind = .function)
  (o1 : LtN dC C) (o2 : LtN C kL) (o3 : LtN kL pL) (o4 : LtN pL nD) (r1 : ∀ p ∈ rest, p.1 ≠ C) (r2 : ∀ p ∈ rest, p.1 ≠ dC) (r3 : ∀ p ∈ rest, p.1 ≠ kL) (r4 : ∀ p ∈ rest, p.1 ≠ pL) (r5 : ∀ p ∈ rest, p.1 ≠ nD) (lo3 : (nD == sysModules) = false)
  (hc : CircOk G ks ps xs tps) (hsub : ∀ p ∈ tps, p ∈ rest) (hz : G.length ≤ 890)
  (hMk : (Mk, instObj 220 dM) ∈ rest) (hdM : (dM, dictOf [ent w "circuit" tc (.ref C), ent w "n" tn nv] nM) ∈ rest)
  (hA : (Am, tupO [.int ar at', .ref mD]) ∈ rest) (hD : (mD, matO w xs1 m1) ∈ rest) (loD : (mD == sysModules) = false) (hK : KeysAsc rest xs1) (hV : ValsOk (G.length + 2) xs1) (h4 : xs1.length ≤ 4)
  (hdp : dp + 6 < recursionLimit) (hun : un + 48 < cLine)
  (hret : ∀ (r : Int) (t : Tok) (h' : Heap) (tk' : Nat) (G' : List Gate) (ks' ps' : Array Value) (xs' : List KX) (n1' n2' n3' : Nat) (tl : Led), Fr h₀ L h' m →
    News h₀ L h' ((C, instObj 328 dC) :: (dC, circO w kL pL nD t1 t2 t3) :: (kL, W.listOf ks' n1') :: (pL, W.listOf ps' n2') :: (nD, knownO w xs' n3') :: (rest ++ tl)) →
    CircOk G' ks' ps' xs' (tps ++ tl) → Grew [C, dC, kL, pL, nD] rest 11 G G' tl → GOk (G'.length + 2) r → (∀ ρ, lit (vals ρ G') r = ((xs1.any fun x => lit (vals ρ G) (gateOf x)) && !pairs2 (lit (vals ρ G)) (xs1.map gateOf))) → Q (Value.int r t) { s with heap := h', toks := tk' }) :
  wpAny (model PP w) (ktrTop dp un gd cn cs L a ccd cl outer) (call (.ref 217) [.ref Mk, .ref Am]) Q E s := by
  have hN2 := News.opened2 hN hMk hdM
  refine wpAny_call ?_
  k_dflt ktr_enter
  k_steps
  rename Below (ktrTop ..) _ _ _ => kB
  rename Fr _ _ _ (fun y => List.lookup y _) => kF
  rename News _ _ _ (_ :: _) => kN
  rename Top _ _ _ _ _ _ => kT
  rename (hd.heap_1 _).In _ => kX
  refine Halt.go (some_c w kB kF kX (News.drop2' kN) kT (by rfl) o1 o2 o3 o4 r1 r2 r3 r4 r5 lo3 hc hsub (by omega) hMk hdM hA hD loD hK hV h4 (by show dp + 1 + 5 < recursionLimit; omega) (by show un + 3 + 40 < cLine; omega) fun ra ta ha tka Ga ksa psa xsa n1a n2a n3a tla Fa Na hca hga hra hva => ?_)
  have r1a := off_tl r1 hga (by simp)
  have r2a := off_tl r2 hga (by simp)
  have r3a := off_tl r3 hga (by simp)
  have r4a := off_tl r4 hga (by simp)
  have r5a := off_tl r5 hga (by simp)
  have hla := hga.len
  have Nb := News.reopen Na hMk hdM
  clear Na kN
  k_steps
  rename Fr _ _ _ _ => kFb
  rename News _ _ _ _ => kNb
  have hap : ∀ p ∈ rest, p ∈ rest ++ tla := fun p hp => List.mem_append_left _ hp
  refine Halt.go (lone_c w kB kFb kX (News.drop2' kNb) kT (by rfl) o1 o2 o3 o4 r1a r2a r3a r4a r5a lo3 hca (sub_tl hsub) (by omega) (hap _ hMk) (hap _ hdM) (hap _ hA) (hap _ hD) loD hK.app (hV.up (by omega)) h4 (by show dp + 1 + 5 < recursionLimit; omega) (by show un + 3 + 40 < cLine; omega) fun rb tb hb tkb Gb ksb psb xsb n1b n2b n3b tlb Fb Nb hcb hgb hrb hvb => ?_)
  have r1b := off_tl r1a hgb (by simp)
  have r2b := off_tl r2a hgb (by simp)
  have r3b := off_tl r3a hgb (by simp)
  have r4b := off_tl r4a hgb (by simp)
  have r5b := off_tl r5a hgb (by simp)
  have hlb := hgb.len
  clear kNb
  k_steps
  rename Fr _ _ _ _ => kFc
  rename News _ _ _ _ => kNc
  refine Halt.go (both_c w kB kFc kX kNc kT (by rfl) o1 o2 o3 o4 r1b r2b r3b r4b r5b lo3 hcb (sub_tl (sub_tl hsub)) (by omega) (hgb.ok hra) hrb (by show dp + 1 + 3 < recursionLimit; omega) (by show un + 3 + 24 < cLine; omega) fun r t h₂ tk₂ G2 ks2 ps2 xs2 n12 n22 n32 tl2 F2 N2 hc2 hg2 hr2 hv2 => ?_)
  k_steps
  rename Fr _ _ _ m => kF5
  rename News _ L _ _ => kN5
  have hgf := hga.trans (hgb.trans hg2 fun p hp => List.mem_append_left _ hp) fun p hp => List.mem_append_left _ hp
  simp only [List.append_assoc] at kN5 hc2 hgf
  refine hret r t _ _ G2 ks2 ps2 xs2 n12 n22 n32 _ kF5 kN5 hc2 hgf hr2 fun ρ => ?_
  rw [hv2 ρ, hgb.lit ρ hra, hva ρ, hvb ρ]
  congr 2
  exact pairs2_ext fun g hg => hga.lit ρ (by obtain ⟨x, hx, rfl⟩ := List.mem_map.mp hg; exact hV.gate hx)
end Mine
end
section
open PySem PySem.W PyProof.Rows PySem.Calls
set_option maxRecDepth 100000
set_option maxHeartbeats 4000000
set_option linter.unusedVariables false
namespace Mine
theorem off19 : True := by
  w_top off
  trivial
local macro_rules | `(tactic| walk_at "none such") => `(tactic| skip)
noncomputable abbrev SK (w : World) : PySem.KeyKind PP w Str := PySem.strKind PP w
noncomputable abbrev tapeKvs (CL : Addr) (sp : Nat) (t : Tok) : List (Str × Value) := [(Str.ofString "cells", .ref CL), (Str.ofString "spot", .int sp t)]
section
variable {w : World} {A : Around} {E : Value → Shared → Prop} {s : Shared} {h₀ : Heap} {L : Addr} {m : Str → Option Value} {news : Led} {d : Addr} {od : Obj} {kvs : List (Str × Value)}
theorem str_dict (N : News h₀ L s.heap news) (hm : (d, od) ∈ news) (hd : od.IsDictOf (SK w) kvs) : s.heap.DictOf (SK w) d kvs :=
  Heap.dictOf_iff.mpr ⟨od, (N _ hm).1, hd⟩
theorem str_item {k : Str} {t : Tok} {v : Value} {value slice : Expr} {Q : Value → Shared → Prop} (N : News h₀ L s.heap news) (hm : (d, od) ∈ news) (hd : od.IsDictOf (SK w) kvs) (hv : valueAt kvs k = some v)
    (h : ∀ tk, Q v { s with toks := tk })
    (hs : subscripted slice false (.ref d) (.str k t) = operate [.ref d, .str k t] (getItem (.ref d) (.str k t)) := by with_unfolding_all rfl) : wpAny (model PP w) A (subscriptTail value slice (.ref d) (.str k t)) Q E s :=
  have hdd := str_dict N hm hd
  tail_any hdd.mapOf.typeIs slot_dict_getitem.lookup (wpAny_getItem_of (knd := SK w) (k := k) (strKind_is _ _ k t) hdd.mapOf hv (h _)) hs
theorem str_set {k : Str} {t : Tok} {v : Value} {Q : Unit → Shared → Prop} {g : Obj → Led} (F : Fr h₀ L s.heap m) (N : News h₀ L s.heap news) (U : UpdF d od news g) (hd : od.IsDictOf (SK w) kvs) (hz : kvs.length ≤ 1000)
    (h : ∀ h' o' tk, Fr h₀ L h' m → News h₀ L h' (g o') → o'.IsDictOf (SK w) (stored kvs k v) → Q () { s with heap := h', toks := tk }) :
    wpAny (model PP w) A (setItem (.ref d) (.str k t) v) Q E s := by
  obtain ⟨pre, post, rfl, hg, a, b⟩ := U.split
  have hmem := N (d, od) (List.mem_append_right _ (.head _))
  refine wpAny_setItem_pairs (knd := SK w) (k := k) (strKind_is _ _ k t) (str_dict N (List.mem_append_right _ (.head _)) hd) (fun h' hd' hs => ?_) (by rw [sizeLine_eq]; omega)
  obtain ⟨o', ho', hd''⟩ := Heap.dictOf_iff.mp hd'
  exact h h' o' _ (F.change hs hmem.2.1 hmem.2.2) (hg o' ▸ news_set N a b hs ho') hd''
end
local macro_rules | `(tactic| walk_at "subscriptTail") => `(tactic| ((with_reducible show wpAny _ _ (subscriptTail _ _ (Value.ref _) (Value.str _ _)) _ _ _); refine Halt.mk ?_))
local macro_rules | `(tactic| walk_at "setItem ref str") => `(tactic| refine Halt.mk ?_)
local macro_rules | `(tactic| walk_at "call builtin:len") => `(tactic| refine Halt.mk ?_)
set_option pp.deepTerms false
set_option pp.deepTerms.threshold 3
theorem draw_c (w : World) {p : Program} {loose : List Str} {mean : ExcName → Option Value} {mg mb : Str → Option Value}
  {dp un : Nat} {gd : Option (List Code)} {cn : Str} {cs : Scope} {a : Addr} {ccd : Value} {cl : List (Str × Addr)} {outer : List Env} {A₀ : Around} {base h₀ : Heap} {L : Addr} {m : Str → Option Value} {s : Shared} {Q E : Value → Shared → Prop}
  {tp CL : Addr} {oT : Obj} {cv : List Value} {cs' : List Int} {sp nc : Nat} {tsp tm : Tok} {many : Int} {rest : Led}
  (hB : Below A₀ base outer h₀) (hF : Fr h₀ L s.heap m) (X : (hd.heap_1 w.params).In h₀)
  (hN : News h₀ L s.heap ((tp, oT) :: rest))
  (T : Top p loose mean mg mb h₀) (hk : cs.kind = .function)
  (hTP : oT.IsDictOf (SK w) (tapeKvs CL sp tsp)) (hoff : ∀ p ∈ rest, p.1 ≠ tp) (hCL : (CL, W.listOf cv.toArray nc) ∈ rest) (hcv : IntsAre cv cs') (h24 : cs'.length ≤ 24) (hsp : sp ≤ 1000) (hm0 : 0 < many)
  (hdp : dp + 2 < recursionLimit) (hun : un + 16 < cLine)
  (hret : ∀ (r : Int) (t : Tok) (h' : Heap) (tk' : Nat) (oT' : Obj) (t' : Tok), 0 ≤ r → r < many → Fr h₀ L h' m → News h₀ L h' ((tp, oT') :: rest) → oT'.IsDictOf (SK w) (tapeKvs CL (sp + 1) t') → Q (.int r t) { s with heap := h', toks := tk' }) :
  wpAny (model PP w) (ktrTop dp un gd cn cs L a ccd cl outer) (call (.ref 339) [.ref tp, .int many tm]) Q E s := by
  have hN2 : News h₀ L s.heap ((tp, oT) :: (CL, W.listOf cv.toArray nc) :: rest) := by
    intro p hp
    rcases List.mem_cons.mp hp with rfl | hp
    · exact hN _ (.head _)
    rcases List.mem_cons.mp hp with rfl | hp
    · exact hN _ (.tail _ hCL)
    · exact hN _ (.tail _ hp)
  have hCT : @Ne Nat CL tp := hoff _ hCL
  clear hN
  refine wpAny_call ?_
  k_dflt ktr_enter
  k_steps
  rename Fr _ _ _ _ => kF
  rename News _ _ _ _ => kN
  refine Halt.go (str_item kN (by repeat' constructor) hTP (v := .int sp tsp) (by rfl) fun tk₁ => ?_)
  k_steps
  rename Fr _ _ _ _ => kF2
  rename News _ _ _ _ => kN2
  refine Halt.go (str_set kF2 kN2 (by k_updF) hTP (by show 2 ≤ 1000; omega) fun h₂ oT₂ tk₂ F₂ N₂ hT₂ => ?_)
  have hT₃ : ∀ v, oT₂.IsDictOf (SK w) (stored (tapeKvs CL sp tsp) (Str.ofString "spot") v) → oT₂.IsDictOf (SK w) [(Str.ofString "cells", .ref CL), (Str.ofString "spot", v)] := fun v h => h
  have hT₄ := hT₃ _ hT₂
  k_steps
  refine Halt.go (str_item N₂ (by repeat' constructor) hT₄ (v := .ref CL) (by rfl) fun tk₃ => ?_)
  k_steps
  have hcl : cv.length = cs'.length := hcv.length
  refine Halt.go (len_L N₂ (.tail _ (.head _)) (by rw [List.size_toArray]; omega) fun t₄ tk₄ => ?_)
  have hm1 : many ≠ 0 := by omega
  have hfin : ∀ (x : Int) (t t' : Tok) (h' : Heap) (tk' : Nat) (oT' : Obj), Fr h₀ L h' m → News h₀ L h' ((tp, oT') :: (CL, W.listOf cv.toArray nc) :: rest) → oT'.IsDictOf (SK w) (tapeKvs CL (sp + 1) t') → Q (.int (Int.fmod x many) t) { s with heap := h', toks := tk' } := fun x t t' h' tk' oT' F' N' hT' =>
    hret _ t h' tk' oT' t' (Int.fmod_nonneg_of_pos x hm0) (Int.fmod_lt_of_pos x hm0) F' (News.sub N' fun p hp => by
      rcases List.mem_cons.mp hp with rfl | hp
      · exact .head _
      · exact .tail _ (.tail _ hp)) hT'
  k_steps
  · rename_i hlt
    have hlt' : sp < cs'.length := by
      rw [List.size_toArray] at hlt
      omega
    obtain ⟨v, hv⟩ : ∃ v, cv[sp]? = some v := ⟨cv[sp], by simp [hcl, hlt']⟩
    obtain ⟨x, tx, rfl, hx⟩ := IntsAre.at hcv sp v hv
    refine Halt.go (str_item N₂ (by repeat' constructor) hT₄ (v := .ref CL) (by rfl) fun tk₃ => ?_)
    k_steps
    rename Fr _ _ _ m => kF5
    rename News _ L _ _ => kN5
    exact hfin _ _ _ _ _ _ kF5 kN5 hT₄
  · rename Fr _ _ _ m => kF5
    rename News _ L _ _ => kN5
    exact hfin _ _ _ _ _ _ kF5 kN5 hT₄
end Mine
end
section
open PySem PySem.W PyProof.Rows PySem.Calls
set_option maxRecDepth 100000
set_option maxHeartbeats 4000000
set_option linter.unusedVariables false
namespace Mine
theorem off20 : True := by
  w_top off
  trivial
local macro_rules | `(tactic| omega) => `(tactic| omega (config := {}))
section
variable {w : World} {A : Around} {E : Value → Shared → Prop} {s : Shared} {h₀ h : Heap} {L : Addr} {news : Led}
theorem list_at {l : Addr} {vs : List Value} {ns : List Int} {n : Nat} {k : Int} {t : Tok} {g : Int} {value slice : Expr} {Q : Value → Shared → Prop} (N : News h₀ L s.heap news) (hm : (l, W.listOf vs.toArray n) ∈ news) (hi : IntsAre vs ns) (h0 : 0 ≤ k) (hfit : k < 1000) (hg : ns[k.toNat]? = some g)
    (h : ∀ u, Q (.int g u) s)
    (hs : subscripted slice false (.ref l) (.int k t) = operate [.ref l, .int k t] (getItem (.ref l) (.int k t)) := by with_unfolding_all rfl) : wpAny (model PP w) A (subscriptTail value slice (.ref l) (.int k t)) Q E s := by
  have hl : s.heap.IsList l vs.toArray := ⟨_, (N _ hm).1, rfl, _, rfl⟩
  obtain ⟨v, hv⟩ : ∃ v, vs[k.toNat]? = some v := by
    have : k.toNat < vs.length := by rw [hi.length]; exact (List.getElem?_eq_some_iff.mp hg).1
    exact ⟨vs[k.toNat], by simp [this]⟩
  obtain ⟨g', u, rfl, hg'⟩ := IntsAre.at hi _ _ hv
  rw [hg] at hg'
  cases hg'
  exact tail_any hl.typeIs slot_list_getitem.lookup (wpAny_getItem_list hl h0 (by omega) (by simpa using hv) (h u)) hs
theorem News.openG {x k1 k2 k3 k4 k5 e1 : Addr × Obj} {rest : Led} (N : News h₀ L h (x :: k1 :: k2 :: k3 :: k4 :: k5 :: rest)) (m1 : e1 ∈ rest) : News h₀ L h (x :: e1 :: k1 :: k2 :: k3 :: k4 :: k5 :: rest) := News.sub N (all_cons (mem_at 0 rfl) (all_cons (sub_drop 6 rfl _ m1) (all_cons (mem_at 1 rfl) (all_cons (mem_at 2 rfl) (all_cons (mem_at 3 rfl) (all_cons (mem_at 4 rfl) (all_cons (mem_at 5 rfl) (sub_drop 6 rfl))))))))
theorem News.closeG {x k1 k2 k3 k4 k5 e1 : Addr × Obj} {rest : Led} (N : News h₀ L h (x :: e1 :: k1 :: k2 :: k3 :: k4 :: k5 :: rest)) : News h₀ L h (x :: k1 :: k2 :: k3 :: k4 :: k5 :: rest) := News.sub N (all_cons (mem_at 0 rfl) (all_cons (mem_at 2 rfl) (all_cons (mem_at 3 rfl) (all_cons (mem_at 4 rfl) (all_cons (mem_at 5 rfl) (all_cons (mem_at 6 rfl) (sub_drop 7 rfl)))))))
theorem News.tapeIn {x k1 k2 k3 k4 k5 : Addr × Obj} {rest : Led} (N : News h₀ L h (x :: k1 :: k2 :: k3 :: k4 :: k5 :: rest)) : News h₀ L h (k1 :: k2 :: k3 :: k4 :: k5 :: x :: rest) := News.sub N (all_cons (mem_at 1 rfl) (all_cons (mem_at 2 rfl) (all_cons (mem_at 3 rfl) (all_cons (mem_at 4 rfl) (all_cons (mem_at 5 rfl) (all_cons (mem_at 0 rfl) (sub_drop 6 rfl)))))))
theorem News.tapeOut {x k1 k2 k3 k4 k5 : Addr × Obj} {rest tl : Led} (N : News h₀ L h (k1 :: k2 :: k3 :: k4 :: k5 :: ((x :: rest) ++ tl))) : News h₀ L h (x :: k1 :: k2 :: k3 :: k4 :: k5 :: (rest ++ tl)) := News.sub (l := k1 :: k2 :: k3 :: k4 :: k5 :: ((x :: rest) ++ tl)) N (all_cons (mem_at 5 rfl) (all_cons (mem_at 0 rfl) (all_cons (mem_at 1 rfl) (all_cons (mem_at 2 rfl) (all_cons (mem_at 3 rfl) (all_cons (mem_at 4 rfl) (sub_drop 6 rfl)))))))
end
theorem in4 {n : Nat} (h : 4 ≤ n) {k : Int} (h0 : 0 ≤ k) (h4 : k < 4) : ∃ g, ([2, 3, 4, 5] : List Int)[k.toNat]? = some g ∧ GOk (n + 2) g := by
  obtain ⟨j, rfl⟩ := Int.eq_ofNat_of_zero_le h0
  have hj : j = 0 ∨ j = 1 ∨ j = 2 ∨ j = 3 := by omega
  rcases hj with rfl | rfl | rfl | rfl
  · exact ⟨2, rfl, by decide, by show 2 < _; omega⟩
  · exact ⟨3, rfl, by decide, by show 3 < _; omega⟩
  · exact ⟨4, rfl, by decide, by show 4 < _; omega⟩
  · exact ⟨5, rfl, by decide, by show 5 < _; omega⟩
local macro_rules | `(tactic| walk_at "subscriptTail") => `(tactic| ((with_reducible show wpAny _ _ (subscriptTail _ _ (Value.ref _) (Value.int _ _)) _ _ _); refine Halt.mk ?_))
local macro_rules | `(tactic| walk_at "call ref") => `(tactic| ((with_reducible show wpAny _ _ (call (Value.ref 339) _) _ _ _); refine Halt.mk ?_))
local macro_rules | `(tactic| walk_at "call ref") => `(tactic| ((with_reducible show wpAny _ _ (call (Value.ref 290) _) _ _ _); refine Halt.mk ?_))
set_option pp.deepTerms false
set_option pp.deepTerms.threshold 3
theorem gate_c (w : World) {p : Program} {loose : List Str} {mean : ExcName → Option Value} {mg mb : Str → Option Value}
  {dp un : Nat} {gd : Option (List Code)} {cn : Str} {cs : Scope} {a : Addr} {ccd : Value} {cl : List (Str × Addr)} {outer : List Env} {A₀ : Around} {base h₀ : Heap} {L : Addr} {m : Str → Option Value} {s : Shared} {Q E : Value → Shared → Prop}
  {C dC kL pL nD : Addr} {t1 t2 t3 : Tok} {ks ps : Array Value} {xs : List KX} {n1 n2 n3 : Nat} {rest tps : Led} {G : List Gate} {tp CL IN : Addr} {oT : Obj} {cv iv : List Value} {cs' : List Int} {sp nc ni : Nat} {tsp : Tok}
  (hB : Below A₀ base outer h₀) (hF : Fr h₀ L s.heap m) (X : (hd.heap_1 w.params).In h₀)
  (hN : News h₀ L s.heap ((tp, oT) :: ((C, instObj 328 dC) :: (dC, circO w kL pL nD t1 t2 t3) :: (kL, W.listOf ks n1) :: (pL, W.listOf ps n2) :: (nD, knownO w xs n3) :: rest)))
  (T : Top p loose mean mg mb h₀) (hk : cs.kind = .function)
  (o1 : LtN dC C) (o2 : LtN C kL) (o3 : LtN kL pL) (o4 : LtN pL nD) (r1 : ∀ p ∈ rest, p.1 ≠ C) (r2 : ∀ p ∈ rest, p.1 ≠ dC) (r3 : ∀ p ∈ rest, p.1 ≠ kL) (r4 : ∀ p ∈ rest, p.1 ≠ pL) (r5 : ∀ p ∈ rest, p.1 ≠ nD) (lo3 : (nD == sysModules) = false)
  (hc : CircOk G ks ps xs tps) (hsub : ∀ p ∈ tps, p ∈ rest) (hz : G.length ≤ 900)
  (hTP : oT.IsDictOf (SK w) (tapeKvs CL sp tsp)) (p1 : @Ne Nat C tp) (p2 : @Ne Nat dC tp) (p3 : @Ne Nat kL tp) (p4 : @Ne Nat pL tp) (p5 : @Ne Nat nD tp) (hoff : ∀ p ∈ rest, p.1 ≠ tp)
  (hCL : (CL, W.listOf cv.toArray nc) ∈ rest) (hcv : IntsAre cv cs') (h24 : cs'.length ≤ 24) (hIN : (IN, W.listOf iv.toArray ni) ∈ rest) (hiv : IntsAre iv [2, 3, 4, 5]) (hG4 : 4 ≤ G.length) (hsp : sp ≤ 900)
  (hdp : dp + 5 < recursionLimit) (hun : un + 40 < cLine)
  (hret : ∀ (v : Value) (h' : Heap) (tk' : Nat) (G' : List Gate) (ks' ps' : Array Value) (xs' : List KX) (n1' n2' n3' : Nat) (tl : Led) (oT' : Obj) (sp' : Nat) (t' : Tok), Fr h₀ L h' m →
    News h₀ L h' ((tp, oT') :: ((C, instObj 328 dC) :: (dC, circO w kL pL nD t1 t2 t3) :: (kL, W.listOf ks' n1') :: (pL, W.listOf ps' n2') :: (nD, knownO w xs' n3') :: (rest ++ tl))) →
    CircOk G' ks' ps' xs' (tps ++ tl) → Grew [C, dC, kL, pL, nD] rest 1 G G' tl → (∀ p ∈ tl, p.1 ≠ tp) → oT'.IsDictOf (SK w) (tapeKvs CL sp' t') → sp' ≤ sp + 3 → (v = .none ∨ ∃ g t, v = .int g t ∧ GOk (G'.length + 2) g) → Q v { s with heap := h', toks := tk' }) :
  wpAny (model PP w) (ktrTop dp un gd cn cs L a ccd cl outer) (call (.ref 346) [.ref tp, .ref C, .ref IN]) Q E s := by
  have hN2 := News.openG hN hIN
  have hoff5 : ∀ p ∈ ((C, instObj 328 dC) :: (dC, circO w kL pL nD t1 t2 t3) :: (kL, W.listOf ks n1) :: (pL, W.listOf ps n2) :: (nD, knownO w xs n3) :: rest), p.1 ≠ tp := off_cons p1 (off_cons p2 (off_cons p3 (off_cons p4 (off_cons p5 hoff))))
  have hret0 : ∀ (v : Value) (h' : Heap) (tk' : Nat) (oT' : Obj) (sp' : Nat) (t' : Tok), Fr h₀ L h' m → News h₀ L h' ((tp, oT') :: (IN, W.listOf iv.toArray ni) :: ((C, instObj 328 dC) :: (dC, circO w kL pL nD t1 t2 t3) :: (kL, W.listOf ks n1) :: (pL, W.listOf ps n2) :: (nD, knownO w xs n3) :: rest)) → oT'.IsDictOf (SK w) (tapeKvs CL sp' t') → sp' ≤ sp + 3 → (v = .none ∨ ∃ g t, v = .int g t ∧ GOk (G.length + 2) g) → Q v { s with heap := h', toks := tk' } := by
    intro v h' tk' oT' sp' t' F' N' hd' hs' hv
    exact hret v h' tk' G ks ps xs n1 n2 n3 [] oT' sp' t' F' (by rw [List.append_nil]; exact News.closeG N') (by rw [List.append_nil]; exact hc) Grew.refl (fun _ h => nomatch h) hd' hs' hv
  clear hN
  refine wpAny_call ?_
  k_dflt ktr_enter
  k_steps
  rename Below (ktrTop ..) _ _ _ => kB
  rename Fr _ _ _ (fun y => List.lookup y _) => kF
  rename News _ _ _ (_ :: _) => kN
  rename Top _ _ _ _ _ _ => kT
  rename (hd.heap_1 _).In _ => kX
  have hINt : @Ne Nat IN tp := hoff _ hIN
  have hoffI : ∀ p ∈ (IN, W.listOf iv.toArray ni) :: ((C, instObj 328 dC) :: (dC, circO w kL pL nD t1 t2 t3) :: (kL, W.listOf ks n1) :: (pL, W.listOf ps n2) :: (nD, knownO w xs n3) :: rest), p.1 ≠ tp := off_cons hINt hoff5
  have hCL6 : (CL, W.listOf cv.toArray nc) ∈ (IN, W.listOf iv.toArray ni) :: ((C, instObj 328 dC) :: (dC, circO w kL pL nD t1 t2 t3) :: (kL, W.listOf ks n1) :: (pL, W.listOf ps n2) :: (nD, knownO w xs n3) :: rest) := .tail _ (.tail _ (.tail _ (.tail _ (.tail _ (.tail _ hCL)))))
  refine Halt.go (draw_c w (rest := (IN, W.listOf iv.toArray ni) :: ((C, instObj 328 dC) :: (dC, circO w kL pL nD t1 t2 t3) :: (kL, W.listOf ks n1) :: (pL, W.listOf ps n2) :: (nD, knownO w xs n3) :: rest)) kB kF kX kN kT (by rfl) hTP hoffI hCL6 hcv h24 (by omega) (by omega) (by show dp + 1 + 2 < recursionLimit; omega) (by show un + 3 + 16 < cLine; omega) fun way tw h₁ tk₁ oT₁ t₁ hw0 hw8 F₁ N₁ hT₁ => ?_)
  clear kN kF
  k_steps
  · rename Fr _ _ _ m => kF5
    rename News _ L _ _ => kN5
    exact hret0 _ _ _ _ _ _ kF5 kN5 hT₁ (by omega) (.inl rfl)
  · rename Fr _ _ _ m => kF5
    rename News _ L _ _ => kN5
    exact hret0 _ _ _ _ _ _ kF5 kN5 hT₁ (by omega) (.inr ⟨1, _, rfl, GOk.one⟩)
  · rename Fr _ _ _ m => kF5
    rename News _ L _ _ => kN5
    obtain ⟨g, hg, hgk⟩ := in4 hG4 (k := way - 2) (by omega) (by omega)
    refine hret0 _ _ _ _ _ _ kF5 kN5 hT₁ (by omega) (.inr ⟨_, _, rfl, ?_⟩)
    rw [List.getD_eq_getElem?_getD, hg]
    exact hgk
  · rename Fr _ _ _ (fun y => ite _ _ _) => kF2
    rename News _ _ _ (_ :: _) => kN2
    refine Halt.go (draw_c w (sp := sp + 1) (rest := (IN, W.listOf iv.toArray ni) :: ((C, instObj 328 dC) :: (dC, circO w kL pL nD t1 t2 t3) :: (kL, W.listOf ks n1) :: (pL, W.listOf ps n2) :: (nD, knownO w xs n3) :: rest)) kB kF2 kX kN2 kT (by rfl) hT₁ hoffI hCL6 hcv h24 (by omega) (by omega) (by show dp + 1 + 2 < recursionLimit; omega) (by show un + 3 + 16 < cLine; omega) fun x tx hx tkx oTx sx x0 x4 Fx Nx hTx => ?_)
    clear kN2 kF2
    k_steps
    obtain ⟨gx, hgx, hgkx⟩ := in4 hG4 x0 x4
    refine Halt.go (list_at Nx (.tail _ (.head _)) hiv x0 (by omega) hgx fun ux => ?_)
    k_steps
    rename Fr _ _ _ m => kF5
    rename News _ L _ _ => kN5
    exact hret0 _ _ _ _ _ _ kF5 kN5 hTx (by omega) (.inr ⟨_, _, rfl, hgkx.neg⟩)
  · rename Fr _ _ _ (fun y => ite _ _ _) => kF2
    rename News _ _ _ (_ :: _) => kN2
    refine Halt.go (draw_c w (sp := sp + 1) (rest := (IN, W.listOf iv.toArray ni) :: ((C, instObj 328 dC) :: (dC, circO w kL pL nD t1 t2 t3) :: (kL, W.listOf ks n1) :: (pL, W.listOf ps n2) :: (nD, knownO w xs n3) :: rest)) kB kF2 kX kN2 kT (by rfl) hT₁ hoffI hCL6 hcv h24 (by omega) (by omega) (by show dp + 1 + 2 < recursionLimit; omega) (by show un + 3 + 16 < cLine; omega) fun x tx hx tkx oTx sx x0 x4 Fx Nx hTx => ?_)
    clear kN2 kF2
    k_steps
    obtain ⟨gx, hgx, hgkx⟩ := in4 hG4 x0 x4
    refine Halt.go (list_at Nx (.tail _ (.head _)) hiv x0 (by omega) hgx fun ux => ?_)
    k_steps
    rename Fr _ _ _ (fun y => ite _ _ _) => kF3
    rename News _ _ _ (_ :: _) => kN3
    refine Halt.go (draw_c w (sp := sp + 1 + 1) (rest := (IN, W.listOf iv.toArray ni) :: ((C, instObj 328 dC) :: (dC, circO w kL pL nD t1 t2 t3) :: (kL, W.listOf ks n1) :: (pL, W.listOf ps n2) :: (nD, knownO w xs n3) :: rest)) kB kF3 kX kN3 kT (by rfl) hTx hoffI hCL6 hcv h24 (by omega) (by omega) (by show dp + 1 + 2 < recursionLimit; omega) (by show un + 3 + 16 < cLine; omega) fun y ty hy tky oTy sy y0 y4 Fy Ny hTy => ?_)
    clear kN3 kF3
    k_steps
    obtain ⟨gy, hgy, hgky⟩ := in4 hG4 y0 y4
    refine Halt.go (list_at Ny (.tail _ (.head _)) hiv y0 (by omega) hgy fun uy => ?_)
    k_steps
    rename Fr _ _ _ (fun y => ite _ _ _) => kF4
    rename News _ _ _ (_ :: _) => kN4
    have kN5 := News.tapeIn (News.closeG kN4)
    refine Halt.go (both_c w (rest := (tp, oTy) :: rest) kB kF4 kX kN5 kT (by rfl) o1 o2 o3 o4 (off_cons (Ne.symm p1) r1) (off_cons (Ne.symm p2) r2) (off_cons (Ne.symm p3) r3) (off_cons (Ne.symm p4) r4) (off_cons (Ne.symm p5) r5) lo3 hc (fun p hp => .tail _ (hsub p hp)) (by omega) hgkx hgky (by show dp + 1 + 3 < recursionLimit; omega) (by show un + 3 + 24 < cLine; omega) fun r t h₂ tk₂ G2 ks2 ps2 xs2 n12 n22 n32 tl2 F2 N2 hc2 hg2 hr2 hv2 => ?_)
    have N6 := News.tapeOut N2
    clear N2 kN5 kN4
    k_steps
    rename Fr _ _ _ m => kF7
    rename News _ L _ _ => kN7
    exact hret _ _ _ G2 ks2 ps2 xs2 n12 n22 n32 tl2 oTy _ sy kF7 kN7 hc2 (hg2.sub fun p hp => .tail _ hp) (fun p hp => Ne.symm ((hg2.new p hp).2 _ (.head _))) hTy (by omega) (.inr ⟨r, t, rfl, hr2⟩)
end Mine
end
section
open PySem PySem.W PyProof.Rows PySem.Calls
set_option maxRecDepth 100000
set_option maxHeartbeats 4000000
set_option linter.unusedVariables false
namespace Mine
theorem off21 : True := by
  w_top off
  trivial
noncomputable def keyOf (x : KX) : List Int × Addr := (x.1, x.2.1)
noncomputable def SubK (xs kx : List KX) : Prop := (xs.map keyOf).Sublist (kx.map keyOf)
theorem empty_mat {w : World} {K : Type} [DecidableEq K] {knd : PySem.KeyKind PP w K} {o : Obj} (h : o.IsDictOf knd []) : ∃ n, o = matO w [] n := by
  obtain ⟨es, ep, ⟨c1, c2, c3⟩, hd, _, hp, _⟩ := h
  obtain ⟨c, dd, dt, sl⟩ := o
  simp only at c1 c2 c3 hd
  subst c1 c2 c3 hd
  have he : es.toList = [] := List.length_eq_zero_iff.mp hp.length
  have : es = #[] := by rw [← Array.toArray_toList (xs := es), he]
  subst this
  exact ⟨ep, rfl⟩
theorem SubK.snoc {xs kx : List KX} {x z : KX} (h : SubK xs kx) (e : keyOf x = keyOf z) : SubK (xs ++ [x]) (kx ++ [z]) := by
  unfold SubK at h ⊢
  rw [List.map_append, List.map_append, List.map_singleton, List.map_singleton, e]
  exact h.append (List.Sublist.refl _)
theorem SubK.skip {xs kx : List KX} {z : KX} (h : SubK xs kx) : SubK xs (kx ++ [z]) := by
  unfold SubK at h ⊢
  rw [List.map_append]
  exact h.trans (List.sublist_append_left ..)
theorem SubK.mem {xs kx : List KX} (h : SubK xs kx) {x : KX} (hx : x ∈ xs) : ∃ z ∈ kx, x.1 = z.1 ∧ x.2.1 = z.2.1 := by
  obtain ⟨z, hz, e⟩ := List.mem_map.mp (h.subset (List.mem_map_of_mem hx))
  exact ⟨z, hz, (congrArg Prod.fst e).symm, (congrArg Prod.snd e).symm⟩
theorem SubK.keys {xs kx : List KX} (h : SubK xs kx) : (xs.map (·.1)).Sublist (kx.map (·.1)) := by
  have h1 := List.Sublist.map Prod.fst h
  rw [List.map_map, List.map_map] at h1
  exact h1
theorem SubK.len {xs kx : List KX} (h : SubK xs kx) : xs.length ≤ kx.length := by
  have := List.Sublist.length_le h
  rwa [List.length_map, List.length_map] at this
theorem SubK.asc {xs kx : List KX} {news : Led} (h : SubK xs kx) (hk : KeysAsc news kx) : KeysAsc news xs := by
  refine ⟨fun x hx => ?_, ?_⟩
  · obtain ⟨z, hz, e1, e2⟩ := h.mem hx
    rw [e1, e2]; exact hk.1 z hz
  · have h1 : (kx.map (·.1)).Pairwise (fun a b => lexlt a b = true) := by rw [List.pairwise_map]; exact hk.2
    have h2 := h1.sublist h.keys
    rwa [List.pairwise_map] at h2
theorem KeysAsc.notin {news : Led} {kx : List KX} {i : Nat} {z : KX} (hk : KeysAsc news kx) (hi : kx[i]? = some z) {xs : List KX} (h : SubK xs (kx.take i)) : atKey xs z.1 = none := by
  cases q : atKey xs z.1 with
  | none => rfl
  | some p =>
    unfold atKey at q
    obtain ⟨x, hx, _⟩ := Option.map_eq_some_iff.mp q
    have h1 := List.mem_of_find?_eq_some hx
    have h2 : x.1 = z.1 := by simpa using List.find?_some hx
    obtain ⟨y, hy, e1, _⟩ := h.mem h1
    obtain ⟨hlt, rfl⟩ := List.getElem?_eq_some_iff.mp hi
    obtain ⟨j, hj, rfl⟩ := List.getElem_of_mem hy
    rw [List.getElem_take] at e1
    have hj' : j < i := by rw [List.length_take] at hj; omega
    have := lexlt_ne (List.pairwise_iff_getElem.mp hk.2 j i (by omega) hlt hj')
    exact absurd (e1.symm.trans h2) this
section
variable {h₀ h : Heap} {L : Addr}
theorem News.mvM {i d x k1 k2 k3 k4 k5 : Addr × Obj} {R : Led} (N : News h₀ L h (i :: d :: x :: k1 :: k2 :: k3 :: k4 :: k5 :: R)) : News h₀ L h (x :: k1 :: k2 :: k3 :: k4 :: k5 :: i :: d :: R) := News.sub N (all_cons (mem_at 2 rfl) (all_cons (mem_at 3 rfl) (all_cons (mem_at 4 rfl) (all_cons (mem_at 5 rfl) (all_cons (mem_at 6 rfl) (all_cons (mem_at 7 rfl) (all_cons (mem_at 0 rfl) (all_cons (mem_at 1 rfl) (sub_drop 8 rfl)))))))))
theorem News.backM {i d x k1 k2 k3 k4 k5 : Addr × Obj} {R tl tl' : Led} (N : News h₀ L h (x :: k1 :: k2 :: k3 :: k4 :: k5 :: ((i :: d :: (R ++ tl)) ++ tl'))) : News h₀ L h (i :: d :: x :: k1 :: k2 :: k3 :: k4 :: k5 :: (R ++ (tl ++ tl'))) := News.sub (l := x :: k1 :: k2 :: k3 :: k4 :: k5 :: ((i :: d :: (R ++ tl)) ++ tl')) N (all_cons (mem_at 6 rfl) (all_cons (mem_at 7 rfl) (all_cons (mem_at 0 rfl) (all_cons (mem_at 1 rfl) (all_cons (mem_at 2 rfl) (all_cons (mem_at 3 rfl) (all_cons (mem_at 4 rfl) (all_cons (mem_at 5 rfl) (all_app (sub_t sub_l (sub_t sub_l (sub_drop 8 rfl))) (all_app (sub_t sub_r (sub_t sub_l (sub_drop 8 rfl))) (sub_t sub_r (sub_drop 8 rfl))))))))))))
end
local macro_rules | `(tactic| walk_at "call ref") => `(tactic| ((with_reducible show wpAny _ _ (call (Value.ref 346) _) _ _ _); refine Halt.mk ?_))
local macro_rules | `(tactic| walk_at "exec For Name Name cons nil") => `(tactic| refine Halt.mk ?_)
local macro_rules | `(tactic| walk_at "TurnPost") => `(tactic| ((with_reducible show TurnPost _ _ _ _ _ _ _ (Flow.ret _) _); dsimp only [TurnPost]))
local macro_rules | `(tactic| walk_at "setItem ref ref") => `(tactic| refine Halt.mk ?_)
set_option pp.deepTerms false
set_option pp.deepTerms.threshold 3
theorem matrix_c (w : World) {p : Program} {loose : List Str} {mean : ExcName → Option Value} {mg mb : Str → Option Value}
  {dp un : Nat} {gd : Option (List Code)} {cn : Str} {cs : Scope} {a : Addr} {ccd : Value} {cl : List (Str × Addr)} {outer : List Env} {A₀ : Around} {base h₀ : Heap} {L : Addr} {m : Str → Option Value} {s : Shared} {Q E : Value → Shared → Prop}
  {C dC kL pL nD : Addr} {t1 t2 t3 : Tok} {ks ps : Array Value} {xs : List KX} {n1 n2 n3 : Nat} {rest tps : Led} {G : List Gate} {tp CL IN : Addr} {oT : Obj} {cv iv : List Value} {cs' : List Int} {sp nc ni : Nat} {tsp : Tok} {KY : Addr} {kx : List KX} {nk : Nat} {ar : Int} {tar : Tok}
  (hB : Below A₀ base outer h₀) (hF : Fr h₀ L s.heap m) (X : (hd.heap_1 w.params).In h₀)
  (hN : News h₀ L s.heap ((tp, oT) :: ((C, instObj 328 dC) :: (dC, circO w kL pL nD t1 t2 t3) :: (kL, W.listOf ks n1) :: (pL, W.listOf ps n2) :: (nD, knownO w xs n3) :: rest)))
  (T : Top p loose mean mg mb h₀) (hk : cs.kind = .function)
  (o1 : LtN dC C) (o2 : LtN C kL) (o3 : LtN kL pL) (o4 : LtN pL nD) (r1 : ∀ p ∈ rest, p.1 ≠ C) (r2 : ∀ p ∈ rest, p.1 ≠ dC) (r3 : ∀ p ∈ rest, p.1 ≠ kL) (r4 : ∀ p ∈ rest, p.1 ≠ pL) (r5 : ∀ p ∈ rest, p.1 ≠ nD) (lo3 : (nD == sysModules) = false)
  (hc : CircOk G ks ps xs tps) (hsub : ∀ p ∈ tps, p ∈ rest) (hz : G.length ≤ 890)
  (hTP : oT.IsDictOf (SK w) (tapeKvs CL sp tsp)) (p1 : @Ne Nat C tp) (p2 : @Ne Nat dC tp) (p3 : @Ne Nat kL tp) (p4 : @Ne Nat pL tp) (p5 : @Ne Nat nD tp) (hoff : ∀ p ∈ rest, p.1 ≠ tp)
  (hCL : (CL, W.listOf cv.toArray nc) ∈ rest) (hcv : IntsAre cv cs') (h24 : cs'.length ≤ 24) (hIN : (IN, W.listOf iv.toArray ni) ∈ rest) (hiv : IntsAre iv [2, 3, 4, 5]) (hG4 : 4 ≤ G.length) (hsp : sp ≤ 800) (hKY : (KY, W.listOf (refsOf kx).toArray nk) ∈ rest) (hkx : KeysAsc rest kx) (hk4 : kx.length ≤ 4)
  (hdp : dp + 6 < recursionLimit) (hun : un + 48 < cLine)
  (hret : ∀ (Am mD : Addr) (xs1 : List KX) (m1 : Nat) (h' : Heap) (tk' : Nat) (G' : List Gate) (ks' ps' : Array Value) (xs' : List KX) (n1' n2' n3' : Nat) (tl : Led) (oT' : Obj) (sp' : Nat) (t' : Tok), Fr h₀ L h' m →
    News h₀ L h' ((tp, oT') :: ((C, instObj 328 dC) :: (dC, circO w kL pL nD t1 t2 t3) :: (kL, W.listOf ks' n1') :: (pL, W.listOf ps' n2') :: (nD, knownO w xs' n3') :: (rest ++ tl))) →
    CircOk G' ks' ps' xs' (tps ++ tl) → Grew [C, dC, kL, pL, nD] rest 4 G G' tl → (∀ p ∈ tl, p.1 ≠ tp) → oT'.IsDictOf (SK w) (tapeKvs CL sp' t') → sp' ≤ sp + 12 →
    (Am, tupO [.int ar tar, .ref mD]) ∈ tl → (mD, matO w xs1 m1) ∈ tl → (mD == sysModules) = false → SubK xs1 kx → ValsOk (G'.length + 2) xs1 → Q (.ref Am) { s with heap := h', toks := tk' }) :
  wpAny (model PP w) (ktrTop dp un gd cn cs L a ccd cl outer) (call (.ref 353) [.ref tp, .ref C, .ref IN, .int ar tar, .ref KY]) Q E s := by
  refine wpAny_call ?_
  k_dflt ktr_enter
  k_steps
  rename_i gg LL h2a FG kB kX kT d h1a od lod hs0 fs0 hi0 fi0 l1 h0a kF kN
  obtain ⟨n0, rfl⟩ := empty_mat hi0
  clear hs0 fs0 hi0 fi0
  refine Halt.go (For_invV gg (by rfl) (by rfl) ?_)
  refine nameX_L kF rfl ?_
  have hd5 : ∀ b ∈ ([C, dC, kL, pL, nD] : List Addr), @Ne Nat d b := fun b hb => by
    simp only [List.mem_cons, List.not_mem_nil, or_false] at hb
    rcases hb with q | q | q | q | q <;> rw [q] <;> omega
  have hdt : @Ne Nat tp d := by omega
  have hdr : ∀ q ∈ rest, @Ne Nat q.1 d := fun q hq => Nat.ne_of_lt (allLt_mem l1.2.2.2.2.2.2 q hq)
  obtain ⟨mB, hmB, kF1⟩ := Fr.named kF
  clear kF
  refine loop_list (l := KY) (its := (refsOf kx).toArray) (k := nk) (m := mB)
    (fun i m₁ nx => ∃ (u u2 : Option Value) (xs1 : List KX) (m1 : Nat) (G1 : List Gate) (ks1 ps1 : Array Value) (ys1 : List KX) (n11 n21 n31 : Nat) (tl1 : Led) (oT1 : Obj) (sp1 : Nat) (t1' : Tok),
      m₁ = (fun y => if y = Str.ofString "key" then u else if y = Str.ofString "gate" then u2 else mB y) ∧ nx = (d, matO w xs1 m1) :: (tp, oT1) :: ((C, instObj 328 dC) :: (dC, circO w kL pL nD t1 t2 t3) :: (kL, W.listOf ks1 n11) :: (pL, W.listOf ps1 n21) :: (nD, knownO w ys1 n31) :: (rest ++ tl1)) ∧ CircOk G1 ks1 ps1 ys1 (tps ++ tl1) ∧ Grew [C, dC, kL, pL, nD] rest i G G1 tl1 ∧ (∀ p ∈ tl1, p.1 ≠ tp) ∧ (∀ p ∈ tl1, p.1 ≠ d) ∧
      oT1.IsDictOf (SK w) (tapeKvs CL sp1 t1') ∧ sp1 ≤ sp + 3 * i ∧ SubK xs1 (kx.take i) ∧ ValsOk (G1.length + 2) xs1)
    (by rfl) kF1 kN ⟨mB (Str.ofString "key"), mB (Str.ofString "gate"), [], n0, G, ks, ps, xs, n1, n2, n3, [], oT, sp, tsp, ?j0, by rw [List.append_nil], by rw [List.append_nil]; exact hc, Grew.refl, (fun _ h => nomatch h), (fun _ h => nomatch h), hTP, by omega, List.Sublist.slnil, (fun _ h => nomatch h)⟩ ?held ?turn ?done
  case j0 =>
    funext y
    by_cases h1 : y = Str.ofString "key"
    · rw [if_pos h1, h1]
    · rw [if_neg h1]
      by_cases h2 : y = Str.ofString "gate"
      · rw [if_pos h2, h2]
      · rw [if_neg h2]
  case held =>
    rintro i m₁ nx ⟨u, u2, xs1, m1, G1, ks1, ps1, ys1, n11, n21, n31, tl1, oT1, sp1, t1', rfl, rfl, -⟩
    exact .tail _ (.tail _ (.tail _ (.tail _ (.tail _ (.tail _ (.tail _ (List.mem_append_left _ hKY)))))))
  case turn =>
    rintro I oI i v m₁ nx h tk₁ hi hv ⟨u, u2, xs1, m1, G1, ks1, ps1, ys1, n11, n21, n31, tl1, oT1, sp1, t1', rfl, rfl, hc1, hg1, hTl, hdl, hT1, hsp1, hsk, hV1⟩ hI hlt F₁ N₁
    obtain ⟨z, hzm, hzi, rfl⟩ := refs_at hv
    obtain ⟨kvs, hk1, hk2, hk3⟩ := hkx.1 z hzm
    have hi4 : i < kx.length := by simpa using hi
    have hl1 := hg1.len
    have htk : kx.take (i + 1) = kx.take i ++ [z] := by rw [List.take_add_one, hzi]; rfl
    subst hmB
    dsimp only
    k_steps
    rename Fr _ _ _ (fun y => ite (y = Str.ofString "key") _ _) => kF2
    have oI5 : ∀ b ∈ ([C, dC, kL, pL, nD] : List Addr), b ≠ I := fun b hb => by
      simp only [List.mem_cons, List.not_mem_nil, or_false] at hb
      rcases hb with q | q | q | q | q <;> rw [q]
      · exact hI _ (.tail _ (.tail _ (.head _)))
      · exact hI _ (.tail _ (.tail _ (.tail _ (.head _))))
      · exact hI _ (.tail _ (.tail _ (.tail _ (.tail _ (.head _)))))
      · exact hI _ (.tail _ (.tail _ (.tail _ (.tail _ (.tail _ (.head _))))))
      · exact hI _ (.tail _ (.tail _ (.tail _ (.tail _ (.tail _ (.tail _ (.head _)))))))
    have hdI : @Ne Nat d I := hI _ (.head _)
    have htI : @Ne Nat tp I := hI _ (.tail _ (.head _))
    have hrI : ∀ q ∈ rest ++ tl1, q.1 ≠ I := fun q hq => hI _ (.tail _ (.tail _ (.tail _ (.tail _ (.tail _ (.tail _ (.tail _ hq)))))))
    have hin : ∀ q ∈ rest, q ∈ (I, oI) :: (d, matO w xs1 m1) :: (rest ++ tl1) := fun q hq => .tail _ (.tail _ (List.mem_append_left _ hq))
    refine Halt.go (gate_c w (G := G1) (ks := ks1) (ps := ps1) (xs := ys1) (n1 := n11) (n2 := n21) (n3 := n31) (tps := tps ++ tl1) (rest := (I, oI) :: (d, matO w xs1 m1) :: (rest ++ tl1)) kB kF2 kX (News.mvM N₁) kT (by rfl) o1 o2 o3 o4
      (off_loop (oI5 C (by simp)) (hd5 C (by simp)) r1 hg1 (by simp)) (off_loop (oI5 dC (by simp)) (hd5 dC (by simp)) r2 hg1 (by simp)) (off_loop (oI5 kL (by simp)) (hd5 kL (by simp)) r3 hg1 (by simp)) (off_loop (oI5 pL (by simp)) (hd5 pL (by simp)) r4 hg1 (by simp)) (off_loop (oI5 nD (by simp)) (hd5 nD (by simp)) r5 hg1 (by simp)) lo3 hc1 (fun p hp => .tail _ (.tail _ (sub_tl hsub p hp))) (by omega) hT1 p1 p2 p3 p4 p5
      (off_cons (Ne.symm htI) (off_cons (Ne.symm hdt) fun p hp => (List.mem_append.mp hp).elim (hoff p) (hTl p))) (hin _ hCL) hcv h24 (hin _ hIN) hiv (by omega) (by omega) (by show dp + 1 + 5 < recursionLimit; omega) (by show un + 3 + 40 < cLine; omega)
      fun v h₂ tk₂ G2 ks2 ps2 xs2 n12 n22 n32 tl2 oT2 sp2 t2' F2 N2 hc2 hg2 hT2tl hT2 hsp2 hv2 => ?_)
    have N₃ := News.backM N2
    clear N2 N₁ kF2 kF1
    have hg12 : Grew [C, dC, kL, pL, nD] rest (i + 1) G G2 (tl1 ++ tl2) := hg1.trans (hg2.sub fun p hp => .tail _ (.tail _ hp)) (fun p hp => List.mem_append_left _ hp)
    have hc12 : CircOk G2 ks2 ps2 xs2 (tps ++ (tl1 ++ tl2)) := by rw [← List.append_assoc]; exact hc2
    have hd2 : ∀ p ∈ tl2, p.1 ≠ d := fun p hp => Ne.symm ((hg2.new p hp).2 _ (.tail _ (.head _)))
    have hI2 : ∀ p ∈ tl2, p.1 ≠ I := fun p hp => Ne.symm ((hg2.new p hp).2 _ (.head _))
    have hTl12 : ∀ p ∈ tl1 ++ tl2, p.1 ≠ tp := fun p hp => (List.mem_append.mp hp).elim (hTl p) (hT2tl p)
    have hdl12 : ∀ p ∈ tl1 ++ tl2, p.1 ≠ d := fun p hp => (List.mem_append.mp hp).elim (hdl p) (hd2 p)
    have hoffd : ∀ p ∈ rest ++ (tl1 ++ tl2), p.1 ≠ d := fun p hp => (List.mem_append.mp hp).elim (hdr p) (hdl12 p)
    have hoffI : ∀ (xs1 : List KX) (m1 : Nat), ∀ p ∈ (d, matO w xs1 m1) :: (tp, oT2) :: ((C, instObj 328 dC) :: (dC, circO w kL pL nD t1 t2 t3) :: (kL, W.listOf ks2 n12) :: (pL, W.listOf ps2 n22) :: (nD, knownO w xs2 n32) :: (rest ++ (tl1 ++ tl2))), p.1 ≠ I := fun xs1 m1 => off_cons hdI (off_cons htI (off_cons (oI5 _ (by simp)) (off_cons (oI5 _ (by simp)) (off_cons (oI5 _ (by simp)) (off_cons (oI5 _ (by simp)) (off_cons (oI5 _ (by simp)) fun p hp => by
      rcases List.mem_append.mp hp with q | q
      · exact hrI p (List.mem_append_left _ q)
      · exact (List.mem_append.mp q).elim (fun q => hrI p (List.mem_append_right _ q)) (hI2 p)))))))
    have hl2 := hg2.len
    rcases hv2 with rfl | ⟨g, tg, rfl, hgok⟩
    · k_steps
      rename Fr _ _ _ _ => kF3
      rename News _ _ _ _ => kN3
      refine TurnPost.next ((d, matO w xs1 m1) :: (tp, oT2) :: ((C, instObj 328 dC) :: (dC, circO w kL pL nD t1 t2 t3) :: (kL, W.listOf ks2 n12) :: (pL, W.listOf ps2 n22) :: (nD, knownO w xs2 n32) :: (rest ++ (tl1 ++ tl2)))) kF3 kN3 (hoffI xs1 m1) ⟨some (.ref z.2.1), some .none, xs1, m1, G2, ks2, ps2, xs2, n12, n22, n32, tl1 ++ tl2, oT2, sp2, t2', ?_, rfl, hc12, hg12, hTl12, hdl12, hT2, by omega, htk ▸ hsk.skip, hV1.up (by omega)⟩
      · funext y
        by_cases h1 : y = Str.ofString "key"
        · subst h1; rfl
        · by_cases h2 : y = Str.ofString "gate"
          · subst h2; rfl
          · simp only [h1, h2, if_false]
    · k_steps
      rename Fr _ _ _ _ => kF3
      rename News _ _ _ _ => kN3
      have hkeys : ∀ x ∈ xs1, ∃ vs, (x.2.1, tupO vs) ∈ (I, oI) :: (d, matO w xs1 m1) :: (tp, oT2) :: ((C, instObj 328 dC) :: (dC, circO w kL pL nD t1 t2 t3) :: (kL, W.listOf ks2 n12) :: (pL, W.listOf ps2 n22) :: (nD, knownO w xs2 n32) :: (rest ++ (tl1 ++ tl2))) ∧ IntsAre vs x.1 := fun x hx => by
        obtain ⟨y, hy, e1, e2⟩ := hsk.mem hx
        obtain ⟨vs, a1, a2, _⟩ := hkx.1 y (List.mem_of_mem_take hy)
        rw [e1, e2]
        have a1 := List.mem_append_left (tl1 ++ tl2) a1
        exact ⟨vs, (by repeat' (first | exact a1 | apply List.Mem.tail)), a2⟩
      have hnd : (xs1.map (·.1)).Nodup := (hsk.asc (news := rest) ⟨fun x hx => hkx.1 x (List.mem_of_mem_take hx), hkx.2.sublist (List.take_sublist ..)⟩).nodup
      have hkm : (z.2.1, tupO kvs) ∈ (I, oI) :: (d, matO w xs1 m1) :: (tp, oT2) :: ((C, instObj 328 dC) :: (dC, circO w kL pL nD t1 t2 t3) :: (kL, W.listOf ks2 n12) :: (pL, W.listOf ps2 n22) :: (nD, knownO w xs2 n32) :: (rest ++ (tl1 ++ tl2))) := by
        have a1 := List.mem_append_left (tl1 ++ tl2) hk1
        exact (by repeat' (first | exact a1 | apply List.Mem.tail))
      have hxl : xs1.length ≤ 4 := by have := hsk.len; rw [List.length_take] at this; omega
      refine Halt.go (known_set (by show un + 3 + 1 < cLine; omega) kF3 kN3 (UpdF.tail (Ne.symm hdI) (UpdF.head (off_cons hdt (off_cons (Ne.symm (hd5 _ (by simp))) (off_cons (Ne.symm (hd5 _ (by simp))) (off_cons (Ne.symm (hd5 _ (by simp))) (off_cons (Ne.symm (hd5 _ (by simp))) (off_cons (Ne.symm (hd5 _ (by simp))) hoffd)))))))) hkeys hnd hkm hk2 (by omega) fun h₅ n₅ tk₅ F₅ N₅ => ?_)
      rw [storedH_new (KeysAsc.notin hkx hzi hsk)] at N₅
      k_steps
      refine TurnPost.next ((d, matO w (xs1 ++ [(z.1, z.2.1, Value.int g tg)]) n₅) :: (tp, oT2) :: ((C, instObj 328 dC) :: (dC, circO w kL pL nD t1 t2 t3) :: (kL, W.listOf ks2 n12) :: (pL, W.listOf ps2 n22) :: (nD, knownO w xs2 n32) :: (rest ++ (tl1 ++ tl2)))) F₅ N₅ (hoffI _ n₅) ⟨some (.ref z.2.1), some (.int g tg), xs1 ++ [(z.1, z.2.1, Value.int g tg)], n₅, G2, ks2, ps2, xs2, n12, n22, n32, tl1 ++ tl2, oT2, sp2, t2', ?_, rfl, hc12, hg12, hTl12, hdl12, hT2, by omega, htk ▸ (hsk.snoc (x := (z.1, z.2.1, Value.int g tg)) (z := z) rfl), fun x hx => ?_⟩
      · funext y
        by_cases h1 : y = Str.ofString "key"
        · subst h1; rfl
        · by_cases h2 : y = Str.ofString "gate"
          · subst h2; rfl
          · simp only [h1, h2, if_false]
      · rcases List.mem_append.mp hx with hx | hx
        · exact (hV1.up (by omega)) x hx
        · rw [List.mem_singleton.mp hx]; exact ⟨g, tg, rfl, hgok⟩
  case done =>
    rintro m₁ nx h tk₁ ⟨u, u2, xs1, m1, G1, ks1, ps1, ys1, n11, n21, n31, tl1, oT1, sp1, t1', rfl, rfl, hc1, hg1, hTl, hdl, hT1, hsp1, hsk, hV1⟩ F₁ N₁
    have hlen : (refsOf kx).toArray.size = kx.length := by rw [List.size_toArray, List.length_map]
    rw [hlen] at hg1 hsp1 hsk
    rw [List.take_length] at hsk
    subst hmB
    dsimp only
    k_steps
    rename Fr _ _ _ m => kF5
    rename News _ L _ _ => kN5
    rename_i D h5 F5 N5 l5 Tc5 kX5
    have hD5 : ∀ b ∈ ([C, dC, kL, pL, nD] : List Addr), @Ne Nat D b := fun b hb => by
      simp only [List.mem_cons, List.not_mem_nil, or_false] at hb
      rcases hb with q | q | q | q | q <;> rw [q] <;> omega
    have hDr : ∀ q ∈ rest ++ tl1, @Ne Nat q.1 D := fun q hq => Nat.ne_of_lt (allLt_mem l5.2.2.2.2.2.2.2 q hq)
    have htD : @Ne Nat D tp := by omega
    refine hret D d xs1 m1 _ _ G1 ks1 ps1 ys1 n11 n21 n31 ((D, tupO [.int ar tar, .ref d]) :: (d, matO w xs1 m1) :: tl1) oT1 sp1 t1' kF5
      (News.sub (l := (D, tupO [.int ar tar, .ref d]) :: (d, matO w xs1 m1) :: (tp, oT1) :: ((C, instObj 328 dC) :: (dC, circO w kL pL nD t1 t2 t3) :: (kL, W.listOf ks1 n11) :: (pL, W.listOf ps1 n21) :: (nD, knownO w ys1 n31) :: (rest ++ tl1))) kN5 fun p hp => ?_) (hc1.mono fun p hp => ?_)
      (Grew.cons (Grew.cons (hg1.up (by omega)) hd5 hdr) hD5 (fun q hq => hDr q (List.mem_append_left _ hq))) (off_cons htD (off_cons (Ne.symm hdt) hTl)) hT1 (by omega) (.head _) (.tail _ (.head _)) lod hsk hV1
    · simp only [List.mem_cons, List.mem_append] at hp ⊢
      rcases hp with hp | hp | hp | hp | hp | hp | hp | hp | hp | hp <;> simp [hp]
    · simp only [List.mem_cons, List.mem_append] at hp ⊢
      rcases hp with hp | hp <;> simp [hp]
end Mine
end
section
open PySem PySem.W PyProof.Rows PySem.Calls
set_option maxRecDepth 100000
set_option maxHeartbeats 4000000
set_option linter.unusedVariables false
namespace Mine
theorem off22 : True := by
  w_top off
  trivial
local macro_rules | `(tactic| omega) => `(tactic| omega (config := {}))
section
variable {prog : Program} {w : World} {A : Around} {E : Value → Shared → Prop} {s : Shared} {h₀ : Heap} {L : Addr} {m : Str → Option Value} {env : Env}
/-- what a tuple that a comprehension walks is to answer -/
noncomputable def TupSrc (prog : Program) (w : World) (A : Around) (h₀ : Heap) (L : Addr) (m : Str → Option Value) (env : Env) (ct elt : Expr) (x : Str) (scope : Scope) (cl : List (Str × Addr)) (Fin : Shared → List Value → Led → Prop) (xv : Value) (s₁ : Shared) : Prop :=
  ∃ (ax : Addr) (vs : List Value) (news : Led), xv = .ref ax ∧ A.handled = none ∧ Fr h₀ L s₁.heap m ∧ News h₀ L s₁.heap news ∧ (ax, tupO vs) ∈ news ∧ vs.length ≤ 1000 ∧
    ∀ s₂ : Shared, (∃ h, s₂ = { s₁ with heap := h }) → LCt.CompRestT prog w A h₀ L m env ct elt x scope cl s₂ (fun nw => (ax, tupO vs) ∈ nw) (fun i v => vs.toArray[i]? = some v) (Fin s₂) vs.toArray.size 0 [] news
theorem News.named1 {h : Heap} {p : Addr × Obj} {R : Led} (N : News h₀ L h (p :: R)) : ∃ R', R' = R ∧ News h₀ L h (p :: R') := ⟨R, rfl, N⟩
theorem ListComp_TT {ct elt iter : Expr} {x : Str} {px : Pos} {scope : Scope} {cl : List (Str × Addr)} {pos : Pos} {Q : Value → Shared → Prop} (F₀ : Fr h₀ L s.heap m)
    (hclos : closureFor scope env = pure cl) (hcell : ∀ y ∈ scope.names, y.2 ≠ .cell) (hkind : scope.kind = .function)
    (hnames : ∀ y ∈ scope.names, y.2 = .local → scope.names.lookup y.1 = some .local) (hx : scope.names.lookup x = some .local)
    (h : wpAny (model prog w) A (eval iter env) (TupSrc prog w A h₀ L m env ct elt x scope cl (fun s₂ => LCg.FinE h₀ L m s₂ Q)) E s)
    (hs : ∀ x, foldedSetIterable iter env x = pure x := by intro _; rfl) :
    wpAny (model prog w) A (eval (.ListComp elt [⟨.Name x px, iter, [ct], 0⟩] scope pos) env) Q E s := by
  rw [eval_ListComp]
  refine wpAny_comprehension_free (use := none) rfl hs hclos hkind hnames (wpAny_mono h (fun xv s₁ h₁ => ?_) fun _ _ e => e)
  obtain ⟨ax, vs, news, rfl, hh, F, N, hm, hsz, R⟩ := h₁
  have hl : s₁.heap.IsTuple ax vs.toArray := ⟨_, (N _ hm).1, rfl, _, rfl⟩
  have hlt : ax < s₁.heap.objs.size := Heap.lt_size (N _ hm).1
  refine wpAny_pyIter_tuple hl ?_
  have up : ∀ b o, s₁.heap.get? b = some o → (s₁.heap.push { cls := .type "tuple_iterator", data := .fields #[.ref ax, .int 0 0] }).get? b = some o := fun b o e => Heap.get?_push_of_some _ e
  refine LCt.block_T (S := fun nw => (ax, tupO vs) ∈ nw) (Walks.tuple hh s₁.heap.objs.size ax (Nat.ne_of_lt hlt) vs.toArray) (by rw [List.size_toArray, sizeLine_eq]; omega) (fun i h st => by obtain ⟨o, e, _⟩ := st.1; exact ⟨o, e⟩)
    (fun i h h' o nw st e e' k N S => ⟨by obtain ⟨o', q, r⟩ := st.1; rw [e] at q; cases q; exact ⟨o, e', r⟩, ⟨_, (N _ S).1, rfl, _, rfl⟩⟩) hcell hkind hx ⟨⟨_, Heap.get?_push_size _ rfl, rfl, rfl⟩, ⟨_, up _ _ (N _ hm).1, rfl, _, rfl⟩⟩ (fun b hb => ?_)
    (F.keeps up) (N.grown up) (Nat.ne_of_lt F.ns.lt) (next_is_new F) (fun p hp => Nat.ne_of_lt (Heap.lt_size (N p hp).1)) hm (R _ ⟨_, rfl⟩) ?_
  · show b < (s₁.heap.push _).objs.size
    rw [Heap.size_push]
    rcases List.mem_cons.mp hb with rfl | hb
    · exact Nat.lt_succ_self _
    · rw [List.mem_singleton.mp hb]; exact Nat.lt_succ_of_lt hlt
  · intro D C h tk m' ys news' F' N' o1 hn hC₀ hD₀ hCL hDL hCD offC fin
    refine ⟨m', hn, fun h'' hs'' => fin D h'' tk (F'.change hs'' hCL hC₀) (fun p hp => ?_) o1⟩
    refine ⟨hs''.extBut _ _ ?_ (N' p hp).1, (N' p hp).2⟩
    rcases List.mem_cons.mp hp with rfl | hp
    · exact Ne.symm hCD
    · exact offC p hp
end
section
variable {h₀ h : Heap} {L : Addr}
theorem list_get {w : World} {A : Around} {E : Value → Shared → Prop} {s : Shared} {news : Led} {l : Addr} {its : Array Value} {n : Nat} {k : Int} {j : Nat} {t : Tok} {v : Value} {value slice : Expr} {Q : Value → Shared → Prop} (N : News h₀ L s.heap news) (hm : (l, W.listOf its n) ∈ news) (hk : k = (j : Int)) (hj : j < 100000) (hv : its[j]? = some v)
    (h : Q v s)
    (hs : subscripted slice false (.ref l) (.int k t) = operate [.ref l, .int k t] (getItem (.ref l) (.int k t)) := by with_unfolding_all rfl) : wpAny (model PP w) A (subscriptTail value slice (.ref l) (.int k t)) Q E s := by
  have hl : s.heap.IsList l its := ⟨_, (N _ hm).1, rfl, _, rfl⟩
  subst hk
  exact tail_any hl.typeIs slot_list_getitem.lookup (wpAny_getItem_list hl (by omega) (by omega) (by simpa using hv) h) hs
theorem News.openV {k1 k2 k3 k4 k5 e1 : Addr × Obj} {rest : Led} (N : News h₀ L h (k1 :: k2 :: k3 :: k4 :: k5 :: rest)) (m1 : e1 ∈ rest) : News h₀ L h (e1 :: k1 :: k2 :: k3 :: k4 :: k5 :: rest) := News.sub N (all_cons (sub_drop 5 rfl _ m1) (all_cons (mem_at 0 rfl) (all_cons (mem_at 1 rfl) (all_cons (mem_at 2 rfl) (all_cons (mem_at 3 rfl) (all_cons (mem_at 4 rfl) (sub_drop 5 rfl)))))))
end
theorem bit_and {nu i : Nat} (h : nu < 16) (hi : i < 4) : (Builtin.bitAnd ((nu : Int).fdiv (2 ^ ((i : Int)).toNat)) 1 == 1) = Nat.testBit nu i := by
  have : ∀ a : Fin 16, ∀ b : Fin 4, (Builtin.bitAnd ((a.val : Int).fdiv (2 ^ ((b.val : Int)).toNat)) 1 == 1) = Nat.testBit a.val b.val := by decide +kernel
  exact this ⟨nu, h⟩ ⟨i, hi⟩
local macro_rules | `(tactic| walk_at "exec For Name Call cons nil") => `(tactic| refine Halt.mk ?_)
local macro_rules | `(tactic| walk_at "pyIter ref") => `(tactic| refine Halt.mk ?_)
local macro_rules | `(tactic| walk_at "eval ListComp") => `(tactic| refine Halt.mk ?_)
local macro_rules | `(tactic| walk_at "CompEnd") => `(tactic| refine Halt.mk ?_)
local macro_rules | `(tactic| walk_at "compareOp Eq ref ref") => `(tactic| refine Halt.mk ?_)
local macro_rules | `(tactic| walk_at "call builtin:list.append") => `(tactic| refine Halt.mk ?_)
local macro_rules | `(tactic| walk_at "TurnPost") => `(tactic| ((with_reducible show TurnPost _ _ _ _ _ _ _ (Flow.ret _) _); dsimp only [TurnPost]))
local macro_rules | `(tactic| walk_at "call builtin:len") => `(tactic| refine Halt.mk ?_)
theorem values_c (w : World) {p : Program} {loose : List Str} {mean : ExcName → Option Value} {mg mb : Str → Option Value}
  {dp un : Nat} {gd : Option (List Code)} {cn : Str} {cs : Scope} {a : Addr} {ccd : Value} {cl : List (Str × Addr)} {outer : List Env} {A₀ : Around} {base h₀ : Heap} {L : Addr} {m : Str → Option Value} {s : Shared} {Q E : Value → Shared → Prop}
  {C dC kL pL nD : Addr} {t1 t2 t3 : Tok} {ks ps : Array Value} {xs : List KX} {n1 n2 n3 : Nat} {rest tps : Led} {G : List Gate} {IN : Addr} {iv : List Value} {ni : Nat} {nu : Nat} {tnu : Tok}
  (hB : Below A₀ base outer h₀) (hF : Fr h₀ L s.heap m) (X : (hd.heap_1 w.params).In h₀)
  (hN : News h₀ L s.heap ((C, instObj 328 dC) :: (dC, circO w kL pL nD t1 t2 t3) :: (kL, W.listOf ks n1) :: (pL, W.listOf ps n2) :: (nD, knownO w xs n3) :: rest))
  (T : Top p loose mean mg mb h₀) (hk : cs.kind = .function)
  (o1 : LtN dC C) (o2 : LtN C kL) (o3 : LtN kL pL) (o4 : LtN pL nD) (r1 : ∀ p ∈ rest, p.1 ≠ C) (r2 : ∀ p ∈ rest, p.1 ≠ dC) (r3 : ∀ p ∈ rest, p.1 ≠ kL) (r4 : ∀ p ∈ rest, p.1 ≠ pL) (r5 : ∀ p ∈ rest, p.1 ≠ nD) (lo3 : (nD == sysModules) = false)
  (hc : CircOk G ks ps xs tps) (hsub : ∀ p ∈ tps, p ∈ rest) (hz : G.length ≤ 1000) (hnu : nu < 16) (hIN : (IN, W.listOf iv.toArray ni) ∈ rest) (hiv : IntsAre iv [2, 3, 4, 5]) (hG4 : 4 ≤ G.length) (hG : ∀ i g, G[i]? = some g → (g.isNone = true ↔ i < 4))
  (hdp : dp + 3 < recursionLimit) (hun : un + 80 < cLine)
  (hret : ∀ (D : Addr) (h' : Heap) (tk' e : Nat), Fr h₀ L h' m → News h₀ L h' ((D, W.listOf ((vals (fun j => Nat.testBit nu (j - 2)) G).map Value.bool).toArray e) :: ((C, instObj 328 dC) :: (dC, circO w kL pL nD t1 t2 t3) :: (kL, W.listOf ks n1) :: (pL, W.listOf ps n2) :: (nD, knownO w xs n3) :: rest)) → (∀ q ∈ ((C, instObj 328 dC) :: (dC, circO w kL pL nD t1 t2 t3) :: (kL, W.listOf ks n1) :: (pL, W.listOf ps n2) :: (nD, knownO w xs n3) :: rest), q.1 ≠ D) → Q (.ref D) { s with heap := h', toks := tk' }) :
  wpAny (model PP w) (ktrTop dp un gd cn cs L a ccd cl outer) (call (.ref 358) [.ref C, .ref IN, .int nu tnu]) Q E s := by
  have hN2 := News.openV hN hIN
  refine wpAny_call ?_
  k_dflt (refine' code_defC ?k1 ?k2 ?k3 ?k4 ?k5 ?kA ?kF ?kK ?k6 ?k7 ?k8 ?k9 ?kB ?kD ?_ ?c2 ?c3 ?c4; (case kA => exact rfl); (case kF => exact rfl); (case kK => assumption); (case k1 => k_asm); (case k2 => k_asm); (case k3 => k_asm); (case k4 => k_asm); (case k5 => k_asm); (case k6 => k_is); (case k7 => k_is); (case k8 => ktr_room); (case k9 => exact BindsTo.of_eq rfl); (case kB => exact rfl); (case kD => decide +kernel); (case c2 => exact rfl); (case c3 => exact rfl); (case c4 => exact rfl); k_whole; intro g' L' h' tk' cells' FG' F' N' Y' B' X' T' l1; (try k_lt l1); k_cells Y'; (try simp only [List.cons_append, List.nil_append] at N'); (try dsimp only); (try k_fold))
  k_steps
  rename_i oc hoc KN h2a kF kN l2
  have hLr : ∀ q ∈ rest, LtN q.1 L' := allLt_mem l1.2.2.2.2.2.2
  have hKr : ∀ q ∈ rest, LtN q.1 KN := allLt_mem l2.2.2.2.2.2.2.2
  have ne0 : ∀ k, ∀ q ∈ rest, @Ne Nat q.1 (L' + k) := fun k q hq => by have := hLr q hq; omega
  refine storeX_C kF kN (by rfl) (UpdF.tail (by show @Ne Nat _ _; (try dsimp only); omega) (UpdF.head (off_cons (by show @Ne Nat _ _; (try dsimp only); omega) (off_cons (by show @Ne Nat _ _; (try dsimp only); omega) (off_cons (by show @Ne Nat _ _; (try dsimp only); omega) (off_cons (by show @Ne Nat _ _; (try dsimp only); omega) (off_cons (by show @Ne Nat _ _; (try dsimp only); omega) (off_cons (by show @Ne Nat _ _; (try dsimp only); omega) (ne0 _))))))))) hoc (fun h₂ oc₂ F₂ N₂ hoc₂ => ?_) (by rfl) (by rfl)
  clear kF kN hoc oc
  k_steps
  refine Halt.go (For_invV g' (by rfl) (by rfl) ?_)
  have hkl : ks.size = G.length + 2 := hc.kl
  k_steps
  rename News _ _ _ _ => kN3
  refine Halt.go (len_L kN3 (l := kL) (its := ks) (n := n1) (by repeat' constructor) (by omega) fun t₃ tk₃ => ?_)
  k_steps
  clear kN3
  rename IsRange _ _ _ _ _ _ _ _ => hRg
  rename Fr _ _ _ (bindL _ _ _) => kF4
  rename News _ _ _ _ => kN4
  have hRs : (ks.size : Int) - 1 + 1 = (G.length : Int) + 2 := by omega
  rw [hRs] at hRg
  obtain ⟨mB, hmB, kF5⟩ := Fr.named kF4
  obtain ⟨R4, hR4, kN5⟩ := News.named1 kN4
  clear kF4 kN4
  have hKR : ∀ p ∈ R4, p.1 ≠ KN := by
    rw [hR4]
    exact off_cons (by show @Ne Nat _ _; (try dsimp only); omega) (off_cons (by show @Ne Nat _ _; (try dsimp only); omega) (off_cons (by show @Ne Nat _ _; (try dsimp only); omega) (off_cons (by show @Ne Nat _ _; (try dsimp only); omega) (off_cons (by show @Ne Nat _ _; (try dsimp only); omega) (off_cons (by show @Ne Nat _ _; (try dsimp only); omega) (off_cons (by show @Ne Nat _ _; (try dsimp only); omega) (fun q hq => Nat.ne_of_lt (hKr q hq))))))))
  refine Halt.go (loop_range (a := 2) (b := (G.length : Int) + 2) (n := G.length) (m := mB)
    (fun i m₁ nx => ∃ (u : Option Value) (k : Nat), m₁ = (fun y => if y = Str.ofString "gate" then u else mB y) ∧ nx = (KN, W.listOf ((vals (fun j => Nat.testBit nu (j - 2)) (G.take i)).map Value.bool).toArray k) :: R4)
    (by rfl) hRg (by
      have hrs : Builtin.Range.rangeSize 2 ((G.length : Int) + 2) 1 = (G.length : Int) := by unfold Builtin.Range.rangeSize; rw [if_pos (by decide), if_pos (by omega)]; omega
      unfold Builtin.Range.small Builtin.Range.rangeFitsLong
      rw [hrs]
      simp only [Bool.and_eq_true, Bool.or_eq_true, decide_eq_true_eq]
      refine ⟨⟨⟨⟨by decide, by omega, by omega⟩, by decide⟩, by omega, by omega⟩, .inr ?_⟩
      rw [if_pos (by decide)]
      simp only [Bool.and_eq_true, decide_eq_true_eq]
      omega) (by unfold Builtin.Range.rangeSize; rw [if_pos (by decide), if_pos (by omega)]; omega) kF5 kN5 ⟨mB (Str.ofString "gate"), 0, ?j0, by rfl⟩ ?turn ?done)
  case j0 =>
    funext y
    by_cases h1 : y = Str.ofString "gate"
    · rw [if_pos h1, h1]
    · rw [if_neg h1]
  case turn =>
    rintro I oI i v m₁ nx h tk₁ hi ⟨tg, rfl⟩ ⟨u, k, rfl, rfl⟩ hI hlt F₁ N₁
    subst hmB hR4
    dsimp only
    obtain ⟨gi, hgi⟩ : ∃ gi, G[i]? = some gi := ⟨G[i], by simp [hi]⟩
    obtain ⟨tkk, hkind⟩ := hc.kind i gi hgi
    have hgv : vals (fun j => Nat.testBit nu (j - 2)) (G.take (i + 1)) = vals (fun j => Nat.testBit nu (j - 2)) (G.take i) ++ [gv (fun j => Nat.testBit nu (j - 2)) (vals (fun j => Nat.testBit nu (j - 2)) (G.take i)) gi] := by
      rw [List.take_add_one, hgi]; exact vals_snoc _ _ _
    have hvl : (vals (fun j => Nat.testBit nu (j - 2)) (G.take i)).length = i + 2 := by rw [vals_len, List.length_take]; omega
    cases gi with
    | none =>
      have hi4 : i < 4 := (hG i none hgi).mp rfl
      simp only [Option.isNone_none, if_true] at hkind
      k_steps
      rename News _ _ _ _ => kN6
      refine list_get kN6 (l := kL) (its := ks) (n := n1) (j := i + 2) (by repeat' constructor) (by split <;> omega) (by omega) hkind ?_
      k_steps
      rename News g' L' _ _ => kN7
      have hil : ([2, 3, 4, 5] : List Int).idxOf (2 + (i : Int)) = i := by
        have h4 : i = 0 ∨ i = 1 ∨ i = 2 ∨ i = 3 := by omega
        rcases h4 with rfl | rfl | rfl | rfl <;> rfl
      have him : (2 + (i : Int)) ∈ ([2, 3, 4, 5] : List Int) := by
        have h4 : i = 0 ∨ i = 1 ∨ i = 2 ∨ i = 3 := by omega
        rcases h4 with rfl | rfl | rfl | rfl <;> decide
      refine index_list_ints (vs := iv) (ns := [2, 3, 4, 5]) ⟨_, (kN7 (IN, W.listOf iv.toArray ni) (by repeat' constructor)).1, rfl, _, rfl⟩ hiv (by rfl) him ?_
      rw [hil]
      k_steps
      rename Fr _ _ _ _ => kF8
      refine Halt.go (append_K kF8 kN7 (Upd.tail (Ne.symm (hI (KN, _) (.head _))) (Upd.head hKR)) (fun h₉ F₉ N₉ => ?_) (by rw [List.size_toArray, List.length_map, hvl, sizeLine_eq]; omega))
      k_steps
      rw [bit_and hnu hi4] at N₉
      have hKI : @Ne Nat KN I := hI _ (.head _)
      refine TurnPost.next (oI := oI) ((KN, W.listOf ((vals (fun j => Nat.testBit nu (j - 2)) (G.take (i + 1))).map Value.bool).toArray (k + 1)) :: _) F₉ ?_ ?_ ⟨some (.int (2 + (i : Int)) tg), k + 1, ?_, rfl⟩
      · rw [hgv, List.map_append, show gv (fun j => Nat.testBit nu (j - 2)) (vals (fun j => Nat.testBit nu (j - 2)) (G.take i)) none = Nat.testBit nu i by show Nat.testBit nu ((vals (fun j => Nat.testBit nu (j - 2)) (G.take i)).length - 2) = _; rw [hvl]; rfl]
        simp only [List.push_toArray] at N₉
        simp only [List.map_cons, List.map_nil]
        exact N₉
      · exact off_cons hKI fun p hp => hI p (.tail _ hp)
      · funext y
        by_cases h1 : y = Str.ofString "gate"
        · subst h1; rfl
        · simp only [h1, if_false]
    | some ps' =>
      have hi4 : ¬ i < 4 := fun h => by have := (hG i _ hgi).mpr h; cases this
      simp only [Option.isNone_some, Bool.false_eq_true, if_false] at hkind
      obtain ⟨pa, pvs, hpa, hpm, hpi⟩ := hc.part i (some ps') hgi
      simp only [Option.getD_some] at hpi
      have hpr := hsub _ hpm
      have hpl : ps'.length < 60 := hc.short i ps' hgi
      have hpl' := hpi.length
      have hpok : ∀ p ∈ ps', GOk (i + 2) p := hc.wf i ps' hgi
      k_steps
      rename News _ _ _ _ => kN6
      refine list_get kN6 (l := kL) (its := ks) (n := n1) (j := i + 2) (by repeat' constructor) (by split <;> omega) (by omega) hkind ?_
      k_steps
      rename Fr _ _ _ _ => kF8
      refine Halt.go (ListComp_TT (F₀ := kF8) (by with_unfolding_all rfl) (by decide) (by rfl) (by decide) (by rfl) ?_)
      k_steps
      rename News _ _ _ _ => kN8
      refine list_get kN8 (l := pL) (its := ps) (n := n2) (j := i + 2) (by repeat' constructor) (by split <;> omega) (by omega) hpa ?_
      k_steps
      rename Fr _ _ _ _ => kF9
      rename News _ _ _ _ => kN9
      obtain ⟨RT, hRT, kNT⟩ := News.named kN9
      have hRm : (pa, tupO pvs) ∈ RT := by rw [hRT]; exact (by repeat' (first | exact hpr | apply List.Mem.tail))
      refine ⟨pa, pvs, RT, rfl, rfl, kF9, kNT, hRm, by omega, fun s₂ hs₂ => ?_⟩
      obtain ⟨hx2, rfl⟩ := hs₂
      refine comp_invT pvs.toArray.size (fun j ys nx => nx = RT ∧ ∃ gs, IntsAre ys gs ∧ ((gs = []) ↔ (ps'.take j).all (lit (vals (fun j => Nat.testBit nu (j - 2)) (G.take i))) = true)) ?step ?fin _ 0 [] _ (by omega) ⟨rfl, [], .nil, by simp⟩
      case step =>
        rintro j ys nx v I₂ oI₂ C₁ oC D₂ m₂ h₂ tk₂ E' hj hP ⟨rfl, gs, hgs, hys⟩ hC hxv F₂ N₂ off ne
        obtain ⟨q, tq, rfl, hq⟩ := IntsAre.at hpi j _ (by simpa using hP)
        have hqo := hpok q (List.mem_of_getElem? hq)
        have hql := hqo.2
        obtain ⟨bq, hbq⟩ : ∃ b, (vals (fun j => Nat.testBit nu (j - 2)) (G.take i))[q.natAbs]? = some b := ⟨_, List.getElem?_eq_getElem (by rw [hvl]; exact hql)⟩
        have hlq : lit (vals (fun j => Nat.testBit nu (j - 2)) (G.take i)) q = (bq == decide (0 < q)) := by
          unfold lit; rw [List.getD_eq_getElem?_getD, hbq]; rfl
        have htk : ps'.take (j + 1) = ps'.take j ++ [q] := by rw [List.take_add_one, hq]; rfl
        subst hRT
        k_steps
        rename News _ _ _ _ => kN10
        refine list_get kN10 (l := KN) (n := k) (j := q.natAbs) (v := .bool bq) (by repeat' constructor) (by split <;> omega) (by omega) (by simp [hbq]) ?_
        k_steps
        · rename (bq != decide (0 < q)) = true => hbb
          rename Fr _ _ _ _ => kF11
          rename News _ _ _ _ => kN11
          refine Halt.go (LCg.CompEnd.intro kF11 kN11 _ (fun p hp => hp) off hRm ⟨rfl, gs ++ [1], ints_snoc hgs, ?_⟩)
          rw [htk, List.all_append, List.all_cons, hlq, show (bq == decide (0 < q)) = false by simpa [bne] using hbb]
          simp
        · rename (bq != decide (0 < q)) = false => hbb
          rename Fr _ _ _ _ => kF11
          rename News _ _ _ _ => kN11
          refine Halt.go (LCg.CompEnd.intro kF11 kN11 _ (fun p hp => hp) off hRm ⟨rfl, gs, hgs, ?_⟩)
          rw [htk, List.all_append, List.all_cons, hlq, show (bq == decide (0 < q)) = true by simpa [bne] using hbb]
          simpa using hys
      case fin =>
        rintro ys nx ⟨rfl, gs, hgs, hys⟩ D₂ h₂ tk₂ F₂ N₂ off
        rw [show pvs.toArray.size = ps'.length by rw [List.size_toArray, hpl'], List.take_length] at hys
        subst hRT
        have hgb : decide (gs = []) = gv (fun j => Nat.testBit nu (j - 2)) (vals (fun j => Nat.testBit nu (j - 2)) (G.take i)) (some ps') := by
          show _ = ps'.all _
          rw [Bool.eq_iff_iff, decide_eq_true_eq]; exact hys
        have hKI : @Ne Nat KN I := hI _ (.head _)
        have hKD : @Ne Nat KN D₂ := off1_mem off _ (.tail _ (.head _))
        have hID : @Ne Nat I D₂ := off1_mem off _ (.head _)
        k_steps
        rename Fr _ _ _ _ => kF12
        rename News _ _ _ _ => kN12
        rename_i D₄ hx4 lD₄ Tc4 kX4
        refine Halt.go (ke_eq_ints (xs := ys) (ys := []) ⟨_, (kN12 (D₂, LCg.lst ys) (by repeat' constructor)).1, rfl, _, rfl⟩ ⟨_, (kN12 _ (.head _)).1, rfl, _, rfl⟩ hgs .nil (by show un + 3 + 64 < cLine; omega) ?_)
        k_steps
        refine Halt.go (append_K kF12 kN12 (Upd.tail (by show @Ne Nat _ _; (try dsimp only); omega) (Upd.tail (Ne.symm hKD) (Upd.tail (Ne.symm hKI) (Upd.head hKR)))) (fun h₉ F₉ N₉ => ?_) (by rw [List.size_toArray, List.length_map, hvl, sizeLine_eq]; omega))
        k_steps
        have N₁₁ := News.sub N₉ fun p hp => List.Mem.tail _ (List.Mem.tail _ hp)
        rw [hgb] at N₁₁
        refine TurnPost.next (oI := oI) ((KN, W.listOf ((vals (fun j => Nat.testBit nu (j - 2)) (G.take (i + 1))).map Value.bool).toArray (k + 1)) :: _) F₉ ?_ ?_ ⟨some (.int (2 + (i : Int)) tg), k + 1, ?_, rfl⟩
        · rw [hgv, List.map_append]
          simp only [List.push_toArray] at N₁₁
          simp only [List.map_cons, List.map_nil]
          exact N₁₁
        · exact off_cons hKI fun p hp => hI p (.tail _ hp)
        · funext y
          by_cases h1 : y = Str.ofString "gate"
          · subst h1; rfl
          · simp only [h1, if_false]
  case done =>
    rintro m₁ nx h tk₁ ⟨u, k, rfl, rfl⟩ F₁ N₁
    rw [List.take_length] at N₁
    subst hmB hR4
    dsimp only
    k_steps
    rename Fr _ _ _ m => kF8
    rename News _ L _ _ => kN8
    refine hret KN _ _ k kF8 (News.sub kN8 fun p hp => ?_) (fun q hq => hKR q (.tail _ (.tail _ hq)))
    rcases List.mem_cons.mp hp with rfl | hp
    · exact .head _
    · exact .tail _ (.tail _ (.tail _ hp))
end Mine
end
section
open PySem PySem.W PyProof.Rows PySem.Calls
set_option maxRecDepth 100000
set_option maxHeartbeats 4000000
set_option linter.unusedVariables false
namespace Mine
theorem off23 : True := by
  w_top off
  trivial
local macro_rules | `(tactic| omega) => `(tactic| omega (config := {}))
/-- the tuples of a matrix that are true -/
noncomputable abbrev trueOf (kb : List Bool) (xs : List KX) : List KX := xs.filter fun x => lit kb (gateOf x)
local macro_rules | `(tactic| walk_at "eval ListComp") => `(tactic| refine Halt.mk ?_)
local macro_rules | `(tactic| walk_at "CompEnd") => `(tactic| refine Halt.mk ?_)
local macro_rules | `(tactic| walk_at "call builtin:sorted") => `(tactic| refine Halt.mk ?_)
theorem set_c (w : World) {p : Program} {loose : List Str} {mean : ExcName → Option Value} {mg mb : Str → Option Value}
  {dp un : Nat} {gd : Option (List Code)} {cn : Str} {cs : Scope} {a : Addr} {ccd : Value} {cl : List (Str × Addr)} {outer : List Env} {A₀ : Around} {base h₀ : Heap} {L : Addr} {m : Str → Option Value} {s : Shared} {Q E : Value → Shared → Prop}
  {Am mD KN : Addr} {ar : Int} {t : Tok} {xs : List KX} {n nG e₀ : Nat} {kb : List Bool} {news : Led}
  (hB : Below A₀ base outer h₀) (hF : Fr h₀ L s.heap m) (X : (hd.heap_1 w.params).In h₀)
  (hN : News h₀ L s.heap news)
  (T : Top p loose mean mg mb h₀) (hk : cs.kind = .function)
  (hA : (Am, tupO [.int ar t, .ref mD]) ∈ news) (hD : (mD, matO w xs n) ∈ news) (lo : (mD == sysModules) = false) (hK : KeysAsc news xs) (hV : ValsOk nG xs) (h4 : xs.length ≤ 4)
  (hKN : (KN, W.listOf (kb.map Value.bool).toArray e₀) ∈ news) (hkl : nG ≤ kb.length) (hk5 : kb.length ≤ 5000)
  (hdp : dp + 3 < recursionLimit) (hun : un + 24 < cLine)
  (hret : ∀ (D : Addr) (h' : Heap) (tk' e : Nat), Fr h₀ L h' m → News h₀ L h' ((D, W.listOf (refsOf (trueOf kb xs)).toArray e) :: news) → (∀ q ∈ news, q.1 ≠ D) → Q (.ref D) { s with heap := h', toks := tk' }) :
  wpAny (model PP w) (ktrTop dp un gd cn cs L a ccd cl outer) (call (.ref 363) [.ref Am, .ref KN]) Q E s := by
  have hN2 : News h₀ L s.heap ((Am, tupO [.int ar t, .ref mD]) :: (mD, matO w xs n) :: (KN, W.listOf (kb.map Value.bool).toArray e₀) :: news) := by
    intro p hp
    rcases List.mem_cons.mp hp with rfl | hp
    · exact hN _ hA
    rcases List.mem_cons.mp hp with rfl | hp
    · exact hN _ hD
    rcases List.mem_cons.mp hp with rfl | hp
    · exact hN _ hKN
    · exact hN _ hp
  clear hN
  refine wpAny_call ?_
  k_dflt (refine' code_defC ?k1 ?k2 ?k3 ?k4 ?k5 ?kA ?kF ?kK ?k6 ?k7 ?k8 ?k9 ?kB ?kD ?_ ?c2 ?c3 ?c4; (case kA => exact rfl); (case kF => exact rfl); (case kK => assumption); (case k1 => k_asm); (case k2 => k_asm); (case k3 => k_asm); (case k4 => k_asm); (case k5 => k_asm); (case k6 => k_is); (case k7 => k_is); (case k8 => ktr_room); (case k9 => exact BindsTo.of_eq rfl); (case kB => exact rfl); (case kD => decide +kernel); (case c2 => exact rfl); (case c3 => exact rfl); (case c4 => exact rfl); k_whole; intro g' L' h' tk' cells' FG' F' N' Y' B' X' T' l1; (try k_lt l1); k_cells Y'; (try simp only [List.cons_append, List.nil_append] at N'); (try dsimp only); (try k_fold))
  k_steps
  rename Below (ktrTop ..) _ _ _ => kB
  rename Fr _ _ _ (bindL _ _ _) => kF
  refine Halt.go (LCt.ListComp_T (F₀ := kF) (by with_unfolding_all rfl) (by decide) (by rfl) (by decide) (by rfl) ?_)
  k_steps
  refine Halt.go (sorted_mat (by rfl) (by assumption) (by assumption) (xs := xs) (n := n) (.tail _ (.tail _ (.tail _ (.head _)))) lo (hK.mono fun p hp => .tail _ (.tail _ (.tail _ (.tail _ (.tail _ hp))))) h4 fun D h₁ tk₁ c F₁ N₁ l2 => ?_)
  k_steps
  k_lt l2
  obtain ⟨news₁, hnews₁, N₂⟩ := News.named N₁
  refine LCt.CompSrcT.ledger (by rfl) F₁ N₂ (by rw [hnews₁]; exact .head _) (by rw [List.size_toArray, List.length_map, sizeLine_eq]; omega) fun g => ?_
  refine comp_invT (refsOf xs).toArray.size (fun i ys nx => nx = news₁ ∧ ys = refsOf (trueOf kb (xs.take i))) ?step ?fin _ 0 [] _ (by omega) ⟨rfl, rfl⟩
  case step =>
    rintro i ys nx v I oI C oC D₂ m₂ h tk₁ E' hi hP ⟨rfl, hys⟩ hC hxv F₁ N₁ off ne
    subst hnews₁
    obtain ⟨x, hxm, hxi, rfl⟩ := refs_at hP
    obtain ⟨kvs, hk1, hk2⟩ := hK.key x hxm
    obtain ⟨g, t, hg1, hg2⟩ := hV x hxm
    have hg3 := hg2.2
    have heg : gateOf x = g := by unfold gateOf; rw [hg1]
    obtain ⟨bq, hbq⟩ : ∃ b, kb[g.natAbs]? = some b := ⟨_, List.getElem?_eq_getElem (by omega)⟩
    have hlq : lit kb (gateOf x) = (bq == decide (0 < g)) := by
      rw [heg]; unfold lit; rw [List.getD_eq_getElem?_getD, hbq]; rfl
    have htk : refsOf (trueOf kb (xs.take (i + 1))) = refsOf (trueOf kb (xs.take i)) ++ refsOf (trueOf kb [x]) := by
      show ((xs.take (i + 1)).filter _).map _ = _
      rw [List.take_add_one, hxi, List.filter_append, List.map_append]; rfl
    k_steps
    refine known_item (by show un + 3 + 1 < cLine; omega) (xs := xs) (n3 := n) N₁ (by repeat' constructor) (fun x hx => ?_) hK.nodup (ta := x.2.1) (vs := kvs) (by repeat' (first | exact hk1 | apply List.Mem.tail)) hk2 (atKey_mem hK.nodup hxm) fun tk₃ => ?_
    · obtain ⟨v, h1, h2⟩ := hK.key x hx
      exact ⟨v, by repeat' (first | exact h1 | apply List.Mem.tail), h2⟩
    rw [hg1]
    k_steps
    rename News _ _ _ _ => kN10
    refine list_get kN10 (l := KN) (n := e₀) (j := g.natAbs) (v := .bool bq) (by repeat' constructor) (by split <;> omega) (by omega) (by simp [hbq]) ?_
    k_steps
    rename News _ _ _ _ => kN11
    refine known_item (by show un + 3 + 1 < cLine; omega) (xs := xs) (n3 := n) kN11 (by repeat' constructor) (fun x hx => ?_) hK.nodup (ta := x.2.1) (vs := kvs) (by repeat' (first | exact hk1 | apply List.Mem.tail)) hk2 (atKey_mem hK.nodup hxm) fun tk₄ => ?_
    · obtain ⟨v, h1, h2⟩ := hK.key x hx
      exact ⟨v, by repeat' (first | exact h1 | apply List.Mem.tail), h2⟩
    rw [hg1]
    k_steps
    · rename (bq == decide (0 < g)) = true => hbb
      rename Fr _ _ _ _ => kF11
      rename News _ _ _ _ => kN11
      refine Halt.go (LCg.CompEnd.intro kF11 kN11 _ (fun p hp => hp) off (.inr ⟨_, .head _, rfl, _, rfl⟩) ⟨rfl, ?_⟩)
      rw [htk, ← hys, show trueOf kb [x] = [x] by show List.filter _ [x] = _; rw [List.filter_cons, hlq, hbb]; rfl]
      rfl
    · rename (bq == decide (0 < g)) = false => hbb
      rename Fr _ _ _ _ => kF11
      rename News _ _ _ _ => kN11
      refine Halt.go (LCg.CompEnd.intro kF11 kN11 _ (fun p hp => hp) off (.inr ⟨_, .head _, rfl, _, rfl⟩) ⟨rfl, ?_⟩)
      rw [htk, ← hys, show trueOf kb [x] = [] by show List.filter _ [x] = _; rw [List.filter_cons, hlq, hbb]; rfl]
      exact (List.append_nil _).symm
  case fin =>
    rintro ys nx ⟨rfl, hys⟩ D₂ h₁ tk₁ F₁ N₁ off
    subst hnews₁
    have hlen : (refsOf xs).toArray.size = xs.length := by rw [List.size_toArray, List.length_map]
    rw [hlen, List.take_length] at hys
    subst hys
    have od := off1_mem off
    k_steps
    rename Fr _ _ _ m => kF
    rename News _ L _ _ => kN
    refine hret D₂ _ _ (refsOf (trueOf kb xs)).length kF (News.sub kN fun p hp => ?_) (fun q hq => od q (by repeat' (first | exact hq | apply List.Mem.tail)))
    rcases List.mem_cons.mp hp with rfl | hp
    · exact .head _
    · repeat' (first | exact hp | apply List.Mem.tail)
end Mine
end
section
open PySem PySem.W PyProof.Rows PySem.Calls
set_option maxRecDepth 100000
set_option maxHeartbeats 1500000
set_option linter.unusedVariables false
namespace Mine
theorem off24 : True := by
  w_top off
  trivial
local macro_rules | `(tactic| omega) => `(tactic| omega (config := {}))
noncomputable def keyD (x : KX) : Dat := .tuple (x.1.map .int)
/-- the tuples' objects stand in the ledger -/
noncomputable def KeysIn (news : Led) (xs : List KX) : Prop := ∀ x ∈ xs, ∃ vs, (x.2.1, tupO vs) ∈ news ∧ IntsAre vs x.1
theorem KeysIn.nil {news : Led} : KeysIn news [] := fun _ h => nomatch h
theorem KeysIn.mono {news news' : Led} {xs : List KX} (h : KeysIn news xs) (hs : ∀ p ∈ news, p ∈ news') : KeysIn news' xs := fun x hx => let ⟨vs, a, b⟩ := h x hx; ⟨vs, hs _ a, b⟩
theorem KeysIn.sub {news : Led} {xs ys : List KX} (h : KeysIn news xs) (hs : ∀ x ∈ ys, x ∈ xs) : KeysIn news ys := fun x hx => h x (hs x hx)
theorem KeysAsc.ins {news : Led} {xs : List KX} (h : KeysAsc news xs) : KeysIn news xs := h.key
theorem dat_ints {news : Led} : ∀ {vs : List Value} {ns : List Int}, IntsAre vs ns → DatAll news vs (ns.map Dat.int)
  | _, _, .nil => .nil
  | _, _, .cons n t r => .cons (.int n t) (dat_ints r)
theorem KeysIn.one {news : Led} {x : KX} (h : ∃ vs, (x.2.1, tupO vs) ∈ news ∧ IntsAre vs x.1) : DatIn news (.ref x.2.1) (keyD x) := by
  obtain ⟨vs, a, b⟩ := h
  exact .tuple a (dat_ints b)
theorem KeysIn.dat {news : Led} : ∀ {xs : List KX}, KeysIn news xs → DatAll news (refsOf xs) (xs.map keyD)
  | [], _ => .nil
  | x :: xs, h => .cons (KeysIn.one (h x (.head _))) (KeysIn.dat fun y hy => h y (.tail _ hy))
theorem ok_one (x : KX) : kqdOk 8 (keyD x) = true := by
  show (x.1.map Dat.int).all (kqdOk 7) = true
  rw [List.all_map, List.all_eq_true]; intro a _; rfl
theorem ok_all (xs : List KX) : ∀ d ∈ xs.map keyD, kqdOk 8 d = true := fun d hd => by
  obtain ⟨x, _, rfl⟩ := List.mem_map.mp hd; exact ok_one x
theorem map_int_inj : ∀ {a b : List Int}, a.map Dat.int = b.map Dat.int → a = b
  | [], [], _ => rfl
  | [], _ :: _, h => by simp at h
  | _ :: _, [], h => by simp at h
  | x :: a, y :: b, h => by
    simp only [List.map_cons, List.cons.injEq, Dat.int.injEq] at h
    rw [h.1, map_int_inj h.2]
theorem keyD_inj {x y : KX} : keyD x = keyD y ↔ x.1 = y.1 := ⟨fun h => by unfold keyD at h; rw [Dat.tuple.injEq] at h; exact map_int_inj h, fun h => by unfold keyD; rw [h]⟩
theorem keysD_inj : ∀ {xs ys : List KX}, xs.map keyD = ys.map keyD ↔ xs.map (·.1) = ys.map (·.1)
  | [], [] => by simp
  | [], _ :: _ => by simp
  | _ :: _, [] => by simp
  | x :: xs, y :: ys => by simp only [List.map_cons, List.cons.injEq, keyD_inj, keysD_inj (xs := xs) (ys := ys)]
theorem keyD_mem {x : KX} {ys : List KX} : keyD x ∈ ys.map keyD ↔ x.1 ∈ ys.map (·.1) := by
  rw [List.mem_map, List.mem_map]
  exact ⟨fun ⟨y, h, e⟩ => ⟨y, h, keyD_inj.mp e⟩, fun ⟨y, h, e⟩ => ⟨y, h, keyD_inj.mpr e⟩⟩
theorem dec_as {P P' : Prop} {i : Decidable P} {i' : Decidable P'} (h : P ↔ P') : @decide P i = @decide P' i' := by rw [Bool.eq_iff_iff, decide_eq_true_eq, decide_eq_true_eq]; exact h
section
variable {w : World} {A : Around} {E : Value → Shared → Prop} {s : Shared} {h₀ : Heap} {L a b : Addr} {news : Led} {xs ys : List KX} {k1 k2 : Nat} {Q : Value → Shared → Prop}
theorem eq_keys (N : News h₀ L s.heap news) (m1 : (a, W.listOf (refsOf xs).toArray k1) ∈ news) (m2 : (b, W.listOf (refsOf ys).toArray k2) ∈ news) (K1 : KeysIn news xs) (K2 : KeysIn news ys) (hu : A.units + 64 < cLine)
    (h : Q (.bool (decide (xs.map (·.1) = ys.map (·.1)))) s) : wpAny (model PP w) A (compareOp .Eq (.ref a) (.ref b)) Q E s := by
  refine kqd_eq N m1 rfl rfl K1.dat (fun _ h => h) m2 rfl rfl K2.dat (fun _ h => h) (ok_all _) (ok_all _) hu ?_
  rw [dec_as (i' := inferInstanceAs (Decidable (xs.map (·.1) = ys.map (·.1)))) keysD_inj]
  exact h
theorem ne_keys (N : News h₀ L s.heap news) (m1 : (a, W.listOf (refsOf xs).toArray k1) ∈ news) (m2 : (b, W.listOf (refsOf ys).toArray k2) ∈ news) (K1 : KeysIn news xs) (K2 : KeysIn news ys) (hu : A.units + 64 < cLine)
    (h : Q (.bool (!decide (xs.map (·.1) = ys.map (·.1)))) s) : wpAny (model PP w) A (compareOp .NotEq (.ref a) (.ref b)) Q E s := by
  refine kqd_ne N m1 rfl rfl K1.dat (fun _ h => h) m2 rfl rfl K2.dat (fun _ h => h) (ok_all _) (ok_all _) hu ?_
  rw [dec_as (i' := inferInstanceAs (Decidable (xs.map (·.1) = ys.map (·.1)))) keysD_inj]
  exact h
theorem notin_keys {x : KX} (N : News h₀ L s.heap news) (m1 : (a, W.listOf (refsOf xs).toArray k1) ∈ news) (K1 : KeysIn news xs) (K2 : ∃ vs, (x.2.1, tupO vs) ∈ news ∧ IntsAre vs x.1) (hu : A.units + 64 < cLine)
    (h : Q (.bool (!decide (x.1 ∈ xs.map (·.1)))) s) : wpAny (model PP w) A (compareOp .NotIn (.ref x.2.1) (.ref a)) Q E s := by
  refine kqd_notIn N m1 rfl rfl K1.dat (fun _ h => h) (KeysIn.one K2) (fun _ h => h) (ok_all _) (ok_one _) hu ?_
  rw [dec_as (i' := inferInstanceAs (Decidable (x.1 ∈ xs.map (·.1)))) keyD_mem]
  exact h
end
/-- what _law_due says of two sets of tuples -/
noncomputable def dueL (k1 k2 : List (List Int)) : List Bool :=
  [k1.all fun k => decide (k ∈ k2), k2.all fun k => decide (k ∈ k1), decide (k1 = k2), !decide (k1 = []), decide (k1 = []), decide (k1.length < 2), decide (k1.length = 1),
    !decide (k2 = []), decide (k2 = []), decide (k2.length < 2), decide (k2.length = 1)]
/-- the tuples of the one that are not in the other -/
noncomputable abbrev offOf (xs ys : List KX) : List KX := xs.filter fun x => !decide (x.1 ∈ ys.map (·.1))
theorem off_nil (xs ys : List KX) : decide ((offOf xs ys).map (·.1) = ([] : List KX).map (·.1)) = (xs.map (·.1)).all fun k => decide (k ∈ ys.map (·.1)) := by
  rw [Bool.eq_iff_iff, decide_eq_true_eq, List.map_nil, List.map_eq_nil_iff, List.filter_eq_nil_iff, List.all_map, List.all_eq_true]
  simp
theorem size_lt (ys : List KX) : decide (((refsOf ys).toArray.size : Int) < 2) = decide ((ys.map (·.1)).length < 2) := by
  rw [List.size_toArray, List.length_map, List.length_map, Bool.eq_iff_iff, decide_eq_true_eq, decide_eq_true_eq]; omega
theorem size_one (ys : List KX) : ((((refsOf ys).toArray.size : Nat) : Int) == 1) = decide ((ys.map (·.1)).length = 1) := by
  rw [List.size_toArray, List.length_map, List.length_map, Bool.eq_iff_iff, beq_iff_eq, decide_eq_true_eq]; omega
local macro_rules | `(tactic| walk_at "eval ListComp") => `(tactic| refine Halt.mk ?_)
local macro_rules | `(tactic| walk_at "CompEnd") => `(tactic| refine Halt.mk ?_)
local macro_rules | `(tactic| walk_at "CompSrcT") => `(tactic| refine Halt.mk ?_)
local macro_rules | `(tactic| walk_at "compareOp Eq ref ref") => `(tactic| refine Halt.mk ?_)
local macro_rules | `(tactic| walk_at "compareOp NotEq ref ref") => `(tactic| refine Halt.mk ?_)
local macro_rules | `(tactic| walk_at "compareOp NotIn ref ref") => `(tactic| refine Halt.mk ?_)
local macro_rules | `(tactic| walk_at "call builtin:len") => `(tactic| refine Halt.mk ?_)
theorem due_c (w : World) {p : Program} {loose : List Str} {mean : ExcName → Option Value} {mg mb : Str → Option Value}
  {dp un : Nat} {gd : Option (List Code)} {cn : Str} {cs : Scope} {a : Addr} {ccd : Value} {cl : List (Str × Addr)} {outer : List Env} {A₀ : Around} {base h₀ : Heap} {L : Addr} {m : Str → Option Value} {s : Shared} {Q E : Value → Shared → Prop}
  {D1 D2 : Addr} {ys1 ys2 : List KX} {e1 e2 : Nat} {news : Led}
  (hB : Below A₀ base outer h₀) (hF : Fr h₀ L s.heap m) (X : (hd.heap_1 w.params).In h₀)
  (hN : News h₀ L s.heap news)
  (T : Top p loose mean mg mb h₀) (hk : cs.kind = .function)
  (h1 : (D1, W.listOf (refsOf ys1).toArray e1) ∈ news) (h2 : (D2, W.listOf (refsOf ys2).toArray e2) ∈ news) (hK1 : KeysIn news ys1) (hK2 : KeysIn news ys2) (hl1 : ys1.length ≤ 4) (hl2 : ys2.length ≤ 4)
  (hdp : dp + 3 < recursionLimit) (hun : un + 80 < cLine)
  (hret : ∀ (D : Addr) (h' : Heap) (tk' e : Nat), Fr h₀ L h' m → News h₀ L h' ((D, W.listOf ((dueL (ys1.map (·.1)) (ys2.map (·.1))).map Value.bool).toArray e) :: news) → (∀ q ∈ news, q.1 ≠ D) → Q (.ref D) { s with heap := h', toks := tk' }) :
  wpAny (model PP w) (ktrTop dp un gd cn cs L a ccd cl outer) (call (.ref 368) [.ref D1, .ref D2]) Q E s := by
  have hN2 : News h₀ L s.heap ((D1, W.listOf (refsOf ys1).toArray e1) :: (D2, W.listOf (refsOf ys2).toArray e2) :: news) := by
    intro p hp
    rcases List.mem_cons.mp hp with rfl | hp
    · exact hN _ h1
    rcases List.mem_cons.mp hp with rfl | hp
    · exact hN _ h2
    · exact hN _ hp
  clear hN
  refine wpAny_call ?_
  k_dflt (refine' code_defC ?k1 ?k2 ?k3 ?k4 ?k5 ?kA ?kF ?kK ?k6 ?k7 ?k8 ?k9 ?kB ?kD ?_ ?c2 ?c3 ?c4; (case kA => exact rfl); (case kF => exact rfl); (case kK => assumption); (case k1 => k_asm); (case k2 => k_asm); (case k3 => k_asm); (case k4 => k_asm); (case k5 => k_asm); (case k6 => k_is); (case k7 => k_is); (case k8 => ktr_room); (case k9 => exact BindsTo.of_eq rfl); (case kB => exact rfl); (case kD => decide +kernel); (case c2 => exact rfl); (case c3 => exact rfl); (case c4 => exact rfl); k_whole; intro g' L' h' tk' cells' FG' F' N' Y' B' X' T' l1; (try k_lt l1); k_cells Y'; (try simp only [List.cons_append, List.nil_append] at N'); (try dsimp only); (try k_fold))
  k_steps
  rename Below (ktrTop ..) _ _ _ => kB
  rename Fr _ _ _ (bindL _ _ _) => kF
  refine Halt.go (LCt.ListComp_T (F₀ := kF) (by with_unfolding_all rfl) (by decide) (by rfl) (by decide) (by rfl) ?_)
  k_steps
  rename News _ _ _ _ => kN
  obtain ⟨RT, hRT, kN2⟩ := News.named kN
  have hR0 : ∀ p ∈ news, p ∈ RT := fun p hp => by rw [hRT]; exact (by repeat' (first | exact hp | apply List.Mem.tail))
  have m1 := hR0 _ h1
  have m2 := hR0 _ h2
  have K1 := hK1.mono hR0
  have K2 := hK2.mono hR0
  refine Halt.go (LCt.CompSrcT.ledger (its := (refsOf ys1).toArray) (k := e1) (by rfl) kF kN2 m1 (by rw [List.size_toArray, List.length_map, sizeLine_eq]; omega) fun g => ?_)
  refine comp_invT (refsOf ys1).toArray.size (fun i ys nx => nx = RT ∧ ys = refsOf (offOf (ys1.take i) ys2)) ?step1 ?fin1 _ 0 [] _ (by omega) ⟨rfl, rfl⟩
  case step1 =>
    rintro i ys nx v I oI C oC D₂ m₂ h tk₁ E' hi hP ⟨rfl, hys⟩ hC hxv F₁ N₁ off ne
    obtain ⟨x, hxm, hxi, rfl⟩ := refs_at hP
    have htk : refsOf (offOf (ys1.take (i + 1)) ys2) = refsOf (offOf (ys1.take i) ys2) ++ refsOf (offOf [x] ys2) := by
      show ((ys1.take (i + 1)).filter _).map _ = _
      rw [List.take_add_one, hxi, List.filter_append, List.map_append]; rfl
    subst hRT
    k_steps
    rename News _ _ _ _ => kN3
    refine Halt.go (notin_keys (k1 := e2) kN3 (.tail _ (.tail _ (.tail _ m2))) (K2.mono fun p hp => .tail _ (.tail _ (.tail _ hp))) (by obtain ⟨vs, a, b⟩ := K1 x hxm; exact ⟨vs, .tail _ (.tail _ (.tail _ a)), b⟩) (by show un + 3 + 64 < cLine; omega) ?_)
    k_steps
    rotate_left
    · rename ¬ (x.1 ∈ List.map _ _) => hbb
      rename Fr _ _ _ _ => kF11
      rename News _ _ _ _ => kN11
      refine Halt.go (LCg.CompEnd.intro kF11 kN11 _ (fun p hp => hp) off (.inr ⟨_, m1, rfl, _, rfl⟩) ⟨rfl, ?_⟩)
      rw [htk, ← hys, show offOf [x] ys2 = [x] by show List.filter _ [x] = _; rw [List.filter_cons, decide_eq_false hbb]; rfl]
      rfl
    · rename x.1 ∈ List.map _ _ => hbb
      rename Fr _ _ _ _ => kF11
      rename News _ _ _ _ => kN11
      refine Halt.go (LCg.CompEnd.intro kF11 kN11 _ (fun p hp => hp) off (.inr ⟨_, m1, rfl, _, rfl⟩) ⟨rfl, ?_⟩)
      rw [htk, ← hys, show offOf [x] ys2 = [] by show List.filter _ [x] = _; rw [List.filter_cons, decide_eq_true hbb]; rfl]
      exact (List.append_nil _).symm
  case fin1 =>
    rintro ys nx ⟨rfl, rfl⟩ D₂ h₂ tk₂ F₂ N₂ off
    have hlen : (refsOf ys1).toArray.size = ys1.length := by rw [List.size_toArray, List.length_map]
    rw [hlen, List.take_length] at N₂
    subst hRT
    k_steps
    rename News _ _ _ _ => kN4
    refine Halt.go (eq_keys (xs := offOf ys1 ys2) (ys := []) kN4 (.tail _ (.head _)) (.head _) ((K1.mono fun p hp => .tail _ (.tail _ hp)).sub fun x hx => (List.mem_filter.mp hx).1) .nil (by show un + 3 + 64 < cLine; omega) ?_)
    rw [off_nil]
    k_steps
    rename Fr _ _ _ (fun y => ite _ _ _) => kF5
    refine Halt.go (LCt.ListComp_T (F₀ := kF5) (by with_unfolding_all rfl) (by decide) (by rfl) (by decide) (by rfl) ?_)
    k_steps
    rename News _ _ _ _ => kN6
    rename Fr _ _ _ (fun y => ite _ _ _) => kF6
    obtain ⟨RT, hRT, kN7⟩ := News.named kN6
    have hR1 : ∀ p ∈ news, p ∈ RT := fun p hp => by rw [hRT]; exact (by repeat' (first | exact hp | apply List.Mem.tail))
    have m3 := hR1 _ h1
    have m4 := hR1 _ h2
    have K3 := hK1.mono hR1
    have K4 := hK2.mono hR1

    refine Halt.go (LCt.CompSrcT.ledger (its := (refsOf ys2).toArray) (k := e2) (by rfl) kF6 kN7 m4 (by rw [List.size_toArray, List.length_map, sizeLine_eq]; omega) fun g => ?_)
    refine comp_invT (refsOf ys2).toArray.size (fun i ys nx => nx = RT ∧ ys = refsOf (offOf (ys2.take i) ys1)) ?step2 ?fin2 _ 0 [] _ (by omega) ⟨rfl, rfl⟩
    case step2 =>
     rintro i ys nx v I oI C oC D₂ m₂ h tk₁ E' hi hP ⟨rfl, hys⟩ hC hxv F₁ N₁ off ne
     obtain ⟨x, hxm, hxi, rfl⟩ := refs_at hP
     have htk : refsOf (offOf (ys2.take (i + 1)) ys1) = refsOf (offOf (ys2.take i) ys1) ++ refsOf (offOf [x] ys1) := by
      show ((ys2.take (i + 1)).filter _).map _ = _
      rw [List.take_add_one, hxi, List.filter_append, List.map_append]; rfl
     subst hRT
     k_steps
     rename News _ _ _ _ => kN3
     refine Halt.go (notin_keys (k1 := e1) kN3 (.tail _ (.tail _ (.tail _ m3))) (K3.mono fun p hp => .tail _ (.tail _ (.tail _ hp))) (by obtain ⟨vs, a, b⟩ := K4 x hxm; exact ⟨vs, .tail _ (.tail _ (.tail _ a)), b⟩) (by show un + 3 + 64 < cLine; omega) ?_)
     k_steps
     rotate_left
     · rename ¬ (x.1 ∈ List.map _ _) => hbb
       rename Fr _ _ _ _ => kF11
       rename News _ _ _ _ => kN11
       refine Halt.go (LCg.CompEnd.intro kF11 kN11 _ (fun p hp => hp) off (.inr ⟨_, m4, rfl, _, rfl⟩) ⟨rfl, ?_⟩)
       rw [htk, ← hys, show offOf [x] ys1 = [x] by show List.filter _ [x] = _; rw [List.filter_cons, decide_eq_false hbb]; rfl]
       rfl
     · rename x.1 ∈ List.map _ _ => hbb
       rename Fr _ _ _ _ => kF11
       rename News _ _ _ _ => kN11
       refine Halt.go (LCg.CompEnd.intro kF11 kN11 _ (fun p hp => hp) off (.inr ⟨_, m4, rfl, _, rfl⟩) ⟨rfl, ?_⟩)
       rw [htk, ← hys, show offOf [x] ys1 = [] by show List.filter _ [x] = _; rw [List.filter_cons, decide_eq_true hbb]; rfl]
       exact (List.append_nil _).symm
    case fin2 =>
     rintro ys nx ⟨rfl, rfl⟩ D₃ h₃ tk₃ F₃ N₃ off
     have hlen : (refsOf ys2).toArray.size = ys2.length := by rw [List.size_toArray, List.length_map]
     rw [hlen, List.take_length] at N₃
     subst hRT
     k_steps
     rename News _ _ _ _ => kN8
     refine Halt.go (eq_keys (xs := offOf ys2 ys1) (ys := []) kN8 (.tail _ (.head _)) (.head _) ((K4.mono fun p hp => .tail _ (.tail _ hp)).sub fun x hx => (List.mem_filter.mp hx).1) .nil (by show un + 3 + 64 < cLine; omega) ?_)
     rw [off_nil]
     k_steps
     rename News _ _ _ _ => kQ1
     refine Halt.go (eq_keys (xs := ys1) (ys := ys2) kQ1 (by repeat' (first | exact h1 | apply List.Mem.tail)) (by repeat' (first | exact h2 | apply List.Mem.tail)) (hK1.mono fun p hp => (by repeat' (first | exact hp | apply List.Mem.tail))) (hK2.mono fun p hp => (by repeat' (first | exact hp | apply List.Mem.tail))) (by show un + 3 + 64 < cLine; omega) ?_)
     k_steps
     rename News _ _ _ _ => kQ2
     refine Halt.go (ne_keys (xs := ys1) (ys := []) kQ2 (by repeat' (first | exact h1 | apply List.Mem.tail)) (.head _) (hK1.mono fun p hp => (by repeat' (first | exact hp | apply List.Mem.tail))) .nil (by show un + 3 + 64 < cLine; omega) ?_)
     k_steps
     rename News _ _ _ _ => kQ3
     refine Halt.go (eq_keys (xs := ys1) (ys := []) kQ3 (by repeat' (first | exact h1 | apply List.Mem.tail)) (.head _) (hK1.mono fun p hp => (by repeat' (first | exact hp | apply List.Mem.tail))) .nil (by show un + 3 + 64 < cLine; omega) ?_)
     k_steps
     rename News _ _ _ _ => kQ4
     refine Halt.go (len_L kQ4 (l := D1) (its := (refsOf ys1).toArray) (n := e1) (by repeat' (first | exact h1 | apply List.Mem.tail)) (by rw [List.size_toArray, List.length_map]; omega) fun t4 tk4 => ?_)
     k_steps
     rename News _ _ _ _ => kQ5
     refine Halt.go (len_L kQ5 (l := D1) (its := (refsOf ys1).toArray) (n := e1) (by repeat' (first | exact h1 | apply List.Mem.tail)) (by rw [List.size_toArray, List.length_map]; omega) fun t5 tk5 => ?_)
     k_steps
     rename News _ _ _ _ => kQ6
     refine Halt.go (ne_keys (xs := ys2) (ys := []) kQ6 (by repeat' (first | exact h2 | apply List.Mem.tail)) (.head _) (hK2.mono fun p hp => (by repeat' (first | exact hp | apply List.Mem.tail))) .nil (by show un + 3 + 64 < cLine; omega) ?_)
     k_steps
     rename News _ _ _ _ => kQ7
     refine Halt.go (eq_keys (xs := ys2) (ys := []) kQ7 (by repeat' (first | exact h2 | apply List.Mem.tail)) (.head _) (hK2.mono fun p hp => (by repeat' (first | exact hp | apply List.Mem.tail))) .nil (by show un + 3 + 64 < cLine; omega) ?_)
     k_steps
     rename News _ _ _ _ => kQ8
     refine Halt.go (len_L kQ8 (l := D2) (its := (refsOf ys2).toArray) (n := e2) (by repeat' (first | exact h2 | apply List.Mem.tail)) (by rw [List.size_toArray, List.length_map]; omega) fun t8 tk8 => ?_)
     k_steps
     rename News _ _ _ _ => kQ9
     refine Halt.go (len_L kQ9 (l := D2) (its := (refsOf ys2).toArray) (n := e2) (by repeat' (first | exact h2 | apply List.Mem.tail)) (by rw [List.size_toArray, List.length_map]; omega) fun t9 tk9 => ?_)
     k_steps
     rename Fr _ _ _ m => kF
     rename News _ L _ _ => kN
     rename_i D9 h9 F9 N9 l9 Tc9 kX9
     have hdl : (dueL (ys1.map (·.1)) (ys2.map (·.1))).map Value.bool = [Value.bool ((ys1.map (·.1)).all fun k => decide (k ∈ ys2.map (·.1))), Value.bool ((ys2.map (·.1)).all fun k => decide (k ∈ ys1.map (·.1))), Value.bool (decide (ys1.map (·.1) = ys2.map (·.1))),
        Value.bool !decide (ys1.map (·.1) = ([] : List KX).map (·.1)), Value.bool (decide (ys1.map (·.1) = ([] : List KX).map (·.1))), Value.bool (decide (((refsOf ys1).toArray.size : Int) < 2)), Value.bool ((((refsOf ys1).toArray.size : Nat) : Int) == 1),
        Value.bool !decide (ys2.map (·.1) = ([] : List KX).map (·.1)), Value.bool (decide (ys2.map (·.1) = ([] : List KX).map (·.1))), Value.bool (decide (((refsOf ys2).toArray.size : Int) < 2)), Value.bool ((((refsOf ys2).toArray.size : Nat) : Int) == 1)] := by
       rw [size_lt, size_lt, size_one, size_one]; rfl
     refine hret D9 _ _ 0 kF (fun p hp => kN p ?_) (fun q hq => Nat.ne_of_lt (allLt_mem l9.2.2.2.2.2.2.2.2.2.2.2.2.2.2 q hq))
     rw [hdl] at hp
     rcases List.mem_cons.mp hp with rfl | hp
     · exact .head _
     · exact (by repeat' (first | exact hp | apply List.Mem.tail))
end Mine
end
section
open PySem PySem.W PyProof.Rows PySem.Calls
set_option maxRecDepth 100000
set_option maxHeartbeats 1500000
set_option linter.unusedVariables false
namespace Mine
theorem off25 : True := by
  w_top off
  trivial
/-- the law's own statements and scope -/
noncomputable def lawB : List Stmt := match PySem.Challenge.pw_nu0274_01.main.body.getLast? with | some (Stmt.FunctionDef _ _ b _ _ _ _ _ _ _) => b | _ => []
noncomputable def lawS : Scope := match PySem.Challenge.pw_nu0274_01.main.body.getLast? with | some (Stmt.FunctionDef _ _ _ _ _ _ s _ _ _) => s | _ => default
noncomputable abbrev lawE (L a : Addr) (cd : Value) : Env := envOfC (Str.ofString "law") lawS L a cd
/-- an address that no entry bears -/
noncomputable def OffK (b : Addr) (l : Led) : Prop := ∀ q ∈ l, LtN b q.1 ∨ LtN q.1 b
theorem OffK.ne {b : Addr} {l : Led} (h : OffK b l) : ∀ q ∈ l, @Ne Nat q.1 b := fun q hq => by have := h q hq; omega
theorem OffK.of {b : Addr} {l : Led} (h : ∀ q ∈ l, @Ne Nat q.1 b) : OffK b l := fun q hq => by have : @Ne Nat q.1 b := h q hq; omega
/-- how an exception leaves the law -/
noncomputable abbrev lawX (w : World) (L a : Addr) (cd : Value) (E : Value → Shared → Prop) : Value → Shared → Prop := fun e s' => wpAny (model PP w) (callerA.deeper (lawE L a cd)) (leaving (lawE L a cd) e) (fun _ s'' => E e s'') (fun e' s'' => E e' s'') s'
/-- the frame's map: the names that the law's end asks -/
noncomputable abbrev lawM (mB : Str → Option Value) (ar : Int) (tar : Tok) (IN KY Mk Am Bm TL : Addr) : Str → Option Value := fun y =>
  if y = Str.ofString "told" then some (.ref TL) else if y = Str.ofString "b" then some (.ref Bm) else if y = Str.ofString "a" then some (.ref Am) else if y = Str.ofString "maker" then some (.ref Mk) else if y = Str.ofString "keys" then some (.ref KY) else if y = Str.ofString "arity" then some (.int ar tar) else if y = Str.ofString "inputs" then some (.ref IN) else mB y
section
variable {w : World} {A : Around} {E : Value → Shared → Prop} {s : Shared} {h₀ h : Heap} {L a b : Addr} {news : Led} {k1 k2 : Nat} {Q : Value → Shared → Prop}
theorem eqv_bools : ∀ ns ms : List Bool, PyData.eqvAll (ns.map PyData.bool) (ms.map PyData.bool) = decide (ns = ms)
  | [], [] => by simp [PyData.eqvAll]
  | [], _ :: _ => by simp [PyData.eqvAll]
  | _ :: _, [] => by simp [PyData.eqvAll]
  | a :: r, b :: t => by
    simp only [List.map_cons, PyData.eqvAll, PyData.eqv, eqv_bools r t]
    by_cases h : a = b <;> by_cases h' : r = t <;> simp [h, h']
theorem reads_bools : ∀ bs : List Bool, ReadsAll h (bs.map Value.bool) (bs.map PyData.bool) []
  | [] => .nil
  | b :: r => by simpa using ReadsAll.cons (Reads.bool (h := h) b) (reads_bools r)
theorem lay_bools : ∀ bs : List Bool, PyData.canLayAll0 (bs.map PyData.bool) = true ∧ PyData.depthAll (bs.map PyData.bool) = 0
  | [] => by simp [PyData.canLayAll0, PyData.depthAll]
  | b :: r => by simp [PyData.canLayAll0, PyData.canLay0, PyData.depthAll, PyData.depth, lay_bools r]
theorem shaped_bools (bs : List Bool) : SeqAt.shaped (.list (bs.map PyData.bool)) = true := by
  unfold SeqAt.shaped
  simp only [PyData.canLay0, PyData.depth, lay_bools bs]
  decide
theorem ne_bools {bs cs : List Bool} (N : News h₀ L s.heap news) (m1 : (a, W.listOf (bs.map Value.bool).toArray k1) ∈ news) (m2 : (b, W.listOf (cs.map Value.bool).toArray k2) ∈ news) (hu : A.units + 64 < cLine)
    (h : Q (.bool (!decide (bs = cs))) s) : wpAny (model PP w) A (compareOp .NotEq (.ref a) (.ref b)) Q E s := by
  refine PyProof.Rows.ne_dataH (reads_list_at (N.get m1) rfl rfl (by simpa using reads_bools bs)) (reads_list_at (N.get m2) rfl rfl (by simpa using reads_bools cs)) (shaped_bools _) (shaped_bools _) hu ?_
  rw [show PyData.eqv (.list (bs.map PyData.bool)) (.list (cs.map PyData.bool)) = decide (bs = cs) by rw [PyData.eqv]; exact eqv_bools bs cs]
  exact h
theorem News.known {i k p c e1 e2 e3 e4 e5 : Addr × Obj} {rest : Led} (N : News h₀ L h (i :: k :: p :: c :: e1 :: e2 :: e3 :: e4 :: e5 :: rest)) : News h₀ L h (e1 :: e2 :: e3 :: e4 :: e5 :: i :: k :: p :: c :: rest) := News.sub N (all_cons (mem_at 4 rfl) (all_cons (mem_at 5 rfl) (all_cons (mem_at 6 rfl) (all_cons (mem_at 7 rfl) (all_cons (mem_at 8 rfl) (all_cons (mem_at 0 rfl) (all_cons (mem_at 1 rfl) (all_cons (mem_at 2 rfl) (all_cons (mem_at 3 rfl) (sub_drop 9 rfl))))))))))
theorem News.stored {d i k p c e1 e2 e3 e4 e5 : Addr × Obj} {rest : Led} (N : News h₀ L h (d :: e1 :: e2 :: e3 :: e4 :: e5 :: i :: k :: p :: c :: rest)) : News h₀ L h (k :: d :: i :: p :: c :: e1 :: e2 :: e3 :: e4 :: e5 :: rest) := News.sub N (all_cons (mem_at 7 rfl) (all_cons (mem_at 0 rfl) (all_cons (mem_at 6 rfl) (all_cons (mem_at 8 rfl) (all_cons (mem_at 9 rfl) (all_cons (mem_at 1 rfl) (all_cons (mem_at 2 rfl) (all_cons (mem_at 3 rfl) (all_cons (mem_at 4 rfl) (all_cons (mem_at 5 rfl) (sub_drop 10 rfl)))))))))))
end
local macro_rules | `(tactic| walk_at "eval ListComp") => `(tactic| refine Halt.mk ?_)
local macro_rules | `(tactic| walk_at "CompEnd") => `(tactic| refine Halt.mk ?_)
local macro_rules | `(tactic| walk_at "CompSrcT") => `(tactic| refine Halt.mk ?_)
local macro_rules | `(tactic| walk_at "CompSrc") => `(tactic| refine Halt.mk ?_)
local macro_rules | `(tactic| walk_at "exec For Name Call cons nil") => `(tactic| refine Halt.mk ?_)
local macro_rules | `(tactic| walk_at "pyIter ref") => `(tactic| refine Halt.mk ?_)
local macro_rules | `(tactic| walk_at "TurnPost") => `(tactic| ((with_reducible show TurnPost _ _ _ _ _ _ _ (Flow.ret _) _); dsimp only [TurnPost]))
local macro_rules | `(tactic| walk_at "compareOp Eq ref ref") => `(tactic| refine Halt.mk ?_)
local macro_rules | `(tactic| walk_at "compareOp NotEq ref ref") => `(tactic| refine Halt.mk ?_)
local macro_rules | `(tactic| walk_at "call ref") => `(tactic| ((with_reducible show wpAny _ _ (call (Value.ref 358) _) _ _ _); refine Halt.mk ?_))
local macro_rules | `(tactic| walk_at "call ref") => `(tactic| ((with_reducible show wpAny _ _ (call (Value.ref 363) _) _ _ _); refine Halt.mk ?_))
local macro_rules | `(tactic| walk_at "call ref") => `(tactic| ((with_reducible show wpAny _ _ (call (Value.ref 368) _) _ _ _); refine Halt.mk ?_))
theorem loop_b (w : World) {p : Program} {loose : List Str} {mean : ExcName → Option Value} {mg mb : Str → Option Value}
  {fa : Addr} {ccd : Value} {h₀ : Heap} {L : Addr} {mB : Str → Option Value} {s : Shared} {Q : Flow → Shared → Prop} {E : Value → Shared → Prop}
  {C dC kL pL nD : Addr} {t1 t2 t3 : Tok} {ks ps : Array Value} {xs : List KX} {n1 n2 n3 : Nat} {rest tps : Led} {G : List Gate} {Mk dM : Addr} {tc tn : Tok} {nv : Value} {nM : Nat} {Am mD Bm mE : Addr} {ar br : Int} {at' bt' : Tok} {xs1 xs2 : List KX} {m1 m2 : Nat} {IN KY KP TL : Addr} {iv tv : List Value} {tg : List Int} {kx : List KX} {ni nk nt : Nat} {ok op oc : Obj}
  (K0 : Below callerA h₀ [] h₀) (X : (hd.heap_1 w.params).In h₀) (T : Top p loose mean mg mb h₀)
  (F : Fr h₀ L s.heap (lawM mB ar at' IN KY Mk Am Bm TL))
  (hN : News h₀ L s.heap ((L + 1 + 1 + 1, ok) :: (L + 1 + 1, op) :: (L + 1, oc) :: ((C, instObj 328 dC) :: (dC, circO w kL pL nD t1 t2 t3) :: (kL, W.listOf ks n1) :: (pL, W.listOf ps n2) :: (nD, knownO w xs n3) :: rest)))
  (hok : ∃ v, ok.data = Data.cell v) (hop : op.data = Data.cell (some (.ref KP))) (hoc : oc.data = Data.cell (some (.ref C)))
  (o1 : LtN dC C) (o2 : LtN C kL) (o3 : LtN kL pL) (o4 : LtN pL nD) (r1 : ∀ p ∈ rest, p.1 ≠ C) (r2 : ∀ p ∈ rest, p.1 ≠ dC) (r3 : ∀ p ∈ rest, p.1 ≠ kL) (r4 : ∀ p ∈ rest, p.1 ≠ pL) (r5 : ∀ p ∈ rest, p.1 ≠ nD) (lo3 : (nD == sysModules) = false)
  (p1 : LtN (L + 1 + 1 + 1) dC) (hrK : OffK (L + 1 + 1 + 1) rest)
  (hc : CircOk G ks ps xs tps) (hsub : ∀ p ∈ tps, p ∈ rest) (hz : G.length ≤ 1000) (hIN : (IN, W.listOf iv.toArray ni) ∈ rest) (hiv : IntsAre iv [2, 3, 4, 5]) (hG4 : 4 ≤ G.length) (hG : ∀ i g, G[i]? = some g → (g.isNone = true ↔ i < 4))
  (hA : (Am, tupO [.int ar at', .ref mD]) ∈ rest) (hD : (mD, matO w xs1 m1) ∈ rest) (loD : (mD == sysModules) = false) (hK : KeysAsc rest xs1) (hV : ValsOk (G.length + 2) xs1) (h4 : xs1.length ≤ 4)
  (hA' : (Bm, tupO [.int br bt', .ref mE]) ∈ rest) (hD' : (mE, matO w xs2 m2) ∈ rest) (loE : (mE == sysModules) = false) (hK' : KeysAsc rest xs2) (hV' : ValsOk (G.length + 2) xs2) (h4' : xs2.length ≤ 4)
  (hTL : (TL, W.listOf tv.toArray nt) ∈ rest) (htv : IntsAre tv tg) (htg : ∀ g ∈ tg, GOk (G.length + 2) g) (ht11 : tg.length ≤ 11)
  (hdue : ∀ ρ, tg.map (lit (vals ρ G)) = dueL ((trueOf (vals ρ G) xs1).map (·.1)) ((trueOf (vals ρ G) xs2).map (·.1)))
  (done : ∀ u ok' h' tk', Fr h₀ L h' (fun y => if y = Str.ofString "number" then u else lawM mB ar at' IN KY Mk Am Bm TL y) → (∃ v, ok'.data = Data.cell v) → News h₀ L h' ((L + 1 + 1 + 1, ok') :: (L + 1 + 1, op) :: (L + 1, oc) :: ((C, instObj 328 dC) :: (dC, circO w kL pL nD t1 t2 t3) :: (kL, W.listOf ks n1) :: (pL, W.listOf ps n2) :: (nD, knownO w xs n3) :: rest)) →
    wpAny (model PP w) (callerA.deeper (lawE L fa ccd)) (execs (lawB.drop 11) (lawE L fa ccd)) Q (lawX w L fa ccd E) { s with heap := h', toks := tk' }) :
  wpAny (model PP w) (callerA.deeper (lawE L fa ccd)) (execs (lawB.drop 10) (lawE L fa ccd)) Q (lawX w L fa ccd E) s := by
  unfold lawX lawE at done ⊢
  dsimp only [lawB, lawS, PySem.Challenge.pw_nu0274_01, List.getLast?, List.getLast, List.drop] at done ⊢
  k_steps
  refine Halt.go (For_invV h₀ (by rfl) (by rfl) ?_)
  k_steps
  rename IsRange _ _ _ _ _ _ _ _ => hRg
  rename Fr _ _ _ _ => kF5
  rename News _ _ _ _ => kN5
  refine Halt.go (loop_range (a := 0) (b := 16) (n := 16) (m := lawM mB ar at' IN KY Mk Am Bm TL)
    (fun i m₁ nx => ∃ (u : Option Value) (ok' : Obj), m₁ = (fun y => if y = Str.ofString "number" then u else lawM mB ar at' IN KY Mk Am Bm TL y) ∧ (∃ v, ok'.data = Data.cell v) ∧ nx = (L + 1 + 1 + 1, ok') :: (L + 1 + 1, op) :: (L + 1, oc) :: ((C, instObj 328 dC) :: (dC, circO w kL pL nD t1 t2 t3) :: (kL, W.listOf ks n1) :: (pL, W.listOf ps n2) :: (nD, knownO w xs n3) :: rest))
    (by rfl) hRg (by decide) (by decide) kF5 kN5 ⟨mB (Str.ofString "number"), ok, ?j0, hok, rfl⟩ ?turn ?done)
  case j0 =>
    funext y
    by_cases h1 : y = Str.ofString "number"
    · rw [if_pos h1, h1]; rfl
    · rw [if_neg h1]
  case turn =>
    rintro I oI i v m₁ nx h tk₁ hi ⟨tg', rfl⟩ ⟨u, ok', rfl, hok', rfl⟩ hI hlt F₁ N₁
    have hI5 : ∀ b ∈ ([C, dC, kL, pL, nD] : List Addr), b ≠ I := fun b hb => by
      simp only [List.mem_cons, List.not_mem_nil, or_false] at hb
      rcases hb with q | q | q | q | q <;> rw [q]
      · exact hI _ (.tail _ (.tail _ (.tail _ (.head _))))
      · exact hI _ (.tail _ (.tail _ (.tail _ (.tail _ (.head _)))))
      · exact hI _ (.tail _ (.tail _ (.tail _ (.tail _ (.tail _ (.head _))))))
      · exact hI _ (.tail _ (.tail _ (.tail _ (.tail _ (.tail _ (.tail _ (.head _)))))))
      · exact hI _ (.tail _ (.tail _ (.tail _ (.tail _ (.tail _ (.tail _ (.tail _ (.head _))))))))
    have hKI : @Ne Nat (L + 1 + 1 + 1) I := hI _ (.head _)
    have off9 : ∀ b : Addr, b ≠ I → LtN (L + 1 + 1 + 1) b → (∀ p ∈ rest, p.1 ≠ b) → ∀ p ∈ (I, oI) :: (L + 1 + 1 + 1, ok') :: (L + 1 + 1, op) :: (L + 1, oc) :: rest, p.1 ≠ b := fun b h1 h2 h3 =>
      off_cons (Ne.symm h1) (off_cons (by show @Ne Nat _ _; (try dsimp only); omega) (off_cons (by show @Ne Nat _ _; (try dsimp only); omega) (off_cons (by show @Ne Nat _ _; (try dsimp only); omega) h3)))
    dsimp only
    simp only [Int.zero_add] at F₁ ⊢
    k_steps
    rename Fr _ _ _ _ => kF6
    rename News _ _ _ _ => kN6
    refine Halt.go (values_c w (nu := i) (rest := (I, oI) :: (L + 1 + 1 + 1, ok') :: (L + 1 + 1, op) :: (L + 1, oc) :: rest) (ks := ks) (ps := ps) (xs := xs) (G := G) (n1 := n1) (n2 := n2) (n3 := n3) (tps := tps) K0 kF6 X (News.known kN6) T (by rfl) o1 o2 o3 o4
      (off9 C (hI5 C (by simp)) (by omega) r1) (off9 dC (hI5 dC (by simp)) (by omega) r2) (off9 kL (hI5 kL (by simp)) (by omega) r3) (off9 pL (hI5 pL (by simp)) (by omega) r4) (off9 nD (hI5 nD (by simp)) (by omega) r5) lo3
      hc (fun p hp => .tail _ (.tail _ (.tail _ (.tail _ (hsub p hp))))) hz (by omega) (.tail _ (.tail _ (.tail _ (.tail _ hIN)))) hiv hG4 hG (by ktr_room) (by ktr_units) fun D h₂ tk₂ e F₂ N₂ hD₂ => ?_)
    have hdi := hdue (fun j => Nat.testBit i (j - 2))
    have hvl : (vals (fun j => Nat.testBit i (j - 2)) G).length = G.length + 2 := vals_len _ _
    generalize vals (fun j => Nat.testBit i (j - 2)) G = KV at N₂ hdi hvl
    obtain ⟨vv, hvv⟩ := hok'
    have N₃ := News.stored N₂
    have hDK : @Ne Nat D (L + 1 + 1 + 1) := Ne.symm (hD₂ (L + 1 + 1 + 1, ok') (by repeat' constructor))
    have hDr : ∀ q ∈ rest, q.1 ≠ D := fun q hq => hD₂ q (by repeat' (first | exact hq | apply List.Mem.tail))
    clear N₂ kN6
    k_steps
    refine storeX_C F₂ N₃ (by rfl) (UpdF.head (off_cons hDK (off_cons (Ne.symm hKI) (off_cons (by show @Ne Nat _ _; (try dsimp only); omega) (off_cons (by show @Ne Nat _ _; (try dsimp only); omega) (off_cons (by show @Ne Nat _ _; (try dsimp only); omega) (off_cons (by show @Ne Nat _ _; (try dsimp only); omega) (off_cons (by show @Ne Nat _ _; (try dsimp only); omega) (off_cons (by show @Ne Nat _ _; (try dsimp only); omega) (off_cons (by show @Ne Nat _ _; (try dsimp only); omega) (hrK.ne)))))))))))
      hvv (fun h₃ oc₃ F₃ N₄ hoc₃ => ?_) (by rfl) (by rfl)
    clear N₃ F₂ hvv
    k_steps
    rename Fr _ _ _ (fun y => ite _ _ _) => kF7
    refine Halt.go (LCg.ListComp_U (F₀ := kF7) (by with_unfolding_all rfl) (by decide) (by rfl) (by decide) (by rfl) ?_)
    k_steps
    rename News _ _ _ _ => kN7
    rename Fr _ _ _ (fun y => ite _ _ _) => kF8
    obtain ⟨RT, hRT, kN8⟩ := News.named kN7
    refine Halt.go (LCg.CompSrc.ledger (its := tv.toArray) (k := nt) (by rfl) kF8 kN8 (by rw [hRT]; exact (by repeat' (first | exact hTL | apply List.Mem.tail))) (by rw [List.size_toArray, htv.length, sizeLine_eq]; omega) fun g => ?_)
    refine comp_inv tv.toArray.size (fun i ys nx => nx = RT ∧ ys = ((tg.take i).map (lit KV)).map Value.bool) ?step ?fin _ 0 [] _ (by omega) ⟨rfl, rfl⟩
    case step =>
      rintro j ys nx v I₂ oI₂ C₁ oC D₂ m₂ h₂ tk₂ E' hj hP ⟨rfl, hys⟩ hC hxv F₂ N₂ off ne
      obtain ⟨q, tq, rfl, hq⟩ := IntsAre.at htv j _ (by simpa using hP)
      have hqo := (htg q (List.mem_of_getElem? hq)).2
      obtain ⟨bq, hbq⟩ : ∃ b, KV[q.natAbs]? = some b := ⟨_, List.getElem?_eq_getElem (by omega)⟩
      have hlq : lit KV q = (bq == decide (0 < q)) := by
        unfold lit; rw [List.getD_eq_getElem?_getD, hbq]; rfl
      have htk : ((tg.take (j + 1)).map (lit KV)).map Value.bool = ((tg.take j).map (lit KV)).map Value.bool ++ [Value.bool (bq == decide (0 < q))] := by
        rw [List.take_add_one, hq, List.map_append, List.map_append, ← hlq]; rfl
      subst hRT
      k_steps
      rename News _ _ _ _ => kN10
      refine list_get kN10 (l := D) (n := e) (j := q.natAbs) (v := .bool bq) (by repeat' constructor) (by split <;> omega) (by omega) (by simp [hbq]) ?_
      k_steps
      rename Fr _ _ _ _ => kF11
      rename News _ _ _ _ => kN11
      refine Halt.go (LCg.CompEnd.intro kF11 kN11 _ (fun p hp => hp) off (.inr ⟨_, (by repeat' (first | exact hTL | apply List.Mem.tail)), rfl, _, rfl⟩) ⟨rfl, ?_⟩)
      rw [htk, ← hys]
    case fin =>
      rintro ys nx ⟨rfl, hys⟩ D₂ h₂ tk₂ F₂ N₂ off
      have hlen : tv.toArray.size = tg.length := by rw [List.size_toArray, htv.length]
      rw [hlen, List.take_length] at hys
      subst hRT hys
      k_steps
      rename Fr _ _ _ (fun y => ite _ _ _) => kFa
      rename News _ _ _ _ => kNa
      refine Halt.go (set_c w (kb := KV) (nG := G.length + 2) (e₀ := e) K0 kFa X kNa T (by rfl) (by repeat' (first | exact hA | apply List.Mem.tail)) (by repeat' (first | exact hD | apply List.Mem.tail)) loD (hK.mono fun p hp => by repeat' (first | exact hp | apply List.Mem.tail)) hV h4 (by repeat' (first | exact List.Mem.head _ | apply List.Mem.tail)) (by omega) (by omega) (by ktr_room) (by ktr_units) fun Da ha tka ea Fa Na hDa => ?_)
      k_steps
      rename Fr _ _ _ (fun y => ite _ _ _) => kFb
      rename News _ _ _ _ => kNb
      refine Halt.go (set_c w (kb := KV) (nG := G.length + 2) (e₀ := e) K0 kFb X kNb T (by rfl) (by repeat' (first | exact hA' | apply List.Mem.tail)) (by repeat' (first | exact hD' | apply List.Mem.tail)) loE (hK'.mono fun p hp => by repeat' (first | exact hp | apply List.Mem.tail)) hV' h4' (by repeat' (first | exact List.Mem.head _ | apply List.Mem.tail)) (by omega) (by omega) (by ktr_room) (by ktr_units) fun Db hb tkb eb Fb Nb hDb => ?_)
      k_steps
      rename Fr _ _ _ (fun y => ite _ _ _) => kFc
      rename News _ _ _ _ => kNc
      refine Halt.go (due_c w (ys1 := trueOf KV xs1) (ys2 := trueOf KV xs2) (e1 := ea) (e2 := eb) K0 kFc X kNc T (by rfl) (by repeat' (first | exact List.Mem.head _ | apply List.Mem.tail)) (by repeat' (first | exact List.Mem.head _ | apply List.Mem.tail)) (KeysIn.sub (KeysAsc.ins (hK.mono fun p hp => by repeat' (first | exact hp | apply List.Mem.tail))) fun x hx => (List.mem_filter.mp hx).1) (KeysIn.sub (KeysAsc.ins (hK'.mono fun p hp => by repeat' (first | exact hp | apply List.Mem.tail))) fun x hx => (List.mem_filter.mp hx).1)
        (Nat.le_trans (List.length_filter_le ..) h4) (Nat.le_trans (List.length_filter_le ..) h4') (by ktr_room) (by ktr_units) fun De he tke ee Fe Ne' hDe => ?_)
      k_steps
      rename Fr _ _ _ (fun y => ite _ _ _) => kFd
      rename News _ _ _ _ => kNd
      refine Halt.go (ne_bools (bs := tg.map (lit KV)) (cs := dueL ((trueOf KV xs1).map (·.1)) ((trueOf KV xs2).map (·.1))) (k1 := (tg.map (lit KV)).map Value.bool |>.length) (k2 := ee) kNd (by repeat' (first | exact List.Mem.head _ | apply List.Mem.tail)) (by repeat' (first | exact List.Mem.head _ | apply List.Mem.tail)) (by ktr_units) ?_)
      rw [decide_eq_true hdi]
      k_steps
      rename Fr _ _ _ (fun y => ite _ _ _) => kFf
      rename News _ _ _ _ => kNf
      refine TurnPost.next (oI := oI) ((L + 1 + 1 + 1, oc₃) :: (L + 1 + 1, op) :: (L + 1, oc) :: ((C, instObj 328 dC) :: (dC, circO w kL pL nD t1 t2 t3) :: (kL, W.listOf ks n1) :: (pL, W.listOf ps n2) :: (nD, knownO w xs n3) :: rest)) kFf (fun p hp => kNf p ?_) ?_ ⟨some (.int (i : Int) tg'), oc₃, ?_, ⟨_, hoc₃⟩, rfl⟩
      · rcases List.mem_cons.mp hp with rfl | hp
        · exact (by repeat' (first | exact List.Mem.head _ | apply List.Mem.tail))
        rcases List.mem_cons.mp hp with rfl | hp
        · exact (by repeat' (first | exact List.Mem.head _ | apply List.Mem.tail))
        rcases List.mem_cons.mp hp with rfl | hp
        · exact (by repeat' (first | exact List.Mem.head _ | apply List.Mem.tail))
        rcases List.mem_cons.mp hp with rfl | hp
        · exact (by repeat' (first | exact List.Mem.head _ | apply List.Mem.tail))
        · exact (by repeat' (first | exact hp | apply List.Mem.tail))
      · refine off_cons hKI (off_cons (hI _ (.tail _ (.head _))) (off_cons (hI _ (.tail _ (.tail _ (.head _)))) fun p hp => hI p (.tail _ (.tail _ (.tail _ hp)))))
      · funext y
        by_cases h1 : y = Str.ofString "number"
        · subst h1; rfl
        · simp only [h1, if_false]
  case done =>
    rintro m₁ nx h tk₁ ⟨u, ok', rfl, hok', rfl⟩ F₁ N₁
    dsimp only
    exact done u ok' h tk₁ F₁ hok' N₁
end Mine
end
section
open PySem PySem.W PyProof.Rows PySem.Calls
set_option maxRecDepth 100000
set_option maxHeartbeats 1500000
set_option linter.unusedVariables false
namespace Mine
theorem off26 : True := by
  w_top off
  trivial
section
variable {w w' : World} {prog : Program} {A : Around} {E : Value → Shared → Prop} {s : Shared} {h₀ h : Heap} {L : Addr} {news : Led}
noncomputable abbrev TK (prog : Program) (w : World) : HeapKind prog w (List Int) := tupleKind (PySem.intKind prog w)
theorem items_any : ∀ {vs : List Value} {ns : List Int}, IntsAre vs ns → ItemsAre (PySem.intKind prog w') ns vs
  | _, _, .nil => .nil
  | _, _, .cons n t r => .cons (intKind_is _ _ n t) (items_any r)
/-- two dicts of the same pairs -/
theorem same_pairs {nm : String} {a b : Addr} {xs : List KX} {n n' : Nat} {Q : Bool → Shared → Prop} (hu : A.units + 1 < cLine) (N : News h₀ L s.heap news) (ma : (a, matO w xs n) ∈ news) (mb : (b, matO w xs n') ∈ news)
    (hk : ∀ x ∈ xs, ∃ vs, (x.2.1, tupO vs) ∈ news ∧ IntsAre vs x.1) (nd : (xs.map (·.1)).Nodup) (ha : (a == sysModules) = false) (hb : (b == sysModules) = false) (h : Q true s) :
    wpAny (model prog w') A (Builtin.Dict.samePairs nm a b) Q E s := by
  have hoa := (N _ ma).1
  have hob := (N _ mb).1
  have hkis : ∀ x ∈ xs, (TK prog w').is s.heap x.1 x.2.1 := fun x hx => let ⟨vs, h1, h2⟩ := hk x hx; ⟨_, _, _, (N _ h1).1, rfl, rfl, by simpa using items_any h2⟩
  have hdH : s.heap.DictOfH (TK prog w') b xs := ⟨_, _, _, (N _ mb).1, ⟨rfl, rfl, rfl⟩, rfl, rfl, hkis, nd⟩
  obtain ⟨ob, es', ep', hob', hcb, hdb, heb, hisb, hnb⟩ := hdH
  have hes' : es' = (xs.map (entryOfKey (TK prog w'))).toArray := by rw [← heb, Array.toArray_toList]
  unfold Builtin.Dict.samePairs Builtin.Dict.showsAll
  rw [if_neg (show ¬ (a == sysModules) = true by rw [ha]; exact Bool.false_ne_true), if_neg (show ¬ (b == sysModules) = true by rw [hb]; exact Bool.false_ne_true)]
  refine wpAny_bind (wpAny_pure (wpAny_bind (wpAny_pure ?_)))
  refine wpAny_bind (wpAny_dictEntries (es := (xs.map (entryOfKey (TK prog w'))).toArray) hoa rfl ?_)
  dsimp only
  refine wpAny_bind (wpAny_dictEntries (es := (xs.map (entryOfKey (TK prog w'))).toArray) hob rfl ?_)
  rw [if_neg (by simp)]
  refine wpAny_bind (wpAny_dictEpoch hoa rfl ?_)
  refine wpAny_bind ?_
  rw [Std.Legacy.Range.forIn_eq_forIn_range']
  simp only [Std.Legacy.Range.size, Nat.sub_zero, Nat.add_sub_cancel, Nat.div_one]
  refine wpAny_forIn_list _ (fun rest q s' => s' = s ∧ q = (none, ()) ∧ ∀ i ∈ rest, i < xs.length) _ ?_ ?_ _ _ ⟨rfl, rfl, fun i hi => ?_⟩
  · rintro i rest q s' ⟨rfl, rfl, hr⟩
    have hlt := hr i (.head _)
    have hget : ((xs.map (entryOfKey (TK prog w'))).toArray)[i]? = some (entryOfKey (TK prog w') xs[i]) := by simp [hlt]
    refine wpAny_bind (wpAny_dictEntries (es := (xs.map (entryOfKey (TK prog w'))).toArray) hoa rfl ?_)
    rw [hget]
    obtain ⟨vs, k1, k2⟩ := hk xs[i] (List.getElem_mem hlt)
    show wpAny _ _ (holding [(entryOfKey (TK prog w') xs[i]).key, (entryOfKey (TK prog w') xs[i]).val] _ >>= _) _ _ _
    refine wpAny_bind (wpAny_holding (wpAny_bind (wpAny_dictFind_heap (knd := TK prog w') (by show A.units < cLine; omega) (hkis _ (List.getElem_mem hlt)) hob' hdb heb hisb hnb ?_ ?_)))
    · intro hno
      exact absurd (by simp [hlt]) (hno i xs[i].2)
    · intro j p hj
      obtain ⟨hjl, hje⟩ := List.getElem?_eq_some_iff.mp hj
      have hji : p.2 = xs[i].2.2 := by
        have e1 := atKey_of_get hnb hj
        have e2 := atKey_mem nd (List.getElem_mem hlt)
        rw [e1] at e2
        rw [Option.some.inj e2]
      have hgj : ((xs.map (entryOfKey (TK prog w'))).toArray)[j]? = some (entryOfKey (TK prog w') xs[j]) := by simp [hjl]
      refine wpAny_bind (wpAny_dictEntries (es := (xs.map (entryOfKey (TK prog w'))).toArray) hob rfl ?_)
      rw [hgj]
      have hv : (entryOfKey (TK prog w') xs[i]).val = (entryOfKey (TK prog w') xs[j]).val := by
        show xs[i].2.2 = xs[j].2.2
        rw [hje, ← hji]
      rw [hv]
      refine wpAny_holding (SeqAt.EqAt.same _ _ _ _ _ ?_)
      show wpAny _ _ (if (!true) = true then _ else _) _ _ _
      rw [if_neg (by decide)]
      refine wpAny_bind (wpAny_dictEpoch hoa rfl ?_)
      rw [if_neg (by simp)]
      exact wpAny_pure ⟨rfl, rfl, fun i hi => hr i (.tail _ hi)⟩
  · rintro q s' ⟨rfl, rfl, _⟩
    exact wpAny_pure h
  · have := List.mem_range'_1.mp hi
    simpa using this
theorem eq_mats {a b : Addr} {xs : List KX} {n n' : Nat} (hne : a ≠ b) (hu : A.units + 4 < cLine) (N : News h₀ L s.heap news) (ma : (a, matO w xs n) ∈ news) (mb : (b, matO w xs n') ∈ news)
    (hk : ∀ x ∈ xs, ∃ vs, (x.2.1, tupO vs) ∈ news ∧ IntsAre vs x.1) (nd : (xs.map (·.1)).Nodup) (ha : (a == sysModules) = false) (hb : (b == sysModules) = false) {Q : Bool → Shared → Prop} (h : Q true s) :
    wpAny (model prog w') A (eqBool (.ref a) (.ref b)) Q E s := by
  have ta : s.TypeIs (.ref a) "dict" := ⟨_, (N _ ma).1, rfl⟩
  have tb : s.TypeIs (.ref b) "dict" := ⟨_, (N _ mb).1, rfl⟩
  unfold eqBool
  refine wpAny_holding ?_
  refine wpAny_ite_split (fun hab => absurd (by have := eq_of_beq hab; injection this) hne) (fun _ => ?_)
  refine wpAny_bind ?_
  refine wpAny_richCompare_same_room (op := .Eq) ta tb PySem.F.slot_dict_eq (wpAny_call_entry PySem.F.slot_dict_eq ta PySem.F.entry_dict_eq ?_ (PySem.F.args_dict_eq_2 _ _)) (by omega)
  show wpAny _ _ (Builtin.Dict.dictSlotArgs "__eq__" ⟨[.ref a, .ref b], []⟩ >>= _) _ _ s
  refine wpAny_bind ?_
  unfold Builtin.Dict.dictSlotArgs
  refine wpAny_bind (wpAny_notOrdered_dict ta ?_)
  show wpAny _ _ (pure (Value.ref a, Value.ref b)) _ _ s
  refine wpAny_pure ?_
  refine wpAny_bind (wpAny_isInstance (T := "dict") tb PySem.F.sub_dict_dict ?_)
  simp only [Bool.not_true, Bool.false_eq_true, if_false]
  refine wpAny_bind (wpAny_pure (wpAny_bind (wpAny_pure ?_)))
  refine wpAny_bind (same_pairs (by show A.units + 1 + 1 < cLine; omega) N ma mb hk nd ha hb ?_)
  refine wpAny_pure ⟨_, rfl, ?_, ?_⟩
  · exact fun x => nomatch x
  · exact wpAny_truthy_bool h
end
end Mine
end
section
open PySem PySem.W PyProof.Rows PySem.Calls
set_option maxRecDepth 100000
set_option maxHeartbeats 1500000
set_option linter.unusedVariables false
namespace Mine
theorem off27 : True := by
  w_top off
  trivial
local macro_rules | `(tactic| omega) => `(tactic| omega (config := {}))
section
variable {w : World} {A : Around} {E : Value → Shared → Prop} {s : Shared} {h₀ h : Heap} {L : Addr} {news : Led} {Q : Value → Shared → Prop}
/-- two lists of two matrices' dicts, pair by pair alike -/
theorem ne_two {l b d1 d2 e1 e2 : Addr} {xs ys : List KX} {k k' n1 n2 n1' n2' : Nat} (hu : A.units + 8 < cLine) (N : News h₀ L s.heap news) (ml : (l, W.listOf #[.ref d1, .ref d2] k) ∈ news) (mb : (b, W.listOf #[.ref e1, .ref e2] k') ∈ news)
    (m1 : (d1, matO w xs n1) ∈ news) (m2 : (d2, matO w ys n2) ∈ news) (m3 : (e1, matO w xs n1') ∈ news) (m4 : (e2, matO w ys n2') ∈ news) (hne : d1 ≠ e1) (hne' : d2 ≠ e2)
    (hk : KeysAsc news xs) (hk' : KeysAsc news ys) (l1 : (d1 == sysModules) = false) (l2 : (d2 == sysModules) = false) (l3 : (e1 == sysModules) = false) (l4 : (e2 == sysModules) = false) (h : Q (.bool false) s) :
    wpAny (model PP w) A (compareOp .NotEq (.ref l) (.ref b)) Q E s := by
  refine SeqAt.RcNeAt.lists (items := #[.ref d1, .ref d2]) (items2 := #[.ref e1, .ref e2]) (e := fun _ => true) ⟨_, (N _ ml).1, rfl, _, rfl⟩ ⟨_, (N _ mb).1, rfl, _, rfl⟩ rfl (by omega) (fun j h1 h2 => ?_) _ _ _ _ (by exact h)
  have hj : j = 0 ∨ j = 1 := by
    have : j < 2 := h1
    omega
  rcases hj with rfl | rfl
  · exact fun prog w' E' Q' hq => eq_mats (w := w) hne (by show A.units + 1 + 4 < cLine; omega) N m1 m3 hk.key hk.nodup l1 l3 hq
  · exact fun prog w' E' Q' hq => eq_mats (w := w) hne' (by show A.units + 1 + 4 < cLine; omega) N m2 m4 hk'.key hk'.nodup l2 l4 hq
end
noncomputable def kgate : Option (Addr × Value) → Int
  | some (_, .int g _) => g
  | _ => 0
theorem kgate_of (x : KX) : kgate (some x.2) = gateOf x := by
  obtain ⟨a, b, v⟩ := x
  cases v <;> rfl
/-- the gates of the tuples that a matrix has, by the whole's order -/
theorem kept_gates : ∀ {xs kx : List KX}, SubK xs kx → (kx.map (·.1)).Nodup → (kx.filter fun z => (atKey xs z.1).isSome).map (fun z => kgate (atKey xs z.1)) = xs.map gateOf := by
  intro xs kx h
  have key : ∀ (xs kx all : List KX), SubK xs kx → (kx.map (·.1)).Nodup → (∀ z ∈ kx, atKey all z.1 = atKey xs z.1) → (kx.filter fun z => (atKey all z.1).isSome).map (fun z => kgate (atKey all z.1)) = xs.map gateOf := by
    intro xs kx
    induction kx generalizing xs with
    | nil =>
      intro all h _ _
      have : xs = [] := by
        have := h.len
        exact List.eq_nil_of_length_eq_zero (by simpa using this)
      subst this; rfl
    | cons z kx ih =>
      intro all h hn he
      rw [List.map_cons, List.nodup_cons] at hn
      unfold SubK at h
      rw [List.map_cons] at h
      cases xs with
      | nil =>
        have hz := he z (.head _)
        rw [List.filter_cons, hz]
        exact ih [] all (List.nil_sublist _) hn.2 fun y hy => he y (.tail _ hy)
      | cons x xs =>
        rw [List.map_cons] at h
        by_cases e : keyOf x = keyOf z
        · rw [e] at h
          have h' : SubK xs kx := (List.cons_sublist_cons.mp h)
          have ez : x.1 = z.1 := congrArg (fun t : List Int × Addr => t.1) e
          have hz : atKey all z.1 = some x.2 := by
            rw [he z (.head _)]; unfold atKey; rw [List.find?_cons, decide_eq_true ez]; rfl
          have hrest : ∀ y ∈ kx, atKey all y.1 = atKey xs y.1 := fun y hy => by
            rw [he y (.tail _ hy)]; unfold atKey; rw [List.find?_cons, decide_eq_false (fun q => hn.1 (by rw [← ez, q]; exact List.mem_map_of_mem hy))]
          rw [List.filter_cons, hz]
          show List.map _ (z :: _) = _
          rw [List.map_cons, List.map_cons, ih xs all h' hn.2 hrest, hz, kgate_of]
        · have h' : SubK (x :: xs) kx := by
            unfold SubK; rw [List.map_cons]
            rcases List.sublist_cons_iff.mp h with h | ⟨r, hr, _⟩
            · exact h
            · exact absurd (List.cons.inj hr).1 e
          have hz : atKey all z.1 = none := by
            rw [he z (.head _)]
            cases q : atKey (x :: xs) z.1 with
            | none => rfl
            | some p =>
              exfalso
              unfold atKey at q
              obtain ⟨y, hy, _⟩ := Option.map_eq_some_iff.mp q
              have h1 := List.mem_of_find?_eq_some hy
              have h2 : y.1 = z.1 := by simpa using List.find?_some hy
              obtain ⟨u, hu, e1, _⟩ := h'.mem h1
              exact hn.1 (by rw [← h2, e1]; exact List.mem_map_of_mem hu)
          rw [List.filter_cons, hz]
          exact ih (x :: xs) all h' hn.2 fun y hy => he y (.tail _ hy)
  exact fun hn => key xs kx xs h hn fun _ _ => rfl
local macro_rules | `(tactic| walk_at "eval ListComp") => `(tactic| refine Halt.mk ?_)
local macro_rules | `(tactic| walk_at "CompEnd") => `(tactic| refine Halt.mk ?_)
local macro_rules | `(tactic| walk_at "CompSrcT") => `(tactic| refine Halt.mk ?_)
local macro_rules | `(tactic| walk_at "CompSrc") => `(tactic| refine Halt.mk ?_)
local macro_rules | `(tactic| walk_at "exec For Name Call cons nil") => `(tactic| refine Halt.mk ?_)
local macro_rules | `(tactic| walk_at "pyIter ref") => `(tactic| refine Halt.mk ?_)
local macro_rules | `(tactic| walk_at "TurnPost") => `(tactic| ((with_reducible show TurnPost _ _ _ _ _ _ _ (Flow.ret _) _); dsimp only [TurnPost]))
local macro_rules | `(tactic| walk_at "compareOp Eq ref ref") => `(tactic| refine Halt.mk ?_)
local macro_rules | `(tactic| walk_at "compareOp NotEq ref ref") => `(tactic| refine Halt.mk ?_)
local macro_rules | `(tactic| walk_at "call ref") => `(tactic| ((with_reducible show wpAny _ _ (call (Value.ref 73) _) _ _ _); refine Halt.mk ?_))
local macro_rules | `(tactic| walk_at "compareOp In ref ref") => `(tactic| refine Halt.mk ?_)
theorem end_b (w : World) {p : Program} {loose : List Str} {mean : ExcName → Option Value} {mg mb : Str → Option Value}
  {fa : Addr} {ccd : Value} {h₀ : Heap} {L : Addr} {mB : Str → Option Value} {s : Shared} {Q : Flow → Shared → Prop} {E : Value → Shared → Prop} {u : Option Value}
  {Mk dM : Addr} {tc tn : Tok} {nv : Value} {nM : Nat} {Am mD Bm mE : Addr} {ar : Int} {at' bt' tar : Tok} {xs1 xs2 : List KX} {m1 m2 ng : Nat} {C IN KY KP TL K1 K2 : Addr} {kx : List KX} {nk k1 k2 kk : Nat} {op : Obj} {rest : Led}
  (K0 : Below callerA h₀ [] h₀) (X : (hd.heap_1 w.params).In h₀) (T : Top p loose mean mg mb h₀)
  (F : Fr h₀ L s.heap (fun y => if y = Str.ofString "number" then u else lawM mB ar tar IN KY Mk Am Bm TL y))
  (hN : News h₀ L s.heap ((L + 1 + 1, op) :: rest))
  (hop : op.data = Data.cell (some (.ref KP)))
  (hMk : (Mk, instObj 220 dM) ∈ rest) (hdM : (dM, dictOf [ent w "circuit" tc (.ref C), ent w "n" tn nv] nM) ∈ rest)
  (hA : (Am, tupO [.int ar at', .ref mD]) ∈ rest) (hD : (mD, matO w xs1 m1) ∈ rest) (loD : (mD == sysModules) = false) (hK : KeysAsc rest xs1) (hV : ValsOk ng xs1) (h4 : xs1.length ≤ 4)
  (hA' : (Bm, tupO [.int ar bt', .ref mE]) ∈ rest) (hD' : (mE, matO w xs2 m2) ∈ rest) (loE : (mE == sysModules) = false) (hK' : KeysAsc rest xs2)
  (hKP : (KP, W.listOf #[.ref K1, .ref K2] kk) ∈ rest) (hK1 : (K1, matO w xs1 k1) ∈ rest) (hK2 : (K2, matO w xs2 k2) ∈ rest) (lo1 : (K1 == sysModules) = false) (lo2 : (K2 == sysModules) = false) (ne1 : mD ≠ K1) (ne2 : mE ≠ K2)
  (hKY : (KY, W.listOf (refsOf kx).toArray nk) ∈ rest) (hkx : KeysAsc rest kx) (hk4 : kx.length ≤ 4) (hsk : SubK xs1 kx)
  (done : ∀ h' tk', Fr h₀ L h' (fun y => if y = Str.ofString "number" then u else lawM mB ar tar IN KY Mk Am Bm TL y) → Q (.ret (.bool true)) { s with heap := h', toks := tk' }) :
  wpAny (model PP w) (callerA.deeper (lawE L fa ccd)) (execs (lawB.drop 11) (lawE L fa ccd)) Q (lawX w L fa ccd E) s := by
  have hN2 : News h₀ L s.heap ((Am, tupO [.int ar at', .ref mD]) :: (Bm, tupO [.int ar bt', .ref mE]) :: (Mk, instObj 220 dM) :: (dM, dictOf [ent w "circuit" tc (.ref C), ent w "n" tn nv] nM) :: (L + 1 + 1, op) :: rest) := by
    intro p hp
    simp only [List.mem_cons] at hp
    rcases hp with rfl | rfl | rfl | rfl | hp
    · exact hN _ (.tail _ hA)
    · exact hN _ (.tail _ hA')
    · exact hN _ (.tail _ hMk)
    · exact hN _ (.tail _ hdM)
    · exact hN _ (List.mem_cons.mpr hp)
  clear hN
  unfold lawX lawE
  dsimp only [lawB, lawS, PySem.Challenge.pw_nu0274_01, List.getLast?, List.getLast, List.drop]
  k_steps
  rename News _ _ _ _ => kN1
  refine Halt.go (ne_two (w := w) (by ktr_units) kN1 (l := _) (b := KP) (by repeat' (first | exact List.Mem.head _ | apply List.Mem.tail)) (by repeat' (first | exact hKP | apply List.Mem.tail)) (by repeat' (first | exact hD | apply List.Mem.tail)) (by repeat' (first | exact hD' | apply List.Mem.tail)) (by repeat' (first | exact hK1 | apply List.Mem.tail)) (by repeat' (first | exact hK2 | apply List.Mem.tail)) ne1 ne2 (hK.mono fun p hp => by repeat' (first | exact hp | apply List.Mem.tail)) (hK'.mono fun p hp => by repeat' (first | exact hp | apply List.Mem.tail)) loD loE lo1 lo2 ?_)
  k_steps
  rename News _ _ _ _ => kN2
  refine Halt.go (PyProof.Rows.ne_dataH (da := .tuple [.int ar, .int ar]) (db := .tuple [.int ar, .int ar]) (reads_tuple_at (kN2.get (by repeat' (first | exact List.Mem.head _ | apply List.Mem.tail))) rfl rfl (.cons (.int _ _) (.cons (.int _ _) .nil))) (reads_tuple_at (kN2.get (by repeat' (first | exact List.Mem.head _ | apply List.Mem.tail))) rfl rfl (.cons (.int _ _) (.cons (.int _ _) .nil))) (by rfl) (by rfl) (by ktr_units) ?_)
  rw [show PyData.eqv (.tuple [.int ar, .int ar]) (.tuple [.int ar, .int ar]) = true by simp [PyData.eqv, PyData.eqvAll]]
  k_steps
  rename Fr _ _ _ (fun y => ite _ _ _) => kF3
  rename News _ _ _ _ => kN3
  refine Halt.go (gates_of_c w (nG := ng) K0 kF3 X kN3 T (by rfl) (by repeat' (first | exact hA | apply List.Mem.tail)) (by repeat' (first | exact hD | apply List.Mem.tail)) loD (hK.mono fun p hp => by repeat' (first | exact hp | apply List.Mem.tail)) hV h4 (by ktr_room) (by ktr_units) fun D h₁ tk₁ e vs F₁ N₁ hD₁ hvs => ?_)
  k_steps
  rename Fr _ _ _ (fun y => ite _ _ _) => kF4
  refine Halt.go (LCt.ListComp_T (F₀ := kF4) (by with_unfolding_all rfl) (by decide) (by rfl) (by decide) (by rfl) ?_)
  k_steps
  rename News _ _ _ _ => kN5
  rename Fr _ _ _ (fun y => ite _ _ _) => kF5
  obtain ⟨RT, hRT, kN6⟩ := News.named kN5
  refine Halt.go (LCt.CompSrcT.ledger (its := (refsOf kx).toArray) (k := nk) (by rfl) kF5 kN6 (by rw [hRT]; exact (by repeat' (first | exact hKY | apply List.Mem.tail))) (by rw [List.size_toArray, List.length_map, sizeLine_eq]; omega) fun g => ?_)
  refine comp_invT (refsOf kx).toArray.size (fun i ys nx => nx = RT ∧ IntsAre ys (((kx.take i).filter fun z => (atKey xs1 z.1).isSome).map fun z => kgate (atKey xs1 z.1))) ?step ?fin _ 0 [] _ (by omega) ⟨rfl, .nil⟩
  case step =>
    rintro i ys nx v I oI C₁ oC D₂ m₂ h tk₁ E' hi hP ⟨rfl, hys⟩ hC hxv F₂ N₂ off ne
    obtain ⟨z, hzm, hzi, rfl⟩ := refs_at hP
    obtain ⟨kvs, hq1, hq2⟩ := hkx.key z hzm
    have htk : (((kx.take (i + 1)).filter fun z => (atKey xs1 z.1).isSome).map fun z => kgate (atKey xs1 z.1)) = (((kx.take i).filter fun z => (atKey xs1 z.1).isSome).map fun z => kgate (atKey xs1 z.1)) ++ (([z].filter fun z => (atKey xs1 z.1).isSome).map fun z => kgate (atKey xs1 z.1)) := by
      rw [List.take_add_one, hzi, List.filter_append, List.map_append]; rfl
    subst hRT
    k_steps
    rename News _ _ _ _ => kN7
    refine list_get kN7 (l := KP) (n := kk) (j := 0) (v := .ref K1) (by repeat' (first | exact hKP | apply List.Mem.tail)) (by rfl) (by omega) (by rfl) ?_
    k_steps
    rename News _ _ _ _ => kN8
    refine Halt.go (known_in (by ktr_units) kN8 (by repeat' (first | exact hK1 | apply List.Mem.tail)) (fun x hx => by obtain ⟨v, a, b⟩ := hK.key x hx; exact ⟨v, (by repeat' (first | exact a | apply List.Mem.tail)), b⟩) hK.nodup lo1 (ta := z.2.1) (by repeat' (first | exact hq1 | apply List.Mem.tail)) hq2 fun tk₃ => ?_)
    k_steps
    · rename (atKey xs1 z.1).isSome = true => hat
      obtain ⟨⟨ka, kv⟩, hkv⟩ := Option.isSome_iff_exists.mp hat
      obtain ⟨gk, tgk, rfl⟩ : ∃ g t, kv = Value.int g t := by
        have q := hkv
        unfold atKey at q
        obtain ⟨x, hx, e1⟩ := Option.map_eq_some_iff.mp q
        obtain ⟨g, t, e2, _⟩ := hV x (List.mem_of_find?_eq_some hx)
        rw [e1] at e2; exact ⟨g, t, e2⟩
      rename News _ _ _ _ => kN9
      refine list_get kN9 (l := KP) (n := kk) (j := 0) (v := .ref K1) (by repeat' (first | exact hKP | apply List.Mem.tail)) (by rfl) (by omega) (by rfl) ?_
      k_steps
      rename News _ _ _ _ => kNa
      refine known_item (by ktr_units) (xs := xs1) (n3 := k1) kNa (by repeat' (first | exact hK1 | apply List.Mem.tail)) (fun x hx => by obtain ⟨v, a, b⟩ := hK.key x hx; exact ⟨v, (by repeat' (first | exact a | apply List.Mem.tail)), b⟩) hK.nodup (ta := z.2.1) (vs := kvs) (by repeat' (first | exact hq1 | apply List.Mem.tail)) hq2 hkv fun tk₄ => ?_
      k_steps
      rename Fr _ _ _ _ => kFb
      rename News _ _ _ _ => kNb
      refine Halt.go (LCg.CompEnd.intro kFb kNb _ (fun p hp => hp) off (.inr ⟨_, (by repeat' (first | exact hKY | apply List.Mem.tail)), rfl, _, rfl⟩) ⟨rfl, ?_⟩)
      rw [htk, List.filter_cons, hat]
      refine ints_snoc' hys ?_
      show [kgate (atKey xs1 z.1)] = _
      rw [hkv]; rfl
    · rename (atKey xs1 z.1).isSome = false => hat
      rename Fr _ _ _ _ => kFb
      rename News _ _ _ _ => kNb
      refine Halt.go (LCg.CompEnd.intro kFb kNb _ (fun p hp => hp) off (.inr ⟨_, (by repeat' (first | exact hKY | apply List.Mem.tail)), rfl, _, rfl⟩) ⟨rfl, ?_⟩)
      rw [htk, List.filter_cons, hat]
      exact (List.append_nil _).symm ▸ hys
  case fin =>
    rintro ys nx ⟨rfl, hys⟩ D₂ h₂ tk₂ F₂ N₂ off
    have hlen : (refsOf kx).toArray.size = kx.length := by rw [List.size_toArray, List.length_map]
    rw [hlen, List.take_length, kept_gates hsk hkx.nodup] at hys
    subst hRT
    k_steps
    rename News _ _ _ _ => kN9
    refine Halt.go (ke_eq_ints (xs := vs) (ys := ys) ⟨_, (kN9 (D, W.listOf vs.toArray e) (by repeat' (first | exact List.Mem.head _ | apply List.Mem.tail))).1, rfl, _, rfl⟩ ⟨_, (kN9 (D₂, LCg.lst ys) (by repeat' (first | exact List.Mem.head _ | apply List.Mem.tail))).1, rfl, _, rfl⟩ hvs hys (by ktr_units) ?_)
    rw [decide_eq_true rfl]
    k_steps
    rename Fr _ _ _ (fun y => ite _ _ _) => kFz
    exact done _ _ kFz
end Mine
end
section
open PySem PySem.W PyProof.Rows PySem.Calls
set_option maxRecDepth 100000
set_option maxHeartbeats 1500000
set_option linter.unusedVariables false
namespace Mine
theorem off28 : True := by
  w_top off
  trivial
section
variable {l l' : Int → Bool} {n : Nat} {xs ys kx : List KX}
noncomputable abbrev inF (l : Int → Bool) (xs ys : List KX) : Bool := xs.all fun x => !l (gateOf x) || l (getG ys x.1)
noncomputable abbrev smF (l : Int → Bool) (xs ys : List KX) : Bool := (mergedH xs ys).all fun x => l (getG xs x.1) == l (getG ys x.1)
noncomputable abbrev anF (l : Int → Bool) (xs : List KX) : Bool := xs.any fun x => l (gateOf x)
noncomputable abbrev p2F (l : Int → Bool) (xs : List KX) : Bool := pairs2 l (xs.map gateOf)
theorem all_same {α : Type} {p q : α → Bool} {zs : List α} (h : ∀ x ∈ zs, p x = q x) : zs.all p = zs.all q := by
  rw [Bool.eq_iff_iff, List.all_eq_true, List.all_eq_true]
  exact ⟨fun r x hx => h x hx ▸ r x hx, fun r x hx => (h x hx).symm ▸ r x hx⟩
theorem any_same {α : Type} {p q : α → Bool} {zs : List α} (h : ∀ x ∈ zs, p x = q x) : zs.any p = zs.any q := by
  rw [Bool.eq_iff_iff, List.any_eq_true, List.any_eq_true]
  exact ⟨fun ⟨x, hx, r⟩ => ⟨x, hx, h x hx ▸ r⟩, fun ⟨x, hx, r⟩ => ⟨x, hx, (h x hx).symm ▸ r⟩⟩
theorem getG_ok (hn : 2 ≤ n) (hV : ValsOk n xs) (k : List Int) : GOk n (getG xs k) := (getG_val hV hn k 0).2
theorem inF_ext (h : ∀ g, GOk n g → l g = l' g) (hn : 2 ≤ n) (hV : ValsOk n xs) (hV' : ValsOk n ys) : inF l xs ys = inF l' xs ys := all_same fun x hx => by rw [h _ (hV.gate hx), h _ (getG_ok hn hV' _)]
theorem smF_ext (h : ∀ g, GOk n g → l g = l' g) (hn : 2 ≤ n) (hV : ValsOk n xs) (hV' : ValsOk n ys) : smF l xs ys = smF l' xs ys := all_same fun x hx => by rw [h _ (getG_ok hn hV _), h _ (getG_ok hn hV' _)]
theorem anF_ext (h : ∀ g, GOk n g → l g = l' g) (hV : ValsOk n xs) : anF l xs = anF l' xs := any_same fun x hx => by rw [h _ (hV.gate hx)]
theorem p2F_ext (h : ∀ g, GOk n g → l g = l' g) (hV : ValsOk n xs) : p2F l xs = p2F l' xs := pairs2_ext fun g hg => by
  obtain ⟨x, hx, rfl⟩ := List.mem_map.mp hg
  exact h _ (hV.gate hx)
/-- the true tuples -/
noncomputable abbrev tru (l : Int → Bool) (xs : List KX) : List (List Int) := (xs.filter fun x => l (gateOf x)).map (·.1)
theorem mem_tru (h1 : l (-1) = false) (nd : (xs.map (·.1)).Nodup) (k : List Int) : k ∈ tru l xs ↔ l (getG xs k) = true := by
  constructor
  · intro h
    obtain ⟨x, hx, rfl⟩ := List.mem_map.mp h
    obtain ⟨hx, ht⟩ := List.mem_filter.mp hx
    rw [getG_mem nd hx]; exact ht
  · intro h
    unfold getG at h
    cases q : xs.find? (fun x => decide (x.1 = k)) with
    | none => rw [q] at h; rw [h1] at h; cases h
    | some x =>
      rw [q] at h
      have hk : x.1 = k := by simpa using List.find?_some q
      exact List.mem_map.mpr ⟨x, List.mem_filter.mpr ⟨List.mem_of_find?_eq_some q, h⟩, hk⟩
theorem in_due (h1 : l (-1) = false) (nd' : (ys.map (·.1)).Nodup) : ((tru l xs).all fun k => decide (k ∈ tru l ys)) = inF l xs ys := by
  rw [Bool.eq_iff_iff, List.all_eq_true, List.all_eq_true]
  constructor
  · intro h x hx
    by_cases ht : l (gateOf x) = true
    · have := h x.1 (List.mem_map.mpr ⟨x, List.mem_filter.mpr ⟨hx, ht⟩, rfl⟩)
      rw [decide_eq_true_eq, mem_tru h1 nd'] at this
      rw [this]; simp
    · rw [Bool.not_eq_true] at ht
      rw [ht]; rfl
  · intro h k hk
    obtain ⟨x, hx, rfl⟩ := List.mem_map.mp hk
    obtain ⟨hx, ht⟩ := List.mem_filter.mp hx
    have := h x hx
    rw [ht] at this
    rw [decide_eq_true_eq, mem_tru h1 nd']
    simpa using this
theorem sub_eq : ∀ {a b c : List (List Int)}, a.Sublist c → b.Sublist c → c.Nodup → (∀ k, k ∈ a ↔ k ∈ b) → a = b := by
  intro a b c
  induction c generalizing a b with
  | nil => intro ha hb _ _; rw [List.sublist_nil.mp ha, List.sublist_nil.mp hb]
  | cons z c ih =>
    intro ha hb hn h
    rw [List.nodup_cons] at hn
    rcases List.sublist_cons_iff.mp ha with ha' | ⟨a', rfl, ha'⟩ <;> rcases List.sublist_cons_iff.mp hb with hb' | ⟨b', rfl, hb'⟩
    · exact ih ha' hb' hn.2 h
    · exact absurd (ha'.subset ((h z).mpr (.head _))) hn.1
    · exact absurd (hb'.subset ((h z).mp (.head _))) hn.1
    · rw [ih ha' hb' hn.2 fun k => ?_]
      have e := h k
      rw [List.mem_cons, List.mem_cons] at e
      constructor
      · intro hk
        rcases e.mp (.inr hk) with rfl | hk'
        · exact absurd (ha'.subset hk) hn.1
        · exact hk'
      · intro hk
        rcases e.mpr (.inr hk) with rfl | hk'
        · exact absurd (hb'.subset hk) hn.1
        · exact hk'
theorem tru_sub (h : SubK xs kx) : (tru l xs).Sublist (kx.map (·.1)) := (List.filter_sublist.map _).trans h.keys
theorem sm_due (h1 : l (-1) = false) (hs : SubK xs kx) (hs' : SubK ys kx) (nd : (kx.map (·.1)).Nodup) : decide (tru l xs = tru l ys) = smF l xs ys := by
  have n1 := nd.sublist hs.keys
  have n2 := nd.sublist hs'.keys
  rw [Bool.eq_iff_iff, decide_eq_true_eq, List.all_eq_true]
  constructor
  · intro h x _
    rw [beq_iff_eq, Bool.eq_iff_iff, ← mem_tru h1 n1, ← mem_tru h1 n2, h]
  · intro h
    refine sub_eq (tru_sub hs) (tru_sub hs') nd fun k => ?_
    by_cases hk : k ∈ (mergedH xs ys).map (·.1)
    · obtain ⟨x, hx, rfl⟩ := List.mem_map.mp hk
      have := h x hx
      rw [beq_iff_eq] at this
      rw [mem_tru h1 n1, mem_tru h1 n2, this]
    · rw [merged_keys] at hk
      constructor
      · intro hm; obtain ⟨x, hx, rfl⟩ := List.mem_map.mp hm
        exact absurd (.inl (List.mem_map_of_mem (List.mem_filter.mp hx).1)) hk
      · intro hm; obtain ⟨x, hx, rfl⟩ := List.mem_map.mp hm
        exact absurd (.inr (List.mem_map_of_mem (List.mem_filter.mp hx).1)) hk
theorem an_due : decide (tru l xs = []) = !anF l xs := by
  rw [Bool.eq_iff_iff, decide_eq_true_eq, List.map_eq_nil_iff, List.filter_eq_nil_iff]
  cases q : anF l xs with
  | true =>
    obtain ⟨x, hx, ht⟩ := List.any_eq_true.mp q
    exact ⟨fun h => absurd ht (h x hx), fun h => nomatch h⟩
  | false => exact ⟨fun _ => rfl, fun _ x hx ht => by rw [List.any_eq_false] at q; exact q x hx ht⟩
theorem pairs_len : ∀ gs : List Int, pairs2 l gs = decide (2 ≤ (gs.filter l).length)
  | [] => rfl
  | g :: gs => by
    have hany : gs.any l = decide (1 ≤ (gs.filter l).length) := by
      rw [Bool.eq_iff_iff, List.any_eq_true, decide_eq_true_eq]
      constructor
      · rintro ⟨x, hx, ht⟩; exact List.length_pos_of_mem (List.mem_filter.mpr ⟨hx, ht⟩)
      · intro h
        obtain ⟨x, hx⟩ := List.exists_mem_of_length_pos h
        exact ⟨x, List.mem_filter.mp hx⟩
    show ((l g && gs.any l) || pairs2 l gs) = _
    rw [pairs_len gs, hany, List.filter_cons]
    cases l g with
    | true =>
      rw [Bool.eq_iff_iff]
      simp only [Bool.true_and, Bool.or_eq_true, decide_eq_true_eq, if_true, List.length_cons]
      omega
    | false => simp
theorem p2_len : p2F l xs = decide (2 ≤ (tru l xs).length) := by
  show pairs2 l (xs.map gateOf) = _
  rw [pairs_len, List.length_map]
  congr 2
  rw [List.filter_map, List.length_map]
  rfl
theorem lone_due : decide ((tru l xs).length < 2) = !p2F l xs := by
  rw [p2_len, Bool.eq_iff_iff]
  simp
theorem one_due : decide ((tru l xs).length = 1) = (anF l xs && !p2F l xs) := by
  have h := an_due (l := l) (xs := xs)
  have h' : anF l xs = !decide (tru l xs = []) := by rw [h, Bool.not_not]
  rw [p2_len, h', Bool.eq_iff_iff]
  cases q : tru l xs with
  | nil => simp
  | cons a r => simp only [List.length_cons]; simp
/-- the plain law -/
theorem plain_law (h1 : l (-1) = false) (hs : SubK xs kx) (hs' : SubK ys kx) (nd : (kx.map (·.1)).Nodup) :
    dueL (tru l xs) (tru l ys) = [inF l xs ys, inF l ys xs, smF l xs ys, anF l xs, !anF l xs, !p2F l xs, anF l xs && !p2F l xs, anF l ys, !anF l ys, !p2F l ys, anF l ys && !p2F l ys] := by
  have n1 := nd.sublist hs.keys
  have n2 := nd.sublist hs'.keys
  unfold dueL
  rw [in_due h1 n2, in_due h1 n1, sm_due h1 hs hs' nd, an_due, an_due, lone_due, lone_due, one_due, one_due, Bool.not_not, Bool.not_not]
end
end Mine
end
section
open PySem PySem.W PyProof.Rows PySem.Calls
set_option maxRecDepth 100000
set_option maxHeartbeats 1500000
set_option linter.unusedVariables false
namespace Mine
theorem off29 : True := by
  w_top off
  trivial
local macro_rules | `(tactic| omega) => `(tactic| omega (config := {}))
/-- what the law is told of the two matrices -/
noncomputable abbrev toldL (l : Int → Bool) (xs ys : List KX) : List Bool := [inF l xs ys, inF l ys xs, smF l xs ys, anF l xs, !anF l xs, !p2F l xs, anF l xs && !p2F l xs, anF l ys, !anF l ys, !p2F l ys, anF l ys && !p2F l ys]
noncomputable abbrev lawN (mB : Str → Option Value) (ar : Int) (tar : Tok) (IN KY Mk Am Bm : Addr) : Str → Option Value := fun y =>
  if y = Str.ofString "b" then some (.ref Bm) else if y = Str.ofString "a" then some (.ref Am) else if y = Str.ofString "maker" then some (.ref Mk) else if y = Str.ofString "keys" then some (.ref KY) else if y = Str.ofString "arity" then some (.int ar tar) else if y = Str.ofString "inputs" then some (.ref IN) else mB y
theorem told_twice {mB : Str → Option Value} {ar : Int} {tar : Tok} {IN KY Mk Am Bm TL : Addr} {B : Option Value} : (fun y => if y = Str.ofString "told" then some (.ref TL) else if y = Str.ofString "told" then B else lawN mB ar tar IN KY Mk Am Bm y) = lawM mB ar tar IN KY Mk Am Bm TL := by
  funext y
  by_cases h : y = Str.ofString "told"
  · subst h; rfl
  · show (if y = Str.ofString "told" then some (.ref TL) else if y = Str.ofString "told" then B else lawN mB ar tar IN KY Mk Am Bm y) = (if y = Str.ofString "told" then some (.ref TL) else lawN mB ar tar IN KY Mk Am Bm y)
    rw [if_neg h, if_neg h, if_neg h]
noncomputable def Ext (G G' : List Gate) : Prop := ∃ e, G' = G ++ e
theorem Ext.of {fv : List Addr} {rest tl : Led} {c : Nat} {G G' : List Gate} (h : Grew fv rest c G G' tl) : Ext G G' := let ⟨e, q, _⟩ := h.ext; ⟨e, q⟩
theorem Ext.trans {G G' G'' : List Gate} (h : Ext G G') (h' : Ext G' G'') : Ext G G'' := by
  obtain ⟨e, rfl⟩ := h; obtain ⟨e', rfl⟩ := h'; exact ⟨e ++ e', by rw [List.append_assoc]⟩
theorem Ext.lit {G G' : List Gate} (h : Ext G G') (ρ : Nat → Bool) {g : Int} (hg : GOk (G.length + 2) g) : Mine.lit (vals ρ G') g = Mine.lit (vals ρ G) g := by
  obtain ⟨e, rfl⟩ := h; exact lit_ext hg
theorem Ext.len {G G' : List Gate} (h : Ext G G') : G.length ≤ G'.length := by
  obtain ⟨e, rfl⟩ := h; rw [List.length_append]; omega
local macro_rules | `(tactic| walk_at "eval ListComp") => `(tactic| refine Halt.mk ?_)
local macro_rules | `(tactic| walk_at "CompEnd") => `(tactic| refine Halt.mk ?_)
local macro_rules | `(tactic| walk_at "CompSrcT") => `(tactic| refine Halt.mk ?_)
local macro_rules | `(tactic| walk_at "CompSrc") => `(tactic| refine Halt.mk ?_)
local macro_rules | `(tactic| walk_at "exec For Name Call cons nil") => `(tactic| refine Halt.mk ?_)
local macro_rules | `(tactic| walk_at "pyIter ref") => `(tactic| refine Halt.mk ?_)
local macro_rules | `(tactic| walk_at "TurnPost") => `(tactic| ((with_reducible show TurnPost _ _ _ _ _ _ _ (Flow.ret _) _); dsimp only [TurnPost]))
local macro_rules | `(tactic| walk_at "compareOp Eq ref ref") => `(tactic| refine Halt.mk ?_)
local macro_rules | `(tactic| walk_at "compareOp NotEq ref ref") => `(tactic| refine Halt.mk ?_)
local macro_rules | `(tactic| walk_at "call ref") => `(tactic| ((with_reducible show wpAny _ _ (call (Value.ref 184) _) _ _ _); refine Halt.mk ?_))
local macro_rules | `(tactic| walk_at "call ref") => `(tactic| ((with_reducible show wpAny _ _ (call (Value.ref 189) _) _ _ _); refine Halt.mk ?_))
local macro_rules | `(tactic| walk_at "call ref") => `(tactic| ((with_reducible show wpAny _ _ (call (Value.ref 196) _) _ _ _); refine Halt.mk ?_))
local macro_rules | `(tactic| walk_at "call ref") => `(tactic| ((with_reducible show wpAny _ _ (call (Value.ref 203) _) _ _ _); refine Halt.mk ?_))
local macro_rules | `(tactic| walk_at "call ref") => `(tactic| ((with_reducible show wpAny _ _ (call (Value.ref 210) _) _ _ _); refine Halt.mk ?_))
local macro_rules | `(tactic| walk_at "call ref") => `(tactic| ((with_reducible show wpAny _ _ (call (Value.ref 217) _) _ _ _); refine Halt.mk ?_))
local macro_rules | `(tactic| walk_at "binaryOp Add ref ref") => `(tactic| refine Halt.mk ?_)
local macro_rules | `(tactic| walk_at "execs cons") => `(tactic| ((with_reducible show wpAny _ _ (execs (Stmt.For .. :: _) _) _ _ _); refine Halt.mk ?_))
local macro_rules | `(tactic| walk_at "compareOp In ref ref") => `(tactic| refine Halt.mk ?_)

theorem told_b (w : World) {p : Program} {loose : List Str} {mean : ExcName → Option Value} {mg mb : Str → Option Value}
  {fa : Addr} {ccd : Value} {h₀ : Heap} {L : Addr} {mB : Str → Option Value} {s : Shared} {Q : Flow → Shared → Prop} {E : Value → Shared → Prop}
  {C dC kL pL nD : Addr} {t1 t2 t3 : Tok} {ks ps : Array Value} {xs : List KX} {n1 n2 n3 : Nat} {rest tps : Led} {G : List Gate} {Mk dM : Addr} {tc tn : Tok} {nv : Value} {nM : Nat} {Am mD Bm mE : Addr} {ar br : Int} {at' bt' : Tok} {xs1 xs2 : List KX} {m1 m2 : Nat} {IN KY : Addr} {tar : Tok}
  (K0 : Below callerA h₀ [] h₀) (X : (hd.heap_1 w.params).In h₀) (T : Top p loose mean mg mb h₀)
  (F : Fr h₀ L s.heap (lawN mB ar tar IN KY Mk Am Bm))
  (hN : News h₀ L s.heap ((C, instObj 328 dC) :: (dC, circO w kL pL nD t1 t2 t3) :: (kL, W.listOf ks n1) :: (pL, W.listOf ps n2) :: (nD, knownO w xs n3) :: rest))
  (o1 : LtN dC C) (o2 : LtN C kL) (o3 : LtN kL pL) (o4 : LtN pL nD) (r1_0 : ∀ p ∈ rest, p.1 ≠ C) (r2_0 : ∀ p ∈ rest, p.1 ≠ dC) (r3_0 : ∀ p ∈ rest, p.1 ≠ kL) (r4_0 : ∀ p ∈ rest, p.1 ≠ pL) (r5_0 : ∀ p ∈ rest, p.1 ≠ nD) (lo3 : (nD == sysModules) = false)
  (hc0 : CircOk G ks ps xs tps) (hsub0 : ∀ p ∈ tps, p ∈ rest) (hz : G.length ≤ 700)
  (hMk0 : (Mk, instObj 220 dM) ∈ rest) (hdM0 : (dM, dictOf [ent w "circuit" tc (.ref C), ent w "n" tn nv] nM) ∈ rest)
  (hA_0 : (Am, tupO [.int ar at', .ref mD]) ∈ rest) (hD_0 : (mD, matO w xs1 m1) ∈ rest) (loD : (mD == sysModules) = false) (hK_0 : KeysAsc rest xs1) (hV_0 : ValsOk (G.length + 2) xs1) (h4 : xs1.length ≤ 4)
  (hB_0 : (Bm, tupO [.int br bt', .ref mE]) ∈ rest) (hE_0 : (mE, matO w xs2 m2) ∈ rest) (loE : (mE == sysModules) = false) (hL_0 : KeysAsc rest xs2) (hW_0 : ValsOk (G.length + 2) xs2) (h4' : xs2.length ≤ 4)
  (hm4 : (mergedH xs1 xs2).length ≤ 4) (hH : HashApart (tupleKind (IK w)) xs1) (hH' : HashApart (tupleKind (IK w)) xs2)
  (done : ∀ (TL : Addr) (tv : List Value) (tg : List Int) (h' : Heap) (tk' : Nat) (G' : List Gate) (ks' ps' : Array Value) (xs' : List KX) (n1' n2' n3' : Nat) (tl : Led), Fr h₀ L h' (lawM mB ar tar IN KY Mk Am Bm TL) →
    News h₀ L h' ((C, instObj 328 dC) :: (dC, circO w kL pL nD t1 t2 t3) :: (kL, W.listOf ks' n1') :: (pL, W.listOf ps' n2') :: (nD, knownO w xs' n3') :: (rest ++ tl)) → CircOk G' ks' ps' xs' (tps ++ tl) → Grew [C, dC, kL, pL, nD] rest 100 G G' tl →
    (TL, W.listOf tv.toArray 0) ∈ tl → IntsAre tv tg → (∀ g ∈ tg, GOk (G'.length + 2) g) → tg.length = 11 → (∀ ρ, tg.map (lit (vals ρ G')) = toldL (lit (vals ρ G')) xs1 xs2) →
    wpAny (model PP w) (callerA.deeper (lawE L fa ccd)) (execs (lawB.drop 10) (lawE L fa ccd)) Q (lawX w L fa ccd E) { s with heap := h', toks := tk' }) :
  wpAny (model PP w) (callerA.deeper (lawE L fa ccd)) (execs (lawB.drop 8) (lawE L fa ccd)) Q (lawX w L fa ccd E) s := by
  have N0 := News.opened2 hN hMk0 hdM0
  clear hN
  have gA0 : Grew [C, dC, kL, pL, nD] rest 0 G G [] := Grew.refl
  have hq0 : ∀ p ∈ rest, p ∈ rest := fun _ h => h
  have ha0 : ∀ p ∈ ([] : Led), p ∈ rest := fun _ h => nomatch h
  have hp0 : ∀ p ∈ tps, p ∈ tps ++ [] := fun p h => List.mem_append_left _ h
  unfold lawX lawE at done ⊢
  dsimp only [lawB, lawS, PySem.Challenge.pw_nu0274_01, List.getLast?, List.getLast, List.drop] at done ⊢
  k_steps
  rename Fr _ _ _ (fun y => ite _ _ _) => kF1
  rename News _ _ _ _ => kN1
  refine Halt.go (within_c w K0 kF1 X (News.drop2' kN1) T (by rfl) o1 o2 o3 o4 r1_0 r2_0 r3_0 r4_0 r5_0 lo3 hc0 hsub0 (by omega) hMk0 hdM0 hA_0 hD_0 loD hK_0 hV_0 h4 hB_0 hE_0 loE hL_0 hW_0 h4' (by ktr_room) (by ktr_units) fun q1 t_1 hh1 tk1 G1 ks1 ps1 ys1 u1 v1 w1 tl1 F1 N1 hc1 hg1 hr1 hv1 => ?_)
  obtain ⟨R1, hR1⟩ : ∃ R, R = rest ++ tl1 := ⟨_, rfl⟩
  rw [← hR1] at N1
  have s1 : ∀ p ∈ rest, p ∈ R1 := fun p hp => hR1 ▸ List.mem_append_left _ hp
  have r1_1 : ∀ p ∈ R1, p.1 ≠ C := by rw [hR1]; exact off_tl r1_0 hg1 (by simp)
  have r2_1 : ∀ p ∈ R1, p.1 ≠ dC := by rw [hR1]; exact off_tl r2_0 hg1 (by simp)
  have r3_1 : ∀ p ∈ R1, p.1 ≠ kL := by rw [hR1]; exact off_tl r3_0 hg1 (by simp)
  have r4_1 : ∀ p ∈ R1, p.1 ≠ pL := by rw [hR1]; exact off_tl r4_0 hg1 (by simp)
  have r5_1 : ∀ p ∈ R1, p.1 ≠ nD := by rw [hR1]; exact off_tl r5_0 hg1 (by simp)
  have hsub1 : ∀ p ∈ tps ++ tl1, p ∈ R1 := by rw [hR1]; exact sub_tl hsub0
  have gA1 : Grew [C, dC, kL, pL, nD] rest 5 G G1 (([] : Led) ++ tl1) := gA0.trans hg1 hq0
  have hq1 : ∀ p ∈ rest, p ∈ R1 := fun p hp => s1 p (hq0 p hp)
  have ha1 : ∀ p ∈ ([] : Led) ++ tl1, p ∈ R1 := fun p hp => (List.mem_append.mp hp).elim (fun q => s1 p (ha0 p q)) (fun q => hR1 ▸ List.mem_append_right _ q)
  have hp1 : ∀ p ∈ tps ++ tl1, p ∈ tps ++ (([] : Led) ++ tl1) := fun p hp => by rw [← List.append_assoc]; exact (List.mem_append.mp hp).elim (fun q => List.mem_append_left _ (hp0 p q)) (fun q => List.mem_append_right _ q)
  generalize ([] : Led) ++ tl1 = tA1 at gA1 ha1 hp1
  generalize tps ++ tl1 = tp1 at hc1 hsub1 hp1
  have hl1 := hg1.len
  have hMk1 := s1 _ hMk0
  have hdM1 := s1 _ hdM0
  have hA_1 := s1 _ hA_0
  have hD_1 := s1 _ hD_0
  have hB_1 := s1 _ hB_0
  have hE_1 := s1 _ hE_0
  have hK_1 := hK_0.mono s1
  have hL_1 := hL_0.mono s1
  have hV_1 := hV_0.up (show G.length + 2 ≤ G1.length + 2 by omega)
  have hW_1 := hW_0.up (show G.length + 2 ≤ G1.length + 2 by omega)
  clear hR1
  have N1o := News.opened2 N1 hMk1 hdM1
  clear N1 kN1
  k_steps
  rename Fr _ _ _ (fun y => ite _ _ _) => kF2
  rename News _ _ _ _ => kN2
  refine Halt.go (within_c w K0 kF2 X (News.drop2' kN2) T (by rfl) o1 o2 o3 o4 r1_1 r2_1 r3_1 r4_1 r5_1 lo3 hc1 hsub1 (by omega) hMk1 hdM1 hB_1 hE_1 loE hL_1 hW_1 h4' hA_1 hD_1 loD hK_1 hV_1 h4 (by ktr_room) (by ktr_units) fun q2 t_2 hh2 tk2 G2 ks2 ps2 ys2 u2 v2 w2 tl2 F2 N2 hc2 hg2 hr2 hv2 => ?_)
  obtain ⟨R2, hR2⟩ : ∃ R, R = R1 ++ tl2 := ⟨_, rfl⟩
  rw [← hR2] at N2
  have s2 : ∀ p ∈ R1, p ∈ R2 := fun p hp => hR2 ▸ List.mem_append_left _ hp
  have r1_2 : ∀ p ∈ R2, p.1 ≠ C := by rw [hR2]; exact off_tl r1_1 hg2 (by simp)
  have r2_2 : ∀ p ∈ R2, p.1 ≠ dC := by rw [hR2]; exact off_tl r2_1 hg2 (by simp)
  have r3_2 : ∀ p ∈ R2, p.1 ≠ kL := by rw [hR2]; exact off_tl r3_1 hg2 (by simp)
  have r4_2 : ∀ p ∈ R2, p.1 ≠ pL := by rw [hR2]; exact off_tl r4_1 hg2 (by simp)
  have r5_2 : ∀ p ∈ R2, p.1 ≠ nD := by rw [hR2]; exact off_tl r5_1 hg2 (by simp)
  have hsub2 : ∀ p ∈ tp1 ++ tl2, p ∈ R2 := by rw [hR2]; exact sub_tl hsub1
  have gA2 : Grew [C, dC, kL, pL, nD] rest 10 G G2 (tA1 ++ tl2) := gA1.trans hg2 hq1
  have hq2 : ∀ p ∈ rest, p ∈ R2 := fun p hp => s2 p (hq1 p hp)
  have ha2 : ∀ p ∈ tA1 ++ tl2, p ∈ R2 := fun p hp => (List.mem_append.mp hp).elim (fun q => s2 p (ha1 p q)) (fun q => hR2 ▸ List.mem_append_right _ q)
  have hp2 : ∀ p ∈ tp1 ++ tl2, p ∈ tps ++ (tA1 ++ tl2) := fun p hp => by rw [← List.append_assoc]; exact (List.mem_append.mp hp).elim (fun q => List.mem_append_left _ (hp1 p q)) (fun q => List.mem_append_right _ q)
  generalize tA1 ++ tl2 = tA2 at gA2 ha2 hp2
  generalize tp1 ++ tl2 = tp2 at hc2 hsub2 hp2
  have hl2 := hg2.len
  have hMk2 := s2 _ hMk1
  have hdM2 := s2 _ hdM1
  have hA_2 := s2 _ hA_1
  have hD_2 := s2 _ hD_1
  have hB_2 := s2 _ hB_1
  have hE_2 := s2 _ hE_1
  have hK_2 := hK_1.mono s2
  have hL_2 := hL_1.mono s2
  have hV_2 := hV_1.up (show G1.length + 2 ≤ G2.length + 2 by omega)
  have hW_2 := hW_1.up (show G1.length + 2 ≤ G2.length + 2 by omega)
  clear hR2
  have N2o := News.opened2 N2 hMk2 hdM2
  clear N2 kN2
  k_steps
  rename Fr _ _ _ (fun y => ite _ _ _) => kF3
  rename News _ _ _ _ => kN3
  refine Halt.go (same_c w K0 kF3 X (News.drop2' kN3) T (by rfl) o1 o2 o3 o4 r1_2 r2_2 r3_2 r4_2 r5_2 lo3 hc2 hsub2 (by omega) hMk2 hdM2 hA_2 hD_2 loD hK_2 hV_2 h4 hB_2 hE_2 loE hL_2 hW_2 h4' hm4 hH hH' (by ktr_room) (by ktr_units) fun q3 t_3 hh3 tk3 G3 ks3 ps3 ys3 u3 v3 w3 tl3 F3 N3 hc3 hg3 hr3 hv3 => ?_)
  obtain ⟨R3, hR3⟩ : ∃ R, R = R2 ++ tl3 := ⟨_, rfl⟩
  rw [← hR3] at N3
  have s3 : ∀ p ∈ R2, p ∈ R3 := fun p hp => hR3 ▸ List.mem_append_left _ hp
  have r1_3 : ∀ p ∈ R3, p.1 ≠ C := by rw [hR3]; exact off_tl r1_2 hg3 (by simp)
  have r2_3 : ∀ p ∈ R3, p.1 ≠ dC := by rw [hR3]; exact off_tl r2_2 hg3 (by simp)
  have r3_3 : ∀ p ∈ R3, p.1 ≠ kL := by rw [hR3]; exact off_tl r3_2 hg3 (by simp)
  have r4_3 : ∀ p ∈ R3, p.1 ≠ pL := by rw [hR3]; exact off_tl r4_2 hg3 (by simp)
  have r5_3 : ∀ p ∈ R3, p.1 ≠ nD := by rw [hR3]; exact off_tl r5_2 hg3 (by simp)
  have hsub3 : ∀ p ∈ tp2 ++ tl3, p ∈ R3 := by rw [hR3]; exact sub_tl hsub2
  have gA3 : Grew [C, dC, kL, pL, nD] rest 23 G G3 (tA2 ++ tl3) := gA2.trans hg3 hq2
  have hq3 : ∀ p ∈ rest, p ∈ R3 := fun p hp => s3 p (hq2 p hp)
  have ha3 : ∀ p ∈ tA2 ++ tl3, p ∈ R3 := fun p hp => (List.mem_append.mp hp).elim (fun q => s3 p (ha2 p q)) (fun q => hR3 ▸ List.mem_append_right _ q)
  have hp3 : ∀ p ∈ tp2 ++ tl3, p ∈ tps ++ (tA2 ++ tl3) := fun p hp => by rw [← List.append_assoc]; exact (List.mem_append.mp hp).elim (fun q => List.mem_append_left _ (hp2 p q)) (fun q => List.mem_append_right _ q)
  generalize tA2 ++ tl3 = tA3 at gA3 ha3 hp3
  generalize tp2 ++ tl3 = tp3 at hc3 hsub3 hp3
  have hl3 := hg3.len
  have hMk3 := s3 _ hMk2
  have hdM3 := s3 _ hdM2
  have hA_3 := s3 _ hA_2
  have hD_3 := s3 _ hD_2
  have hB_3 := s3 _ hB_2
  have hE_3 := s3 _ hE_2
  have hK_3 := hK_2.mono s3
  have hL_3 := hL_2.mono s3
  have hV_3 := hV_2.up (show G2.length + 2 ≤ G3.length + 2 by omega)
  have hW_3 := hW_2.up (show G2.length + 2 ≤ G3.length + 2 by omega)
  clear hR3
  have N3o := News.opened2 N3 hMk3 hdM3
  clear N3 kN3
  k_steps
  rename Fr _ _ _ (fun y => ite _ _ _) => kF4
  rename News _ _ _ _ => kN4
  refine Halt.go (some_c w K0 kF4 X (News.drop2' kN4) T (by rfl) o1 o2 o3 o4 r1_3 r2_3 r3_3 r4_3 r5_3 lo3 hc3 hsub3 (by omega) hMk3 hdM3 hA_3 hD_3 loD hK_3 hV_3 h4 (by ktr_room) (by ktr_units) fun q4 t_4 hh4 tk4 G4 ks4 ps4 ys4 u4 v4 w4 tl4 F4 N4 hc4 hg4 hr4 hv4 => ?_)
  obtain ⟨R4, hR4⟩ : ∃ R, R = R3 ++ tl4 := ⟨_, rfl⟩
  rw [← hR4] at N4
  have s4 : ∀ p ∈ R3, p ∈ R4 := fun p hp => hR4 ▸ List.mem_append_left _ hp
  have r1_4 : ∀ p ∈ R4, p.1 ≠ C := by rw [hR4]; exact off_tl r1_3 hg4 (by simp)
  have r2_4 : ∀ p ∈ R4, p.1 ≠ dC := by rw [hR4]; exact off_tl r2_3 hg4 (by simp)
  have r3_4 : ∀ p ∈ R4, p.1 ≠ kL := by rw [hR4]; exact off_tl r3_3 hg4 (by simp)
  have r4_4 : ∀ p ∈ R4, p.1 ≠ pL := by rw [hR4]; exact off_tl r4_3 hg4 (by simp)
  have r5_4 : ∀ p ∈ R4, p.1 ≠ nD := by rw [hR4]; exact off_tl r5_3 hg4 (by simp)
  have hsub4 : ∀ p ∈ tp3 ++ tl4, p ∈ R4 := by rw [hR4]; exact sub_tl hsub3
  have gA4 : Grew [C, dC, kL, pL, nD] rest 24 G G4 (tA3 ++ tl4) := gA3.trans hg4 hq3
  have hq4 : ∀ p ∈ rest, p ∈ R4 := fun p hp => s4 p (hq3 p hp)
  have ha4 : ∀ p ∈ tA3 ++ tl4, p ∈ R4 := fun p hp => (List.mem_append.mp hp).elim (fun q => s4 p (ha3 p q)) (fun q => hR4 ▸ List.mem_append_right _ q)
  have hp4 : ∀ p ∈ tp3 ++ tl4, p ∈ tps ++ (tA3 ++ tl4) := fun p hp => by rw [← List.append_assoc]; exact (List.mem_append.mp hp).elim (fun q => List.mem_append_left _ (hp3 p q)) (fun q => List.mem_append_right _ q)
  generalize tA3 ++ tl4 = tA4 at gA4 ha4 hp4
  generalize tp3 ++ tl4 = tp4 at hc4 hsub4 hp4
  have hl4 := hg4.len
  have hMk4 := s4 _ hMk3
  have hdM4 := s4 _ hdM3
  have hA_4 := s4 _ hA_3
  have hD_4 := s4 _ hD_3
  have hB_4 := s4 _ hB_3
  have hE_4 := s4 _ hE_3
  have hK_4 := hK_3.mono s4
  have hL_4 := hL_3.mono s4
  have hV_4 := hV_3.up (show G3.length + 2 ≤ G4.length + 2 by omega)
  have hW_4 := hW_3.up (show G3.length + 2 ≤ G4.length + 2 by omega)
  clear hR4
  have N4o := News.opened2 N4 hMk4 hdM4
  clear N4 kN4
  k_steps
  rename Fr _ _ _ (fun y => ite _ _ _) => kF5
  rename News _ _ _ _ => kN5
  refine Halt.go (no_c w K0 kF5 X (News.drop2' kN5) T (by rfl) o1 o2 o3 o4 r1_4 r2_4 r3_4 r4_4 r5_4 lo3 hc4 hsub4 (by omega) hMk4 hdM4 hA_4 hD_4 loD hK_4 hV_4 h4 (by ktr_room) (by ktr_units) fun q5 t_5 hh5 tk5 G5 ks5 ps5 ys5 u5 v5 w5 tl5 F5 N5 hc5 hg5 hr5 hv5 => ?_)
  obtain ⟨R5, hR5⟩ : ∃ R, R = R4 ++ tl5 := ⟨_, rfl⟩
  rw [← hR5] at N5
  have s5 : ∀ p ∈ R4, p ∈ R5 := fun p hp => hR5 ▸ List.mem_append_left _ hp
  have r1_5 : ∀ p ∈ R5, p.1 ≠ C := by rw [hR5]; exact off_tl r1_4 hg5 (by simp)
  have r2_5 : ∀ p ∈ R5, p.1 ≠ dC := by rw [hR5]; exact off_tl r2_4 hg5 (by simp)
  have r3_5 : ∀ p ∈ R5, p.1 ≠ kL := by rw [hR5]; exact off_tl r3_4 hg5 (by simp)
  have r4_5 : ∀ p ∈ R5, p.1 ≠ pL := by rw [hR5]; exact off_tl r4_4 hg5 (by simp)
  have r5_5 : ∀ p ∈ R5, p.1 ≠ nD := by rw [hR5]; exact off_tl r5_4 hg5 (by simp)
  have hsub5 : ∀ p ∈ tp4 ++ tl5, p ∈ R5 := by rw [hR5]; exact sub_tl hsub4
  have gA5 : Grew [C, dC, kL, pL, nD] rest 25 G G5 (tA4 ++ tl5) := gA4.trans hg5 hq4
  have hq5 : ∀ p ∈ rest, p ∈ R5 := fun p hp => s5 p (hq4 p hp)
  have ha5 : ∀ p ∈ tA4 ++ tl5, p ∈ R5 := fun p hp => (List.mem_append.mp hp).elim (fun q => s5 p (ha4 p q)) (fun q => hR5 ▸ List.mem_append_right _ q)
  have hp5 : ∀ p ∈ tp4 ++ tl5, p ∈ tps ++ (tA4 ++ tl5) := fun p hp => by rw [← List.append_assoc]; exact (List.mem_append.mp hp).elim (fun q => List.mem_append_left _ (hp4 p q)) (fun q => List.mem_append_right _ q)
  generalize tA4 ++ tl5 = tA5 at gA5 ha5 hp5
  generalize tp4 ++ tl5 = tp5 at hc5 hsub5 hp5
  have hl5 := hg5.len
  have hMk5 := s5 _ hMk4
  have hdM5 := s5 _ hdM4
  have hA_5 := s5 _ hA_4
  have hD_5 := s5 _ hD_4
  have hB_5 := s5 _ hB_4
  have hE_5 := s5 _ hE_4
  have hK_5 := hK_4.mono s5
  have hL_5 := hL_4.mono s5
  have hV_5 := hV_4.up (show G4.length + 2 ≤ G5.length + 2 by omega)
  have hW_5 := hW_4.up (show G4.length + 2 ≤ G5.length + 2 by omega)
  clear hR5
  have N5o := News.opened2 N5 hMk5 hdM5
  clear N5 kN5
  k_steps
  rename Fr _ _ _ (fun y => ite _ _ _) => kF6
  rename News _ _ _ _ => kN6
  refine Halt.go (lone_c w K0 kF6 X (News.drop2' kN6) T (by rfl) o1 o2 o3 o4 r1_5 r2_5 r3_5 r4_5 r5_5 lo3 hc5 hsub5 (by omega) hMk5 hdM5 hA_5 hD_5 loD hK_5 hV_5 h4 (by ktr_room) (by ktr_units) fun q6 t_6 hh6 tk6 G6 ks6 ps6 ys6 u6 v6 w6 tl6 F6 N6 hc6 hg6 hr6 hv6 => ?_)
  obtain ⟨R6, hR6⟩ : ∃ R, R = R5 ++ tl6 := ⟨_, rfl⟩
  rw [← hR6] at N6
  have s6 : ∀ p ∈ R5, p ∈ R6 := fun p hp => hR6 ▸ List.mem_append_left _ hp
  have r1_6 : ∀ p ∈ R6, p.1 ≠ C := by rw [hR6]; exact off_tl r1_5 hg6 (by simp)
  have r2_6 : ∀ p ∈ R6, p.1 ≠ dC := by rw [hR6]; exact off_tl r2_5 hg6 (by simp)
  have r3_6 : ∀ p ∈ R6, p.1 ≠ kL := by rw [hR6]; exact off_tl r3_5 hg6 (by simp)
  have r4_6 : ∀ p ∈ R6, p.1 ≠ pL := by rw [hR6]; exact off_tl r4_5 hg6 (by simp)
  have r5_6 : ∀ p ∈ R6, p.1 ≠ nD := by rw [hR6]; exact off_tl r5_5 hg6 (by simp)
  have hsub6 : ∀ p ∈ tp5 ++ tl6, p ∈ R6 := by rw [hR6]; exact sub_tl hsub5
  have gA6 : Grew [C, dC, kL, pL, nD] rest 34 G G6 (tA5 ++ tl6) := gA5.trans hg6 hq5
  have hq6 : ∀ p ∈ rest, p ∈ R6 := fun p hp => s6 p (hq5 p hp)
  have ha6 : ∀ p ∈ tA5 ++ tl6, p ∈ R6 := fun p hp => (List.mem_append.mp hp).elim (fun q => s6 p (ha5 p q)) (fun q => hR6 ▸ List.mem_append_right _ q)
  have hp6 : ∀ p ∈ tp5 ++ tl6, p ∈ tps ++ (tA5 ++ tl6) := fun p hp => by rw [← List.append_assoc]; exact (List.mem_append.mp hp).elim (fun q => List.mem_append_left _ (hp5 p q)) (fun q => List.mem_append_right _ q)
  generalize tA5 ++ tl6 = tA6 at gA6 ha6 hp6
  generalize tp5 ++ tl6 = tp6 at hc6 hsub6 hp6
  have hl6 := hg6.len
  have hMk6 := s6 _ hMk5
  have hdM6 := s6 _ hdM5
  have hA_6 := s6 _ hA_5
  have hD_6 := s6 _ hD_5
  have hB_6 := s6 _ hB_5
  have hE_6 := s6 _ hE_5
  have hK_6 := hK_5.mono s6
  have hL_6 := hL_5.mono s6
  have hV_6 := hV_5.up (show G5.length + 2 ≤ G6.length + 2 by omega)
  have hW_6 := hW_5.up (show G5.length + 2 ≤ G6.length + 2 by omega)
  clear hR6
  have N6o := News.opened2 N6 hMk6 hdM6
  clear N6 kN6
  k_steps
  rename Fr _ _ _ (fun y => ite _ _ _) => kF7
  rename News _ _ _ _ => kN7
  rename Mk < _ ∧ _ => lQ
  rename_i D6 h6 h6b
  have gA66 : Grew [C, dC, kL, pL, nD] rest 34 G G6 ((D6, W.listOf #[.int q1 t_1, .int q2 t_2, .int q3 t_3, .int q4 t_4, .int q5 t_5, .int q6 t_6] 0) :: tA6) := Grew.cons gA6 (fun b hb => by simp only [List.mem_cons, List.not_mem_nil, or_false] at hb; (rcases hb with q | q | q | q | q <;> rw [q] <;> (show @Ne Nat _ _; (try dsimp only); omega))) (fun q hq => Nat.ne_of_lt (allLt_mem lQ.2.2.2.2.2.2.2 q (hq6 q hq)))
  obtain ⟨R66, hR66⟩ : ∃ R, R = (D6, W.listOf #[.int q1 t_1, .int q2 t_2, .int q3 t_3, .int q4 t_4, .int q5 t_5, .int q6 t_6] 0) :: R6 := ⟨_, rfl⟩
  have kN7' := News.drop2 kN7
  rw [← hR66] at kN7'
  have s66 : ∀ p ∈ R6, p ∈ R66 := fun p hp => hR66 ▸ .tail _ hp
  have hT66 : (D6, W.listOf #[.int q1 t_1, .int q2 t_2, .int q3 t_3, .int q4 t_4, .int q5 t_5, .int q6 t_6] 0) ∈ R66 := hR66 ▸ .head _
  have r1_66 : ∀ p ∈ R66, p.1 ≠ C := by rw [hR66]; exact off_cons (by show @Ne Nat _ _; (try dsimp only); omega) r1_6
  have r2_66 : ∀ p ∈ R66, p.1 ≠ dC := by rw [hR66]; exact off_cons (by show @Ne Nat _ _; (try dsimp only); omega) r2_6
  have r3_66 : ∀ p ∈ R66, p.1 ≠ kL := by rw [hR66]; exact off_cons (by show @Ne Nat _ _; (try dsimp only); omega) r3_6
  have r4_66 : ∀ p ∈ R66, p.1 ≠ pL := by rw [hR66]; exact off_cons (by show @Ne Nat _ _; (try dsimp only); omega) r4_6
  have r5_66 : ∀ p ∈ R66, p.1 ≠ nD := by rw [hR66]; exact off_cons (by show @Ne Nat _ _; (try dsimp only); omega) r5_6
  have hsub66 : ∀ p ∈ tp6, p ∈ R66 := fun p hp => s66 p (hsub6 p hp)
  have hq66 : ∀ p ∈ rest, p ∈ R66 := fun p hp => s66 p (hq6 p hp)
  have ha66 : ∀ p ∈ (D6, W.listOf #[.int q1 t_1, .int q2 t_2, .int q3 t_3, .int q4 t_4, .int q5 t_5, .int q6 t_6] 0) :: tA6, p ∈ R66 := fun p hp => by rw [hR66]; exact (List.mem_cons.mp hp).elim (fun q => q ▸ .head _) (fun q => .tail _ (ha6 p q))
  have hp66 : ∀ p ∈ tp6, p ∈ tps ++ ((D6, W.listOf #[.int q1 t_1, .int q2 t_2, .int q3 t_3, .int q4 t_4, .int q5 t_5, .int q6 t_6] 0) :: tA6) := fun p hp => (List.mem_append.mp (hp6 p hp)).elim (fun q => List.mem_append_left _ q) (fun q => List.mem_append_right _ (.tail _ q))
  generalize (D6, W.listOf #[.int q1 t_1, .int q2 t_2, .int q3 t_3, .int q4 t_4, .int q5 t_5, .int q6 t_6] 0) :: tA6 = tA66 at gA66 ha66 hp66
  have hc66 := hc6
  have hMk66 := s66 _ hMk6
  have hdM66 := s66 _ hdM6
  have hA_66 := s66 _ hA_6
  have hD_66 := s66 _ hD_6
  have hB_66 := s66 _ hB_6
  have hE_66 := s66 _ hE_6
  have hK_66 := hK_6.mono s66
  have hL_66 := hL_6.mono s66
  have hV_66 := hV_6.up (show G6.length + 2 ≤ G6.length + 2 by omega)
  have hW_66 := hW_6.up (show G6.length + 2 ≤ G6.length + 2 by omega)
  clear hR66
  refine Halt.go (one_c w K0 kF7 X (kN7') T (by rfl) o1 o2 o3 o4 r1_66 r2_66 r3_66 r4_66 r5_66 lo3 hc66 hsub66 (by omega) hMk66 hdM66 hA_66 hD_66 loD hK_66 hV_66 h4 (by ktr_room) (by ktr_units) fun q7 t_7 hh7 tk7 G7 ks7 ps7 ys7 u7 v7 w7 tl7 F7 N7 hc7 hg7 hr7 hv7 => ?_)
  obtain ⟨R7, hR7⟩ : ∃ R, R = R66 ++ tl7 := ⟨_, rfl⟩
  rw [← hR7] at N7
  have s7 : ∀ p ∈ R66, p ∈ R7 := fun p hp => hR7 ▸ List.mem_append_left _ hp
  have r1_7 : ∀ p ∈ R7, p.1 ≠ C := by rw [hR7]; exact off_tl r1_66 hg7 (by simp)
  have r2_7 : ∀ p ∈ R7, p.1 ≠ dC := by rw [hR7]; exact off_tl r2_66 hg7 (by simp)
  have r3_7 : ∀ p ∈ R7, p.1 ≠ kL := by rw [hR7]; exact off_tl r3_66 hg7 (by simp)
  have r4_7 : ∀ p ∈ R7, p.1 ≠ pL := by rw [hR7]; exact off_tl r4_66 hg7 (by simp)
  have r5_7 : ∀ p ∈ R7, p.1 ≠ nD := by rw [hR7]; exact off_tl r5_66 hg7 (by simp)
  have hsub7 : ∀ p ∈ tp6 ++ tl7, p ∈ R7 := by rw [hR7]; exact sub_tl hsub66
  have gA7 : Grew [C, dC, kL, pL, nD] rest 45 G G7 (tA66 ++ tl7) := gA66.trans hg7 hq66
  have hq7 : ∀ p ∈ rest, p ∈ R7 := fun p hp => s7 p (hq66 p hp)
  have ha7 : ∀ p ∈ tA66 ++ tl7, p ∈ R7 := fun p hp => (List.mem_append.mp hp).elim (fun q => s7 p (ha66 p q)) (fun q => hR7 ▸ List.mem_append_right _ q)
  have hp7 : ∀ p ∈ tp6 ++ tl7, p ∈ tps ++ (tA66 ++ tl7) := fun p hp => by rw [← List.append_assoc]; exact (List.mem_append.mp hp).elim (fun q => List.mem_append_left _ (hp66 p q)) (fun q => List.mem_append_right _ q)
  generalize tA66 ++ tl7 = tA7 at gA7 ha7 hp7
  generalize tp6 ++ tl7 = tp7 at hc7 hsub7 hp7
  have hl7 := hg7.len
  have hMk7 := s7 _ hMk66
  have hdM7 := s7 _ hdM66
  have hA_7 := s7 _ hA_66
  have hD_7 := s7 _ hD_66
  have hB_7 := s7 _ hB_66
  have hE_7 := s7 _ hE_66
  have hK_7 := hK_66.mono s7
  have hL_7 := hL_66.mono s7
  have hV_7 := hV_66.up (show G6.length + 2 ≤ G7.length + 2 by omega)
  have hW_7 := hW_66.up (show G6.length + 2 ≤ G7.length + 2 by omega)
  have hT7 := s7 _ hT66
  clear hR7
  have N7o := News.opened2 N7 hMk7 hdM7
  clear N7 kN7
  k_steps
  rename Fr _ _ _ (fun y => ite _ _ _) => kF8
  rename News _ _ _ _ => kN8
  refine Halt.go (some_c w K0 kF8 X (News.drop2' kN8) T (by rfl) o1 o2 o3 o4 r1_7 r2_7 r3_7 r4_7 r5_7 lo3 hc7 hsub7 (by omega) hMk7 hdM7 hB_7 hE_7 loE hL_7 hW_7 h4' (by ktr_room) (by ktr_units) fun q8 t_8 hh8 tk8 G8 ks8 ps8 ys8 u8 v8 w8 tl8 F8 N8 hc8 hg8 hr8 hv8 => ?_)
  obtain ⟨R8, hR8⟩ : ∃ R, R = R7 ++ tl8 := ⟨_, rfl⟩
  rw [← hR8] at N8
  have s8 : ∀ p ∈ R7, p ∈ R8 := fun p hp => hR8 ▸ List.mem_append_left _ hp
  have r1_8 : ∀ p ∈ R8, p.1 ≠ C := by rw [hR8]; exact off_tl r1_7 hg8 (by simp)
  have r2_8 : ∀ p ∈ R8, p.1 ≠ dC := by rw [hR8]; exact off_tl r2_7 hg8 (by simp)
  have r3_8 : ∀ p ∈ R8, p.1 ≠ kL := by rw [hR8]; exact off_tl r3_7 hg8 (by simp)
  have r4_8 : ∀ p ∈ R8, p.1 ≠ pL := by rw [hR8]; exact off_tl r4_7 hg8 (by simp)
  have r5_8 : ∀ p ∈ R8, p.1 ≠ nD := by rw [hR8]; exact off_tl r5_7 hg8 (by simp)
  have hsub8 : ∀ p ∈ tp7 ++ tl8, p ∈ R8 := by rw [hR8]; exact sub_tl hsub7
  have gA8 : Grew [C, dC, kL, pL, nD] rest 46 G G8 (tA7 ++ tl8) := gA7.trans hg8 hq7
  have hq8 : ∀ p ∈ rest, p ∈ R8 := fun p hp => s8 p (hq7 p hp)
  have ha8 : ∀ p ∈ tA7 ++ tl8, p ∈ R8 := fun p hp => (List.mem_append.mp hp).elim (fun q => s8 p (ha7 p q)) (fun q => hR8 ▸ List.mem_append_right _ q)
  have hp8 : ∀ p ∈ tp7 ++ tl8, p ∈ tps ++ (tA7 ++ tl8) := fun p hp => by rw [← List.append_assoc]; exact (List.mem_append.mp hp).elim (fun q => List.mem_append_left _ (hp7 p q)) (fun q => List.mem_append_right _ q)
  generalize tA7 ++ tl8 = tA8 at gA8 ha8 hp8
  generalize tp7 ++ tl8 = tp8 at hc8 hsub8 hp8
  have hl8 := hg8.len
  have hMk8 := s8 _ hMk7
  have hdM8 := s8 _ hdM7
  have hA_8 := s8 _ hA_7
  have hD_8 := s8 _ hD_7
  have hB_8 := s8 _ hB_7
  have hE_8 := s8 _ hE_7
  have hK_8 := hK_7.mono s8
  have hL_8 := hL_7.mono s8
  have hV_8 := hV_7.up (show G7.length + 2 ≤ G8.length + 2 by omega)
  have hW_8 := hW_7.up (show G7.length + 2 ≤ G8.length + 2 by omega)
  have hT8 := s8 _ hT7
  clear hR8
  have N8o := News.opened2 N8 hMk8 hdM8
  clear N8 kN8
  k_steps
  rename Fr _ _ _ (fun y => ite _ _ _) => kF9
  rename News _ _ _ _ => kN9
  refine Halt.go (no_c w K0 kF9 X (News.drop2' kN9) T (by rfl) o1 o2 o3 o4 r1_8 r2_8 r3_8 r4_8 r5_8 lo3 hc8 hsub8 (by omega) hMk8 hdM8 hB_8 hE_8 loE hL_8 hW_8 h4' (by ktr_room) (by ktr_units) fun q9 t_9 hh9 tk9 G9 ks9 ps9 ys9 u9 v9 w9 tl9 F9 N9 hc9 hg9 hr9 hv9 => ?_)
  obtain ⟨R9, hR9⟩ : ∃ R, R = R8 ++ tl9 := ⟨_, rfl⟩
  rw [← hR9] at N9
  have s9 : ∀ p ∈ R8, p ∈ R9 := fun p hp => hR9 ▸ List.mem_append_left _ hp
  have r1_9 : ∀ p ∈ R9, p.1 ≠ C := by rw [hR9]; exact off_tl r1_8 hg9 (by simp)
  have r2_9 : ∀ p ∈ R9, p.1 ≠ dC := by rw [hR9]; exact off_tl r2_8 hg9 (by simp)
  have r3_9 : ∀ p ∈ R9, p.1 ≠ kL := by rw [hR9]; exact off_tl r3_8 hg9 (by simp)
  have r4_9 : ∀ p ∈ R9, p.1 ≠ pL := by rw [hR9]; exact off_tl r4_8 hg9 (by simp)
  have r5_9 : ∀ p ∈ R9, p.1 ≠ nD := by rw [hR9]; exact off_tl r5_8 hg9 (by simp)
  have hsub9 : ∀ p ∈ tp8 ++ tl9, p ∈ R9 := by rw [hR9]; exact sub_tl hsub8
  have gA9 : Grew [C, dC, kL, pL, nD] rest 47 G G9 (tA8 ++ tl9) := gA8.trans hg9 hq8
  have hq9 : ∀ p ∈ rest, p ∈ R9 := fun p hp => s9 p (hq8 p hp)
  have ha9 : ∀ p ∈ tA8 ++ tl9, p ∈ R9 := fun p hp => (List.mem_append.mp hp).elim (fun q => s9 p (ha8 p q)) (fun q => hR9 ▸ List.mem_append_right _ q)
  have hp9 : ∀ p ∈ tp8 ++ tl9, p ∈ tps ++ (tA8 ++ tl9) := fun p hp => by rw [← List.append_assoc]; exact (List.mem_append.mp hp).elim (fun q => List.mem_append_left _ (hp8 p q)) (fun q => List.mem_append_right _ q)
  generalize tA8 ++ tl9 = tA9 at gA9 ha9 hp9
  generalize tp8 ++ tl9 = tp9 at hc9 hsub9 hp9
  have hl9 := hg9.len
  have hMk9 := s9 _ hMk8
  have hdM9 := s9 _ hdM8
  have hA_9 := s9 _ hA_8
  have hD_9 := s9 _ hD_8
  have hB_9 := s9 _ hB_8
  have hE_9 := s9 _ hE_8
  have hK_9 := hK_8.mono s9
  have hL_9 := hL_8.mono s9
  have hV_9 := hV_8.up (show G8.length + 2 ≤ G9.length + 2 by omega)
  have hW_9 := hW_8.up (show G8.length + 2 ≤ G9.length + 2 by omega)
  have hT9 := s9 _ hT8
  clear hR9
  have N9o := News.opened2 N9 hMk9 hdM9
  clear N9 kN9
  k_steps
  rename Fr _ _ _ (fun y => ite _ _ _) => kF10
  rename News _ _ _ _ => kN10
  refine Halt.go (lone_c w K0 kF10 X (News.drop2' kN10) T (by rfl) o1 o2 o3 o4 r1_9 r2_9 r3_9 r4_9 r5_9 lo3 hc9 hsub9 (by omega) hMk9 hdM9 hB_9 hE_9 loE hL_9 hW_9 h4' (by ktr_room) (by ktr_units) fun q10 t_10 hh10 tk10 G10 ks10 ps10 ys10 u10 v10 w10 tl10 F10 N10 hc10 hg10 hr10 hv10 => ?_)
  obtain ⟨R10, hR10⟩ : ∃ R, R = R9 ++ tl10 := ⟨_, rfl⟩
  rw [← hR10] at N10
  have s10 : ∀ p ∈ R9, p ∈ R10 := fun p hp => hR10 ▸ List.mem_append_left _ hp
  have r1_10 : ∀ p ∈ R10, p.1 ≠ C := by rw [hR10]; exact off_tl r1_9 hg10 (by simp)
  have r2_10 : ∀ p ∈ R10, p.1 ≠ dC := by rw [hR10]; exact off_tl r2_9 hg10 (by simp)
  have r3_10 : ∀ p ∈ R10, p.1 ≠ kL := by rw [hR10]; exact off_tl r3_9 hg10 (by simp)
  have r4_10 : ∀ p ∈ R10, p.1 ≠ pL := by rw [hR10]; exact off_tl r4_9 hg10 (by simp)
  have r5_10 : ∀ p ∈ R10, p.1 ≠ nD := by rw [hR10]; exact off_tl r5_9 hg10 (by simp)
  have hsub10 : ∀ p ∈ tp9 ++ tl10, p ∈ R10 := by rw [hR10]; exact sub_tl hsub9
  have gA10 : Grew [C, dC, kL, pL, nD] rest 56 G G10 (tA9 ++ tl10) := gA9.trans hg10 hq9
  have hq10 : ∀ p ∈ rest, p ∈ R10 := fun p hp => s10 p (hq9 p hp)
  have ha10 : ∀ p ∈ tA9 ++ tl10, p ∈ R10 := fun p hp => (List.mem_append.mp hp).elim (fun q => s10 p (ha9 p q)) (fun q => hR10 ▸ List.mem_append_right _ q)
  have hp10 : ∀ p ∈ tp9 ++ tl10, p ∈ tps ++ (tA9 ++ tl10) := fun p hp => by rw [← List.append_assoc]; exact (List.mem_append.mp hp).elim (fun q => List.mem_append_left _ (hp9 p q)) (fun q => List.mem_append_right _ q)
  generalize tA9 ++ tl10 = tA10 at gA10 ha10 hp10
  generalize tp9 ++ tl10 = tp10 at hc10 hsub10 hp10
  have hl10 := hg10.len
  have hMk10 := s10 _ hMk9
  have hdM10 := s10 _ hdM9
  have hA_10 := s10 _ hA_9
  have hD_10 := s10 _ hD_9
  have hB_10 := s10 _ hB_9
  have hE_10 := s10 _ hE_9
  have hK_10 := hK_9.mono s10
  have hL_10 := hL_9.mono s10
  have hV_10 := hV_9.up (show G9.length + 2 ≤ G10.length + 2 by omega)
  have hW_10 := hW_9.up (show G9.length + 2 ≤ G10.length + 2 by omega)
  have hT10 := s10 _ hT9
  clear hR10
  have N10o := News.opened2 N10 hMk10 hdM10
  clear N10 kN10
  k_steps
  rename Fr _ _ _ (fun y => ite _ _ _) => kF11
  rename News _ _ _ _ => kN11
  refine Halt.go (one_c w K0 kF11 X (News.drop2' kN11) T (by rfl) o1 o2 o3 o4 r1_10 r2_10 r3_10 r4_10 r5_10 lo3 hc10 hsub10 (by omega) hMk10 hdM10 hB_10 hE_10 loE hL_10 hW_10 h4' (by ktr_room) (by ktr_units) fun q11 t_11 hh11 tk11 G11 ks11 ps11 ys11 u11 v11 w11 tl11 F11 N11 hc11 hg11 hr11 hv11 => ?_)
  obtain ⟨R11, hR11⟩ : ∃ R, R = R10 ++ tl11 := ⟨_, rfl⟩
  rw [← hR11] at N11
  have s11 : ∀ p ∈ R10, p ∈ R11 := fun p hp => hR11 ▸ List.mem_append_left _ hp
  have r1_11 : ∀ p ∈ R11, p.1 ≠ C := by rw [hR11]; exact off_tl r1_10 hg11 (by simp)
  have r2_11 : ∀ p ∈ R11, p.1 ≠ dC := by rw [hR11]; exact off_tl r2_10 hg11 (by simp)
  have r3_11 : ∀ p ∈ R11, p.1 ≠ kL := by rw [hR11]; exact off_tl r3_10 hg11 (by simp)
  have r4_11 : ∀ p ∈ R11, p.1 ≠ pL := by rw [hR11]; exact off_tl r4_10 hg11 (by simp)
  have r5_11 : ∀ p ∈ R11, p.1 ≠ nD := by rw [hR11]; exact off_tl r5_10 hg11 (by simp)
  have hsub11 : ∀ p ∈ tp10 ++ tl11, p ∈ R11 := by rw [hR11]; exact sub_tl hsub10
  have gA11 : Grew [C, dC, kL, pL, nD] rest 67 G G11 (tA10 ++ tl11) := gA10.trans hg11 hq10
  have hq11 : ∀ p ∈ rest, p ∈ R11 := fun p hp => s11 p (hq10 p hp)
  have ha11 : ∀ p ∈ tA10 ++ tl11, p ∈ R11 := fun p hp => (List.mem_append.mp hp).elim (fun q => s11 p (ha10 p q)) (fun q => hR11 ▸ List.mem_append_right _ q)
  have hp11 : ∀ p ∈ tp10 ++ tl11, p ∈ tps ++ (tA10 ++ tl11) := fun p hp => by rw [← List.append_assoc]; exact (List.mem_append.mp hp).elim (fun q => List.mem_append_left _ (hp10 p q)) (fun q => List.mem_append_right _ q)
  generalize tA10 ++ tl11 = tA11 at gA11 ha11 hp11
  generalize tp10 ++ tl11 = tp11 at hc11 hsub11 hp11
  have hl11 := hg11.len
  have hMk11 := s11 _ hMk10
  have hdM11 := s11 _ hdM10
  have hA_11 := s11 _ hA_10
  have hD_11 := s11 _ hD_10
  have hB_11 := s11 _ hB_10
  have hE_11 := s11 _ hE_10
  have hK_11 := hK_10.mono s11
  have hL_11 := hL_10.mono s11
  have hV_11 := hV_10.up (show G10.length + 2 ≤ G11.length + 2 by omega)
  have hW_11 := hW_10.up (show G10.length + 2 ≤ G11.length + 2 by omega)
  have hT11 := s11 _ hT10
  clear hR11
  have N11o := News.opened2 N11 hMk11 hdM11
  clear N11 kN11
  k_steps
  rename Fr _ _ _ (fun y => ite _ _ _) => kF12
  rename News _ _ _ _ => kN12
  rename Mk < _ ∧ _ => lQ2
  refine Halt.go (kmk_add_lit kF12 kN12 (its := #[.int q1 t_1, .int q2 t_2, .int q3 t_3, .int q4 t_4, .int q5 t_5, .int q6 t_6]) (its2 := #[.int q7 t_7, .int q8 t_8, .int q9 t_9, .int q10 t_10, .int q11 t_11]) (zs := [.int q1 t_1, .int q2 t_2, .int q3 t_3, .int q4 t_4, .int q5 t_5, .int q6 t_6, .int q7 t_7, .int q8 t_8, .int q9 t_9, .int q10 t_10, .int q11 t_11]) ⟨_, (kN12 (D6, W.listOf #[.int q1 t_1, .int q2 t_2, .int q3 t_3, .int q4 t_4, .int q5 t_5, .int q6 t_6] 0) (by repeat' (first | exact hT11 | apply List.Mem.tail))).1, rfl, _, rfl⟩ ⟨_, (kN12 _ (.head _)).1, rfl, _, rfl⟩ (by rfl) (fun TL hTL FT NT lT => ?_) (by rw [sizeLine_eq]; show 6 + 5 ≤ 16777216; omega))
  k_steps
  rename Fr _ _ _ (fun y => ite _ _ _) => kF13
  rename News _ _ _ _ => kN13
  have hX11 : Ext G11 G11 := ⟨[], by simp⟩
  have hX10 : Ext G10 G11 := Ext.trans (Ext.of hg11) hX11
  have hX9 : Ext G9 G11 := Ext.trans (Ext.of hg10) hX10
  have hX8 : Ext G8 G11 := Ext.trans (Ext.of hg9) hX9
  have hX7 : Ext G7 G11 := Ext.trans (Ext.of hg8) hX8
  have hX6 : Ext G6 G11 := Ext.trans (Ext.of hg7) hX7
  have hX5 : Ext G5 G11 := Ext.trans (Ext.of hg6) hX6
  have hX4 : Ext G4 G11 := Ext.trans (Ext.of hg5) hX5
  have hX3 : Ext G3 G11 := Ext.trans (Ext.of hg4) hX4
  have hX2 : Ext G2 G11 := Ext.trans (Ext.of hg3) hX3
  have hX1 : Ext G1 G11 := Ext.trans (Ext.of hg2) hX2
  have hX0 : Ext G G11 := Ext.trans (Ext.of hg1) hX1
  have z1 : ∀ ρ, lit (vals ρ G11) q1 = inF (lit (vals ρ G11)) xs1 xs2 := fun ρ => by rw [hX1.lit ρ hr1, hv1 ρ]; exact inF_ext (fun g hg => (hX0.lit ρ hg).symm) (by omega) hV_0 hW_0
  have z2 : ∀ ρ, lit (vals ρ G11) q2 = inF (lit (vals ρ G11)) xs2 xs1 := fun ρ => by rw [hX2.lit ρ hr2, hv2 ρ]; exact inF_ext (fun g hg => (hX1.lit ρ hg).symm) (by omega) hW_1 hV_1
  have z3 : ∀ ρ, lit (vals ρ G11) q3 = smF (lit (vals ρ G11)) xs1 xs2 := fun ρ => by rw [hX3.lit ρ hr3, hv3 ρ]; exact smF_ext (fun g hg => (hX2.lit ρ hg).symm) (by omega) hV_2 hW_2
  have z4 : ∀ ρ, lit (vals ρ G11) q4 = anF (lit (vals ρ G11)) xs1 := fun ρ => by rw [hX4.lit ρ hr4, hv4 ρ]; exact anF_ext (fun g hg => (hX3.lit ρ hg).symm) hV_3
  have z5 : ∀ ρ, lit (vals ρ G11) q5 = !anF (lit (vals ρ G11)) xs1 := fun ρ => by rw [hX5.lit ρ hr5, hv5 ρ]; exact congrArg not (anF_ext (fun g hg => (hX4.lit ρ hg).symm) hV_4)
  have z6 : ∀ ρ, lit (vals ρ G11) q6 = !p2F (lit (vals ρ G11)) xs1 := fun ρ => by rw [hX6.lit ρ hr6, hv6 ρ]; exact congrArg not (p2F_ext (fun g hg => (hX5.lit ρ hg).symm) hV_5)
  have z7 : ∀ ρ, lit (vals ρ G11) q7 = (anF (lit (vals ρ G11)) xs1 && !p2F (lit (vals ρ G11)) xs1) := fun ρ => by rw [hX7.lit ρ hr7, hv7 ρ]; exact congr (congrArg and (anF_ext (fun g hg => (hX6.lit ρ hg).symm) hV_66)) (congrArg not (p2F_ext (fun g hg => (hX6.lit ρ hg).symm) hV_66))
  have z8 : ∀ ρ, lit (vals ρ G11) q8 = anF (lit (vals ρ G11)) xs2 := fun ρ => by rw [hX8.lit ρ hr8, hv8 ρ]; exact anF_ext (fun g hg => (hX7.lit ρ hg).symm) hW_7
  have z9 : ∀ ρ, lit (vals ρ G11) q9 = !anF (lit (vals ρ G11)) xs2 := fun ρ => by rw [hX9.lit ρ hr9, hv9 ρ]; exact congrArg not (anF_ext (fun g hg => (hX8.lit ρ hg).symm) hW_8)
  have z10 : ∀ ρ, lit (vals ρ G11) q10 = !p2F (lit (vals ρ G11)) xs2 := fun ρ => by rw [hX10.lit ρ hr10, hv10 ρ]; exact congrArg not (p2F_ext (fun g hg => (hX9.lit ρ hg).symm) hW_9)
  have z11 : ∀ ρ, lit (vals ρ G11) q11 = (anF (lit (vals ρ G11)) xs2 && !p2F (lit (vals ρ G11)) xs2) := fun ρ => by rw [hX11.lit ρ hr11, hv11 ρ]; exact congr (congrArg and (anF_ext (fun g hg => (hX10.lit ρ hg).symm) hW_10)) (congrArg not (p2F_ext (fun g hg => (hX10.lit ρ hg).symm) hW_10))
  have lT' : ∀ p ∈ R11, @LT.lt Nat _ p.1 TL := fun p hp => by have q := lT p (by repeat' (first | exact hp | apply List.Mem.tail)); exact q
  have lT5 : ∀ b ∈ ([C, dC, kL, pL, nD] : List Addr), @Ne Nat TL b := fun b hb => by
    simp only [List.mem_cons, List.not_mem_nil, or_false] at hb
    rcases hb with q | q | q | q | q <;> rw [q]
    · exact Nat.ne_of_gt (lT (C, instObj 328 dC) (by repeat' (first | exact List.Mem.head _ | apply List.Mem.tail)))
    · exact Nat.ne_of_gt (lT (dC, circO w kL pL nD t1 t2 t3) (by repeat' (first | exact List.Mem.head _ | apply List.Mem.tail)))
    · exact Nat.ne_of_gt (lT (kL, W.listOf ks11 u11) (by repeat' (first | exact List.Mem.head _ | apply List.Mem.tail)))
    · exact Nat.ne_of_gt (lT (pL, W.listOf ps11 v11) (by repeat' (first | exact List.Mem.head _ | apply List.Mem.tail)))
    · exact Nat.ne_of_gt (lT (nD, knownO w ys11 w11) (by repeat' (first | exact List.Mem.head _ | apply List.Mem.tail)))
  refine Halt.go (done TL [.int q1 t_1, .int q2 t_2, .int q3 t_3, .int q4 t_4, .int q5 t_5, .int q6 t_6, .int q7 t_7, .int q8 t_8, .int q9 t_9, .int q10 t_10, .int q11 t_11] [q1, q2, q3, q4, q5, q6, q7, q8, q9, q10, q11] _ _ G11 ks11 ps11 ys11 u11 v11 w11 ((TL, W.listOf (List.toArray [.int q1 t_1, .int q2 t_2, .int q3 t_3, .int q4 t_4, .int q5 t_5, .int q6 t_6, .int q7 t_7, .int q8 t_8, .int q9 t_9, .int q10 t_10, .int q11 t_11]) 0) :: tA11) ?f1 (fun p hp => kN13 p ?f2) (hc11.mono fun p hp => ?f3) (Grew.cons (gA11.up (by omega)) lT5 (fun q hq => Nat.ne_of_lt (lT' q (hq11 q hq)))) (.head _) (by repeat' constructor) ?f5 rfl (fun ρ => ?f6))
  case f1 =>
    rw [← told_twice (B := some (.ref D6))]; exact kF13
  case f2 =>
    rcases List.mem_cons.mp hp with rfl | hp
    · exact (by repeat' (first | exact List.Mem.head _ | apply List.Mem.tail))
    rcases List.mem_cons.mp hp with rfl | hp
    · exact (by repeat' (first | exact List.Mem.head _ | apply List.Mem.tail))
    rcases List.mem_cons.mp hp with rfl | hp
    · exact (by repeat' (first | exact List.Mem.head _ | apply List.Mem.tail))
    rcases List.mem_cons.mp hp with rfl | hp
    · exact (by repeat' (first | exact List.Mem.head _ | apply List.Mem.tail))
    rcases List.mem_cons.mp hp with rfl | hp
    · exact (by repeat' (first | exact List.Mem.head _ | apply List.Mem.tail))
    rcases List.mem_append.mp hp with hp | hp
    · have hp := hq11 p hp
      exact (by repeat' (first | exact hp | apply List.Mem.tail))
    rcases List.mem_cons.mp hp with rfl | hp
    · exact (by repeat' (first | exact List.Mem.head _ | apply List.Mem.tail))
    · have hp := ha11 p hp
      exact (by repeat' (first | exact hp | apply List.Mem.tail))
  case f3 =>
    exact (List.mem_append.mp (hp11 p hp)).elim (fun q => List.mem_append_left _ q) (fun q => List.mem_append_right _ (.tail _ q))
  case f5 =>
    intro g hg
    simp only [List.mem_cons, List.not_mem_nil, or_false] at hg
    rcases hg with rfl | rfl | rfl | rfl | rfl | rfl | rfl | rfl | rfl | rfl | rfl
    · exact hr1.up (by have := hX1.len; omega)
    · exact hr2.up (by have := hX2.len; omega)
    · exact hr3.up (by have := hX3.len; omega)
    · exact hr4.up (by have := hX4.len; omega)
    · exact hr5.up (by have := hX5.len; omega)
    · exact hr6.up (by have := hX6.len; omega)
    · exact hr7.up (by have := hX7.len; omega)
    · exact hr8.up (by have := hX8.len; omega)
    · exact hr9.up (by have := hX9.len; omega)
    · exact hr10.up (by have := hX10.len; omega)
    · exact hr11.up (by have := hX11.len; omega)
  case f6 =>
    simp only [List.map_cons, List.map_nil]
    rw [z1 ρ, z2 ρ, z3 ρ, z4 ρ, z5 ρ, z6 ρ, z7 ρ, z8 ρ, z9 ρ, z10 ρ, z11 ρ]
end Mine
end
section
open PySem PySem.W PyProof.Rows PySem.Calls
set_option maxRecDepth 100000
set_option maxHeartbeats 1500000
set_option linter.unusedVariables false
namespace Mine
theorem off30 : True := by
  w_top off
  trivial
section
variable {w : World} {A : Around} {E : Value → Shared → Prop} {s : Shared} {h₀ h : Heap} {L : Addr} {m : Str → Option Value} {news : Led} {Q : Value → Shared → Prop}
/-- dict(d) of a matrix's dict -/
theorem copy_c {o : Addr} {xs : List KX} {n : Nat} (F : Fr h₀ L s.heap m) (N : News h₀ L s.heap news) (hbig : h₀.NoLimit) (lo : (o == sysModules) = false) (mo : (o, matO w xs n) ∈ news) (hk : ∀ x ∈ xs, ∃ vs, (x.2.1, tupO vs) ∈ news ∧ IntsAre vs x.1) (hH : HashApart (tupleKind (IK w)) xs) (hsz : xs.length ≤ 1000)
    (h : ∀ D h' n', (D == sysModules) = false → Fr h₀ L h' m → News h₀ L h' ((D, matO w xs n') :: news) → (∀ p ∈ news, p.1 < D) → Q (.ref D) { s with heap := h' }) : wpAny (model PP w) A (call (.type "dict") [.ref o]) Q E s := by
  have ho := (N _ mo).1
  refine callType_codes (Q₁ := fun obj s₁ => obj = .ref s.heap.objs.size ∧ s₁ = { s with heap := s.heap.push { cls := .type "dict", data := .dict #[] } }) PySem.F.kt_called_dict (PySem.F.kt_typeCall_dict_1 _) PySem.F.entry_dict_init (PySem.kt_code_dict_new _ ⟨rfl, rfl⟩) ?_
  rintro obj s₁ ⟨rfl, rfl⟩
  have hlt : ∀ p ∈ news, p.1 < s.heap.objs.size := fun p hp => Heap.lt_size (N p hp).1
  have loD := F.notModules (modules_low hbig)
  have F1 : Fr h₀ L (s.heap.push { cls := .type "dict", data := .dict #[] }) m := F.push _
  have N1 : News h₀ L (s.heap.push { cls := .type "dict", data := .dict #[] }) ((s.heap.objs.size, { cls := .type "dict", data := .dict #[] }) :: news) := N.push F _
  have hd1 := (N1 _ (.head _)).1
  have ho1 := (N1 _ (.tail _ mo)).1
  have hne : s.heap.objs.size ≠ o := fun e => absurd (hlt _ mo) (by show ¬ o < _; rw [e]; exact Nat.lt_irrefl _)
  have tD : ({ s with heap := s.heap.push { cls := .type "dict", data := .dict #[] } } : Shared).TypeIs (.ref s.heap.objs.size) "dict" := ⟨_, hd1, rfl⟩
  have tO : ({ s with heap := s.heap.push { cls := .type "dict", data := .dict #[] } } : Shared).TypeIs (.ref o) "dict" := ⟨_, ho1, rfl⟩
  refine ⟨tD, PySem.F.args_dict_init_2 _ _, ?_⟩
  unfold Builtin.«dict.__init__»
  refine wpAny_bind ?_
  unfold Builtin.Dict.selfAndRest
  refine wpAny_bind (wpAny_notOrdered_dict tD ?_)
  show wpAny _ _ (pure (s.heap.objs.size, [Value.ref o])) _ _ _
  refine wpAny_pure ?_
  show wpAny _ _ (Builtin.Dict.updateFrom "dict.__init__" s.heap.objs.size (.ref o) [] .none) _ _ _
  unfold Builtin.Dict.updateFrom
  refine wpAny_bind (wpAny_typeOf tO ?_)
  rw [if_neg (by decide)]
  refine wpAny_bind ?_
  unfold Builtin.Dict.merge
  refine wpAny_bind ?_
  unfold Builtin.Dict.readDirectly
  refine wpAny_bind (wpAny_isInstance tO isSubtype_dict_dict ?_)
  simp only [Bool.not_true, Bool.false_eq_true, if_false]
  refine wpAny_bind (wpAny_specialOf tO PySem.F.slot_dict_iter.lookup (wpAny_pure ?_))
  simp only [beq_self_eq_true, if_true]
  refine wpAny_bind (wpAny_pure ?_)
  have fin : ∀ (h' : Heap) (n' : Nat), Heap.SameBut s.heap.objs.size (s.heap.push { cls := .type "dict", data := .dict #[] }) h' → h'.get? s.heap.objs.size = some (matO w xs n') → Q (.ref s.heap.objs.size) { s with heap := h' } := fun h' n' hs hg =>
    h _ h' n' loD (F1.change hs (N1 _ (.head _)).2.1 (N1 _ (.head _)).2.2) (fun p hp => by
      rcases List.mem_cons.mp hp with rfl | hp
      · exact ⟨hg, (N1 _ (.head _)).2⟩
      · exact ⟨(hs.2 _ (Nat.ne_of_lt (hlt p hp))).trans (N1 _ (.tail _ hp)).1, (N1 _ (.tail _ hp)).2⟩) hlt
  show wpAny _ _ (Builtin.Dict.mergeDict _ _ _) _ _ _
  unfold Builtin.Dict.mergeDict
  rw [if_neg (by simpa using hne)]
  unfold Builtin.Dict.showsAll
  rw [if_neg (by rw [lo]; exact Bool.false_ne_true)]
  refine wpAny_bind (wpAny_pure ?_)
  refine wpAny_bind (wpAny_dictEntries ho1 rfl ?_)
  dsimp only
  cases xs with
  | nil =>
    rw [if_neg (by simp)]
    refine wpAny_bind (wpAny_dictEpoch ho1 rfl ?_)
    refine wpAny_bind (wpAny_dictEntries ho1 rfl ?_)
    refine wpAny_bind ?_
    rw [Std.Legacy.Range.forIn_eq_forIn_range']
    rw [show (List.range' [:(List.map (entryOfKey (tupleKind (IK w))) []).toArray.size].start [:(List.map (entryOfKey (tupleKind (IK w))) []).toArray.size].size [:(List.map (entryOfKey (tupleKind (IK w))) []).toArray.size].step) = [] from by simp [Std.Legacy.Range.size], List.forIn_nil]
    refine wpAny_pure (wpAny_pure ?_)
    exact wpAny_bind (wpAny_pure (wpAny_pure ⟨rfl, fin _ 0 (Heap.SameBut.refl _ _) hd1⟩))
  | cons x xs =>
    rw [if_pos (by simp [keyPart, entryOfKey])]
    refine wpAny_bind (wpAny_dictEntries hd1 rfl ?_)
    rw [if_pos (show (#[] : Array DictEntry).isEmpty = true from rfl)]
    refine wpAny_bind ?_
    unfold Builtin.Dict.entriesForEmpty
    refine wpAny_bind (wpAny_dictEntries ho1 rfl ?_)
    refine wpAny_bind ?_
    rw [List.forIn_toArray]
    refine wpAny_forIn_list _ (fun rest _ s' => s' = { s with heap := s.heap.push { cls := .type "dict", data := .dict #[] } } ∧ ∀ e ∈ rest, ∃ y ∈ x :: xs, e = entryOfKey (tupleKind (IK w)) y) _ ?_ ?_ _ _ ⟨rfl, fun e he => ?_⟩
    · rintro e rest b s' ⟨rfl, hr⟩
      obtain ⟨y, hy, rfl⟩ := hr e (.head _)
      obtain ⟨vs, a1, a2⟩ := hk y hy
      have ty : ({ s with heap := s.heap.push { cls := .type "dict", data := .dict #[] } } : Shared).TypeIs (.ref y.2.1) "tuple" := ⟨_, (N1 _ (.tail _ a1)).1, rfl⟩
      have hf : ¬ (Array.filter (fun e => e.hash == (entryOfKey (tupleKind (IK w)) y).hash) (List.map (entryOfKey (tupleKind (IK w))) (x :: xs)).toArray).size > 1 := by
        have h1 := filter_apart _ hH ((tupleKind (IK w)).hash y.1)
        rw [List.filter_toArray, List.size_toArray, List.filter_map, List.length_map]
        rw [List.filter_map, List.length_map] at h1
        simpa [Function.comp_def, entryOfKey] using h1
      unfold Builtin.Dict.quietEq
      refine wpAny_bind ?_
      show wpAny _ _ (specialOf (.ref y.2.1) (Str.ofString "__eq__") >>= _) _ _ _
      refine wpAny_bind (wpAny_specialOf ty PySem.F.slot_tuple_eq.lookup (wpAny_pure ?_))
      rw [show (some (Value.builtin "tuple.__eq__") == some (Value.builtin "object.__eq__")) = false by decide, if_pos (by decide), if_neg hf]
      exact wpAny_pure ⟨rfl, fun e he => hr e (.tail _ he)⟩
    · rintro b s' ⟨rfl, _⟩
      refine wpAny_pure ?_
      rw [if_pos (by simp)]
      refine wpAny_bind (wpAny_updateDictKeysTo hd1 rfl (wpAny_pure ?_) (by rw [List.size_toArray, List.length_map, sizeLine_eq]; omega))
      refine wpAny_bind (wpAny_pure (wpAny_pure ⟨rfl, fin _ 1 (Heap.SameBut.update ..) ?_⟩))
      exact Heap.get?_update_self _ hd1 (Obj.isFreed_of_dict (Obj.data_mapDictKeys rfl _))
    · obtain ⟨y, hy, rfl⟩ := List.mem_map.mp he
      exact ⟨y, hy, rfl⟩
end
end Mine
end
section
open PySem PySem.W PyProof.Rows PySem.Calls
set_option maxRecDepth 100000
set_option maxHeartbeats 1500000
set_option linter.unusedVariables false
namespace Mine
theorem off31 : True := by
  w_top off
  trivial
noncomputable abbrev lawT (mB : Str → Option Value) (tp : Addr) : Str → Option Value := fun y => if y = Str.ofString "tape" then some (.ref tp) else mB y
noncomputable abbrev lawK (mB : Str → Option Value) (ar : Int) (tar : Tok) (IN KY Mk : Addr) : Str → Option Value := fun y =>
  if y = Str.ofString "maker" then some (.ref Mk) else if y = Str.ofString "keys" then some (.ref KY) else if y = Str.ofString "arity" then some (.int ar tar) else if y = Str.ofString "inputs" then some (.ref IN) else mB y
section
variable {h₀ h : Heap} {L : Addr}
theorem News.toMat {k p c t e1 e2 e3 e4 e5 : Addr × Obj} {rest : Led} (N : News h₀ L h (k :: p :: c :: t :: e1 :: e2 :: e3 :: e4 :: e5 :: rest)) : News h₀ L h (t :: e1 :: e2 :: e3 :: e4 :: e5 :: k :: p :: c :: rest) := News.sub N (all_cons (mem_at 3 rfl) (all_cons (mem_at 4 rfl) (all_cons (mem_at 5 rfl) (all_cons (mem_at 6 rfl) (all_cons (mem_at 7 rfl) (all_cons (mem_at 8 rfl) (all_cons (mem_at 0 rfl) (all_cons (mem_at 1 rfl) (all_cons (mem_at 2 rfl) (sub_drop 9 rfl))))))))))
theorem News.unMat {k p c t e1 e2 e3 e4 e5 : Addr × Obj} {rest tl : Led} (N : News h₀ L h (t :: e1 :: e2 :: e3 :: e4 :: e5 :: ((k :: p :: c :: rest) ++ tl))) : News h₀ L h (k :: p :: c :: t :: e1 :: e2 :: e3 :: e4 :: e5 :: (rest ++ tl)) := News.sub (l := t :: e1 :: e2 :: e3 :: e4 :: e5 :: ((k :: p :: c :: rest) ++ tl)) N (all_cons (mem_at 6 rfl) (all_cons (mem_at 7 rfl) (all_cons (mem_at 8 rfl) (all_cons (mem_at 0 rfl) (all_cons (mem_at 1 rfl) (all_cons (mem_at 2 rfl) (all_cons (mem_at 3 rfl) (all_cons (mem_at 4 rfl) (all_cons (mem_at 5 rfl) (sub_drop 9 rfl))))))))))
end
theorem SubK.hashes {xs kx : List KX} (h : SubK xs kx) (w : World) : (xs.map fun y => (tupleKind (IK w)).hash y.1).Sublist (kx.map fun y => (tupleKind (IK w)).hash y.1) := by
  have h1 := h.keys.map (tupleKind (IK w)).hash
  rwa [List.map_map, List.map_map] at h1
local macro_rules | `(tactic| walk_at "eval ListComp") => `(tactic| refine Halt.mk ?_)
local macro_rules | `(tactic| walk_at "CompEnd") => `(tactic| refine Halt.mk ?_)
local macro_rules | `(tactic| walk_at "CompSrcT") => `(tactic| refine Halt.mk ?_)
local macro_rules | `(tactic| walk_at "CompSrc") => `(tactic| refine Halt.mk ?_)
local macro_rules | `(tactic| walk_at "exec For Name Call cons nil") => `(tactic| refine Halt.mk ?_)
local macro_rules | `(tactic| walk_at "pyIter ref") => `(tactic| refine Halt.mk ?_)
local macro_rules | `(tactic| walk_at "TurnPost") => `(tactic| ((with_reducible show TurnPost _ _ _ _ _ _ _ (Flow.ret _) _); dsimp only [TurnPost]))
local macro_rules | `(tactic| walk_at "compareOp Eq ref ref") => `(tactic| refine Halt.mk ?_)
local macro_rules | `(tactic| walk_at "compareOp NotEq ref ref") => `(tactic| refine Halt.mk ?_)
local macro_rules | `(tactic| walk_at "call ref") => `(tactic| ((with_reducible show wpAny _ _ (call (Value.ref 353) _) _ _ _); refine Halt.mk ?_))
local macro_rules | `(tactic| walk_at "call type:dict") => `(tactic| refine Halt.mk ?_)
local macro_rules | `(tactic| walk_at "execs cons") => `(tactic| ((with_reducible show wpAny _ _ (execs (Stmt.Assign _ _ _ :: Stmt.Assign _ (Expr.BinOp ..) _ :: _) _) _ _ _); refine Halt.mk ?_))
local macro_rules | `(tactic| walk_at "compareOp In ref ref") => `(tactic| refine Halt.mk ?_)

theorem mats_b (w : World) {p : Program} {loose : List Str} {mean : ExcName → Option Value} {mg mb : Str → Option Value}
  {fa : Addr} {ccd : Value} {h₀ : Heap} {L : Addr} {mB : Str → Option Value} {s : Shared} {Q : Flow → Shared → Prop} {E : Value → Shared → Prop}
  {C dC kL pL nD : Addr} {t1 t2 t3 : Tok} {ks ps : Array Value} {xs : List KX} {n1 n2 n3 : Nat} {rest tps : Led} {G : List Gate} {tp CL IN : Addr} {oT : Obj} {cv iv : List Value} {cs' : List Int} {sp nc ni : Nat} {tsp : Tok} {KY Mk : Addr} {kx : List KX} {nk : Nat} {ar : Int} {tar : Tok} {ok op oc : Obj}
  (K0 : Below callerA h₀ [] h₀) (X : (hd.heap_1 w.params).In h₀) (T : Top p loose mean mg mb h₀)
  (F : Fr h₀ L s.heap (lawK (lawT mB tp) ar tar IN KY Mk))
  (hN : News h₀ L s.heap ((L + 1 + 1 + 1, ok) :: (L + 1 + 1, op) :: (L + 1, oc) :: (tp, oT) :: ((C, instObj 328 dC) :: (dC, circO w kL pL nD t1 t2 t3) :: (kL, W.listOf ks n1) :: (pL, W.listOf ps n2) :: (nD, knownO w xs n3) :: rest)))
  (hop : ∃ v, op.data = Data.cell v) (hoc : oc.data = Data.cell (some (.ref C)))
  (o1 : LtN dC C) (o2 : LtN C kL) (o3 : LtN kL pL) (o4 : LtN pL nD) (r1 : ∀ p ∈ rest, p.1 ≠ C) (r2 : ∀ p ∈ rest, p.1 ≠ dC) (r3 : ∀ p ∈ rest, p.1 ≠ kL) (r4 : ∀ p ∈ rest, p.1 ≠ pL) (r5 : ∀ p ∈ rest, p.1 ≠ nD) (lo3 : (nD == sysModules) = false)
  (p0 : LtN (L + 1 + 1 + 1) tp) (p9 : LtN (L + 1 + 1 + 1) dC) (hrK : ∀ q ∈ rest, @Ne Nat q.1 (L + 1 + 1 + 1) ∧ @Ne Nat q.1 (L + 1 + 1))
  (hc : CircOk G ks ps xs tps) (hsub : ∀ p ∈ tps, p ∈ rest) (hz : G.length ≤ 600)
  (hTP : oT.IsDictOf (SK w) (tapeKvs CL sp tsp)) (p1 : @Ne Nat C tp) (p2 : @Ne Nat dC tp) (p3 : @Ne Nat kL tp) (p4 : @Ne Nat pL tp) (p5 : @Ne Nat nD tp) (hoff : ∀ p ∈ rest, p.1 ≠ tp)
  (hCL : (CL, W.listOf cv.toArray nc) ∈ rest) (hcv : IntsAre cv cs') (h24 : cs'.length ≤ 24) (hIN : (IN, W.listOf iv.toArray ni) ∈ rest) (hiv : IntsAre iv [2, 3, 4, 5]) (hG4 : 4 ≤ G.length) (hsp : sp ≤ 600) (hKY : (KY, W.listOf (refsOf kx).toArray nk) ∈ rest) (hkx : KeysAsc rest kx) (hk4 : kx.length ≤ 4) (hH : HashApart (tupleKind (IK w)) kx)
  (done : ∀ (Am mD Bm mE K1 K2 KP : Addr) (xs1 xs2 : List KX) (m1 m2 k1 k2 kk : Nat) (op' : Obj) (h' : Heap) (tk' : Nat) (G' : List Gate) (ks' ps' : Array Value) (xs' : List KX) (n1' n2' n3' : Nat) (tl : Led),
    Fr h₀ L h' (fun y => if y = Str.ofString "b" then some (.ref Bm) else if y = Str.ofString "a" then some (.ref Am) else lawK (lawT mB tp) ar tar IN KY Mk y) →
    News h₀ L h' ((L + 1 + 1 + 1, ok) :: (L + 1 + 1, op') :: (L + 1, oc) :: ((C, instObj 328 dC) :: (dC, circO w kL pL nD t1 t2 t3) :: (kL, W.listOf ks' n1') :: (pL, W.listOf ps' n2') :: (nD, knownO w xs' n3') :: (rest ++ tl))) → op'.data = Data.cell (some (.ref KP)) → CircOk G' ks' ps' xs' (tps ++ tl) → Grew [C, dC, kL, pL, nD] rest 8 G G' tl →
    (∀ q ∈ tl, @Ne Nat q.1 (L + 1 + 1 + 1)) →
    (Am, tupO [.int ar tar, .ref mD]) ∈ tl → (mD, matO w xs1 m1) ∈ tl → (mD == sysModules) = false → SubK xs1 kx → ValsOk (G'.length + 2) xs1 →
    (Bm, tupO [.int ar tar, .ref mE]) ∈ tl → (mE, matO w xs2 m2) ∈ tl → (mE == sysModules) = false → SubK xs2 kx → ValsOk (G'.length + 2) xs2 →
    (KP, W.listOf #[.ref K1, .ref K2] kk) ∈ tl → (K1, matO w xs1 k1) ∈ tl → (K2, matO w xs2 k2) ∈ tl → (K1 == sysModules) = false → (K2 == sysModules) = false → mD ≠ K1 → mE ≠ K2 →
    wpAny (model PP w) (callerA.deeper (lawE L fa ccd)) (execs (lawB.drop 8) (lawE L fa ccd)) Q (lawX w L fa ccd E) { s with heap := h', toks := tk' }) :
  wpAny (model PP w) (callerA.deeper (lawE L fa ccd)) (execs (lawB.drop 5) (lawE L fa ccd)) Q (lawX w L fa ccd E) s := by
  unfold lawX lawE at done ⊢
  dsimp only [lawB, lawS, PySem.Challenge.pw_nu0274_01, List.getLast?, List.getLast, List.drop] at done ⊢
  have off9 : ∀ b : Addr, LtN (L + 1 + 1 + 1) b → ∀ (R : Led), (∀ p ∈ R, p.1 ≠ b) → ∀ p ∈ (L + 1 + 1 + 1, ok) :: (L + 1 + 1, op) :: (L + 1, oc) :: R, p.1 ≠ b := fun b h2 R h3 =>
    off_cons (by show @Ne Nat _ _; (try dsimp only); omega) (off_cons (by show @Ne Nat _ _; (try dsimp only); omega) (off_cons (by show @Ne Nat _ _; (try dsimp only); omega) h3))
  k_steps
  rename Fr _ _ _ (fun y => ite _ _ _) => kF1
  rename News _ _ _ _ => kN1
  refine Halt.go (matrix_c w (rest := ((L + 1 + 1 + 1, ok) :: (L + 1 + 1, op) :: (L + 1, oc) :: rest)) K0 kF1 X (News.toMat kN1) T (by rfl) o1 o2 o3 o4 (off9 C (by omega) rest r1) (off9 dC (by omega) rest r2) (off9 kL (by omega) rest r3) (off9 pL (by omega) rest r4) (off9 nD (by omega) rest r5) lo3 hc (fun p hp => (.tail _ (.tail _ (.tail _ (hsub p hp))))) (by omega) hTP p1 p2 p3 p4 p5 (off9 tp (by omega) rest hoff) (.tail _ (.tail _ (.tail _ hCL))) hcv h24 (.tail _ (.tail _ (.tail _ hIN))) hiv hG4 (by omega) (.tail _ (.tail _ (.tail _ hKY))) (hkx.mono fun p hp => (.tail _ (.tail _ (.tail _ hp)))) hk4 (by ktr_room) (by ktr_units) fun Am mD xs1 m1 hh1 tk1 G1 ks1 ps1 ys1 n11 n21 n31 tl1 oT1 sp1 tsp1 F1 N1 hc1 hg1 htp1 hT1 hsp1 hAm hmD loD hsk1 hV1 => ?_)
  have hl1 := hg1.len
  have gr1 : Grew [C, dC, kL, pL, nD] rest 4 G G1 tl1 := hg1.sub fun p hp => (.tail _ (.tail _ (.tail _ hp)))
  have hlt1 : ∀ q ∈ tl1, @Ne Nat q.1 (L + 1 + 1 + 1) ∧ @Ne Nat q.1 (L + 1 + 1) := fun q hq => ⟨Ne.symm ((hg1.new q hq).2 _ (.head _)), Ne.symm ((hg1.new q hq).2 _ (.tail _ (.head _)))⟩
  have N1' := News.unMat N1
  clear N1
  k_steps
  rename Fr _ _ _ (fun y => ite _ _ _) => kF2
  rename News _ _ _ _ => kN2
  have r1' : ∀ p ∈ rest ++ tl1, p.1 ≠ C := off_tl r1 gr1 (by simp)
  have r2' : ∀ p ∈ rest ++ tl1, p.1 ≠ dC := off_tl r2 gr1 (by simp)
  have r3' : ∀ p ∈ rest ++ tl1, p.1 ≠ kL := off_tl r3 gr1 (by simp)
  have r4' : ∀ p ∈ rest ++ tl1, p.1 ≠ pL := off_tl r4 gr1 (by simp)
  have r5' : ∀ p ∈ rest ++ tl1, p.1 ≠ nD := off_tl r5 gr1 (by simp)
  have hoff' : ∀ p ∈ rest ++ tl1, p.1 ≠ tp := fun p hp => (List.mem_append.mp hp).elim (hoff p) (htp1 p)
  refine Halt.go (matrix_c w (rest := ((L + 1 + 1 + 1, ok) :: (L + 1 + 1, op) :: (L + 1, oc) :: (rest ++ tl1))) K0 kF2 X (News.toMat kN2) T (by rfl) o1 o2 o3 o4 (off9 C (by omega) (rest ++ tl1) r1') (off9 dC (by omega) (rest ++ tl1) r2') (off9 kL (by omega) (rest ++ tl1) r3') (off9 pL (by omega) (rest ++ tl1) r4') (off9 nD (by omega) (rest ++ tl1) r5') lo3 hc1 (fun p hp => (.tail _ (.tail _ (.tail _ (sub_tl hsub p hp))))) (by omega) hT1 p1 p2 p3 p4 p5 (off9 tp (by omega) (rest ++ tl1) hoff') (.tail _ (.tail _ (.tail _ (List.mem_append_left _ hCL)))) hcv h24 (.tail _ (.tail _ (.tail _ (List.mem_append_left _ hIN)))) hiv (by omega) (by omega) (.tail _ (.tail _ (.tail _ (List.mem_append_left _ hKY)))) (hkx.mono fun p hp => (.tail _ (.tail _ (.tail _ (List.mem_append_left _ hp))))) hk4 (by ktr_room) (by ktr_units) fun Bm mE xs2 m2 hh2 tk2 G2 ks2 ps2 ys2 n12 n22 n32 tl2 oT2 sp2 tsp2 F2 N2 hc2 hg2 htp2 hT2 hsp2 hBm hmE loE hsk2 hV2 => ?_)
  have hl2 := hg2.len
  have N2' := News.unMat N2
  clear N2
  have N2o : News h₀ L hh2 ((Am, tupO [.int ar tar, .ref mD]) :: (mD, matO w xs1 m1) :: (Bm, tupO [.int ar tar, .ref mE]) :: (mE, matO w xs2 m2) :: (L + 1 + 1 + 1, ok) :: (L + 1 + 1, op) :: (L + 1, oc) :: (tp, oT2) :: ((C, instObj 328 dC) :: (dC, circO w kL pL nD t1 t2 t3) :: (kL, W.listOf ks2 n12) :: (pL, W.listOf ps2 n22) :: (nD, knownO w ys2 n32) :: (rest ++ tl1 ++ tl2))) := fun p hp => by
    rcases List.mem_cons.mp hp with rfl | hp
    · exact N2' _ (.tail _ (.tail _ (.tail _ (.tail _ (.tail _ (.tail _ (.tail _ (.tail _ (.tail _ (List.mem_append_left _ (List.mem_append_right _ hAm)))))))))))
    rcases List.mem_cons.mp hp with rfl | hp
    · exact N2' _ (.tail _ (.tail _ (.tail _ (.tail _ (.tail _ (.tail _ (.tail _ (.tail _ (.tail _ (List.mem_append_left _ (List.mem_append_right _ hmD)))))))))))
    rcases List.mem_cons.mp hp with rfl | hp
    · exact N2' _ (.tail _ (.tail _ (.tail _ (.tail _ (.tail _ (.tail _ (.tail _ (.tail _ (.tail _ (List.mem_append_right _ hBm))))))))))
    rcases List.mem_cons.mp hp with rfl | hp
    · exact N2' _ (.tail _ (.tail _ (.tail _ (.tail _ (.tail _ (.tail _ (.tail _ (.tail _ (.tail _ (List.mem_append_right _ hmE))))))))))
    · exact N2' _ hp
  clear N2'
  have hlt2 : ∀ q ∈ tl2, @Ne Nat q.1 (L + 1 + 1 + 1) ∧ @Ne Nat q.1 (L + 1 + 1) := fun q hq => ⟨Ne.symm ((hg2.new q hq).2 _ (.head _)), Ne.symm ((hg2.new q hq).2 _ (.tail _ (.head _)))⟩
  have gr2 : Grew [C, dC, kL, pL, nD] rest 8 G G2 (tl1 ++ tl2) := gr1.trans (hg2.sub fun p hp => (.tail _ (.tail _ (.tail _ hp)))) (fun p hp => List.mem_append_left _ hp)
  k_steps
  rename Fr _ _ _ (fun y => ite _ _ _) => kF3
  rename News _ _ _ _ => kN3
  have hKa := (hsk1.asc hkx)
  have hKb := (hsk2.asc hkx)
  refine Halt.go (copy_c kF3 kN3 (Top.nolimit T) loD (xs := xs1) (n := m1) (by repeat' (first | exact List.Mem.head _ | apply List.Mem.tail)) (fun x hx => by obtain ⟨v, a, b⟩ := hKa.key x hx; exact ⟨v, (by repeat' (first | exact (List.mem_append_left _ (List.mem_append_left _ a)) | apply List.Mem.tail)), b⟩) (hH.sublist (hsk1.hashes w)) (by have := hsk1.len; omega) fun K1 hk1 k1 lo1 F4 N4 l4 => ?_)
  k_steps
  rename Fr _ _ _ (fun y => ite _ _ _) => kF5
  rename News _ _ _ _ => kN5
  refine Halt.go (copy_c kF5 kN5 (Top.nolimit T) loE (xs := xs2) (n := m2) (by repeat' (first | exact List.Mem.head _ | apply List.Mem.tail)) (fun x hx => by obtain ⟨v, a, b⟩ := hKb.key x hx; exact ⟨v, (by repeat' (first | exact (List.mem_append_left _ (List.mem_append_left _ a)) | apply List.Mem.tail)), b⟩) (hH.sublist (hsk2.hashes w)) (by have := hsk2.len; omega) fun K2 hk2 k2 lo2 F6 N6 l6 => ?_)
  k_steps
  rename Fr _ _ _ (fun y => ite _ _ _) => kF7
  rename News _ _ _ _ => kN7
  rename K2 < _ ∧ _ => lQ
  rename_i KP hKPb
  obtain ⟨vv, hvv⟩ := hop
  have q4 : LtN (L + 1 + 1) K1 := l4 (L + 1 + 1, op) (by repeat' (first | exact List.Mem.head _ | apply List.Mem.tail))
  have q4' : LtN (L + 1 + 1 + 1) K1 := l4 (L + 1 + 1 + 1, ok) (by repeat' (first | exact List.Mem.head _ | apply List.Mem.tail))
  have q6 : LtN K1 K2 := l6 (K1, matO w xs1 k1) (by repeat' (first | exact List.Mem.head _ | apply List.Mem.tail))
  have qm : LtN mD K1 := l4 (mD, matO w xs1 m1) (by repeat' (first | exact List.Mem.head _ | apply List.Mem.tail))
  have qe : LtN mE K1 := l4 (mE, matO w xs2 m2) (by repeat' (first | exact List.Mem.head _ | apply List.Mem.tail))
  have qf0 : LtN C K1 := l4 (C, instObj 328 dC) (by repeat' (first | exact List.Mem.head _ | apply List.Mem.tail))
  have qf1 : LtN dC K1 := l4 (dC, circO w kL pL nD t1 t2 t3) (by repeat' (first | exact List.Mem.head _ | apply List.Mem.tail))
  have qf2 : LtN kL K1 := l4 (kL, W.listOf ks2 n12) (by repeat' (first | exact List.Mem.head _ | apply List.Mem.tail))
  have qf3 : LtN pL K1 := l4 (pL, W.listOf ps2 n22) (by repeat' (first | exact List.Mem.head _ | apply List.Mem.tail))
  have qf4 : LtN nD K1 := l4 (nD, knownO w ys2 n32) (by repeat' (first | exact List.Mem.head _ | apply List.Mem.tail))
  have qr : ∀ q ∈ (rest ++ tl1 ++ tl2), LtN q.1 K1 := fun q hq => l4 q (by repeat' (first | exact hq | apply List.Mem.tail))
  have qo : ∀ q ∈ (rest ++ tl1 ++ tl2), @Ne Nat q.1 (L + 1 + 1 + 1) ∧ @Ne Nat q.1 (L + 1 + 1) := fun q hq => (List.mem_append.mp hq).elim (fun a => (List.mem_append.mp a).elim (hrK q) (hlt1 q)) (hlt2 q)
  have N9 : News h₀ L _ ((L + 1 + 1, op) :: (KP, W.listOf #[.ref K1, .ref K2] 0) :: (K2, matO w xs2 k2) :: (K1, matO w xs1 k1) :: (L + 1 + 1 + 1, ok) :: (L + 1, oc) :: ((C, instObj 328 dC) :: (dC, circO w kL pL nD t1 t2 t3) :: (kL, W.listOf ks2 n12) :: (pL, W.listOf ps2 n22) :: (nD, knownO w ys2 n32) :: (rest ++ tl1 ++ tl2))) := News.sub kN7 fun p hp => by
    rcases List.mem_cons.mp hp with rfl | hp
    · exact (by repeat' (first | exact List.Mem.head _ | apply List.Mem.tail))
    rcases List.mem_cons.mp hp with rfl | hp
    · exact (by repeat' (first | exact List.Mem.head _ | apply List.Mem.tail))
    rcases List.mem_cons.mp hp with rfl | hp
    · exact (by repeat' (first | exact List.Mem.head _ | apply List.Mem.tail))
    rcases List.mem_cons.mp hp with rfl | hp
    · exact (by repeat' (first | exact List.Mem.head _ | apply List.Mem.tail))
    rcases List.mem_cons.mp hp with rfl | hp
    · exact (by repeat' (first | exact List.Mem.head _ | apply List.Mem.tail))
    rcases List.mem_cons.mp hp with rfl | hp
    · exact (by repeat' (first | exact List.Mem.head _ | apply List.Mem.tail))
    rcases List.mem_cons.mp hp with rfl | hp
    · exact (by repeat' (first | exact List.Mem.head _ | apply List.Mem.tail))
    rcases List.mem_cons.mp hp with rfl | hp
    · exact (by repeat' (first | exact List.Mem.head _ | apply List.Mem.tail))
    rcases List.mem_cons.mp hp with rfl | hp
    · exact (by repeat' (first | exact List.Mem.head _ | apply List.Mem.tail))
    rcases List.mem_cons.mp hp with rfl | hp
    · exact (by repeat' (first | exact List.Mem.head _ | apply List.Mem.tail))
    rcases List.mem_cons.mp hp with rfl | hp
    · exact (by repeat' (first | exact List.Mem.head _ | apply List.Mem.tail))
    · exact (by repeat' (first | exact hp | apply List.Mem.tail))
  refine storeX_C kF7 N9 (by rfl) (UpdF.head (off_cons (by show @Ne Nat _ _; (try dsimp only); omega) (off_cons (by show @Ne Nat _ _; (try dsimp only); omega) (off_cons (by show @Ne Nat _ _; (try dsimp only); omega) (off_cons (by show @Ne Nat _ _; (try dsimp only); omega) (off_cons (by show @Ne Nat _ _; (try dsimp only); omega) (off_cons (by show @Ne Nat _ _; (try dsimp only); omega) (off_cons (by show @Ne Nat _ _; (try dsimp only); omega) (off_cons (by show @Ne Nat _ _; (try dsimp only); omega) (off_cons (by show @Ne Nat _ _; (try dsimp only); omega) (off_cons (by show @Ne Nat _ _; (try dsimp only); omega) (fun q hq => (qo q hq).2)))))))))))) hvv (fun h₃ op₃ F₃ N₄ hop₃ => ?_) (by rfl) (by rfl)
  k_steps
  refine Halt.go (done Am mD Bm mE K1 K2 KP xs1 xs2 m1 m2 k1 k2 0 op₃ _ _ G2 ks2 ps2 ys2 n12 n22 n32 ((KP, W.listOf #[.ref K1, .ref K2] 0) :: (K2, matO w xs2 k2) :: (K1, matO w xs1 k1) :: (tl1 ++ tl2)) F₃ (fun p hp => N₄ p ?f1) hop₃ (hc2.mono fun p hp => ?f2) (Grew.cons (Grew.cons (Grew.cons gr2 (fun b hb => by simp only [List.mem_cons, List.not_mem_nil, or_false] at hb; (rcases hb with q | q | q | q | q <;> rw [q] <;> (show @Ne Nat _ _; (try dsimp only); omega))) (fun q hq => by have := qr q (List.mem_append_left _ (List.mem_append_left _ hq)); show @Ne Nat _ _; (try dsimp only); omega)) (fun b hb => by simp only [List.mem_cons, List.not_mem_nil, or_false] at hb; (rcases hb with q | q | q | q | q <;> rw [q] <;> (show @Ne Nat _ _; (try dsimp only); omega))) (fun q hq => by have := qr q (List.mem_append_left _ (List.mem_append_left _ hq)); show @Ne Nat _ _; (try dsimp only); omega)) (fun b hb => by simp only [List.mem_cons, List.not_mem_nil, or_false] at hb; (rcases hb with q | q | q | q | q <;> rw [q] <;> (show @Ne Nat _ _; (try dsimp only); omega))) (fun q hq => by have := qr q (List.mem_append_left _ (List.mem_append_left _ hq)); show @Ne Nat _ _; (try dsimp only); omega)) (fun q hq => ?f3) (.tail _ (.tail _ (.tail _ (List.mem_append_left _ hAm)))) (.tail _ (.tail _ (.tail _ (List.mem_append_left _ hmD)))) loD hsk1 (hV1.up (by omega)) (.tail _ (.tail _ (.tail _ (List.mem_append_right _ hBm)))) (.tail _ (.tail _ (.tail _ (List.mem_append_right _ hmE)))) loE hsk2 hV2 (.head _) (.tail _ (.tail _ (.head _))) (.tail _ (.head _)) lo1 lo2 (Nat.ne_of_lt qm) (Nat.ne_of_lt (Nat.lt_trans qe q6)))
  case f1 =>
    rcases List.mem_cons.mp hp with rfl | hp
    · exact (by repeat' (first | exact List.Mem.head _ | apply List.Mem.tail))
    rcases List.mem_cons.mp hp with rfl | hp
    · exact (by repeat' (first | exact List.Mem.head _ | apply List.Mem.tail))
    rcases List.mem_cons.mp hp with rfl | hp
    · exact (by repeat' (first | exact List.Mem.head _ | apply List.Mem.tail))
    rcases List.mem_cons.mp hp with rfl | hp
    · exact (by repeat' (first | exact List.Mem.head _ | apply List.Mem.tail))
    rcases List.mem_cons.mp hp with rfl | hp
    · exact (by repeat' (first | exact List.Mem.head _ | apply List.Mem.tail))
    rcases List.mem_cons.mp hp with rfl | hp
    · exact (by repeat' (first | exact List.Mem.head _ | apply List.Mem.tail))
    rcases List.mem_cons.mp hp with rfl | hp
    · exact (by repeat' (first | exact List.Mem.head _ | apply List.Mem.tail))
    rcases List.mem_cons.mp hp with rfl | hp
    · exact (by repeat' (first | exact List.Mem.head _ | apply List.Mem.tail))
    rcases List.mem_append.mp hp with hp | hp
    · have hp := List.mem_append_left tl2 (List.mem_append_left tl1 hp)
      exact (by repeat' (first | exact hp | apply List.Mem.tail))
    rcases List.mem_cons.mp hp with rfl | hp
    · exact (by repeat' (first | exact List.Mem.head _ | apply List.Mem.tail))
    rcases List.mem_cons.mp hp with rfl | hp
    · exact (by repeat' (first | exact List.Mem.head _ | apply List.Mem.tail))
    rcases List.mem_cons.mp hp with rfl | hp
    · exact (by repeat' (first | exact List.Mem.head _ | apply List.Mem.tail))
    have hp : p ∈ rest ++ tl1 ++ tl2 := (List.mem_append.mp hp).elim (fun a => List.mem_append_left _ (List.mem_append_right _ a)) (fun a => List.mem_append_right _ a)
    exact (by repeat' (first | exact hp | apply List.Mem.tail))
  case f2 =>
    rw [List.append_assoc] at hp
    exact (List.mem_append.mp hp).elim (fun a => List.mem_append_left _ a) (fun a => List.mem_append_right _ (.tail _ (.tail _ (.tail _ a))))
  case f3 =>
    simp only [List.mem_cons, List.mem_append] at hq
    rcases hq with rfl | rfl | rfl | hq | hq
    · exact (by show @Ne Nat _ _; (try dsimp only); omega)
    · exact (by show @Ne Nat _ _; (try dsimp only); omega)
    · exact (by show @Ne Nat _ _; (try dsimp only); omega)
    · exact (hlt1 q hq).1
    · exact (hlt2 q hq).1
end Mine
end
section
open PySem PySem.W PyProof.Rows PySem.Calls
set_option maxRecDepth 100000
set_option maxHeartbeats 1500000
set_option linter.unusedVariables false
namespace Mine
theorem off33 : True := by
  w_top off
  trivial
theorem CircOk.input {G ks ps} {rest rest' : Led} (h : CircOk G ks ps [] rest) {ta : Addr} {t : Tok} (hm : (ta, tupO []) ∈ rest') (hs : ∀ p ∈ rest, p ∈ rest') : CircOk (G ++ [none]) (ks.push (.str (Str.ofString "input") t)) (ps.push (.ref ta)) [] rest' := by
  have h' := h.mono hs
  have hcase : ∀ {i : Nat} {g : Gate}, (G ++ [none])[i]? = some g → (G[i]? = some g) ∨ (i = G.length ∧ g = none) := fun {i g} e => by
    by_cases hi : i < G.length
    · left; rwa [List.getElem?_append_left hi] at e
    · right
      rw [List.getElem?_append_right (by omega)] at e
      have : i - G.length = 0 := by
        cases q : i - G.length with
        | zero => rfl
        | succ k => rw [q] at e; simp at e
      rw [this] at e
      exact ⟨by omega, (Option.some.inj e).symm⟩
  have lt_of : ∀ {i : Nat} {g : Gate}, G[i]? = some g → i < G.length := fun e => (List.getElem?_eq_some_iff.mp e).1
  refine ⟨by rw [Array.size_push, h.kl, List.length_append]; rfl, by rw [Array.size_push, h.pl, List.length_append]; rfl, fun i g e => ?_, fun i g e => ?_, List.nodup_nil, (fun _ h => nomatch h), (fun _ h => nomatch h), Nat.zero_le _, fun i l e p hp => ?_, fun i l e => ?_⟩
  · rcases hcase e with e | ⟨rfl, rfl⟩
    · obtain ⟨t', q⟩ := h'.kind i g e
      exact ⟨t', by rw [Array.getElem?_push_lt (by rw [h.kl]; have := lt_of e; omega)]; rw [← q]; simp⟩
    · exact ⟨t, by rw [← h.kl]; simp⟩
  · rcases hcase e with e | ⟨rfl, rfl⟩
    · obtain ⟨a, vs', q, r⟩ := h'.part i g e
      exact ⟨a, vs', by rw [Array.getElem?_push_lt (by rw [h.pl]; have := lt_of e; omega)]; rw [← q]; simp, r⟩
    · exact ⟨ta, [], by rw [← h.pl]; simp, hm, .nil⟩
  · rcases hcase e with e | ⟨_, e'⟩
    · exact h.wf i l e p hp
    · cases e'
  · rcases hcase e with e | ⟨_, e'⟩
    · exact h.short i l e
    · cases e'

theorem CircOk.start {T1 T2 : Addr} {a1 a2 : Tok} {rest : Led} : CircOk [] #[.str (Str.ofString "") a1, .str (Str.ofString "true") a2] #[.ref T1, .ref T2] [] rest :=
  ⟨rfl, rfl, (fun i g h => by simp at h), (fun i g h => by simp at h), List.nodup_nil, (fun _ h => nomatch h), (fun _ h => nomatch h), Nat.le_refl _, (fun i l h => by simp at h), (fun i l h => by simp at h)⟩
noncomputable def insL (n : Nat) : List Int := (List.range n).map fun (j : Nat) => (j : Int) + 2
theorem insL_snoc (n : Nat) : insL (n + 1) = insL n ++ [(n : Int) + 2] := by unfold insL; rw [List.range_succ, List.map_append]; rfl
local macro_rules | `(tactic| walk_at "exec Assign cons ListComp") => `(tactic| refine Halt.mk ?_)
local macro_rules | `(tactic| walk_at "CompEnd") => `(tactic| refine Halt.mk ?_)
local macro_rules | `(tactic| walk_at "CompSrc") => `(tactic| refine Halt.mk ?_)
local macro_rules | `(tactic| walk_at "call builtin:list.append") => `(tactic| refine Halt.mk ?_)
local macro_rules | `(tactic| walk_at "call ref") => `(tactic| ((with_reducible show wpAny _ _ (call (Value.ref 339) _) _ _ _); refine Halt.mk ?_))
local macro_rules | `(tactic| walk_at "call builtin:len") => `(tactic| ((with_reducible show wpAny _ _ (call (Value.builtin "len") [Value.ref _]) _ _ _); refine Halt.mk ?_))
local macro_rules | `(tactic| walk_at "execs cons") => `(tactic| ((with_reducible show wpAny _ _ (execs (Stmt.Assign _ (Expr.IfExp ..) _ :: _) _) _ _ _); refine Halt.mk ?_))

theorem input_b (w : World) {p : Program} {loose : List Str} {mean : ExcName → Option Value} {mg mb : Str → Option Value}
  {fa : Addr} {ccd : Value} {h₀ : Heap} {L : Addr} {mB : Str → Option Value} {s : Shared} {Q : Flow → Shared → Prop} {E : Value → Shared → Prop}
  {C dC kL pL nD T1 T2 CL tp DT : Addr} {t1 t2 t3 a1 a2 tsp : Tok} {n3 : Nat} {ok op oc oT oD : Obj} {wv : List Value} {ws : List Int}
  (K0 : Below callerA h₀ [] h₀) (X : (hd.heap_1 w.params).In h₀) (T : Top p loose mean mg mb h₀)
  (F : Fr h₀ L s.heap (lawT mB tp))
  (hN : News h₀ L s.heap ((C, instObj 328 dC) :: (dC, circO w kL pL nD t1 t2 t3) :: (kL, W.listOf #[.str (Str.ofString "") a1, .str (Str.ofString "true") a2] 0) :: (pL, W.listOf #[.ref T1, .ref T2] 0) :: (nD, knownO w [] n3) :: (T2, tupO []) :: (T1, tupO []) :: (CL, W.listOf wv.toArray 0) :: (tp, oT) :: (L + 1 + 1 + 1, ok) :: (L + 1 + 1, op) :: (L + 1, oc) :: []))
  (hok : ∃ v, ok.data = Data.cell v) (hop : ∃ v, op.data = Data.cell v) (hoc : oc.data = Data.cell (some (.ref C))) (hoT : oT.IsDictOf (SK w) (tapeKvs CL 0 tsp)) (hws : IntsAre wv ws) (hw24 : ws.length ≤ 24)
  (e0 : LtN (L + 1 + 1 + 1) tp) (e1 : LtN tp CL) (e2 : LtN CL dC) (o1 : LtN dC C) (o2 : LtN C kL) (e3 : LtN kL T1) (e4 : LtN T1 T2) (e5 : LtN T2 pL) (o4 : LtN pL nD) (lo3 : (nD == sysModules) = false)
  (done : ∀ (IN : Addr) (iv : List Value) (ni : Nat) (ks1 ps1 : Array Value) (n11 n21 : Nat) (tl1 R3 : Led) (oT' : Obj) (sp' : Nat) (t' : Tok) (ar : Int) (tar : Tok) (h' : Heap) (tk' : Nat),
    Fr h₀ L h' (fun y => if y = Str.ofString "arity" then some (.int ar tar) else if y = Str.ofString "inputs" then some (.ref IN) else lawT mB tp y) →
    News h₀ L h' ((L + 1 + 1 + 1, ok) :: (L + 1 + 1, op) :: (L + 1, oc) :: (tp, oT') :: (C, instObj 328 dC) :: (dC, circO w kL pL nD t1 t2 t3) :: (kL, W.listOf ks1 n11) :: (pL, W.listOf ps1 n21) :: (nD, knownO w [] n3) :: R3) →
    CircOk (List.replicate 4 none) ks1 ps1 [] tl1 → (∀ p ∈ tl1, p ∈ R3) → IntsAre iv [2, 3, 4, 5] → (IN, W.listOf iv.toArray ni) ∈ R3 → (CL, W.listOf wv.toArray 0) ∈ R3 → oT'.IsDictOf (SK w) (tapeKvs CL sp' t') → sp' ≤ 1 → (ar = 1 ∨ ar = 2) →
    (∀ p ∈ R3, @Ne Nat p.1 C) → (∀ p ∈ R3, @Ne Nat p.1 dC) → (∀ p ∈ R3, @Ne Nat p.1 kL) → (∀ p ∈ R3, @Ne Nat p.1 pL) → (∀ p ∈ R3, @Ne Nat p.1 nD) → (∀ p ∈ R3, @Ne Nat p.1 tp) → (∀ q ∈ R3, @Ne Nat q.1 (L + 1 + 1 + 1) ∧ @Ne Nat q.1 (L + 1 + 1)) →
    wpAny (model PP w) (callerA.deeper (lawE L fa ccd)) (execs (lawB.drop 3) (lawE L fa ccd)) Q (lawX w L fa ccd E) { s with heap := h', toks := tk' }) :
  wpAny (model PP w) (callerA.deeper (lawE L fa ccd)) (execs (lawB.drop 1) (lawE L fa ccd)) Q (lawX w L fa ccd E) s := by
  unfold lawX lawE at done ⊢
  dsimp only [lawB, lawS, PySem.Challenge.pw_nu0274_01, List.getLast?, List.getLast, List.drop] at done ⊢
  k_steps
  rename Fr _ _ _ (fun y => ite _ _ _) => kF1
  rename News _ _ _ _ => kN1
  refine Halt.go (LCg.Assign_ListComp_U (F₀ := kF1) (by rfl) (by with_unfolding_all rfl) (by with_unfolding_all rfl) (by decide) (by rfl) (by decide) (by rfl) (by rfl) (by rfl) ?_)
  k_steps
  rename IsRange _ _ _ _ _ _ _ _ => hRg
  rename Fr _ _ _ (fun y => ite _ _ _) => kF2
  rename News _ _ _ _ => kN2
  obtain ⟨R0, hR0⟩ : ∃ R : Led, R = (T2, tupO []) :: (T1, tupO []) :: (CL, W.listOf wv.toArray 0) :: (tp, oT) :: (L + 1 + 1 + 1, ok) :: (L + 1 + 1, op) :: (L + 1, oc) :: [] := ⟨_, rfl⟩
  rw [← hR0] at kN2
  have r0k : ∀ p ∈ R0, p.1 ≠ kL := by
    rw [hR0]; exact off_cons (by show @Ne Nat _ _; (try dsimp only); omega) (off_cons (by show @Ne Nat _ _; (try dsimp only); omega) (off_cons (by show @Ne Nat _ _; (try dsimp only); omega) (off_cons (by show @Ne Nat _ _; (try dsimp only); omega) (off_cons (by show @Ne Nat _ _; (try dsimp only); omega) (off_cons (by show @Ne Nat _ _; (try dsimp only); omega) (off_cons (by show @Ne Nat _ _; (try dsimp only); omega) (fun _ h => nomatch h)))))))
  have r0p : ∀ p ∈ R0, p.1 ≠ pL := by
    rw [hR0]; exact off_cons (by show @Ne Nat _ _; (try dsimp only); omega) (off_cons (by show @Ne Nat _ _; (try dsimp only); omega) (off_cons (by show @Ne Nat _ _; (try dsimp only); omega) (off_cons (by show @Ne Nat _ _; (try dsimp only); omega) (off_cons (by show @Ne Nat _ _; (try dsimp only); omega) (off_cons (by show @Ne Nat _ _; (try dsimp only); omega) (off_cons (by show @Ne Nat _ _; (try dsimp only); omega) (fun _ h => nomatch h)))))))
  have hoc0 : (L + 1, oc) ∈ R0 := by rw [hR0]; exact (by repeat' (first | exact List.Mem.head _ | apply List.Mem.tail))
  have htp0 : (tp, oT) ∈ R0 := by rw [hR0]; exact (by repeat' (first | exact List.Mem.head _ | apply List.Mem.tail))
  refine Halt.go (LCg.CompSrc.range (n := 4) (by rfl) kF2 kN2 hRg (by decide) (by decide) (by rw [sizeLine_eq]; omega) fun g => ?_)
  refine comp_inv 4 (fun i ys nx => ∃ (ks1 ps1 : Array Value) (n11 n21 : Nat) (tl1 : Led), nx = (C, instObj 328 dC) :: (dC, circO w kL pL nD t1 t2 t3) :: (kL, W.listOf ks1 n11) :: (pL, W.listOf ps1 n21) :: (nD, knownO w [] n3) :: (tl1 ++ R0) ∧ CircOk (List.replicate i none) ks1 ps1 [] tl1 ∧ IntsAre ys (insL i) ∧ (∀ p ∈ tl1, LtN (L + 1 + 1 + 1) p.1 ∧ LtN nD p.1)) ?step ?fin _ 0 [] _ (by omega) ⟨_, _, 0, 0, [], rfl, CircOk.start, .nil, fun _ h => nomatch h⟩
  case step =>
    rintro i ys nx v I oI C₁ oC D₂ m₂ h tk₁ E' hi ⟨tv, rfl⟩ ⟨ks1, ps1, n11, n21, tl1, rfl, hc1, hys, htl⟩ hC hxv F₁ N₁ off ne
    have om := LCg.Off3.mem off
    have hk3 := om (kL, W.listOf ks1 n11) (.tail _ (.tail _ (.head _)))
    have hp3 := om (pL, W.listOf ps1 n21) (.tail _ (.tail _ (.tail _ (.head _))))
    have rk : ∀ p ∈ tl1 ++ R0, p.1 ≠ kL := fun p hp => (List.mem_append.mp hp).elim (fun q => by have := htl p q; show @Ne Nat _ _; omega) (r0k p)
    have rp : ∀ p ∈ tl1 ++ R0, p.1 ≠ pL := fun p hp => (List.mem_append.mp hp).elim (fun q => by have := htl p q; show @Ne Nat _ _; omega) (r0p p)
    have hsz : ks1.size ≤ 10 := by rw [hc1.kl, List.length_replicate]; omega
    have hszp : ps1.size ≤ 10 := by rw [hc1.pl, List.length_replicate]; omega
    have hNo : News h₀ L h ((L + 1, oc) :: (I, oI) :: (C₁, oC) :: (D₂, LCg.lst ys) :: (C, instObj 328 dC) :: (dC, circO w kL pL nD t1 t2 t3) :: (kL, W.listOf ks1 n11) :: (pL, W.listOf ps1 n21) :: (nD, knownO w [] n3) :: (tl1 ++ R0)) := fun p hp => by
      rcases List.mem_cons.mp hp with rfl | hp
      · exact N₁ _ (.tail _ (.tail _ (.tail _ (.tail _ (.tail _ (.tail _ (.tail _ (.tail _ (List.mem_append_right _ (by rw [hR0]; exact (by repeat' (first | exact List.Mem.head _ | apply List.Mem.tail))))))))))))
      · exact N₁ _ hp
    clear N₁ kN2
    k_steps
    have kI : @Ne Nat kL I := hk3.1
    have kC : @Ne Nat kL C₁ := hk3.2.1
    have kD : @Ne Nat kL D₂ := hk3.2.2
    have pI : @Ne Nat pL I := hp3.1
    have pC : @Ne Nat pL C₁ := hp3.2.1
    have pD : @Ne Nat pL D₂ := hp3.2.2
    rename Fr _ _ _ _ => kFa
    rename News _ _ _ _ => kNa
    rename_i tkI TA hA9 FA9 NA9 lTA gB LB hB FGB BB XB TB
    refine Halt.go (append_K kFa kNa (Upd.tail (by show @Ne Nat _ _; (try dsimp only); omega) (Upd.tail (by show @Ne Nat _ _; (try dsimp only); omega) (Upd.tail (by show @Ne Nat _ _; (try dsimp only); omega) (Upd.tail (by show @Ne Nat _ _; (try dsimp only); omega) (Upd.tail (by show @Ne Nat _ _; (try dsimp only); omega) (Upd.tail (by show @Ne Nat _ _; (try dsimp only); omega) (Upd.tail (by show @Ne Nat _ _; (try dsimp only); omega) (Upd.head (off_cons (by show @Ne Nat _ _; (try dsimp only); omega) (off_cons (by show @Ne Nat _ _; (try dsimp only); omega) rk)))))))))) (fun h₇ F₇ N₇ => ?_) (by rw [sizeLine_eq]; omega))
    k_steps
    rename Fr _ _ _ _ => kFb
    rename News _ _ _ _ => kNb
    refine Halt.go (append_K kFb kNb (Upd.tail (by show @Ne Nat _ _; (try dsimp only); omega) (Upd.tail (by show @Ne Nat _ _; (try dsimp only); omega) (Upd.tail (by show @Ne Nat _ _; (try dsimp only); omega) (Upd.tail (by show @Ne Nat _ _; (try dsimp only); omega) (Upd.tail (by show @Ne Nat _ _; (try dsimp only); omega) (Upd.tail (by show @Ne Nat _ _; (try dsimp only); omega) (Upd.tail (by show @Ne Nat _ _; (try dsimp only); omega) (Upd.tail (by show @Ne Nat _ _; (try dsimp only); omega) (Upd.head (off_cons (by show @Ne Nat _ _; (try dsimp only); omega) rp)))))))))) (fun h₈ F₈ N₈ => ?_) (by rw [sizeLine_eq]; omega))
    k_steps
    rename News _ _ _ _ => kNc
    refine Halt.go (len_L kNc (l := kL) (n := n11 + 1) (by repeat' (first | exact List.Mem.head _ | apply List.Mem.tail)) (by rw [Array.size_push]; omega) fun t₉ tk₉ => ?_)
    k_steps
    rename Fr _ _ _ _ => kFd
    rename News _ _ _ _ => kNd
    have hTA : LtN nD TA := by omega
    have hTA2 : LtN (L + 1 + 1 + 1) TA := Nat.lt_trans e0 (Nat.lt_trans e1 (Nat.lt_trans e2 (Nat.lt_trans o1 (Nat.lt_trans o2 (Nat.lt_trans e3 (Nat.lt_trans e4 (Nat.lt_trans e5 (Nat.lt_trans o4 hTA))))))))
    refine Halt.go (LCg.CompEnd.intro kFd kNd ((C, instObj 328 dC) :: (dC, circO w kL pL nD t1 t2 t3) :: (kL, W.listOf (ks1.push (.str (Str.ofString "input") tkI)) (n11 + 1)) :: (pL, W.listOf (ps1.push (.ref TA)) (n21 + 1)) :: (nD, knownO w [] n3) :: (((TA, tupO []) :: tl1) ++ R0)) (fun p hp => ?g1) (LCg.Off3.of fun p hp => ?g2) trivial ⟨ks1.push (.str (Str.ofString "input") tkI), ps1.push (.ref TA), n11 + 1, n21 + 1, (TA, tupO []) :: tl1, rfl, by rw [List.replicate_succ']; exact CircOk.input hc1 (.head _) (fun p hp => .tail _ hp), by rw [insL_snoc]; exact ints_snoc' hys (by rw [Array.size_push, hc1.kl, List.length_replicate]; congr 1; omega), fun p hp => ?g4⟩)
    case g1 =>
      rcases List.mem_cons.mp hp with rfl | hp
      · exact (by repeat' (first | exact List.Mem.head _ | apply List.Mem.tail))
      rcases List.mem_cons.mp hp with rfl | hp
      · exact (by repeat' (first | exact List.Mem.head _ | apply List.Mem.tail))
      rcases List.mem_cons.mp hp with rfl | hp
      · exact (by repeat' (first | exact List.Mem.head _ | apply List.Mem.tail))
      rcases List.mem_cons.mp hp with rfl | hp
      · exact (by repeat' (first | exact List.Mem.head _ | apply List.Mem.tail))
      rcases List.mem_cons.mp hp with rfl | hp
      · exact (by repeat' (first | exact List.Mem.head _ | apply List.Mem.tail))
      rcases List.mem_cons.mp hp with rfl | hp
      · exact (by repeat' (first | exact List.Mem.head _ | apply List.Mem.tail))
      rcases List.mem_cons.mp hp with rfl | hp
      · exact (by repeat' (first | exact List.Mem.head _ | apply List.Mem.tail))
      rcases List.mem_cons.mp hp with rfl | hp
      · exact (by repeat' (first | exact List.Mem.head _ | apply List.Mem.tail))
      rcases List.mem_cons.mp hp with rfl | hp
      · exact (by repeat' (first | exact List.Mem.head _ | apply List.Mem.tail))
      · exact (by repeat' (first | exact hp | apply List.Mem.tail))
    case g2 =>
      rcases List.mem_cons.mp hp with rfl | hp
      · exact om _ (.head _)
      rcases List.mem_cons.mp hp with rfl | hp
      · exact om _ (.tail _ (.head _))
      rcases List.mem_cons.mp hp with rfl | hp
      · exact ⟨kI, kC, kD⟩
      rcases List.mem_cons.mp hp with rfl | hp
      · exact ⟨pI, pC, pD⟩
      rcases List.mem_cons.mp hp with rfl | hp
      · exact om _ (.tail _ (.tail _ (.tail _ (.tail _ (.head _)))))
      rcases List.mem_cons.mp hp with rfl | hp
      · exact ⟨by show @Ne Nat _ _; omega, by show @Ne Nat _ _; omega, by show @Ne Nat _ _; omega⟩
      · exact om _ (.tail _ (.tail _ (.tail _ (.tail _ (.tail _ hp)))))
    case g4 =>
      rcases List.mem_cons.mp hp with rfl | hp
      · exact ⟨hTA2, hTA⟩
      · exact htl p hp
  case fin =>
    rintro ys nx ⟨ks1, ps1, n11, n21, tl1, rfl, hc1, hys, htl⟩ D₂ h₁ tk₁ F₁ N₁ off
    have od := off1_mem off
    have od5 : LtN (L + 1) D₂ ∨ LtN D₂ (L + 1) := by have := od (L + 1, oc) (.tail _ (.tail _ (.tail _ (.tail _ (.tail _ (List.mem_append_right _ hoc0)))))); have : @Ne Nat (L + 1) D₂ := this; omega
    have odC : @Ne Nat C D₂ := od (C, instObj 328 dC) (by repeat' (first | exact List.Mem.head _ | apply List.Mem.tail))
    have oddC : @Ne Nat dC D₂ := od (dC, circO w kL pL nD t1 t2 t3) (by repeat' (first | exact List.Mem.head _ | apply List.Mem.tail))
    have odkL : @Ne Nat kL D₂ := od (kL, W.listOf ks1 n11) (by repeat' (first | exact List.Mem.head _ | apply List.Mem.tail))
    have odpL : @Ne Nat pL D₂ := od (pL, W.listOf ps1 n21) (by repeat' (first | exact List.Mem.head _ | apply List.Mem.tail))
    have odnD : @Ne Nat nD D₂ := od (nD, knownO w [] n3) (by repeat' (first | exact List.Mem.head _ | apply List.Mem.tail))
    have odt : @Ne Nat tp D₂ := od (tp, oT) (.tail _ (.tail _ (.tail _ (.tail _ (.tail _ (List.mem_append_right _ htp0))))))
    have odl3 : @Ne Nat (L + 1 + 1 + 1) D₂ := od (L + 1 + 1 + 1, ok) (.tail _ (.tail _ (.tail _ (.tail _ (.tail _ (List.mem_append_right _ (by rw [hR0]; exact (by repeat' (first | exact List.Mem.head _ | apply List.Mem.tail)))))))))
    have odl2 : @Ne Nat (L + 1 + 1) D₂ := od (L + 1 + 1, op) (.tail _ (.tail _ (.tail _ (.tail _ (.tail _ (List.mem_append_right _ (by rw [hR0]; exact (by repeat' (first | exact List.Mem.head _ | apply List.Mem.tail)))))))))
    obtain ⟨R3, hR3⟩ : ∃ R : Led, R = ((D₂, LCg.lst ys) :: (tl1 ++ [(T2, tupO []), (T1, tupO []), (CL, W.listOf wv.toArray 0)])) := ⟨_, rfl⟩
    have hNf : News h₀ L h₁ ((tp, oT) :: (L + 1, oc) :: (L + 1 + 1 + 1, ok) :: (L + 1 + 1, op) :: (C, instObj 328 dC) :: (dC, circO w kL pL nD t1 t2 t3) :: (kL, W.listOf ks1 n11) :: (pL, W.listOf ps1 n21) :: (nD, knownO w [] n3) :: R3) := fun p hp => by
      rcases List.mem_cons.mp hp with rfl | hp
      · exact N₁ _ (.tail _ (.tail _ (.tail _ (.tail _ (.tail _ (.tail _ (List.mem_append_right _ (by rw [hR0]; exact (by repeat' (first | exact List.Mem.head _ | apply List.Mem.tail)))))))))) 
      rcases List.mem_cons.mp hp with rfl | hp
      · exact N₁ _ (.tail _ (.tail _ (.tail _ (.tail _ (.tail _ (.tail _ (List.mem_append_right _ (by rw [hR0]; exact (by repeat' (first | exact List.Mem.head _ | apply List.Mem.tail)))))))))) 
      rcases List.mem_cons.mp hp with rfl | hp
      · exact N₁ _ (.tail _ (.tail _ (.tail _ (.tail _ (.tail _ (.tail _ (List.mem_append_right _ (by rw [hR0]; exact (by repeat' (first | exact List.Mem.head _ | apply List.Mem.tail)))))))))) 
      rcases List.mem_cons.mp hp with rfl | hp
      · exact N₁ _ (.tail _ (.tail _ (.tail _ (.tail _ (.tail _ (.tail _ (List.mem_append_right _ (by rw [hR0]; exact (by repeat' (first | exact List.Mem.head _ | apply List.Mem.tail)))))))))) 
      rcases List.mem_cons.mp hp with rfl | hp
      · exact N₁ _ (by repeat' (first | exact List.Mem.head _ | apply List.Mem.tail))
      rcases List.mem_cons.mp hp with rfl | hp
      · exact N₁ _ (by repeat' (first | exact List.Mem.head _ | apply List.Mem.tail))
      rcases List.mem_cons.mp hp with rfl | hp
      · exact N₁ _ (by repeat' (first | exact List.Mem.head _ | apply List.Mem.tail))
      rcases List.mem_cons.mp hp with rfl | hp
      · exact N₁ _ (by repeat' (first | exact List.Mem.head _ | apply List.Mem.tail))
      rcases List.mem_cons.mp hp with rfl | hp
      · exact N₁ _ (by repeat' (first | exact List.Mem.head _ | apply List.Mem.tail))
      rw [hR3] at hp
      rcases List.mem_cons.mp hp with rfl | hp
      · exact N₁ _ (.head _)
      rcases List.mem_append.mp hp with hp | hp
      · exact N₁ _ (.tail _ (.tail _ (.tail _ (.tail _ (.tail _ (.tail _ (List.mem_append_left _ hp)))))))
      · refine N₁ _ (.tail _ (.tail _ (.tail _ (.tail _ (.tail _ (.tail _ (List.mem_append_right _ ?_)))))))
        rw [hR0]; simp only [List.mem_cons, List.not_mem_nil, or_false] at hp ⊢
        rcases hp with h | h | h <;> simp [h]
    have f1 : ∀ p ∈ R3, @Ne Nat p.1 C := by
      rw [hR3]; exact off_cons (by show @Ne Nat _ _; (try dsimp only); omega) (fun p hp => (List.mem_append.mp hp).elim (fun q => by have := htl p q; show @Ne Nat _ _; omega) (fun q => by
        simp only [List.mem_cons, List.not_mem_nil, or_false] at q; (rcases q with rfl | rfl | rfl <;> (show @Ne Nat _ _; (try dsimp only); omega))))
    have f2 : ∀ p ∈ R3, @Ne Nat p.1 dC := by
      rw [hR3]; exact off_cons (by show @Ne Nat _ _; (try dsimp only); omega) (fun p hp => (List.mem_append.mp hp).elim (fun q => by have := htl p q; show @Ne Nat _ _; omega) (fun q => by
        simp only [List.mem_cons, List.not_mem_nil, or_false] at q; (rcases q with rfl | rfl | rfl <;> (show @Ne Nat _ _; (try dsimp only); omega))))
    have f3 : ∀ p ∈ R3, @Ne Nat p.1 kL := by
      rw [hR3]; exact off_cons (by show @Ne Nat _ _; (try dsimp only); omega) (fun p hp => (List.mem_append.mp hp).elim (fun q => by have := htl p q; show @Ne Nat _ _; omega) (fun q => by
        simp only [List.mem_cons, List.not_mem_nil, or_false] at q; (rcases q with rfl | rfl | rfl <;> (show @Ne Nat _ _; (try dsimp only); omega))))
    have f4 : ∀ p ∈ R3, @Ne Nat p.1 pL := by
      rw [hR3]; exact off_cons (by show @Ne Nat _ _; (try dsimp only); omega) (fun p hp => (List.mem_append.mp hp).elim (fun q => by have := htl p q; show @Ne Nat _ _; omega) (fun q => by
        simp only [List.mem_cons, List.not_mem_nil, or_false] at q; (rcases q with rfl | rfl | rfl <;> (show @Ne Nat _ _; (try dsimp only); omega))))
    have f5 : ∀ p ∈ R3, @Ne Nat p.1 nD := by
      rw [hR3]; exact off_cons (by show @Ne Nat _ _; (try dsimp only); omega) (fun p hp => (List.mem_append.mp hp).elim (fun q => by have := htl p q; show @Ne Nat _ _; omega) (fun q => by
        simp only [List.mem_cons, List.not_mem_nil, or_false] at q; (rcases q with rfl | rfl | rfl <;> (show @Ne Nat _ _; (try dsimp only); omega))))
    have f6 : ∀ p ∈ R3, @Ne Nat p.1 tp := by
      rw [hR3]; exact off_cons (by show @Ne Nat _ _; (try dsimp only); omega) (fun p hp => (List.mem_append.mp hp).elim (fun q => by have := htl p q; show @Ne Nat _ _; omega) (fun q => by
        simp only [List.mem_cons, List.not_mem_nil, or_false] at q; (rcases q with rfl | rfl | rfl <;> (show @Ne Nat _ _; (try dsimp only); omega))))
    have f7 : ∀ p ∈ R3, @Ne Nat p.1 (L + 1 + 1 + 1) := by
      rw [hR3]; exact off_cons (by show @Ne Nat _ _; (try dsimp only); omega) (fun p hp => (List.mem_append.mp hp).elim (fun q => by have := htl p q; show @Ne Nat _ _; omega) (fun q => by
        simp only [List.mem_cons, List.not_mem_nil, or_false] at q; (rcases q with rfl | rfl | rfl <;> (show @Ne Nat _ _; (try dsimp only); omega))))
    have f8 : ∀ p ∈ R3, @Ne Nat p.1 (L + 1 + 1) := by
      rw [hR3]; exact off_cons (by show @Ne Nat _ _; (try dsimp only); omega) (fun p hp => (List.mem_append.mp hp).elim (fun q => by have := htl p q; show @Ne Nat _ _; omega) (fun q => by
        simp only [List.mem_cons, List.not_mem_nil, or_false] at q; (rcases q with rfl | rfl | rfl <;> (show @Ne Nat _ _; (try dsimp only); omega))))
    have hCL3 : (CL, W.listOf wv.toArray 0) ∈ R3 := by rw [hR3]; exact .tail _ (List.mem_append_right _ (.tail _ (.tail _ (.head _))))
    have hIN3 : (D₂, W.listOf ys.toArray ys.length) ∈ R3 := by rw [hR3]; exact .head _
    have hsub3 : ∀ p ∈ tl1, p ∈ R3 := fun p hp => by rw [hR3]; exact .tail _ (List.mem_append_left _ hp)
    clear N₁
    k_steps
    rename Fr _ _ _ (fun y => ite _ _ _) => kF5
    rename News _ _ _ _ => kN5
    refine Halt.go (draw_c w (rest := (L + 1, oc) :: (L + 1 + 1 + 1, ok) :: (L + 1 + 1, op) :: (C, instObj 328 dC) :: (dC, circO w kL pL nD t1 t2 t3) :: (kL, W.listOf ks1 n11) :: (pL, W.listOf ps1 n21) :: (nD, knownO w [] n3) :: R3) K0 kF5 X kN5 T (by rfl) hoT (off_cons (by show @Ne Nat _ _; (try dsimp only); omega) (off_cons (by show @Ne Nat _ _; (try dsimp only); omega) (off_cons (by show @Ne Nat _ _; (try dsimp only); omega) (off_cons (by show @Ne Nat _ _; (try dsimp only); omega) (off_cons (by show @Ne Nat _ _; (try dsimp only); omega) (off_cons (by show @Ne Nat _ _; (try dsimp only); omega) (off_cons (by show @Ne Nat _ _; (try dsimp only); omega) (off_cons (by show @Ne Nat _ _; (try dsimp only); omega) f6)))))))) (.tail _ (.tail _ (.tail _ (.tail _ (.tail _ (.tail _ (.tail _ (.tail _ hCL3)))))))) hws hw24 (by omega) (by omega) (by ktr_room) (by ktr_units) fun r tr h₂ tk₂ oT₂ t₂' hr0 hr2 F₂ N₂ hT₂ => ?_)
    k_steps
    rename Fr _ _ _ (fun y => ite _ _ _) => kF6
    rename News _ _ _ _ => kN6
    refine Halt.go (done D₂ ys _ ks1 ps1 n11 n21 tl1 R3 oT₂ 1 _ (1 + r) _ _ _ kF6 (News.sub kN6 fun p hp => ?_) hc1 hsub3 hys hIN3 hCL3 hT₂ (by omega) (by omega) f1 f2 f3 f4 f5 f6 (fun q hq => ⟨f7 q hq, f8 q hq⟩))
    rcases List.mem_cons.mp hp with rfl | hp
    · exact (by repeat' (first | exact List.Mem.head _ | apply List.Mem.tail))
    rcases List.mem_cons.mp hp with rfl | hp
    · exact (by repeat' (first | exact List.Mem.head _ | apply List.Mem.tail))
    rcases List.mem_cons.mp hp with rfl | hp
    · exact (by repeat' (first | exact List.Mem.head _ | apply List.Mem.tail))
    rcases List.mem_cons.mp hp with rfl | hp
    · exact (by repeat' (first | exact List.Mem.head _ | apply List.Mem.tail))
    · exact (by repeat' (first | exact hp | apply List.Mem.tail))
end Mine
end
section
open PySem PySem.W PyProof.Rows PySem.Calls
set_option maxRecDepth 100000
set_option maxHeartbeats 1500000
set_option linter.unusedVariables false
namespace Mine
theorem off34 : True := by
  w_top off
  trivial
theorem turn0 (elt t1 i1 t2 i2 : Expr) (scope : Scope) (pos : Pos) (it acc : Value) (env : Env) :
    compTurn (.ListComp elt [⟨t1, i1, [], 0⟩, ⟨t2, i2, [], 0⟩] scope pos) 0 it acc env = (standAt i1.pos >>= fun _ => pyNext it >>= fun r => match r with
      | none => pure (.done .next)
      | some v => letOwnedTupleGo t1 it v >>= fun _ => assign t1 env v >>= fun _ =>
        (eval i2 env >>= fun x => standAt i2.pos >>= fun _ => foldedSetIterable i2 env x >>= fun x => holding [x] (pyIter x) >>= fun it' => runOwn (.compStart (.ListComp elt [⟨t1, i1, [], 0⟩, ⟨t2, i2, [], 0⟩] scope pos) 1 it' acc env) env >>= fun _ =>
          again (.compLoop (.ListComp elt [⟨t1, i1, [], 0⟩, ⟨t2, i2, [], 0⟩] scope pos) 0 it acc env))) := by rfl
theorem turn1 (elt t1 i1 t2 i2 : Expr) (scope : Scope) (pos : Pos) (it acc : Value) (env : Env) :
    compTurn (.ListComp elt [⟨t1, i1, [], 0⟩, ⟨t2, i2, [], 0⟩] scope pos) 1 it acc env = (standAt i2.pos >>= fun _ => pyNext it >>= fun r => match r with
      | none => pure (.done .next)
      | some v => letOwnedTupleGo t2 it v >>= fun _ => assign t2 env v >>= fun _ =>
        (eval elt env >>= fun x => call (.builtin "list.append") [acc, x] >>= fun _ => pure ()) >>= fun _ =>
          again (.compLoop (.ListComp elt [⟨t1, i1, [], 0⟩, ⟨t2, i2, [], 0⟩] scope pos) 1 it acc env)) := by rfl
section
open LCg
variable {prog : Program} {w : World} {A : Around} {E : Value → Shared → Prop} {s : Shared} {h₀ : Heap} {L : Addr} {m : Str → Option Value} {env : Env}
  {elt i1 i2 : Expr} {x1 x2 : Str} {px1 px2 : Pos} {scope : Scope} {cl : List (Str × Addr)} {pos : Pos}
/-- the inner loop of a comprehension of two clauses -/
theorem inner_c {s₂ : Shared} {I C D : Addr} {fp : List Addr} {n : Nat} {P : Nat → Value → Prop} {St : Nat → Heap → Prop} {Inv : Nat → List Value → Led → Prop} {v1 : Value} {R : Result → Shared → Prop}
    (W : Walks prog w A I fp [I] n P St) (hIo : ∀ i h, St i h → ∃ o, h.get? I = some o)
    (hSt : ∀ i h h' o, St i h → h.get? I = some o → h'.get? I = some o → St i h')
    (hkind : scope.kind = .function) (hx : scope.names.lookup x2 = some .local) (hne : x1 ≠ x2)
    (hIL : L ≠ I) (hI₀ : h₀.get? I = none) (hCL : C ≠ L) (hC₀ : h₀.get? C = none) (hDL : D ≠ L) (hD₀ : h₀.get? D = none) (hCI : I ≠ C) (hDI : I ≠ D) (hDC : D ≠ C) (hCf : C ∉ fp) (hDf : D ∉ fp)
    (step : ∀ i v ys news oI oC m₂ h tk (E' : Value → Shared → Prop), i < n → P i v → Inv i ys news → NsObj oC m₂ → m₂ x1 = some v1 → m₂ x2 = some v → Fr h₀ L h m → News h₀ L h ((I, oI) :: (C, oC) :: (D, lst ys) :: news) → Off3 I C D news →
      wpAny (model prog w) A (eval elt (compEnvC scope cl C env)) (CompEnd h₀ L m { s₂ with heap := h, toks := tk } I oI C oC D (lst ys) (fun _ => ys.length ≤ 1000) (fun y news' => Inv (i + 1) (ys ++ [y]) news')) E' { s₂ with heap := h, toks := tk })
    (fin : ∀ h tk m' ys news, Inv n ys news → Fr h₀ L h m → h.Ns C m' → News h₀ L h ((D, lst ys) :: news) → (∀ p ∈ news, p.1 ≠ C ∧ p.1 ≠ D) → R (.ok .next) { s₂ with heap := h, toks := tk })
    {h₁ : Heap} {tk₁ : Nat} {m₁ : Str → Option Value} {ys₀ : List Value} {news₀ : Led} (j0 : Inv 0 ys₀ news₀) (st0 : St 0 h₁) (F : Fr h₀ L h₁ m) (hn : h₁.Ns C m₁) (hm1 : m₁ x1 = some v1) (N : News h₀ L h₁ ((D, lst ys₀) :: news₀)) (off : Off3 I C D news₀) :
    codeAny (model prog w) A (.compLoop (.ListComp elt [⟨.Name x1 px1, i1, [], 0⟩, ⟨.Name x2 px2, i2, [], 0⟩] scope pos) 1 (.ref I) (.ref D) (compEnvC scope cl C env)) R { s₂ with heap := h₁, toks := tk₁ } := by
  refine codeAny_loop rfl
    (fun k s' => ∃ h' tk i ys m' news', s' = { s₂ with heap := h', toks := tk } ∧ i ≤ n ∧ k = n + 1 - i ∧ St i h' ∧ Fr h₀ L h' m ∧ h'.Ns C m' ∧ m' x1 = some v1 ∧ News h₀ L h' ((D, lst ys) :: news') ∧ Off3 I C D news' ∧ Inv i ys news') (fun k s' hI => ?_) (n + 1)
    ⟨h₁, _, 0, ys₀, m₁, news₀, rfl, Nat.zero_le _, rfl, st0, F, hn, hm1, N, off, j0⟩
  show wpAny _ _ ((compTurn (.ListComp elt [⟨.Name x1 px1, i1, [], 0⟩, ⟨.Name x2 px2, i2, [], 0⟩] scope pos) 1 (.ref I) (.ref D) (compEnvC scope cl C env)).onRaise (fun x => do noteFrame x (compEnvC scope cl C env); theTreesLotGoes x)) _ _ _
  refine wpAny_noted ?_
  rw [turn1]
  obtain ⟨h', tk, i, ys, m', news', rfl, hi, rfl, hst', F', hn', hm', N', off', hj⟩ := hI
  refine wpAny_bind (wpAny_standAt (wpAny_bind ?_))
  by_cases hlt : i < n
  · refine W.item i _ _ _ hlt hst' fun v h₂ tk₂ hPv hst₂ hk₂ => ?_
    refine wpAny_bind (wpAny_of_eq (show letOwnedTupleGo (.Name x2 px2) (.ref I) v = pure () from rfl) ?_)
    refine wpAny_bind ?_
    refine wpAny_assign_Name (wpAny_storeName_local (lookup_relabel_local hx) (hn'.at' fun o e => hk₂ _ o (by simpa using Ne.symm hCI) e) (fun h₃ hn₃ hs₃ => ?_) (by simp [compEnvC, relabel, hkind]))
    have hst₃ : St (i + 1) h₃ := W.frame _ _ _ hst₂ fun b hb o e => hs₃.extBut b o (fun q => hCf (by have q' : b = C := q; rw [← q']; exact hb)) e
    obtain ⟨oI, heI⟩ := hIo _ _ hst₃
    obtain ⟨oC, heC, hoC⟩ := ns_obj hn₃
    have F₃ : Fr h₀ L h₃ m := (fr_but F' hk₂ hIL hI₀).change hs₃ hCL hC₀
    have off3 := off'.mem
    have N₂ : News h₀ L h₂ ((D, lst ys) :: news') := news_but N' hk₂ fun p hp => by
      rcases List.mem_cons.mp hp with rfl | hp
      · exact Ne.symm hDI
      · exact (off3 p hp).1
    have N₃ : News h₀ L h₃ ((I, oI) :: (C, oC) :: (D, lst ys) :: news') := fun p hp => by
      rcases List.mem_cons.mp hp with rfl | hp
      · exact ⟨heI, Ne.symm hIL, hI₀⟩
      · rcases List.mem_cons.mp hp with rfl | hp
        · exact ⟨heC, hCL, hC₀⟩
        · have z := N₂ p hp
          refine ⟨hs₃.extBut _ _ ?_ z.1, z.2⟩
          rcases List.mem_cons.mp hp with rfl | hp
          · exact hDC
          · exact (off3 p hp).2.1
    refine wpAny_bind (wpAny_bind (wpAny_mono (step i v ys news' oI oC _ h₃ _ _ hlt hPv hj hoC (by simp [hne, hm']) (by simp) F₃ N₃ off') (fun y s₄ h₄ => ?_) fun _ _ e => e))
    obtain ⟨h₄, tk₄, news₄, rfl, F₄, N₄, off₄, hS₄, R₄⟩ := h₄
    have zI := (N₄ (I, oI) List.mem_cons_self).1
    have zC := (N₄ (C, oC) (List.mem_cons_of_mem _ List.mem_cons_self)).1
    have zD := (N₄ (D, lst ys) (List.mem_cons_of_mem _ (List.mem_cons_of_mem _ List.mem_cons_self))).1
    have N₄' : News h₀ L h₄ news₄ := fun p hp => N₄ p (List.mem_cons_of_mem _ (List.mem_cons_of_mem _ (List.mem_cons_of_mem _ hp)))
    have hst₄ : St (i + 1) h₄ := hSt _ _ _ _ hst₃ heI zI
    refine wpAny_bind (append_at (hsz := by show ys.toArray.size ≤ sizeLine; rw [List.size_toArray, sizeLine_eq]; omega) zD fun h₅ hs₅ hD₅ => ?_)
    have off4 := off₄.mem
    refine wpAny_pure (wpAny_pure ⟨rfl, n + 1 - (i + 1), by omega, h₅, tk₄, i + 1, ys ++ [y], _, news₄, rfl, hlt, rfl, W.frame _ _ _ hst₄ fun b hb o e => hs₅.extBut b o (fun q => hDf (q ▸ hb)) e, F₄.change hs₅ hDL hD₀,
      (hoC.ns zC).sameBut hs₅ (Ne.symm hDC), by simp [hne, hm'], fun p hp => ?_, off₄, R₄⟩)
    rcases List.mem_cons.mp hp with rfl | hp
    · exact ⟨hD₅.trans (congrArg some (lst_snoc ys y)), hDL, hD₀⟩
    · exact ⟨hs₅.extBut _ _ (off4 p hp).2.2 (N₄' p hp).1, (N₄' p hp).2⟩
  · obtain rfl : i = n := Nat.le_antisymm hi (Nat.not_lt.mp hlt)
    refine W.done _ _ _ hst' fun h₂ tk₂ hk₂ => ?_
    have off3 := off'.mem
    refine wpAny_pure ?_
    exact fin h₂ tk₂ _ ys news' hj (fr_but F' hk₂ hIL hI₀) (hn'.at' fun o e => hk₂ _ o (by simpa using Ne.symm hCI) e) (news_but N' hk₂ fun p hp => by
      rcases List.mem_cons.mp hp with rfl | hp
      · exact Ne.symm hDI
      · exact (off3 p hp).1) fun p hp => (off3 p hp).2
end
end Mine
end
section
open PySem PySem.W PyProof.Rows PySem.Calls
set_option maxRecDepth 100000
set_option maxHeartbeats 1500000
set_option linter.unusedVariables false
namespace Mine
theorem off35 : True := by
  w_top off
  trivial
section
open LCg
variable {prog : Program} {w : World} {A : Around} {E : Value → Shared → Prop} {s : Shared} {h₀ : Heap} {L : Addr} {m : Str → Option Value} {env : Env}
  {elt i1 i2 : Expr} {x1 x2 : Str} {px1 px2 : Pos} {scope : Scope} {cl : List (Str × Addr)} {pos : Pos}
/-- what the two clauses are to do: the second's source, and the element -/
structure Two (prog : Program) (w : World) (A : Around) (h₀ : Heap) (L : Addr) (m : Str → Option Value) (env : Env) (elt i2 : Expr) (x1 x2 : Str) (scope : Scope) (cl : List (Str × Addr)) (s₂ : Shared) (a1 : Int) (n1 n2 : Nat) (Inv : Nat → Nat → List Value → Led → Prop) : Prop where
  next : ∀ i ys news, Inv i n2 ys news → Inv (i + 1) 0 ys news
  src : ∀ i v ys news I oI C oC D m₂ h tk (E' : Value → Shared → Prop), i < n1 → (∃ t, v = .int (a1 + (i : Int)) t) → Inv i 0 ys news → NsObj oC m₂ → m₂ x1 = some v → Fr h₀ L h m → News h₀ L h ((I, oI) :: (C, oC) :: (D, lst ys) :: news) → Off3 I C D news → ((@Ne Nat I C) ∧ (@Ne Nat I D) ∧ (@Ne Nat C D)) →
    wpAny (model prog w) A (eval i2 (compEnvC scope cl C env)) (fun x s' => ∃ (r : Addr) (t u v : Tok) (h' : Heap) (tk' : Nat), x = .ref r ∧ s' = { s₂ with heap := h', toks := tk' } ∧ Fr h₀ L h' m ∧ News h₀ L h' ((I, oI) :: (C, oC) :: (D, lst ys) :: news) ∧ IsRange h' r 0 (n2 : Int) 1 t u v) E' { s₂ with heap := h, toks := tk }
  step : ∀ i j v1 v2 ys news I oI J oJ C oC D m₂ h tk (E' : Value → Shared → Prop), i < n1 → j < n2 → (∃ t, v1 = .int (a1 + (i : Int)) t) → (∃ t, v2 = .int ((j : Nat) : Int) t) → Inv i j ys news → NsObj oC m₂ → m₂ x1 = some v1 → m₂ x2 = some v2 → Fr h₀ L h m →
    News h₀ L h ((J, oJ) :: (C, oC) :: (D, lst ys) :: (I, oI) :: news) → Off3 J C D ((I, oI) :: news) → (∀ p ∈ news, p.1 ≠ I) →
    wpAny (model prog w) A (eval elt (compEnvC scope cl C env)) (CompEnd h₀ L m { s₂ with heap := h, toks := tk } J oJ C oC D (lst ys) (fun _ => ys.length ≤ 1000) (fun y nx => ∃ news', nx = (I, oI) :: news' ∧ (∀ p ∈ news', p.1 ≠ I) ∧ Inv i (j + 1) (ys ++ [y]) news')) E' { s₂ with heap := h, toks := tk }
theorem start1 {it acc : Value} {R : Result → Shared → Prop} (h0 : codeAny (model prog w) A (.compLoop (.ListComp elt [⟨.Name x1 px1, i1, [], 0⟩, ⟨.Name x2 px2, i2, [], 0⟩] scope pos) 1 it acc env) R s)
    (h : wpAny (model prog w) A (pyIter it) (fun it' s' => codeAny (model prog w) A (.compLoop (.ListComp elt [⟨.Name x1 px1, i1, [], 0⟩, ⟨.Name x2 px2, i2, [], 0⟩] scope pos) 1 it' acc env) R s') (notedBy (model prog w) A env fun x s' => R (.error x) s') s) :
    codeAny (model prog w) A (.compStart (.ListComp elt [⟨.Name x1 px1, i1, [], 0⟩, ⟨.Name x2 px2, i2, [], 0⟩] scope pos) 1 it acc env) R s := by
  refine codeAny_of_tree ?_
  show wpAny _ _ ((compStart (.ListComp elt [⟨.Name x1 px1, i1, [], 0⟩, ⟨.Name x2 px2, i2, [], 0⟩] scope pos) 1 it acc env).onRaise (fun x => do noteFrame x env; standAt theWindowsPlace)) _ _ s
  refine wpAny_notedAt ?_
  unfold compStart
  show wpAny _ _ (ask >>= _) _ _ s
  refine wpAny_bind (wpAny_askSetting (wpAny_ite ?_))
  split
  · first
      | exact wpAny_bind (wpAny_pure (wpAny_pure (And.intro rfl h0)))
      | exact wpAny_pure (And.intro rfl h0)
  · refine wpAny_bind (wpAny_rule ?_)
    show wpAny _ _ (standAt i2.pos >>= _) _ _ s
    exact wpAny_bind (wpAny_standAt (wpAny_bind (wpAny_mono h (fun it' s' h' => wpAny_pure (And.intro rfl h')) fun _ _ x => x)))
theorem start_range {acc : Value} {I : Addr} {n : Nat} {R : Result → Shared → Prop} (hh : A.handled = none) (hst : IsRangeIter s.heap I (0 + ((0 : Nat) : Int) * 1) ((n : Int) - ((0 : Nat) : Int)) 1)
    (hl : codeAny (model prog w) A (.compLoop (.ListComp elt [⟨.Name x1 px1, i1, [], 0⟩, ⟨.Name x2 px2, i2, [], 0⟩] scope pos) 1 (.ref I) acc env) R s) :
    codeAny (model prog w) A (.compStart (.ListComp elt [⟨.Name x1 px1, i1, [], 0⟩, ⟨.Name x2 px2, i2, [], 0⟩] scope pos) 1 (.ref I) acc env) R s := start1 hl ((range_walks hh 0 n).self 0 _ _ _ hst hl)
theorem block_2 {s₂ : Shared} {I : Addr} {a1 : Int} {n1 n2 : Nat} {news : Led} {Inv : Nat → Nat → List Value → Led → Prop} {Fin : List Value → Led → Prop} {RR : Value → Addr → Result → Shared → Prop}
    (hh : A.handled = none) (hn1 : n1 ≤ 1000) (hn2 : n2 ≤ 1000) (hsm2 : Builtin.Range.small 0 (n2 : Int) 1 = true) (hrs2 : Builtin.Range.rangeSize 0 (n2 : Int) 1 = (n2 : Int))
    (hcell : ∀ y ∈ scope.names, y.2 ≠ .cell) (hkind : scope.kind = .function) (hx1 : scope.names.lookup x1 = some .local) (hx2 : scope.names.lookup x2 = some .local) (hne : x1 ≠ x2) (hs2 : ∀ x, foldedSetIterable i2 env x = pure x) (hs2' : ∀ C x, foldedSetIterable i2 (compEnvC scope cl C env) x = pure x)
    (hst : IsRangeIter s₂.heap I (a1 + (0 : Nat) * 1) ((n1 : Int) - (0 : Nat)) 1) (hIlt : I < s₂.heap.objs.size)
    (F : Fr h₀ L s₂.heap m) (N : News h₀ L s₂.heap news) (hIL : L ≠ I) (hI₀ : h₀.get? I = none) (off : ∀ p ∈ news, p.1 ≠ I) (j0 : Inv 0 0 [] news)
    (T2 : Two prog w A h₀ L m env elt i2 x1 x2 scope cl s₂ a1 n1 n2 Inv) (hfin : ∀ ys news, Inv n1 0 ys news → Fin ys news)
    (hRR : ∀ D C h tk m' ys news', Fr h₀ L h m → News h₀ L h ((D, lst ys) :: news') → Off1 D news' → h.Ns C m' → h₀.get? C = none → h₀.get? D = none → C ≠ L → D ≠ L → C ≠ D → (∀ p ∈ news', p.1 ≠ C) → Fin ys news' → RR (.ref D) C (.ok .next) { s₂ with heap := h, toks := tk }) :
    wpAny (model prog w) A (newList []) (fun acc s₃ => wpAny (model prog w) A (newFunctionEnv scope env.globals cl [] env.qual none .none (some env)) (fun cenv s₄ =>
      codeAny (model prog w) A (.compStart (.ListComp elt [⟨.Name x1 px1, i1, [], 0⟩, ⟨.Name x2 px2, i2, [], 0⟩] scope pos) 0 (.ref I) acc { cenv with scope := relabel scope env }) (RR acc cenv.locals) s₄) E s₃) E s₂ := by
  refine wpAny_newObj_type (wpAny_newFunctionEnv hcell (by intro y hy; simp at hy) (fun h₁ hns₁ hsb₁ => ?_) hkind)
  dsimp only at hns₁ hsb₁ ⊢
  generalize hH2 : s₂.heap.push { cls := .type "list", dict := none, data := .seq ([] : List Value).toArray } = H2 at hns₁ hsb₁ ⊢
  have hC : H2.objs.size = s₂.heap.objs.size + 1 := by rw [← hH2, Heap.size_push]
  have hDC : s₂.heap.objs.size ≠ H2.objs.size := by rw [hC]; exact Nat.ne_of_lt (Nat.lt_succ_self _)
  have below : ∀ b, b < s₂.heap.objs.size → b ≠ H2.objs.size ∧ b ≠ s₂.heap.objs.size := fun b hb => ⟨by rw [hC]; exact Nat.ne_of_lt (Nat.lt_succ_of_lt hb), Nat.ne_of_lt hb⟩
  have old : ∀ b o, s₂.heap.get? b = some o → h₁.get? b = some o := fun b o e => hsb₁.extBut b o (below b (Heap.lt_size e)).1 (Heap.get?_push_of_some _ (hH2 ▸ Heap.get?_push_of_some _ e))
  have hacc : h₁.get? s₂.heap.objs.size = some (lst []) := hsb₁.extBut _ _ hDC (Heap.get?_push_of_some _ (hH2 ▸ Heap.get?_push_size _ rfl))
  have hst₁ : IsRangeIter h₁ I (a1 + (0 : Nat) * 1) ((n1 : Int) - (0 : Nat)) 1 := (range_walks (prog := prog) (w := w) hh a1 n1).frame _ _ _ hst fun b _ o e => old b o e
  have fresh : ∀ a, s₂.heap.objs.size ≤ a → s₂.heap.get? a = none := fun a ha => by
    cases e : s₂.heap.get? a with
    | none => rfl
    | some o' => exact absurd (Heap.lt_size e) (Nat.not_lt.mpr ha)
  have fresh₀ : ∀ a, s₂.heap.objs.size ≤ a → h₀.get? a = none := fun a ha => by
    cases e : h₀.get? a with
    | none => rfl
    | some o' => have := F.keep a o' e; rw [fresh a ha] at this; cases this
  have hD₀ : h₀.get? s₂.heap.objs.size = none := fresh₀ _ (Nat.le_refl _)
  have hC₀ : h₀.get? H2.objs.size = none := fresh₀ _ (by rw [hC]; exact Nat.le_succ _)
  have hLlt : L < s₂.heap.objs.size := F.ns.lt
  have hDL : s₂.heap.objs.size ≠ L := Ne.symm (below L hLlt).2
  have hCL : H2.objs.size ≠ L := Ne.symm (below L hLlt).1
  have hCI : I ≠ H2.objs.size := (below I hIlt).1
  have hDI : I ≠ s₂.heap.objs.size := (below I hIlt).2
  have off₀ : Off3 I H2.objs.size s₂.heap.objs.size news := Off3.of fun p hp => ⟨off p hp, (below _ (Heap.lt_size (N p hp).1)).1, (below _ (Heap.lt_size (N p hp).1)).2⟩
  have loop : ∀ s₃ : Shared, s₃ = { s₂ with heap := h₁, toks := s₂.toks + ([] : List (Str × Value)).length } →
      codeAny (model prog w) A (.compLoop (.ListComp elt [⟨.Name x1 px1, i1, [], 0⟩, ⟨.Name x2 px2, i2, [], 0⟩] scope pos) 0 (.ref I) (.ref s₂.heap.objs.size) (compEnvC scope cl H2.objs.size env))
        (RR (.ref s₂.heap.objs.size) H2.objs.size) s₃ := by
    rintro s₃ rfl
    refine codeAny_loop rfl
      (fun k s' => ∃ h' tk i ys m' news', s' = { s₂ with heap := h', toks := tk } ∧ i ≤ n1 ∧ k = n1 + 1 - i ∧ IsRangeIter h' I (a1 + (i : Nat) * 1) ((n1 : Int) - (i : Nat)) 1 ∧ Fr h₀ L h' m ∧ h'.Ns H2.objs.size m' ∧ News h₀ L h' ((s₂.heap.objs.size, lst ys) :: news') ∧
        Off3 I H2.objs.size s₂.heap.objs.size news' ∧ Inv i 0 ys news') (fun k s' hI => ?_) (n1 + 1)
      ⟨h₁, _, 0, [], _, news, rfl, Nat.zero_le _, rfl, hst₁, F.keeps old, hns₁, fun p hp => ?_, off₀, j0⟩
    · show wpAny _ _ ((compTurn (.ListComp elt [⟨.Name x1 px1, i1, [], 0⟩, ⟨.Name x2 px2, i2, [], 0⟩] scope pos) 0 (.ref I) (.ref s₂.heap.objs.size) (compEnvC scope cl H2.objs.size env)).onRaise (fun x => do noteFrame x (compEnvC scope cl H2.objs.size env); theTreesLotGoes x)) _ _ _
      refine wpAny_noted ?_
      rw [turn0]
      obtain ⟨h', tk, i, ys, m', news', rfl, hi, rfl, hst', F', hn', N', off', hj⟩ := hI
      refine wpAny_bind (wpAny_standAt (wpAny_bind ?_))
      by_cases hlt : i < n1
      · refine (range_walks hh a1 n1).item i _ _ _ hlt hst' fun v h₂ tk₂ hPv hst₂ hk₂ => ?_
        refine wpAny_bind (wpAny_of_eq (show letOwnedTupleGo (.Name x1 px1) (.ref I) v = pure () from rfl) ?_)
        refine wpAny_bind ?_
        refine wpAny_assign_Name (wpAny_storeName_local (lookup_relabel_local hx1) (hn'.at' fun o e => hk₂ _ o (by simpa using Ne.symm hCI) e) (fun h₃ hn₃ hs₃ => ?_) (by simp [compEnvC, relabel, hkind]))
        have hst₃ : IsRangeIter h₃ I (a1 + ((i + 1 : Nat) : Nat) * 1) ((n1 : Int) - ((i + 1 : Nat) : Nat)) 1 := (range_walks (prog := prog) (w := w) hh a1 n1).frame (i + 1) _ _ hst₂ fun b hb o e => hs₃.extBut b o (fun q => by rw [List.mem_singleton.mp hb] at q; exact hCI q) e
        obtain ⟨oI, heI⟩ : ∃ oI, h₃.get? I = some oI := ⟨_, hst₃⟩
        obtain ⟨oC, heC, hoC⟩ := ns_obj hn₃
        have F₃ : Fr h₀ L h₃ m := (fr_but F' hk₂ hIL hI₀).change hs₃ hCL hC₀
        have off3 := off'.mem
        have N₂ : News h₀ L h₂ ((s₂.heap.objs.size, lst ys) :: news') := news_but N' hk₂ fun p hp => by
          rcases List.mem_cons.mp hp with rfl | hp
          · exact Ne.symm hDI
          · exact (off3 p hp).1
        have N₃ : News h₀ L h₃ ((I, oI) :: (H2.objs.size, oC) :: (s₂.heap.objs.size, lst ys) :: news') := fun p hp => by
          rcases List.mem_cons.mp hp with rfl | hp
          · exact ⟨heI, Ne.symm hIL, hI₀⟩
          · rcases List.mem_cons.mp hp with rfl | hp
            · exact ⟨heC, hCL, hC₀⟩
            · have z := N₂ p hp
              refine ⟨hs₃.extBut _ _ ?_ z.1, z.2⟩
              rcases List.mem_cons.mp hp with rfl | hp
              · exact hDC
              · exact (off3 p hp).2.1
        refine wpAny_bind (wpAny_mono (T2.src i v ys news' I oI H2.objs.size oC s₂.heap.objs.size _ h₃ _ _ hlt hPv hj hoC (by simp) F₃ N₃ off' ⟨hCI, hDI, Ne.symm hDC⟩) (fun x s₄ h₄ => ?_) fun _ _ e => e)
        obtain ⟨r, t, u, v', h₄, tk₄, rfl, rfl, F₄, N₄, hr⟩ := h₄
        refine wpAny_bind (wpAny_standAt (wpAny_bind (wpAny_of_eq (hs2' _ _) ?_)))
        refine wpAny_bind (wpAny_holding (wpAny_pyIter_range hr hsm2 ?_))
        refine wpAny_bind (wpAny_runOwn ?_ (by intro x; cases x))
        have zI := (N₄ (I, oI) (.head _)).1
        have zC := (N₄ (H2.objs.size, oC) (.tail _ (.head _))).1
        have zD := (N₄ (s₂.heap.objs.size, lst ys) (.tail _ (.tail _ (.head _)))).1
        have up : ∀ b o, h₄.get? b = some o → (h₄.push { cls := .type "range_iterator", data := .fields #[rawInt 0, rawInt (Builtin.Range.rangeSize 0 (n2 : Int) 1), rawInt 1] }).get? b = some o := fun b o e => Heap.get?_push_of_some _ e
        have hI2₀ : h₀.get? h₄.objs.size = none := next_is_new F₄
        have N₅ := N₄.grown up
        have oIis := Option.some.inj (heI.symm.trans hst₃)
        have hst₅ : IsRangeIter (h₄.push { cls := .type "range_iterator", data := .fields #[rawInt 0, rawInt (Builtin.Range.rangeSize 0 (n2 : Int) 1), rawInt 1] }) h₄.objs.size (0 + ((0 : Nat) : Int) * 1) ((n2 : Int) - ((0 : Nat) : Int)) 1 := by
          show Heap.get? _ _ = _
          rw [hrs2]; simpa using Heap.get?_push_size _ rfl
        show codeAny (model prog w) A _ _ _
        refine start_range (n := n2) hh hst₅ (inner_c (I := h₄.objs.size) (v1 := v) (m := m) (s₂ := s₂) (tk₁ := tk₄)
          (Inv := fun j ys nx => ∃ news', nx = (I, oI) :: news' ∧ (∀ p ∈ news', p.1 ≠ I) ∧ Inv i j ys news') (range_walks hh 0 n2) (fun i h st => ⟨_, st⟩) (fun i h h' o st e e' => e'.trans (e.symm.trans st))
          hkind hx2 hne (Nat.ne_of_lt F₄.ns.lt) hI2₀ hCL hC₀ hDL hD₀ (Nat.ne_of_gt (Heap.lt_size zC)) (Nat.ne_of_gt (Heap.lt_size zD)) hDC (by simpa using Nat.ne_of_lt (Heap.lt_size zC)) (by simpa using Nat.ne_of_lt (Heap.lt_size zD))
          (fun j v2 ys nx oJ oC' m₂ h tk E' hj hP hinv hNs hm1 hm2 F' N' off'' => by
            obtain ⟨news₆, rfl, hoI, hinv⟩ := hinv
            obtain ⟨t2, rfl⟩ := hP
            exact T2.step i j v _ ys news₆ I oI _ oJ _ oC' _ m₂ h tk E' hlt hj hPv ⟨t2, by simp⟩ hinv hNs hm1 hm2 F' N' off'' hoI)
          ?fin ⟨news', rfl, fun p hp => (off3 p hp).1, hj⟩ hst₅ (F₄.push _) (hoC.ns (up _ _ zC)) (by simp) (fun p hp => ?nws) (Off3.of fun p hp => ?off))
        case nws =>
          rcases List.mem_cons.mp hp with rfl | hp
          · exact N₅ _ (.tail _ (.tail _ (.head _)))
          rcases List.mem_cons.mp hp with rfl | hp
          · exact N₅ _ (.head _)
          · exact N₅ _ (.tail _ (.tail _ (.tail _ hp)))
        case off =>
          rcases List.mem_cons.mp hp with rfl | hp
          · exact ⟨Nat.ne_of_lt (Heap.lt_size zI), hCI, hDI⟩
          · exact ⟨Nat.ne_of_lt (Heap.lt_size (N₄ p (.tail _ (.tail _ (.tail _ hp)))).1), (off3 p hp).2.1, (off3 p hp).2.2⟩
        case fin =>
          rintro h₆ tk₆ m₆ ys₆ nx₆ ⟨news₆, rfl, hoI, hinv⟩ F₆ hn₆ N₆ off₆
          refine wpAny_pure ⟨rfl, n1 + 1 - (i + 1), by omega, h₆, tk₆, i + 1, ys₆, m₆, news₆, rfl, hlt, rfl, ?_, F₆, hn₆, fun p hp => ?_, Off3.of fun p hp => ⟨hoI p hp, (off₆ p (.tail _ hp)).1, (off₆ p (.tail _ hp)).2⟩, T2.next _ _ _ hinv⟩
          · show Heap.get? _ _ = _
            rw [← oIis]; exact (N₆ (I, oI) (.tail _ (.head _))).1
          · rcases List.mem_cons.mp hp with rfl | hp
            · exact N₆ _ (.head _)
            · exact N₆ _ (.tail _ (.tail _ hp))
      · obtain rfl : i = n1 := Nat.le_antisymm hi (Nat.not_lt.mp hlt)
        refine (range_walks hh a1 i).done _ _ _ hst' fun h₂ tk₂ hk₂ => ?_
        have off3 := off'.mem
        refine wpAny_pure ?_
        exact hRR _ _ h₂ tk₂ _ ys news' (fr_but F' hk₂ hIL hI₀) (news_but N' hk₂ fun p hp => by
          rcases List.mem_cons.mp hp with rfl | hp
          · exact Ne.symm hDI
          · exact (off3 p hp).1) off'.one (hn'.at' fun o e => hk₂ _ o (by simpa using Ne.symm hCI) e) hC₀ hD₀ hCL hDL (Ne.symm hDC) (fun p hp => (off3 p hp).2.1) (hfin _ _ hj)
    · rcases List.mem_cons.mp hp with rfl | hp
      · exact ⟨hacc, hDL, hD₀⟩
      · exact ⟨old _ _ (N p hp).1, (N p hp).2⟩
  exact codeAny_compStart_list (loop _ rfl) ((range_walks hh a1 n1).self 0 _ _ _ hst₁ (loop _ rfl))
end
end Mine
end
section
open PySem PySem.W PyProof.Rows PySem.Calls
set_option maxRecDepth 100000
set_option maxHeartbeats 1500000
set_option linter.unusedVariables false
namespace Mine
theorem off36 : True := by
  w_top off
  trivial

/-- tuples made for some keys, all newer than what stood -/
noncomputable def MadeK (B tl : Led) (ys : List Value) (K : List (List Int)) : Prop := ∃ zs : List KX, ys = refsOf zs ∧ zs.map (·.1) = K ∧ (∀ z ∈ zs, ∃ vs, (z.2.1, tupO vs) ∈ tl ∧ IntsAre vs z.1 ∧ z.1 ≠ []) ∧ ∀ q ∈ tl, ∀ p ∈ B, LtN p.1 q.1
theorem MadeK.nil {B : Led} : MadeK B [] [] [] := ⟨[], rfl, rfl, (fun _ h => nomatch h), fun _ h => nomatch h⟩
theorem MadeK.snoc {B tl : Led} {ys : List Value} {K K' : List (List Int)} {TA : Addr} {vs : List Value} {k : List Int} (h : MadeK B tl ys K) (hi : IntsAre vs k) (hk : k ≠ []) (hl : ∀ p ∈ B, LtN p.1 TA) (e : K' = K ++ [k]) : MadeK B ((TA, tupO vs) :: tl) (ys ++ [.ref TA]) K' := by
  obtain ⟨zs, rfl, h1, h2, h3⟩ := h
  refine ⟨zs ++ [(k, TA, .none)], by rw [refsOf, refsOf, List.map_append]; rfl, by rw [List.map_append, h1, e]; rfl, fun z hz => ?_, fun q hq => ?_⟩
  · rcases List.mem_append.mp hz with hz | hz
    · obtain ⟨vs, a, b, c⟩ := h2 z hz; exact ⟨vs, .tail _ a, b, c⟩
    · rw [List.mem_singleton.mp hz]; exact ⟨vs, .head _, hi, hk⟩
  · rcases List.mem_cons.mp hq with rfl | hq
    · exact hl
    · exact h3 q hq
theorem MadeK.asc {B tl : Led} {ys : List Value} {K : List (List Int)} (h : MadeK B tl ys K) (hp : K.Pairwise fun a b => lexlt a b = true) : ∃ kx : List KX, ys = refsOf kx ∧ KeysAsc tl kx ∧ kx.map (·.1) = K := by
  obtain ⟨zs, rfl, h1, h2, h3⟩ := h
  refine ⟨zs, rfl, ⟨h2, ?_⟩, h1⟩
  rw [← h1, List.pairwise_map] at hp
  exact hp
theorem apart_of {w : World} {kx : List KX} {K : List (List Int)} (h : kx.map (·.1) = K) (hd : (K.map (tupleKind (IK w)).hash).Nodup) : HashApart (tupleKind (IK w)) kx := by
  unfold HashApart
  rw [← h, List.map_map] at hd
  exact hd

local macro_rules | `(tactic| walk_at "eval ListComp") => `(tactic| refine Halt.mk ?_)
local macro_rules | `(tactic| walk_at "CompEnd") => `(tactic| refine Halt.mk ?_)
local macro_rules | `(tactic| walk_at "CompSrc") => `(tactic| refine Halt.mk ?_)
local macro_rules | `(tactic| walk_at "execs cons") => `(tactic| ((with_reducible show wpAny _ _ (execs (Stmt.Assign [Expr.Name _ _] (Expr.Call (Expr.Name _ _) [_, _, _, _, _] _ _) _ :: _) _) _ _ _); refine Halt.mk ?_))

theorem keys_b1 (w : World) {p : Program} {loose : List Str} {mean : ExcName → Option Value} {mg mb : Str → Option Value}
  {fa : Addr} {ccd : Value} {h₀ : Heap} {L : Addr} {mB : Str → Option Value} {s : Shared} {Q : Flow → Shared → Prop} {E : Value → Shared → Prop}
  {C dC kL pL nD IN tp : Addr} {t1 t2 t3 tar : Tok} {n1 n2 n3 : Nat} {ks ps : Array Value} {ok op oc oT : Obj} {R3 : Led}
  (K0 : Below callerA h₀ [] h₀) (X : (hd.heap_1 w.params).In h₀) (T : Top p loose mean mg mb h₀)
  (F : Fr h₀ L s.heap (fun y => if y = Str.ofString "arity" then some (.int 1 tar) else if y = Str.ofString "inputs" then some (.ref IN) else lawT mB tp y))
  (hN : News h₀ L s.heap ((L + 1 + 1 + 1, ok) :: (L + 1 + 1, op) :: (L + 1, oc) :: (tp, oT) :: (C, instObj 328 dC) :: (dC, circO w kL pL nD t1 t2 t3) :: (kL, W.listOf ks n1) :: (pL, W.listOf ps n2) :: (nD, knownO w [] n3) :: R3))
  (hoc : oc.data = Data.cell (some (.ref C)))
  (done : ∀ (Mk dM KY : Addr) (kx : List KX) (nk nM : Nat) (tc tn : Tok) (nv : Value) (h' : Heap) (tk' : Nat) (tl : Led), Fr h₀ L h' (lawK (lawT mB tp) 1 tar IN KY Mk) → News h₀ L h' ((L + 1 + 1 + 1, ok) :: (L + 1 + 1, op) :: (L + 1, oc) :: (tp, oT) :: (C, instObj 328 dC) :: (dC, circO w kL pL nD t1 t2 t3) :: (kL, W.listOf ks n1) :: (pL, W.listOf ps n2) :: (nD, knownO w [] n3) :: (R3 ++ tl)) →
    (Mk, instObj 220 dM) ∈ tl → (dM, dictOf [ent w "circuit" tc (.ref C), ent w "n" tn nv] nM) ∈ tl → (KY, W.listOf (refsOf kx).toArray nk) ∈ tl → KeysAsc tl kx → kx.length ≤ 4 → HashApart (tupleKind (IK w)) kx → (∀ q ∈ tl, ∀ p ∈ ((L + 1 + 1 + 1, ok) :: (L + 1 + 1, op) :: (L + 1, oc) :: (tp, oT) :: (C, instObj 328 dC) :: (dC, circO w kL pL nD t1 t2 t3) :: (kL, W.listOf ks n1) :: (pL, W.listOf ps n2) :: (nD, knownO w [] n3) :: R3 : Led), @Ne Nat q.1 p.1) →
    wpAny (model PP w) (callerA.deeper (lawE L fa ccd)) (execs (lawB.drop 5) (lawE L fa ccd)) Q (lawX w L fa ccd E) { s with heap := h', toks := tk' }) :
  wpAny (model PP w) (callerA.deeper (lawE L fa ccd)) (execs (lawB.drop 3) (lawE L fa ccd)) Q (lawX w L fa ccd E) s := by
  unfold lawX lawE at done ⊢
  dsimp only [lawB, lawS, PySem.Challenge.pw_nu0274_01, List.getLast?, List.getLast, List.drop] at done ⊢
  k_steps
  rename Fr _ _ _ (fun y => ite _ _ _) => kF1
  refine Halt.go (LCg.ListComp_U (F₀ := kF1) (by with_unfolding_all rfl) (by decide) (by rfl) (by decide) (by rfl) ?_)
  k_steps
  rename IsRange _ _ _ _ _ _ _ _ => hRg
  rename Fr _ _ _ (fun y => ite _ _ _) => kF2
  rename News _ _ _ _ => kN2
  obtain ⟨B, hB⟩ : ∃ B : Led, B = (L + 1 + 1 + 1, ok) :: (L + 1 + 1, op) :: (L + 1, oc) :: (tp, oT) :: (C, instObj 328 dC) :: (dC, circO w kL pL nD t1 t2 t3) :: (kL, W.listOf ks n1) :: (pL, W.listOf ps n2) :: (nD, knownO w [] n3) :: R3 := ⟨_, rfl⟩
  rw [← hB] at kN2
  refine Halt.go (LCg.CompSrc.range (n := 4) (by rfl) kF2 kN2 hRg (by decide) (by decide) (by rw [sizeLine_eq]; omega) fun g => ?_)
  refine comp_inv 4 (fun i ys nx => ∃ tl, nx = tl ++ B ∧ MadeK B tl ys (([[0], [1], [2], [3]] : List (List Int)).take i)) ?step ?fin _ 0 [] _ (by omega) ⟨[], rfl, MadeK.nil⟩
  case step =>
    rintro i ys nx v I oI C₁ oC D₂ m₂ h tk₁ E' hi ⟨tv, rfl⟩ ⟨tl, rfl, hmk⟩ hC hxv F₁ N₁ off ne
    have om := LCg.Off3.mem off
    k_steps
    rename_i TA hA9 FA9 NA9 lTA
    refine Halt.go (LCg.CompEnd.intro FA9 NA9 (((TA, tupO [.int (0 + (i : Int)) tv]) :: tl) ++ B) (fun p hp => ?g1) (LCg.Off3.of fun p hp => ?g2) trivial ⟨(TA, tupO [.int (0 + (i : Int)) tv]) :: tl, rfl, MadeK.snoc hmk (k := [0 + (i : Int)]) (.cons _ _ .nil) (by simp) (fun p hp => allLt_mem lTA.2.2.2 p (List.mem_append_right _ hp)) ?g3⟩)
    case g1 =>
      rcases List.mem_cons.mp hp with rfl | hp
      · exact (by repeat' (first | exact List.Mem.head _ | apply List.Mem.tail))
      rcases List.mem_cons.mp hp with rfl | hp
      · exact (by repeat' (first | exact List.Mem.head _ | apply List.Mem.tail))
      rcases List.mem_cons.mp hp with rfl | hp
      · exact (by repeat' (first | exact List.Mem.head _ | apply List.Mem.tail))
      rcases List.mem_cons.mp hp with rfl | hp
      · exact (by repeat' (first | exact List.Mem.head _ | apply List.Mem.tail))
      · exact (by repeat' (first | exact hp | apply List.Mem.tail))
    case g2 =>
      rcases List.mem_cons.mp hp with rfl | hp
      · exact ⟨by show @Ne Nat _ _; omega, by show @Ne Nat _ _; omega, by show @Ne Nat _ _; omega⟩
      · exact om _ hp
    case g3 =>
      have h4 : i = 0 ∨ i = 1 ∨ i = 2 ∨ i = 3 := by omega
      rcases h4 with rfl | rfl | rfl | rfl <;> rfl
  case fin =>
    rintro ys nx ⟨tl, rfl, hmk⟩ D₂ h₁ tk₁ F₁ N₁ off
    have hoff := off1_mem off
    obtain ⟨kx, rfl, hasc, hkeys⟩ := hmk.asc (by decide)
    obtain ⟨zs, _, _, _, hlt⟩ := hmk
    rw [hB] at N₁ hoff hlt
    have N₃ : News h₀ L h₁ ((L + 1 + 1 + 1, ok) :: (L + 1 + 1, op) :: (L + 1, oc) :: (tp, oT) :: (C, instObj 328 dC) :: (dC, circO w kL pL nD t1 t2 t3) :: (kL, W.listOf ks n1) :: (pL, W.listOf ps n2) :: (nD, knownO w [] n3) :: (R3 ++ ((D₂, LCg.lst (refsOf kx)) :: tl))) := News.sub N₁ fun p hp => by
      simp only [List.mem_cons, List.mem_append] at hp ⊢
      rcases hp with h | h | h | h | h | h | h | h | h | h | h | h <;> simp [h]
    clear kN2 N₁
    k_steps
    rename_i xM dM hm4 lM1 lM2 gM LM hM3 BM XM TM hM2 hM1 FM1 NM1 TcM kXM hM FM NM
    have NM' : ∃ (tc tn : Tok) (nv : Value), News h₀ L hM ((xM, instObj 220 dM) :: (dM, dictOf [ent w "circuit" tc (.ref C), ent w "n" tn nv] 2) :: (L + 1 + 1 + 1, ok) :: (L + 1 + 1, op) :: (L + 1, oc) :: (tp, oT) :: (C, instObj 328 dC) :: (dC, circO w kL pL nD t1 t2 t3) :: (kL, W.listOf ks n1) :: (pL, W.listOf ps n2) :: (nD, knownO w [] n3) :: (R3 ++ ((D₂, LCg.lst (refsOf kx)) :: tl))) := ⟨_, _, _, NM⟩
    obtain ⟨tcv, tnv, nvv, NM2⟩ := NM'
    have hK4 : kx.length = 4 := by rw [← List.length_map (f := fun x : KX => x.1), hkeys]; rfl
    refine Halt.go (done xM dM D₂ kx (refsOf kx).length 2 tcv tnv nvv _ _ ((xM, instObj 220 dM) :: (dM, dictOf [ent w "circuit" tcv (.ref C), ent w "n" tnv nvv] 2) :: (D₂, LCg.lst (refsOf kx)) :: tl) FM (News.sub NM2 fun p hp => ?h1) (.head _) (.tail _ (.head _)) (.tail _ (.tail _ (.head _))) (hasc.mono fun p hp => .tail _ (.tail _ (.tail _ hp))) (by omega) (apart_of hkeys (of_decide_eq_true (by kernel_rfl))) fun q hq p hp => ?h2)
    case h1 =>
      rcases List.mem_cons.mp hp with rfl | hp
      · exact (by repeat' (first | exact List.Mem.head _ | apply List.Mem.tail))
      rcases List.mem_cons.mp hp with rfl | hp
      · exact (by repeat' (first | exact List.Mem.head _ | apply List.Mem.tail))
      rcases List.mem_cons.mp hp with rfl | hp
      · exact (by repeat' (first | exact List.Mem.head _ | apply List.Mem.tail))
      rcases List.mem_cons.mp hp with rfl | hp
      · exact (by repeat' (first | exact List.Mem.head _ | apply List.Mem.tail))
      rcases List.mem_cons.mp hp with rfl | hp
      · exact (by repeat' (first | exact List.Mem.head _ | apply List.Mem.tail))
      rcases List.mem_cons.mp hp with rfl | hp
      · exact (by repeat' (first | exact List.Mem.head _ | apply List.Mem.tail))
      rcases List.mem_cons.mp hp with rfl | hp
      · exact (by repeat' (first | exact List.Mem.head _ | apply List.Mem.tail))
      rcases List.mem_cons.mp hp with rfl | hp
      · exact (by repeat' (first | exact List.Mem.head _ | apply List.Mem.tail))
      rcases List.mem_cons.mp hp with rfl | hp
      · exact (by repeat' (first | exact List.Mem.head _ | apply List.Mem.tail))
      rcases List.mem_append.mp hp with hp | hp
      · have hp := List.mem_append_left ((D₂, LCg.lst (refsOf kx)) :: tl) hp
        exact (by repeat' (first | exact hp | apply List.Mem.tail))
      rcases List.mem_cons.mp hp with rfl | hp
      · exact .head _
      rcases List.mem_cons.mp hp with rfl | hp
      · exact .tail _ (.head _)
      · have hp := List.mem_append_right R3 hp
        exact (by repeat' (first | exact hp | apply List.Mem.tail))
    case h2 =>
      have hpd : LtN p.1 dM := by
        rcases List.mem_cons.mp hp with rfl | hp
        · exact lM1.1
        rcases List.mem_cons.mp hp with rfl | hp
        · exact lM1.2.1
        rcases List.mem_cons.mp hp with rfl | hp
        · exact lM1.2.2.1
        rcases List.mem_cons.mp hp with rfl | hp
        · exact lM1.2.2.2.1
        rcases List.mem_cons.mp hp with rfl | hp
        · exact lM1.2.2.2.2.1
        rcases List.mem_cons.mp hp with rfl | hp
        · exact lM1.2.2.2.2.2.1
        rcases List.mem_cons.mp hp with rfl | hp
        · exact lM1.2.2.2.2.2.2.1
        rcases List.mem_cons.mp hp with rfl | hp
        · exact lM1.2.2.2.2.2.2.2.1
        rcases List.mem_cons.mp hp with rfl | hp
        · exact lM1.2.2.2.2.2.2.2.2.1
        exact allLt_mem lM1.2.2.2.2.2.2.2.2.2 p (List.mem_append_left _ hp)
      rcases List.mem_cons.mp hq with rfl | hq
      · show @Ne Nat xM p.1; omega
      rcases List.mem_cons.mp hq with rfl | hq
      · show @Ne Nat dM p.1; omega
      rcases List.mem_cons.mp hq with rfl | hq
      · exact Ne.symm (hoff p (List.mem_append_right _ hp))
      · have := hlt q hq p hp; show @Ne Nat _ _; omega
end Mine
end
section
open PySem PySem.W PyProof.Rows PySem.Calls
set_option maxRecDepth 100000
set_option maxHeartbeats 1500000
set_option linter.unusedVariables false
namespace Mine
theorem off37 : True := by
  w_top off
  trivial
local macro_rules | `(tactic| walk_at "none such") => `(tactic| skip)

section
open LCg
variable {prog : Program} {w : World} {A : Around} {E : Value → Shared → Prop} {s : Shared} {h₀ : Heap} {L : Addr} {m : Str → Option Value} {env : Env}
  {elt i1 i2 : Expr} {x1 x2 : Str} {px1 px2 : Pos} {scope : Scope} {cl : List (Str × Addr)} {pos : Pos}
/-- what the first clause's source is to answer -/
noncomputable def Src2 (prog : Program) (w : World) (A : Around) (h₀ : Heap) (L : Addr) (m : Str → Option Value) (env : Env) (elt i2 : Expr) (x1 x2 : Str) (scope : Scope) (cl : List (Str × Addr)) (n2 : Nat) (Q : Value → Shared → Prop) (xv : Value) (s₁ : Shared) : Prop :=
  ∃ (r : Addr) (t u v : Tok) (n1 : Nat) (news : Led) (Inv : Nat → Nat → List Value → Led → Prop), xv = .ref r ∧ Fr h₀ L s₁.heap m ∧ News h₀ L s₁.heap news ∧ IsRange s₁.heap r 0 (n1 : Int) 1 t u v ∧ Builtin.Range.small 0 (n1 : Int) 1 = true ∧ Builtin.Range.rangeSize 0 (n1 : Int) 1 = (n1 : Int) ∧ n1 ≤ 1000 ∧ Inv 0 0 [] news ∧
    ∀ g : Heap, Two prog w A h₀ L m env elt i2 x1 x2 scope cl { s₁ with heap := g } 0 n1 n2 Inv ∧ ∀ ys news, Inv n1 0 ys news → FinE h₀ L m { s₁ with heap := g } Q ys news
theorem ListComp_2 {n2 : Nat} {Q : Value → Shared → Prop} (F₀ : Fr h₀ L s.heap m) (hh : A.handled = none) (hn2 : n2 ≤ 1000) (hsm2 : Builtin.Range.small 0 (n2 : Int) 1 = true) (hrs2 : Builtin.Range.rangeSize 0 (n2 : Int) 1 = (n2 : Int))
    (hclos : closureFor scope env = pure cl) (hcell : ∀ y ∈ scope.names, y.2 ≠ .cell) (hkind : scope.kind = .function)
    (hnames : ∀ y ∈ scope.names, y.2 = .local → scope.names.lookup y.1 = some .local) (hx1 : scope.names.lookup x1 = some .local) (hx2 : scope.names.lookup x2 = some .local) (hne : x1 ≠ x2)
    (hs2 : ∀ x, foldedSetIterable i2 env x = pure x) (hs2' : ∀ C x, foldedSetIterable i2 (compEnvC scope cl C env) x = pure x)
    (h : wpAny (model prog w) A (eval i1 env) (Src2 prog w A h₀ L m env elt i2 x1 x2 scope cl n2 Q) E s)
    (hs : ∀ x, foldedSetIterable i1 env x = pure x := by intro _; rfl) :
    wpAny (model prog w) A (eval (.ListComp elt [⟨.Name x1 px1, i1, [], 0⟩, ⟨.Name x2 px2, i2, [], 0⟩] scope pos) env) Q E s := by
  rw [eval_ListComp]
  refine wpAny_comprehension_free (use := none) rfl hs hclos hkind hnames (wpAny_mono h (fun xv s₁ h₁ => ?_) fun _ _ e => e)
  obtain ⟨r, t, u, v, n1, news, Inv, rfl, F, N, hr, hsm, hn, hn1, j0, R⟩ := h₁
  refine wpAny_pyIter_range hr hsm ?_
  obtain ⟨R1, R2⟩ := R (s₁.heap.push { cls := .type "range_iterator", data := .fields #[rawInt 0, rawInt (Builtin.Range.rangeSize 0 (n1 : Int) 1), rawInt 1] })
  refine block_2 (Inv := Inv) (news := news) (m := m) (Fin := FinE h₀ L m { s₁ with heap := s₁.heap.push { cls := .type "range_iterator", data := .fields #[rawInt 0, rawInt (Builtin.Range.rangeSize 0 (n1 : Int) 1), rawInt 1] } } Q) hh hn1 hn2 hsm2 hrs2 hcell hkind hx1 hx2 hne hs2 hs2' (by show IsRangeIter _ _ _ _ _; rw [hn]; simpa using Heap.get?_push_size _ rfl) (by show s₁.heap.objs.size < (s₁.heap.push _).objs.size; rw [Heap.size_push]; exact Nat.lt_succ_self _)
    (F.keeps fun _ _ e => Heap.get?_push_of_some _ e) (N.grown fun _ _ e => Heap.get?_push_of_some _ e) (Nat.ne_of_lt F.ns.lt) (next_is_new F) (fun p hp => Nat.ne_of_lt (Heap.lt_size (N p hp).1)) j0 R1 R2 ?_
  intro D C h tk m' ys news' F' N' o1 hn hC₀ hD₀ hCL hDL hCD offC fin
  refine ⟨m', hn, fun h'' hs'' => fin D h'' tk (F'.change hs'' hCL hC₀) (fun p hp => ?_) o1⟩
  refine ⟨hs''.extBut _ _ ?_ (N' p hp).1, (N' p hp).2⟩
  rcases List.mem_cons.mp hp with rfl | hp
  · exact Ne.symm hCD
  · exact offC p hp
end

local macro_rules | `(tactic| walk_at "eval ListComp") => `(tactic| refine Halt.mk ?_)
local macro_rules | `(tactic| walk_at "CompEnd") => `(tactic| refine Halt.mk ?_)
local macro_rules | `(tactic| walk_at "CompSrc") => `(tactic| refine Halt.mk ?_)
local macro_rules | `(tactic| walk_at "execs cons") => `(tactic| ((with_reducible show wpAny _ _ (execs (Stmt.Assign [Expr.Name _ _] (Expr.Call (Expr.Name _ _) [_, _, _, _, _] _ _) _ :: _) _) _ _ _); refine Halt.mk ?_))

theorem keys_b2 (w : World) {p : Program} {loose : List Str} {mean : ExcName → Option Value} {mg mb : Str → Option Value}
  {fa : Addr} {ccd : Value} {h₀ : Heap} {L : Addr} {mB : Str → Option Value} {s : Shared} {Q : Flow → Shared → Prop} {E : Value → Shared → Prop}
  {C dC kL pL nD IN tp : Addr} {t1 t2 t3 tar : Tok} {n1 n2 n3 : Nat} {ks ps : Array Value} {ok op oc oT : Obj} {R3 : Led}
  (K0 : Below callerA h₀ [] h₀) (X : (hd.heap_1 w.params).In h₀) (T : Top p loose mean mg mb h₀)
  (F : Fr h₀ L s.heap (fun y => if y = Str.ofString "arity" then some (.int 2 tar) else if y = Str.ofString "inputs" then some (.ref IN) else lawT mB tp y))
  (hN : News h₀ L s.heap ((L + 1 + 1 + 1, ok) :: (L + 1 + 1, op) :: (L + 1, oc) :: (tp, oT) :: (C, instObj 328 dC) :: (dC, circO w kL pL nD t1 t2 t3) :: (kL, W.listOf ks n1) :: (pL, W.listOf ps n2) :: (nD, knownO w [] n3) :: R3))
  (hoc : oc.data = Data.cell (some (.ref C)))
  (done : ∀ (Mk dM KY : Addr) (kx : List KX) (nk nM : Nat) (tc tn : Tok) (nv : Value) (h' : Heap) (tk' : Nat) (tl : Led), Fr h₀ L h' (lawK (lawT mB tp) 2 tar IN KY Mk) → News h₀ L h' ((L + 1 + 1 + 1, ok) :: (L + 1 + 1, op) :: (L + 1, oc) :: (tp, oT) :: (C, instObj 328 dC) :: (dC, circO w kL pL nD t1 t2 t3) :: (kL, W.listOf ks n1) :: (pL, W.listOf ps n2) :: (nD, knownO w [] n3) :: (R3 ++ tl)) →
    (Mk, instObj 220 dM) ∈ tl → (dM, dictOf [ent w "circuit" tc (.ref C), ent w "n" tn nv] nM) ∈ tl → (KY, W.listOf (refsOf kx).toArray nk) ∈ tl → KeysAsc tl kx → kx.length ≤ 4 → HashApart (tupleKind (IK w)) kx → (∀ q ∈ tl, ∀ p ∈ ((L + 1 + 1 + 1, ok) :: (L + 1 + 1, op) :: (L + 1, oc) :: (tp, oT) :: (C, instObj 328 dC) :: (dC, circO w kL pL nD t1 t2 t3) :: (kL, W.listOf ks n1) :: (pL, W.listOf ps n2) :: (nD, knownO w [] n3) :: R3 : Led), @Ne Nat q.1 p.1) →
    wpAny (model PP w) (callerA.deeper (lawE L fa ccd)) (execs (lawB.drop 5) (lawE L fa ccd)) Q (lawX w L fa ccd E) { s with heap := h', toks := tk' }) :
  wpAny (model PP w) (callerA.deeper (lawE L fa ccd)) (execs (lawB.drop 3) (lawE L fa ccd)) Q (lawX w L fa ccd E) s := by
  unfold lawX lawE at done ⊢
  dsimp only [lawB, lawS, PySem.Challenge.pw_nu0274_01, List.getLast?, List.getLast, List.drop] at done ⊢
  k_steps
  rename Fr _ _ _ (fun y => ite _ _ _) => kF1
  refine Halt.go (ListComp_2 (n2 := 2) (F₀ := kF1) (by rfl) (by omega) (by decide) (by decide) (by with_unfolding_all rfl) (by decide) (by rfl) (by decide) (by rfl) (by rfl) (by decide) (by intro _; rfl) (by intro _ _; rfl) ?_)
  k_steps
  rename IsRange _ _ _ _ _ _ _ _ => hRg
  rename Fr _ _ _ (fun y => ite _ _ _) => kF2
  rename News _ _ _ _ => kN2
  obtain ⟨B, hB⟩ : ∃ B : Led, B = (L + 1 + 1 + 1, ok) :: (L + 1 + 1, op) :: (L + 1, oc) :: (tp, oT) :: (C, instObj 328 dC) :: (dC, circO w kL pL nD t1 t2 t3) :: (kL, W.listOf ks n1) :: (pL, W.listOf ps n2) :: (nD, knownO w [] n3) :: R3 := ⟨_, rfl⟩
  rw [← hB] at kN2
  refine ⟨_, _, _, _, 2, B, (fun i j ys nx => ∃ tl, nx = tl ++ B ∧ MadeK B tl ys (([[0, 0], [0, 1], [1, 0], [1, 1]] : List (List Int)).take (2 * i + j))), rfl, kF2, kN2, hRg, by decide, by decide, by omega, ⟨[], rfl, MadeK.nil⟩, fun g => ⟨⟨fun i ys news ⟨tl, e, h⟩ => ⟨tl, e, h⟩, ?src, ?step⟩, ?fin⟩⟩
  case src =>
    rintro i v ys nx I oI C₁ oC D₂ m₂ h tk E' hi hP ⟨tl, rfl, hmk⟩ hC hxv F₁ N₁ off ne
    k_steps
    all_goals assumption
  case step =>
    rintro i j v1 v2 ys nx I oI J oJ C₁ oC D₂ m₂ h tk E' hi hj ⟨ta, rfl⟩ ⟨tb, rfl⟩ ⟨tl, rfl, hmk⟩ hC hm1 hm2 F₁ N₁ off hoI
    have om := LCg.Off3.mem off
    have hys : ys.length ≤ 1000 := by
      obtain ⟨zs, rfl, h1, _⟩ := hmk
      have := congrArg List.length h1
      rw [List.length_map, List.length_take] at this
      rw [List.length_map]; simp only [List.length_cons, List.length_nil] at this; omega
    k_steps
    rename_i TA hA9 FA9 NA9 lTA
    refine Halt.go (LCg.CompEnd.intro FA9 NA9 ((I, oI) :: (((TA, tupO [.int (0 + (i : Int)) ta, .int (j : Int) tb]) :: tl) ++ B)) (fun p hp => ?g1) (LCg.Off3.of fun p hp => ?g2) hys ⟨_, rfl, fun p hp => ?g4, (TA, tupO [.int (0 + (i : Int)) ta, .int (j : Int) tb]) :: tl, rfl, MadeK.snoc hmk (k := [0 + (i : Int), (j : Int)]) (.cons _ _ (.cons _ _ .nil)) (by simp) (fun p hp => allLt_mem lTA.2.2.2.2 p (List.mem_append_right _ hp)) ?g3⟩)
    case g1 =>
      rcases List.mem_cons.mp hp with rfl | hp
      · exact (by repeat' (first | exact List.Mem.head _ | apply List.Mem.tail))
      rcases List.mem_cons.mp hp with rfl | hp
      · exact (by repeat' (first | exact List.Mem.head _ | apply List.Mem.tail))
      rcases List.mem_cons.mp hp with rfl | hp
      · exact (by repeat' (first | exact List.Mem.head _ | apply List.Mem.tail))
      rcases List.mem_cons.mp hp with rfl | hp
      · exact (by repeat' (first | exact List.Mem.head _ | apply List.Mem.tail))
      rcases List.mem_cons.mp hp with rfl | hp
      · exact (by repeat' (first | exact List.Mem.head _ | apply List.Mem.tail))
      · exact (by repeat' (first | exact hp | apply List.Mem.tail))
    case g2 =>
      rcases List.mem_cons.mp hp with rfl | hp
      · exact om _ (.head _)
      rcases List.mem_cons.mp hp with rfl | hp
      · exact ⟨by show @Ne Nat _ _; omega, by show @Ne Nat _ _; omega, by show @Ne Nat _ _; omega⟩
      · exact om _ (.tail _ hp)
    case g4 =>
      rcases List.mem_cons.mp hp with rfl | hp
      · show @Ne Nat _ _; omega
      · exact hoI _ hp
    case g3 =>
      have h4 : (i = 0 ∨ i = 1) ∧ (j = 0 ∨ j = 1) := by omega
      rcases h4 with ⟨rfl | rfl, rfl | rfl⟩ <;> rfl
  case fin =>
    rintro ys nx ⟨tl, rfl, hmk⟩ D₂ h₁ tk₁ F₁ N₁ off
    have hoff := off1_mem off
    obtain ⟨kx, rfl, hasc, hkeys⟩ := hmk.asc (by decide)
    obtain ⟨zs, _, _, _, hlt⟩ := hmk
    rw [hB] at N₁ hoff hlt
    have N₃ : News h₀ L h₁ ((L + 1 + 1 + 1, ok) :: (L + 1 + 1, op) :: (L + 1, oc) :: (tp, oT) :: (C, instObj 328 dC) :: (dC, circO w kL pL nD t1 t2 t3) :: (kL, W.listOf ks n1) :: (pL, W.listOf ps n2) :: (nD, knownO w [] n3) :: (R3 ++ ((D₂, LCg.lst (refsOf kx)) :: tl))) := News.sub N₁ fun p hp => by
      simp only [List.mem_cons, List.mem_append] at hp ⊢
      rcases hp with h | h | h | h | h | h | h | h | h | h | h | h <;> simp [h]
    clear kN2 N₁
    k_steps
    rename_i xM dM hm4 lM1 lM2 gM LM hM3 BM XM TM hM2 hM1 FM1 NM1 TcM kXM hM FM NM
    have NM' : ∃ (tc tn : Tok) (nv : Value), News h₀ L hM ((xM, instObj 220 dM) :: (dM, dictOf [ent w "circuit" tc (.ref C), ent w "n" tn nv] 2) :: (L + 1 + 1 + 1, ok) :: (L + 1 + 1, op) :: (L + 1, oc) :: (tp, oT) :: (C, instObj 328 dC) :: (dC, circO w kL pL nD t1 t2 t3) :: (kL, W.listOf ks n1) :: (pL, W.listOf ps n2) :: (nD, knownO w [] n3) :: (R3 ++ ((D₂, LCg.lst (refsOf kx)) :: tl))) := ⟨_, _, _, NM⟩
    obtain ⟨tcv, tnv, nvv, NM2⟩ := NM'
    have hK4 : kx.length = 4 := by rw [← List.length_map (f := fun x : KX => x.1), hkeys]; rfl
    refine Halt.go (done xM dM D₂ kx (refsOf kx).length 2 tcv tnv nvv _ _ ((xM, instObj 220 dM) :: (dM, dictOf [ent w "circuit" tcv (.ref C), ent w "n" tnv nvv] 2) :: (D₂, LCg.lst (refsOf kx)) :: tl) FM (News.sub NM2 fun p hp => ?h1) (.head _) (.tail _ (.head _)) (.tail _ (.tail _ (.head _))) (hasc.mono fun p hp => .tail _ (.tail _ (.tail _ hp))) (by omega) (apart_of hkeys (of_decide_eq_true (by kernel_rfl))) fun q hq p hp => ?h2)
    case h1 =>
      rcases List.mem_cons.mp hp with rfl | hp
      · exact (by repeat' (first | exact List.Mem.head _ | apply List.Mem.tail))
      rcases List.mem_cons.mp hp with rfl | hp
      · exact (by repeat' (first | exact List.Mem.head _ | apply List.Mem.tail))
      rcases List.mem_cons.mp hp with rfl | hp
      · exact (by repeat' (first | exact List.Mem.head _ | apply List.Mem.tail))
      rcases List.mem_cons.mp hp with rfl | hp
      · exact (by repeat' (first | exact List.Mem.head _ | apply List.Mem.tail))
      rcases List.mem_cons.mp hp with rfl | hp
      · exact (by repeat' (first | exact List.Mem.head _ | apply List.Mem.tail))
      rcases List.mem_cons.mp hp with rfl | hp
      · exact (by repeat' (first | exact List.Mem.head _ | apply List.Mem.tail))
      rcases List.mem_cons.mp hp with rfl | hp
      · exact (by repeat' (first | exact List.Mem.head _ | apply List.Mem.tail))
      rcases List.mem_cons.mp hp with rfl | hp
      · exact (by repeat' (first | exact List.Mem.head _ | apply List.Mem.tail))
      rcases List.mem_cons.mp hp with rfl | hp
      · exact (by repeat' (first | exact List.Mem.head _ | apply List.Mem.tail))
      rcases List.mem_append.mp hp with hp | hp
      · have hp := List.mem_append_left ((D₂, LCg.lst (refsOf kx)) :: tl) hp
        exact (by repeat' (first | exact hp | apply List.Mem.tail))
      rcases List.mem_cons.mp hp with rfl | hp
      · exact .head _
      rcases List.mem_cons.mp hp with rfl | hp
      · exact .tail _ (.head _)
      · have hp := List.mem_append_right R3 hp
        exact (by repeat' (first | exact hp | apply List.Mem.tail))
    case h2 =>
      have hpd : LtN p.1 dM := by
        rcases List.mem_cons.mp hp with rfl | hp
        · exact lM1.1
        rcases List.mem_cons.mp hp with rfl | hp
        · exact lM1.2.1
        rcases List.mem_cons.mp hp with rfl | hp
        · exact lM1.2.2.1
        rcases List.mem_cons.mp hp with rfl | hp
        · exact lM1.2.2.2.1
        rcases List.mem_cons.mp hp with rfl | hp
        · exact lM1.2.2.2.2.1
        rcases List.mem_cons.mp hp with rfl | hp
        · exact lM1.2.2.2.2.2.1
        rcases List.mem_cons.mp hp with rfl | hp
        · exact lM1.2.2.2.2.2.2.1
        rcases List.mem_cons.mp hp with rfl | hp
        · exact lM1.2.2.2.2.2.2.2.1
        rcases List.mem_cons.mp hp with rfl | hp
        · exact lM1.2.2.2.2.2.2.2.2.1
        exact allLt_mem lM1.2.2.2.2.2.2.2.2.2 p (List.mem_append_left _ hp)
      rcases List.mem_cons.mp hq with rfl | hq
      · show @Ne Nat xM p.1; omega
      rcases List.mem_cons.mp hq with rfl | hq
      · show @Ne Nat dM p.1; omega
      rcases List.mem_cons.mp hq with rfl | hq
      · exact Ne.symm (hoff p (List.mem_append_right _ hp))
      · have := hlt q hq p hp; show @Ne Nat _ _; omega
end Mine
end
section
open PySem PySem.W PyProof.Rows PySem.Calls
set_option maxRecDepth 100000
set_option maxHeartbeats 1500000
set_option linter.unusedVariables false
namespace Mine
theorem off38 : True := by
  w_top off
  trivial
local macro_rules | `(tactic| walk_at "execs cons") => `(tactic| ((with_reducible show wpAny _ _ (execs (Stmt.Assign _ (Expr.ListComp ..) _ :: _) _) _ _ _); refine Halt.mk ?_))

noncomputable abbrev lawS0 (mB : Str → Option Value) (sc : Addr) : Str → Option Value := fun y => if y = Str.ofString "script" then some (.ref sc) else mB y
theorem input_in (w : World) {p : Program} {loose : List Str} {mean : ExcName → Option Value} {mg mb : Str → Option Value}
  {fa : Addr} {ccd : Value} {h₀ : Heap} {L : Addr} {mB : Str → Option Value} {s : Shared} {Q : Flow → Shared → Prop} {E : Value → Shared → Prop}
  {C dC kL pL nD T1 T2 CL tp DT : Addr} {t1 t2 t3 a1 a2 tsp : Tok} {ok op oc oT oD oN : Obj} {wv : List Value} {ws : List Int}
  (K0 : Below callerA h₀ [] h₀) (X : (hd.heap_1 w.params).In h₀) (T : Top p loose mean mg mb h₀)
  (F : Fr h₀ L s.heap (lawT mB tp))
  (hN : News h₀ L s.heap [(DT, oD), (nD, oN), (pL, W.listOf #[.ref T1, .ref T2] 0), (T2, tupO []), (T1, tupO []), (kL, W.listOf #[.str (Str.ofString "") a1, .str (Str.ofString "true") a2] 0), (C, instObj 328 dC), (dC, circO w kL pL nD t1 t2 t3), (CL, W.listOf wv.toArray 0), (tp, oT), (L + 1 + 1 + 1, ok), (L + 1 + 1, op), (L + 1, oc)])
  (hoN : oN.IsDictOf (intKind PP w) [])
  (hok : ∃ v, ok.data = Data.cell v) (hop : ∃ v, op.data = Data.cell v) (hoc : oc.data = Data.cell (some (.ref C))) (hoT : oT.IsDictOf (SK w) (tapeKvs CL 0 tsp)) (hws : IntsAre wv ws) (hw24 : ws.length ≤ 24)
  (e0 : LtN (L + 1 + 1 + 1) tp) (e1 : LtN tp CL) (e2 : LtN CL dC) (o1 : LtN dC C) (o2 : LtN C kL) (e3 : LtN kL T1) (e4 : LtN T1 T2) (e5 : LtN T2 pL) (o4 : LtN pL nD) (lo3 : (nD == sysModules) = false)
  (done : ∀ (n3 : Nat) (IN : Addr) (iv : List Value) (ni : Nat) (ks1 ps1 : Array Value) (n11 n21 : Nat) (tl1 R3 : Led) (oT' : Obj) (sp' : Nat) (t' : Tok) (ar : Int) (tar : Tok) (h' : Heap) (tk' : Nat),
    Fr h₀ L h' (fun y => if y = Str.ofString "arity" then some (.int ar tar) else if y = Str.ofString "inputs" then some (.ref IN) else lawT mB tp y) →
    News h₀ L h' ((L + 1 + 1 + 1, ok) :: (L + 1 + 1, op) :: (L + 1, oc) :: (tp, oT') :: (C, instObj 328 dC) :: (dC, circO w kL pL nD t1 t2 t3) :: (kL, W.listOf ks1 n11) :: (pL, W.listOf ps1 n21) :: (nD, knownO w [] n3) :: R3) →
    CircOk (List.replicate 4 none) ks1 ps1 [] tl1 → (∀ p ∈ tl1, p ∈ R3) → IntsAre iv [2, 3, 4, 5] → (IN, W.listOf iv.toArray ni) ∈ R3 → (CL, W.listOf wv.toArray 0) ∈ R3 → oT'.IsDictOf (SK w) (tapeKvs CL sp' t') → sp' ≤ 1 → (ar = 1 ∨ ar = 2) →
    (∀ p ∈ R3, @Ne Nat p.1 C) → (∀ p ∈ R3, @Ne Nat p.1 dC) → (∀ p ∈ R3, @Ne Nat p.1 kL) → (∀ p ∈ R3, @Ne Nat p.1 pL) → (∀ p ∈ R3, @Ne Nat p.1 nD) → (∀ p ∈ R3, @Ne Nat p.1 tp) → (∀ q ∈ R3, @Ne Nat q.1 (L + 1 + 1 + 1) ∧ @Ne Nat q.1 (L + 1 + 1)) →
    wpAny (model PP w) (callerA.deeper (lawE L fa ccd)) (execs (lawB.drop 3) (lawE L fa ccd)) Q (lawX w L fa ccd E) { s with heap := h', toks := tk' }) :
  wpAny (model PP w) (callerA.deeper (lawE L fa ccd)) (execs (lawB.drop 1) (lawE L fa ccd)) Q (lawX w L fa ccd E) s := by
  obtain ⟨n3, rfl⟩ := empty_mat hoN
  refine input_b w (oD := oD) (DT := DT) (a1 := a1) (a2 := a2) K0 X T F (News.sub hN fun p hp => ?_) hok hop hoc hoT hws hw24 e0 e1 e2 o1 o2 e3 e4 e5 o4 lo3 (done n3)
  simp only [List.mem_cons, List.not_mem_nil, or_false] at hp ⊢
  rcases hp with h | h | h | h | h | h | h | h | h | h | h | h <;> simp [h]
theorem start_b (w : World) {p : Program} {loose : List Str} {mean : ExcName → Option Value} {mg mb : Str → Option Value}
  {fa : Addr} {ccd : Value} {h₀ : Heap} {L : Addr} {mB : Str → Option Value} {s : Shared} {Q : Flow → Shared → Prop} {E : Value → Shared → Prop}
  {sc : Addr} {sv : List Value} {ns : List Int} {ok op oc : Obj}
  (K0 : Below callerA h₀ [] h₀) (X : (hd.heap_1 w.params).In h₀) (T : Top p loose mean mg mb h₀)
  (F : Fr h₀ L s.heap (lawS0 mB sc))
  (hN : News h₀ L s.heap [(L + 1 + 1 + 1, ok), (L + 1 + 1, op), (L + 1, oc)])
  (hok : ∃ v, ok.data = Data.cell v) (hop : ∃ v, op.data = Data.cell v) (hoc : oc.data = Data.cell none)
  (hL : h₀.IsList sc sv.toArray) (hI : IntsAre sv ns) (h63 : ns.length ≤ 63)
  (done : ∀ (C dC kL pL nD tp CL : Addr) (t1 t2 t3 : Tok) (n3 : Nat) (oc' : Obj) (wv : List Value) (ws : List Int), oc'.data = Data.cell (some (.ref C)) → IntsAre wv ws → ws.length ≤ 24 → LtN (L + 1 + 1 + 1) tp → LtN tp CL → LtN CL dC → LtN dC C → LtN C kL → LtN kL pL → LtN pL nD → (nD == sysModules) = false → ∀ (IN : Addr) (iv : List Value) (ni : Nat) (ks1 ps1 : Array Value) (n11 n21 : Nat) (tl1 R3 : Led) (oT' : Obj) (sp' : Nat) (t' : Tok) (ar : Int) (tar : Tok) (h' : Heap) (tk' : Nat),
    Fr h₀ L h' (fun y => if y = Str.ofString "arity" then some (.int ar tar) else if y = Str.ofString "inputs" then some (.ref IN) else lawT (lawS0 mB sc) tp y) →
    News h₀ L h' ((L + 1 + 1 + 1, ok) :: (L + 1 + 1, op) :: (L + 1, oc') :: (tp, oT') :: (C, instObj 328 dC) :: (dC, circO w kL pL nD t1 t2 t3) :: (kL, W.listOf ks1 n11) :: (pL, W.listOf ps1 n21) :: (nD, knownO w [] n3) :: R3) →
    CircOk (List.replicate 4 none) ks1 ps1 [] tl1 → (∀ p ∈ tl1, p ∈ R3) → IntsAre iv [2, 3, 4, 5] → (IN, W.listOf iv.toArray ni) ∈ R3 → (CL, W.listOf wv.toArray 0) ∈ R3 → oT'.IsDictOf (SK w) (tapeKvs CL sp' t') → sp' ≤ 1 → (ar = 1 ∨ ar = 2) →
    (∀ p ∈ R3, @Ne Nat p.1 C) → (∀ p ∈ R3, @Ne Nat p.1 dC) → (∀ p ∈ R3, @Ne Nat p.1 kL) → (∀ p ∈ R3, @Ne Nat p.1 pL) → (∀ p ∈ R3, @Ne Nat p.1 nD) → (∀ p ∈ R3, @Ne Nat p.1 tp) → (∀ q ∈ R3, @Ne Nat q.1 (L + 1 + 1 + 1) ∧ @Ne Nat q.1 (L + 1 + 1)) →
    wpAny (model PP w) (callerA.deeper (lawE L fa ccd)) (execs (lawB.drop 3) (lawE L fa ccd)) Q (lawX w L fa ccd E) { s with heap := h', toks := tk' }) :
  wpAny (model PP w) (callerA.deeper (lawE L fa ccd)) (execs lawB (lawE L fa ccd)) Q (lawX w L fa ccd E) s := by
  have hin := fun (C dC kL pL nD T1 T2 CL tp DT : Addr) (t1 t2 t3 a1 a2 tsp : Tok) (ok op oc oT oD oN : Obj) (wv : List Value) (ws : List Int) (s : Shared) => @input_in w p loose mean mg mb fa ccd h₀ L (lawS0 mB sc) s Q E C dC kL pL nD T1 T2 CL tp DT t1 t2 t3 a1 a2 tsp ok op oc oT oD oN wv ws K0 X T
  unfold lawX lawE at hin done ⊢
  dsimp only [lawB, lawS, PySem.Challenge.pw_nu0274_01, List.getLast?, List.getLast, List.drop] at hin done ⊢
  k_steps
  rename Fr _ _ _ (fun y => ite _ _ _) => kF1
  rename News _ _ _ _ => kN1
  rename IntsAre _ (List.take 24 ns) => hws
  rename Obj.IsDictOf (PySem.strKind PP w) _ (strPairs _) => hoT
  rename Obj.IsDictOf (intKind PP w) _ [] => hoN
  refine Halt.go (hin _ _ _ _ _ _ _ _ _ _ _ _ _ _ _ _ _ _ _ _ _ _ _ _ _ kF1 kN1 hoN hok hop (by assumption) hoT hws (by rw [List.length_take]; omega) (by omega) (by omega) (by omega) (by omega) (by omega) (by omega) (by omega) (by omega) (by omega) (by assumption) (fun n3 => done _ _ _ _ _ _ _ _ _ _ n3 _ _ _ (by assumption) hws (by rw [List.length_take]; omega) (by omega) (by omega) (by omega) (by omega) (by omega) (by omega) (by omega) (by assumption)))
end Mine
end
section
open PySem PySem.W PyProof.Rows PySem.Calls
set_option maxRecDepth 100000
set_option maxHeartbeats 1500000
set_option linter.unusedVariables false
namespace Mine
theorem off39 : True := by
  w_top off
  trivial
local macro_rules | `(tactic| omega) => `(tactic| omega (config := {}))
theorem nodup_le {α : Type} [DecidableEq α] : ∀ {a b : List α}, a.Nodup → (∀ x ∈ a, x ∈ b) → a.length ≤ b.length
  | [], _, _, _ => Nat.zero_le _
  | x :: a, b, hn, hs => by
    rw [List.nodup_cons] at hn
    have hx := hs x (.head _)
    have := nodup_le (b := b.erase x) hn.2 fun y hy => (List.mem_erase_of_ne (fun (e : y = x) => hn.1 (by rw [← e]; exact hy))).mpr (hs y (.tail _ hy))
    rw [List.length_erase_of_mem hx] at this
    have := List.length_pos_of_mem hx
    rw [List.length_cons]; omega
theorem merged_le {xs ys kx : List KX} (hs : SubK xs kx) (hs' : SubK ys kx) (nd : (kx.map (·.1)).Nodup) : (mergedH xs ys).length ≤ kx.length := by
  have := nodup_le (merged_nodup (ys := ys) (nd.sublist hs.keys)) (b := kx.map (·.1)) fun q hq => (merged_keys q).mp hq |>.elim (fun h => hs.keys.subset h) (fun h => hs'.keys.subset h)
  rwa [List.length_map, List.length_map] at this
theorem gates_first {e : List Gate} (h : ∀ g ∈ e, g.isNone = false) (i : Nat) (g : Gate) (hi : (List.replicate 4 (none : Gate) ++ e)[i]? = some g) : g.isNone = true ↔ i < 4 := by
  by_cases h4 : i < 4
  · rw [List.getElem?_append_left (by rw [List.length_replicate]; exact h4), List.getElem?_replicate, if_pos h4] at hi
    cases hi
    exact ⟨fun _ => h4, fun _ => rfl⟩
  · rw [List.getElem?_append_right (by rw [List.length_replicate]; omega)] at hi
    rw [h g (List.mem_of_getElem? hi)]
    exact ⟨fun q => (nomatch q), fun q => absurd q h4⟩
theorem Grew.first {fv fv' : List Addr} {r r' tl tl' : Led} {c c' : Nat} {G G' : List Gate} (g : Grew fv r c (List.replicate 4 none) G tl) (g' : Grew fv' r' c' G G' tl') : ∀ i x, G'[i]? = some x → (x.isNone = true ↔ i < 4) := by
  obtain ⟨e, rfl, _, h1⟩ := g.ext
  obtain ⟨e', rfl, _, h2⟩ := g'.ext
  rw [List.append_assoc]
  exact gates_first fun x hx => (List.mem_append.mp hx).elim (h1 x) (h2 x)
section
variable {h₀ h : Heap} {L : Addr}
theorem News.swap (a b : Led) {c : Led} (N : News h₀ L h (a ++ (b ++ c))) : News h₀ L h (b ++ (a ++ c)) := News.sub N fun p hp => by
  rcases List.mem_append.mp hp with q | q
  · exact List.mem_append_right _ (List.mem_append_left _ q)
  rcases List.mem_append.mp q with q | q
  · exact List.mem_append_left _ q
  · exact List.mem_append_right _ (List.mem_append_right _ q)
end
theorem tail_b (w : World) {p : Program} {loose : List Str} {mean : ExcName → Option Value} {mg mb : Str → Option Value}
  {fa : Addr} {ccd : Value} {h₀ : Heap} {L : Addr} {mB : Str → Option Value} {s : Shared} {Q : Flow → Shared → Prop} {E : Value → Shared → Prop}
  {C dC kL pL nD tp CL IN Mk dM KY : Addr} {t1 t2 t3 tar tc tn tsp : Tok} {ar : Int} {nv : Value} {ks ps : Array Value} {ok op oc oT : Obj} {wv iv : List Value} {ws : List Int} {n1 n2 n3 ni nk nM sp : Nat} {kx : List KX} {tps R3 tl : Led}
  (K0 : Below callerA h₀ [] h₀) (X : (hd.heap_1 w.params).In h₀) (T : Top p loose mean mg mb h₀)
  (F : Fr h₀ L s.heap (lawK (lawT mB tp) ar tar IN KY Mk))
  (N : News h₀ L s.heap ((L + 1 + 1 + 1, ok) :: (L + 1 + 1, op) :: (L + 1, oc) :: (tp, oT) :: (C, instObj 328 dC) :: (dC, circO w kL pL nD t1 t2 t3) :: (kL, W.listOf ks n1) :: (pL, W.listOf ps n2) :: (nD, knownO w [] n3) :: (R3 ++ tl)))
  (hok : ∃ v, ok.data = Data.cell v) (hop : ∃ v, op.data = Data.cell v) (hoc : oc.data = Data.cell (some (.ref C)))
  (e0 : LtN (L + 1 + 1 + 1) tp) (e1 : LtN tp CL) (e2 : LtN CL dC) (o1 : LtN dC C) (o2 : LtN C kL) (o3 : LtN kL pL) (o4 : LtN pL nD) (lo3 : (nD == sysModules) = false)
  (hc : CircOk (List.replicate 4 none) ks ps [] tps) (hsub : ∀ p ∈ tps, p ∈ R3) (hiv : IntsAre iv [2, 3, 4, 5]) (hIN : (IN, W.listOf iv.toArray ni) ∈ R3) (hCL : (CL, W.listOf wv.toArray 0) ∈ R3) (hws : IntsAre wv ws) (h24 : ws.length ≤ 24)
  (hT : oT.IsDictOf (SK w) (tapeKvs CL sp tsp)) (hsp : sp ≤ 1)
  (f1 : ∀ p ∈ R3, @Ne Nat p.1 C) (f2 : ∀ p ∈ R3, @Ne Nat p.1 dC) (f3 : ∀ p ∈ R3, @Ne Nat p.1 kL) (f4 : ∀ p ∈ R3, @Ne Nat p.1 pL) (f5 : ∀ p ∈ R3, @Ne Nat p.1 nD) (f6 : ∀ p ∈ R3, @Ne Nat p.1 tp) (f7 : ∀ q ∈ R3, @Ne Nat q.1 (L + 1 + 1 + 1) ∧ @Ne Nat q.1 (L + 1 + 1))
  (hMk : (Mk, instObj 220 dM) ∈ tl) (hdM : (dM, dictOf [ent w "circuit" tc (.ref C), ent w "n" tn nv] nM) ∈ tl) (hKY : (KY, W.listOf (refsOf kx).toArray nk) ∈ tl) (hasc : KeysAsc tl kx) (hk4 : kx.length ≤ 4) (hH : HashApart (tupleKind (IK w)) kx)
  (hne : ∀ q ∈ tl, ∀ p ∈ ((L + 1 + 1 + 1, ok) :: (L + 1 + 1, op) :: (L + 1, oc) :: (tp, oT) :: (C, instObj 328 dC) :: (dC, circO w kL pL nD t1 t2 t3) :: (kL, W.listOf ks n1) :: (pL, W.listOf ps n2) :: (nD, knownO w [] n3) :: R3 : Led), @Ne Nat q.1 p.1)
  (fin : ∀ h' tk' m', Fr h₀ L h' m' → Q (.ret (.bool true)) { s with heap := h', toks := tk' }) :
  wpAny (model PP w) (callerA.deeper (lawE L fa ccd)) (execs (lawB.drop 5) (lawE L fa ccd)) Q (lawX w L fa ccd E) s := by
  have off : ∀ b : Addr, (∀ p ∈ R3, @Ne Nat p.1 b) → (∀ q ∈ tl, @Ne Nat q.1 b) → ∀ p ∈ R3 ++ tl, p.1 ≠ b := fun b h1 h2 p hp => (List.mem_append.mp hp).elim (h1 p) (h2 p)
  have r1 := off C f1 fun q hq => hne q hq _ (.tail _ (.tail _ (.tail _ (.tail _ (.head _)))))
  have r2 := off dC f2 fun q hq => hne q hq _ (.tail _ (.tail _ (.tail _ (.tail _ (.tail _ (.head _))))))
  have r3 := off kL f3 fun q hq => hne q hq _ (.tail _ (.tail _ (.tail _ (.tail _ (.tail _ (.tail _ (.head _)))))))
  have r4 := off pL f4 fun q hq => hne q hq _ (.tail _ (.tail _ (.tail _ (.tail _ (.tail _ (.tail _ (.tail _ (.head _))))))))
  have r5 := off nD f5 fun q hq => hne q hq _ (.tail _ (.tail _ (.tail _ (.tail _ (.tail _ (.tail _ (.tail _ (.tail _ (.head _)))))))))
  have r6 := off tp f6 fun q hq => hne q hq _ (.tail _ (.tail _ (.tail _ (.head _))))
  have r7 := off (L + 1 + 1 + 1) (fun q hq => (f7 q hq).1) fun q hq => hne q hq _ (.head _)
  have r8 := off (L + 1 + 1) (fun q hq => (f7 q hq).2) fun q hq => hne q hq _ (.tail _ (.head _))
  clear off f1 f2 f3 f4 f5 f6 f7 hne
  have hkx : KeysAsc (R3 ++ tl) kx := hasc.mono fun p hp => List.mem_append_right _ hp
  have inr : ∀ {q : Addr × Obj}, q ∈ tl → q ∈ R3 ++ tl := fun h => List.mem_append_right _ h
  have inl : ∀ {q : Addr × Obj}, q ∈ R3 → q ∈ R3 ++ tl := fun h => List.mem_append_left _ h
  have hMk := inr hMk
  have hdM := inr hdM
  have hKY := inr hKY
  have hIN := inl hIN
  have hCL := inl hCL
  have hsub : ∀ p ∈ tps, p ∈ R3 ++ tl := fun p hp => inl (hsub p hp)
  clear inr inl hasc
  generalize R3 ++ tl = R at N r1 r2 r3 r4 r5 r6 r7 r8 hkx hMk hdM hKY hIN hCL hsub
  refine mats_b w K0 X T F N hop hoc o1 o2 o3 o4 r1 r2 r3 r4 r5 lo3 e0 (by omega) (fun q hq => ⟨r7 q hq, r8 q hq⟩) hc hsub (by decide) hT (by omega) (by omega) (by omega) (by omega) (by omega) r6 hCL hws h24 hIN hiv (by decide) (by omega) hKY hkx hk4 hH ?_
  intro Am mD Bm mE K1 K2 KP xs1 xs2 m1 m2 k1 k2 kk op' hh1 tk1 G1 ks1 ps1 ys1 u1 u2 u3 tl1 F1 N1 hop' hc1 hg1 hl1 hAm hmD loD hsk1 hV1 hBm hmE loE hsk2 hV2 hKP hK1 hK2 lo1 lo2 ne1 ne2
  have gl1 := hg1.len
  rw [List.length_replicate] at gl1
  have s1 := off_tl r1 hg1 (by simp)
  have s2 := off_tl r2 hg1 (by simp)
  have s3 := off_tl r3 hg1 (by simp)
  have s4 := off_tl r4 hg1 (by simp)
  have s5 := off_tl r5 hg1 (by simp)
  have s7 : ∀ p ∈ R ++ tl1, @Ne Nat p.1 (L + 1 + 1 + 1) := fun p hp => (List.mem_append.mp hp).elim (r7 p) (hl1 p)
  have hkx1 : KeysAsc (R ++ tl1) kx := hkx.mono fun p hp => List.mem_append_left _ hp
  have inr : ∀ {q : Addr × Obj}, q ∈ tl1 → q ∈ R ++ tl1 := fun h => List.mem_append_right _ h
  have inl : ∀ {q : Addr × Obj}, q ∈ R → q ∈ R ++ tl1 := fun h => List.mem_append_left _ h
  have hMk := inl hMk
  have hdM := inl hdM
  have hKY := inl hKY
  have hIN := inl hIN
  have hAm := inr hAm
  have hmD := inr hmD
  have hBm := inr hBm
  have hmE := inr hmE
  have hKP := inr hKP
  have hK1 := inr hK1
  have hK2 := inr hK2
  have hsub1 := sub_tl (tl := tl1) hsub
  clear inr inl hkx hCL hsub r1 r2 r3 r4 r5 r6 r7 r8 hl1
  generalize tps ++ tl1 = tps1 at hc1 hsub1
  generalize R ++ tl1 = R1 at N1 s1 s2 s3 s4 s5 s7 hkx1 hMk hdM hKY hIN hAm hmD hBm hmE hKP hK1 hK2 hsub1
  have N1' : News h₀ L hh1 ((C, instObj 328 dC) :: (dC, circO w kL pL nD t1 t2 t3) :: (kL, W.listOf ks1 u1) :: (pL, W.listOf ps1 u2) :: (nD, knownO w ys1 u3) :: ((L + 1 + 1 + 1, ok) :: (L + 1 + 1, op') :: (L + 1, oc) :: R1)) :=
    News.swap [(L + 1 + 1 + 1, ok), (L + 1 + 1, op'), (L + 1, oc)] [(C, instObj 328 dC), (dC, circO w kL pL nD t1 t2 t3), (kL, W.listOf ks1 u1), (pL, W.listOf ps1 u2), (nD, knownO w ys1 u3)] N1
  have tl3 : ∀ {q : Addr × Obj} {a b c : Addr × Obj}, q ∈ R1 → q ∈ a :: b :: c :: R1 := fun h => .tail _ (.tail _ (.tail _ h))
  have q9 : ∀ b : Addr, LtN (L + 1 + 1 + 1) b → (∀ p ∈ R1, p.1 ≠ b) → ∀ p ∈ (L + 1 + 1 + 1, ok) :: (L + 1 + 1, op') :: (L + 1, oc) :: R1, p.1 ≠ b := fun b h2 h3 =>
    off_cons (by show @Ne Nat _ _; (try dsimp only); omega) (off_cons (by show @Ne Nat _ _; (try dsimp only); omega) (off_cons (by show @Ne Nat _ _; (try dsimp only); omega) h3))
  have hx4 := Nat.le_trans hsk1.len hk4
  have hy4 := Nat.le_trans hsk2.len hk4
  refine told_b w (nM := nM) K0 X T F1 N1' o1 o2 o3 o4 (q9 C (by omega) s1) (q9 dC (by omega) s2) (q9 kL (by omega) s3) (q9 pL (by omega) s4) (q9 nD (by omega) s5) lo3 hc1 (fun p hp => tl3 (hsub1 p hp)) (by omega) (tl3 hMk) (tl3 hdM) (tl3 hAm) (tl3 hmD) loD ((hsk1.asc hkx1).mono fun p hp => tl3 hp) hV1 hx4 (tl3 hBm) (tl3 hmE) loE ((hsk2.asc hkx1).mono fun p hp => tl3 hp) hV2 hy4 (Nat.le_trans (merged_le hsk1 hsk2 hkx1.nodup) hk4) (hH.sublist (hsk1.hashes w)) (hH.sublist (hsk2.hashes w)) ?_
  intro TL tv tg hh2 tk2 G2 ks2 ps2 ys2 v1 v2 v3 tl2 F2 N2 hc2 hg2 hTL htv htg ht11 htold
  have gl2 := hg2.len
  have g2' : Grew [C, dC, kL, pL, nD] R1 100 G1 G2 tl2 := hg2.sub fun p hp => tl3 hp
  have w1 := off_tl s1 g2' (by simp)
  have w2 := off_tl s2 g2' (by simp)
  have w3 := off_tl s3 g2' (by simp)
  have w4 := off_tl s4 g2' (by simp)
  have w5 := off_tl s5 g2' (by simp)
  have w7 : ∀ p ∈ R1 ++ tl2, @Ne Nat p.1 (L + 1 + 1 + 1) := fun p hp => (List.mem_append.mp hp).elim (s7 p) fun h => Ne.symm ((hg2.new p h).2 _ (.head _))
  have hkx2 : KeysAsc (R1 ++ tl2) kx := hkx1.mono fun p hp => List.mem_append_left _ hp
  have inl : ∀ {q : Addr × Obj}, q ∈ R1 → q ∈ R1 ++ tl2 := fun h => List.mem_append_left _ h
  have hMk := inl hMk
  have hdM := inl hdM
  have hKY := inl hKY
  have hIN := inl hIN
  have hAm := inl hAm
  have hmD := inl hmD
  have hBm := inl hBm
  have hmE := inl hmE
  have hKP := inl hKP
  have hK1 := inl hK1
  have hK2 := inl hK2
  have hTL := List.mem_append_right R1 hTL
  have hsub2 := sub_tl (tl := tl2) hsub1
  have N2' : News h₀ L hh2 ((L + 1 + 1 + 1, ok) :: (L + 1 + 1, op') :: (L + 1, oc) :: ((C, instObj 328 dC) :: (dC, circO w kL pL nD t1 t2 t3) :: (kL, W.listOf ks2 v1) :: (pL, W.listOf ps2 v2) :: (nD, knownO w ys2 v3) :: (R1 ++ tl2))) :=
    News.swap [(C, instObj 328 dC), (dC, circO w kL pL nD t1 t2 t3), (kL, W.listOf ks2 v1), (pL, W.listOf ps2 v2), (nD, knownO w ys2 v3)] [(L + 1 + 1 + 1, ok), (L + 1 + 1, op'), (L + 1, oc)] (c := R1 ++ tl2) N2
  have hfirst := hg1.first hg2
  clear inl hkx1 hsub1 s1 s2 s3 s4 s5 s7 tl3 N1' q9
  generalize tps1 ++ tl2 = tps2 at hc2 hsub2
  generalize R1 ++ tl2 = R2 at N2' w1 w2 w3 w4 w5 w7 hkx2 hMk hdM hKY hIN hAm hmD hBm hmE hKP hK1 hK2 hTL hsub2
  refine loop_b w (kx := kx) (nk := nk) (nM := nM) (dM := dM) (tc := tc) (tn := tn) (nv := nv) K0 X T F2 N2' hok hop' hoc o1 o2 o3 o4 w1 w2 w3 w4 w5 lo3 (by omega) (OffK.of w7) hc2 hsub2 (by omega) hIN hiv (by omega) hfirst hAm hmD loD (hsk1.asc hkx2) (hV1.up (by omega)) hx4 hBm hmE loE (hsk2.asc hkx2) (hV2.up (by omega)) hy4 hTL htv htg (by omega) (fun ρ => (htold ρ).trans (plain_law (lit_m1 ρ G2) hsk1 hsk2 hkx2.nodup).symm) ?_
  intro u ok' hh3 tk3 F3 hok' N3
  have tl7 : ∀ {q : Addr × Obj} {a b c d e f g : Addr × Obj}, q ∈ R2 → q ∈ a :: b :: c :: d :: e :: f :: g :: R2 := fun h => .tail _ (.tail _ (.tail _ (.tail _ (.tail _ (.tail _ (.tail _ h))))))
  exact end_b w (nM := nM) (ng := G1.length + 2) (rest := (L + 1 + 1 + 1, ok') :: (L + 1, oc) :: ((C, instObj 328 dC) :: (dC, circO w kL pL nD t1 t2 t3) :: (kL, W.listOf ks2 v1) :: (pL, W.listOf ps2 v2) :: (nD, knownO w ys2 v3) :: R2)) K0 X T F3 (News.swap [(L + 1 + 1 + 1, ok')] [(L + 1 + 1, op')] N3) hop' (tl7 hMk) (tl7 hdM) (tl7 hAm) (tl7 hmD) loD ((hsk1.asc hkx2).mono fun p hp => tl7 hp) hV1 hx4 (tl7 hBm) (tl7 hmE) loE ((hsk2.asc hkx2).mono fun p hp => tl7 hp) (tl7 hKP) (tl7 hK1) (tl7 hK2) lo1 lo2 ne1 ne2 (tl7 hKY) (hkx2.mono fun p hp => tl7 hp) hk4 hsk1 fun h' tk' F' => fin h' tk' _ F'
theorem law_b (w : World) {p : Program} {loose : List Str} {mean : ExcName → Option Value} {mg mb : Str → Option Value}
  {fa : Addr} {ccd : Value} {h₀ : Heap} {L : Addr} {mB : Str → Option Value} {s : Shared} {Q : Flow → Shared → Prop} {E : Value → Shared → Prop}
  {sc : Addr} {sv : List Value} {ns : List Int} {ok op oc : Obj}
  (K0 : Below callerA h₀ [] h₀) (X : (hd.heap_1 w.params).In h₀) (T : Top p loose mean mg mb h₀)
  (F : Fr h₀ L s.heap (lawS0 mB sc))
  (hN : News h₀ L s.heap [(L + 1 + 1 + 1, ok), (L + 1 + 1, op), (L + 1, oc)])
  (hok : ∃ v, ok.data = Data.cell v) (hop : ∃ v, op.data = Data.cell v) (hoc : oc.data = Data.cell none)
  (hL : h₀.IsList sc sv.toArray) (hI : IntsAre sv ns) (h63 : ns.length ≤ 63)
  (fin : ∀ h' tk' m', Fr h₀ L h' m' → Q (.ret (.bool true)) { s with heap := h', toks := tk' }) :
  wpAny (model PP w) (callerA.deeper (lawE L fa ccd)) (execs lawB (lawE L fa ccd)) Q (lawX w L fa ccd E) s := by
  with_reducible refine start_b w K0 X T F hN hok hop hoc hL hI h63 ?_
  intro C dC kL pL nD tp CL t1 t2 t3 n3 oc' wv ws hoc' hws h24 e0 e1 e2 o1 o2 o3 o4 lo3 IN iv ni ks1 ps1 n11 n21 tl1 R3 oT' sp' t' ar tar h' tk' F1 N1 hc1 hsub1 hiv hIN hCL hT' hsp' har f1 f2 f3 f4 f5 f6 f7
  rcases har with rfl | rfl
  · refine keys_b1 w K0 X T F1 N1 hoc' ?_
    intro Mk dM KY kx nk nM tc tn nv h2 tk2 tl F2 N2 hMk hdM hKY hasc hk4 hH hne
    exact tail_b w K0 X T F2 N2 hok hop hoc' e0 e1 e2 o1 o2 o3 o4 lo3 hc1 hsub1 hiv hIN hCL hws h24 hT' hsp' f1 f2 f3 f4 f5 f6 f7 hMk hdM hKY hasc hk4 hH hne fin
  · refine keys_b2 w K0 X T F1 N1 hoc' ?_
    intro Mk dM KY kx nk nM tc tn nv h2 tk2 tl F2 N2 hMk hdM hKY hasc hk4 hH hne
    exact tail_b w K0 X T F2 N2 hok hop hoc' e0 e1 e2 o1 o2 o3 o4 lo3 hc1 hsub1 hiv hIN hCL hws h24 hT' hsp' f1 f2 f3 f4 f5 f6 f7 hMk hdM hKY hasc hk4 hH hne fin
end Mine
end
open PySem PySem.W PyProof.Rows PySem.Calls
set_option maxRecDepth 100000
set_option maxHeartbeats 1500000
set_option linter.unusedVariables false
namespace Mine
theorem Fr.bound {h₀ h : Heap} {L : Addr} {k : Str → Option NameKind} {n : Str} {v : Value} {m : Str → Option Value} (F : Fr h₀ L h (bindL k [(n, v)] m)) (hk : k n = some .local) : Fr h₀ L h (fun y => if y = n then some v else m y) := by
  unfold bindL at F
  rw [if_pos hk] at F
  exact F
theorem K0_of {h₀ h' h : Heap} {L : Addr} {l : Led} (_ : News h₀ L h l) (e : h' = h₀) (K : Below callerA h' [] h') : Below callerA h₀ [] h₀ := e ▸ K
theorem KX_of {h₀ h' h : Heap} {L : Addr} {l : Led} (_ : News h₀ L h l) {F : Frag} (e : h' = h₀) (K : F.In h') : F.In h₀ := e ▸ K
theorem hL_of {h₀ h' h : Heap} {L : Addr} {l : Led} (_ : News h₀ L h l) {a : Addr} {v : Array Value} (e : h' = h₀) (K : h'.IsList a v) : h₀.IsList a v := e ▸ K
theorem law_c (w : World) {p : Program} {loose : List Str} {mean : ExcName → Option Value} {mg mb : Str → Option Value}
  {fa : Addr} {ccd : Value} {h₀ h : Heap} {tk : Nat} {L : Addr} {mB : Str → Option Value} {s : Shared} {Q : Flow → Shared → Prop} {E : Value → Shared → Prop}
  {sc : Addr} {sv : List Value} {ns : List Int} {ok op oc : Obj}
  (K0 : Below callerA h₀ [] h₀) (X : (hd.heap_1 w.params).In h₀) (T : Top p loose mean mg mb h₀)
  (F : Fr h₀ L h (lawS0 mB sc))
  (hN : News h₀ L h [(L + 1 + 1 + 1, ok), (L + 1 + 1, op), (L + 1, oc)])
  (hok : ∃ v, ok.data = Data.cell v) (hop : ∃ v, op.data = Data.cell v) (hoc : oc.data = Data.cell none)
  (hL : h₀.IsList sc sv.toArray) (hI : IntsAre sv ns) (h63 : ns.length ≤ 63)
  (fin : ∀ h' tk' m', Fr h₀ L h' m' → Q (.ret (.bool true)) { s with heap := h', toks := tk' }) :
  wpAny (model PP w) (callerA.deeper (lawE L fa ccd)) (execs lawB (lawE L fa ccd)) Q (lawX w L fa ccd E) { s with heap := h, toks := tk } := by
  with_reducible refine law_b w (s := { s with heap := h, toks := tk }) K0 X T F hN hok hop hoc hL hI h63 ?_
  exact fin
end Mine
theorem PySem.Challenge.cw_nu0274_01_holds : PySem.Challenge.rw_nu0274_01.Holds := by
  refine Mine.hd ?_
  k_go0
  all_goals try k_fold
  rename_i kF ok op oc hok hop hoc kN kX
  rename Below callerA _ [] _ => K0
  rename Frag.In _ _ => KX
  rename Top _ _ _ _ _ _ => kT
  rename Heap.IsList _ _ _ => hL
  rename IntsAre _ _ => hI
  rename ¬ _ < _ => h63
  have hF := Mine.Fr.bound (n := Str.ofString "script") kF (by rfl)
  have hC := hoc.trans (show _ = Data.cell none by rfl)
  have h63' := Int.ofNat_le.mp (Int.not_lt.mp h63)
  have hK := Mine.K0_of kN rfl K0
  have hX := Mine.KX_of kN rfl KX
  have hL' := Mine.hL_of kN rfl hL
  show wpAny (model Mine.PP _) (callerA.deeper (Mine.lawE _ _ _)) (execs Mine.lawB (Mine.lawE _ _ _)) _ (Mine.lawX _ _ _ _ _) _
  with_reducible refine Mine.law_c _ hK hX kT hF kN ⟨_, hok⟩ ⟨_, hop⟩ hC hL' hI h63' ?_
  intro h' tk' m' F'
  k_steps
