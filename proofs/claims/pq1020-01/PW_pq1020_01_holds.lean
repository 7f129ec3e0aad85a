import PyProof.Rows.All
import Wide.All
import OpenK.AllK
import Wide.FinOn
import Lean
import PySem.Challenge.RW_pq1020_01
open PySem PySem.W PyProof.Rows
set_option Elab.async false
set_option maxRecDepth 100000
set_option maxHeartbeats 0

namespace Mine

def headed (l : List Nat) : Bool := match l with | c :: _ => (Nat.beq c 10 || Nat.beq c 40) | [] => false
def plainCps (l : List Nat) : Bool := headed l && (l.all (fun c => !(Nat.beq c 123 || Nat.beq c 125))) && (l.any (fun c => Nat.ble c 32) || l.all (fun c => !Nat.beq c 46))
theorem not_contains {x : PySem.Str} (hx : headed x.cps.toList = true) : ∀ {ns : List PySem.Str}, ns.all (fun n => !headed n.cps.toList) = true → ns.contains x = false
  | [], _ => rfl
  | n :: r, h => by
    simp only [List.all_cons, Bool.and_eq_true, Bool.not_eq_true'] at h
    have : (x == n) = false := by
      cases q : x == n with
      | false => rfl
      | true => rw [eq_of_beq q, h.1] at hx; cases hx
    rw [List.contains_cons, this, Bool.false_or]
    exact not_contains hx h.2
theorem headed_cons {l : List Nat} (h : headed l = true) : ∃ c r, l = c :: r ∧ c ≠ 95 := by
  cases l with
  | nil => cases h
  | cons c r =>
    refine ⟨c, r, rfl, ?_⟩
    rintro rfl
    cases h
theorem not_opens {x : PySem.Str} (h : headed x.cps.toList = true) : x.opensWith "__" = false := by
  obtain ⟨c, r, e, hc⟩ := headed_cons h
  cases q : x.opensWith "__" with
  | false => rfl
  | true =>
    exfalso
    unfold Str.opensWith at q
    have q := congrArg Array.toList (eq_of_beq q)
    have e2 : (Str.ofString "__").cps = #[95, 95] := by decide +kernel
    rw [e2] at q
    simp only [Array.toList_extract, e, List.extract_eq_take_drop] at q
    simp at q
    exact hc q.1
theorem plain_str {k : Look} (hf : k.foot = none) (hb : k.but = none) {x : PySem.Str} (h : plainCps x.cps.toList = true) : k.str x = true := by
  unfold plainCps at h
  simp only [Bool.and_eq_true] at h
  obtain ⟨⟨h1, h2⟩, h3⟩ := h
  have ha : attrL x = true := by
    unfold attrL
    rw [not_contains h1 (by decide +kernel), not_opens h1]
    rfl
  have hw : k.word x = true := by
    unfold Look.word
    rw [ha, hf, hb, not_contains h1 (ns := ["__dict__", "__getstate__", "__getattribute__", "__reduce__", "__reduce_ex__"]) (by decide +kernel)]
    simp
  have hr : roadStr x = false := by
    unfold roadStr
    rw [← Array.any_toList, ← Array.any_toList, ← Array.any_toList]
    have g1 : (x.cps.toList.any fun c => c == 123 || c == 125) = false := by
      rw [List.any_eq_false]
      intro c hc
      have := List.all_eq_true.mp h2 c hc
      simp only [Bool.not_eq_true', Bool.or_eq_false_iff] at this
      simp only [Bool.or_eq_true, beq_iff_eq, not_or]
      exact ⟨Nat.ne_of_beq_eq_false this.1, Nat.ne_of_beq_eq_false this.2⟩
    rw [g1, Bool.false_or]
    cases hp : x.cps.toList.any (fun c => Nat.ble c 32) with
    | true =>
      have : (x.cps.toList.any fun x => decide (x ≤ 32)) = true := by
        rw [List.any_eq_true] at hp ⊢
        obtain ⟨c, hc, q⟩ := hp
        exact ⟨c, hc, decide_eq_true (Nat.le_of_ble_eq_true q)⟩
      rw [this]; simp
    | false =>
      rw [hp, Bool.false_or] at h3
      have : (x.cps.toList.any fun x => x == 46) = false := by
        rw [List.any_eq_false]
        intro c hc
        have := List.all_eq_true.mp h3 c hc
        simp only [Bool.not_eq_true'] at this
        simp only [beq_iff_eq]
        exact Nat.ne_of_beq_eq_false this
      rw [this]; rfl
  unfold Look.str
  rw [hw, hr]
  simp
def easyE (k : Look) : Nat → PySem.Expr → Bool
  | 0, _ => false
  | n + 1, e => match e with
    | .Constant c _ _ => (match c with | .str x => plainCps x.cps.toList || k.str x | _ => true)
    | .Tuple es _ _ => es.all (easyE k n)
    | _ => false
theorem easyE_ok {k : Look} (hf : k.foot = none) (hb : k.but = none) : ∀ n e, easyE k n e = true → noRoadL k e = true
  | 0, _, h => by cases h
  | n + 1, e, h => by
    unfold easyE at h
    split at h
    · split at h
      · rename_i x
        rw [noRoadL]
        rcases Bool.or_eq_true_iff.mp h with h | h
        · exact plain_str hf hb h
        · exact h
      · rename_i hc
        rw [noRoadL]
        exact hc
    · rename_i es _ _
      rw [noRoadL]
      have key : ∀ l : List PySem.Expr, l.all (easyE k n) = true → noRoadLs k l = true := by
        intro l
        induction l with
        | nil => intro _; rfl
        | cons e r ih =>
          intro h
          simp only [List.all_cons, Bool.and_eq_true] at h
          rw [noRoadLs, easyE_ok hf hb n e h.1, ih h.2]
          rfl
      exact key es h
    · cases h
def easyS (k : Look) : PySem.Stmt → Bool
  | .Assign ts v _ => k.stores ts && noRoadLs k ts && (easyE k 4 v || noRoadL k v)
  | s => noRoadLS k s
theorem easyS_ok {k : Look} (hf : k.foot = none) (hb : k.but = none) (s : PySem.Stmt) (h : easyS k s = true) : noRoadLS k s = true := by
  unfold easyS at h
  split at h
  · simp only [Bool.and_eq_true, Bool.or_eq_true] at h
    rw [noRoadLS]
    have : noRoadL k _ = true := h.2.elim (easyE_ok hf hb 4 _) id
    rw [h.1.1, h.1.2, this]
    rfl
  · exact h
theorem easy_all {k : Look} (hf : k.foot = none) (hb : k.but = none) : ∀ {l : List PySem.Stmt}, l.all (easyS k) = true → noRoadLSs k l = true
  | [], _ => rfl
  | s :: r, h => by
    simp only [List.all_cons, Bool.and_eq_true] at h
    rw [noRoadLSs, easyS_ok hf hb s h.1, easy_all hf hb h.2]
    rfl
theorem well : PySem.Challenge.rw_pq1020_01.wellSaid = true := by
  unfold OpenLaw.wellSaid OpenRow.wellSaid OpenRow.partSaid looksOpen
  repeat' with_reducible refine look_both ?_ ?_
  all_goals first | (with_reducible refine easy_all rfl rfl ?_; k_qdec) | k_qdec
end Mine

namespace Mine
def topRunT (tb : String → Option Builtin) (p : Program) (w : World) (n₀ : Nat) (ann : Option Value) : Nat → SharedT → Thread → Option SharedT
  | 0, _, _ => none
  | n + 1, s, t => match through t with
    | true => some s
    | false => match stepOk n₀ ann t with
      | false => none
      | true => match stepT (denote tb) p w s t with
        | some (s', t') => topRunT tb p w n₀ ann n s' t'
        | none => none
theorem topRun_of {tb : String → Option Builtin} {p : Program} {w : World} {n₀ : Nat} {ann : Option Value} : ∀ {n : Nat} {s s' : SharedT} {t : Thread},
    topRunT tb p w n₀ ann n s t = some s' → topRun tb p w n₀ ann n s.abs t = some s'.abs
  | 0, _, _, _, h => by cases h
  | n + 1, s, s', t, h => by
    unfold topRunT at h
    unfold topRun
    cases ht : through t with
    | true => rw [ht] at h; cases h; rfl
    | false =>
      rw [ht] at h
      cases hk : stepOk n₀ ann t with
      | false => rw [hk] at h; cases h
      | true =>
        rw [hk] at h
        cases hs : stepT (denote tb) p w s t with
        | none => rw [hs] at h; cases h
        | some r => obtain ⟨s₂, t₂⟩ := r; rw [hs] at h; dsimp only; rw [stepT_spec hs]; exact topRun_of h
noncomputable def topRunU (tb : String → Option Builtin) (p : Program) (w : World) (n₀ : Nat) (ann : Option Value) : Nat → SharedT → Thread → Option SharedT
  | 0, _, _ => none
  | n + 1, s, t => match through t with
    | true => some s
    | false => match PySem.W.Fast.tw6613529449190102663 n₀ ann t with
      | false => none
      | true => match PySem.W.Fast.tw10156331382660048174 (PySem.W.Fast.tw11892475500146522536 tb) p w s t with
        | some (s', t') => topRunU tb p w n₀ ann n s' t'
        | none => none
theorem topRunU_eq {tb : String → Option Builtin} {p : Program} {w : World} {n₀ : Nat} {ann : Option Value} : ∀ {n : Nat} {s : SharedT} {t : Thread}, topRunT tb p w n₀ ann n s t = topRunU tb p w n₀ ann n s t
  | 0, _, _ => rfl
  | n + 1, s, t => by
    unfold topRunT topRunU
    rw [← PySem.W.Fast.te6613529449190102663, ← PySem.W.Fast.te10156331382660048174, ← PySem.W.Fast.te11892475500146522536]
    cases through t with
    | true => rfl
    | false =>
      cases stepOk n₀ ann t with
      | false => rfl
      | true =>
        cases stepT (denote tb) p w s t with
        | none => rfl
        | some r => exact topRunU_eq
def grow : List Obj → BT → Nat → BT
  | [], t, _ => t
  | o :: r, t, n => grow r (t.ins n o) (n + 1)
noncomputable def bootT (P : Params) : BT := grow (boot_heap P).objs.toList BT.nil 0
noncomputable def S0 (w : World) (os : OsState) : SharedT := ⟨bootT w.params, (boot_heap w.params).objs.size, (boot_heap w.params).life, Array.mk [], boot_drawn, boot_toks, os⟩
theorem boot_abs (P : Params) : absHeap (bootT P) (boot_heap P).objs.size (boot_heap P).life = boot_heap P := by kernel_rfl
theorem boot_main (P : Params) : ((boot_heap P).isNs mainGlobals && ((Array.mk [] : Array GenState).size == 0)) = true := by kernel_rfl
def getT (t : SharedT) (a : Nat) : Option Obj := match Nat.blt a t.n with
  | true => match t.tree.get a with
    | some o => alive o
    | none => alive default
  | false => none
theorem getT_eq (t : SharedT) : t.abs.heap.get? = getT t := by
  funext a
  show (absHeap t.tree t.n t.life).get? a = getT t a
  unfold getT
  cases hb : Nat.blt a t.n with
  | true =>
    have h : a < t.n := Nat.le_of_ble_eq_true hb
    cases hg : t.tree.get a with
    | some o => exact abs_get h hg
    | none =>
      unfold Heap.get?
      rw [absHeap_at, if_pos h, hg]
      rfl
  | false =>
    have h : ¬ a < t.n := fun q => by
      have : Nat.blt a t.n = true := Nat.ble_eq_true_of_le q
      rw [this] at hb
      cases hb
    exact abs_get_none h
theorem left_boot {p q p' q' : Program} {loose : List PySem.Str} {X : Program → Shared → Bool} {as : List Addr} {Ya : World → List (Option Obj)} {N : Nat} {g0 : Bool}
    (hp : p = p') (hq : q = q') (e : opening p = plainProg p.main.scope.names) (hN : Nat.ble 600 N = true) (f : ∀ s, fenceModules? p s = some s)
    (h : ∀ (w : World) (os : OsState), (topRunU PySem.W.Fast.tw14364793385576792824 p w (boot_heap w.params).objs.size (PySem.W.Fast.tw8920871248978507458 (boot_heap w.params) mainGlobals "__annotations__") N (S0 w os) (topStub p)).map
        (fun t => (staticsOk (PySem.W.Fast.tw5923862056798008813 p.main.body) (boot_heap w.params) t.abs.heap && namesBound p t.abs.heap && gensDone t.abs && laidKept (boot_heap w.params) t.abs.heap,
          as.map (getT t))) = some (true, Ya w))
    (h' : ∀ (w : World) (os : OsState), (topRunU PySem.W.Fast.tw14364793385576792824 p' w (boot_heap w.params).objs.size (PySem.W.Fast.tw8920871248978507458 (boot_heap w.params) mainGlobals "__annotations__") N (S0 w os) (topStub p')).map
        (fun t => PySem.W.Fast.tw4187177175401517315 q' loose (PySem.W.Fast.tw5923862056798008813 p'.main.body) (X q') g0 t.abs) = some (openGood q' loose)) :
    LeftO p q loose (X q) (fun s => as.map s.heap.get?) Ya N g0 := fun w => by
  obtain ⟨⟨h0, gs, d, k, os⟩, e1, e2⟩ := Option.map_eq_some_iff.mp (boot_open e hN f w)
  obtain ⟨rfl, rfl, rfl, rfl⟩ : h0 = boot_heap w.params ∧ gs = Array.mk [] ∧ d = boot_drawn ∧ k = boot_toks := by simpa using e2
  have h1 := h w os
  have h2 := h' w os
  rw [← hp, ← hq, ← PySem.W.Fast.te14364793385576792824, ← PySem.W.Fast.te8920871248978507458, ← PySem.W.Fast.te5923862056798008813, ← PySem.W.Fast.te4187177175401517315] at h2
  rw [← PySem.W.Fast.te14364793385576792824, ← PySem.W.Fast.te8920871248978507458, ← PySem.W.Fast.te5923862056798008813] at h1
  obtain ⟨t, ht, hv⟩ := Option.map_eq_some_iff.mp h1
  obtain ⟨t', ht', hv'⟩ := Option.map_eq_some_iff.mp h2
  rw [ht] at ht'
  obtain rfl : t = t' := Option.some.inj ht'
  rw [← topRunU_eq] at ht
  have r := topRun_of ht
  have eS : (S0 w os).abs = ⟨boot_heap w.params, Array.mk [], boot_drawn, boot_toks, os⟩ := by
    unfold S0 SharedT.abs
    rw [boot_abs]
  rw [eS] at r
  obtain ⟨l1, l3⟩ : _ ∧ _ := by simpa only [Prod.mk.injEq] using hv
  unfold openEnds
  rw [e1]
  have ht2 : topFrom treeTable p w N ⟨boot_heap w.params, Array.mk [], boot_drawn, boot_toks, os⟩ = some t.abs := by
    unfold topFrom
    dsimp only
    rw [boot_main, r]
    show (match staticsOk (importedModules p.main.body) (boot_heap w.params) t.abs.heap && namesBound p t.abs.heap && gensDone t.abs && laidKept (boot_heap w.params) t.abs.heap with | true => _ | false => _) = _
    rw [l1]
  show (topFrom treeTable p w N ⟨boot_heap w.params, Array.mk [], boot_drawn, boot_toks, os⟩).map _ = _
  rw [ht2]
  show some (openSeen q loose (importedModules p.main.body) (X q) g0 t.abs, as.map t.abs.heap.get?) = _
  rw [hv', getT_eq, l3]
def q : Program := PySem.W.view PySem.Challenge.pw_pq1020_01 [1,2,3,4,5,6,7,8,10,11,13,14,15,17,18,19,20,21,22,23]
theorem q_eq : q = PySem.W.view PySem.W.Fast.tw15728551851225233070 [1,2,3,4,5,6,7,8,10,11,13,14,15,17,18,19,20,21,22,23] := by
  unfold q
  rw [PySem.W.Fast.te15728551851225233070]
theorem looks2 (w : World) (os : OsState) : (topRunU PySem.W.Fast.tw14364793385576792824 PySem.W.Fast.tw15728551851225233070 w (boot_heap w.params).objs.size (PySem.W.Fast.tw8920871248978507458 (boot_heap w.params) mainGlobals "__annotations__") 4076 (S0 w os) (topStub PySem.W.Fast.tw15728551851225233070)).map
        (fun t => PySem.W.Fast.tw4187177175401517315 (PySem.W.view PySem.W.Fast.tw15728551851225233070 [1,2,3,4,5,6,7,8,10,11,13,14,15,17,18,19,20,21,22,23]) [] (PySem.W.Fast.tw5923862056798008813 PySem.W.Fast.tw15728551851225233070.main.body) (fun s => xlAt (PySem.W.view PySem.W.Fast.tw15728551851225233070 [1,2,3,4,5,6,7,8,10,11,13,14,15,17,18,19,20,21,22,23]) [] s && recOk (RowW.records (OpenRow.toRowW (OpenLaw.row PySem.Challenge.rw_pq1020_01))) s) true t.abs) = some (openGood (PySem.W.view PySem.W.Fast.tw15728551851225233070 [1,2,3,4,5,6,7,8,10,11,13,14,15,17,18,19,20,21,22,23]) []) := by kernel_rfl
end Mine

local macro_rules | `(tactic| o_law) => `(tactic| refine holds_law Mine.well fun said => ?_)
local macro_rules | `(tactic| o_head (kHook $k $a $e)) => `(tactic| (refine holds_open (q := Mine.q) (loose := []) (Xt := (fun q s => xlAt q [] s && recOk (RowW.records (OpenRow.toRowW (OpenLaw.row PySem.Challenge.rw_pq1020_01))) s) Mine.q) (XP := XL Mine.q []) (Yf := Hook.obs (kHook $k $a $e)) (Ya := Hook.val (kHook $k $a $e)) (YP := Hook.says (kHook $k $a $e)) (N := 4076) ?hl (Hook.of (kHook $k $a $e)) (Hook.keeps (kHook $k $a $e)) (fun s e => xl_of s (Bool.and_eq_true_iff.mp e).1) XL.keeps (by rfl) (by rfl) (by rfl) (fun s e => recFacts_of (Bool.and_eq_true_iff.mp e).2) (by rfl) (by first | assumption | decide +kernel) (by decide +kernel) ⟨rfl, rfl, rfl, rfl, rfl, by decide +kernel⟩ ?hw ?hc; (case hl => (apply Mine.left_boot (q := Mine.q) (X := fun q s => xlAt q [] s && recOk (RowW.records (OpenRow.toRowW (OpenLaw.row PySem.Challenge.rw_pq1020_01))) s) (as := $a) (Ya := fun w => ($k w.params).map fun p => some p.2) (N := 4076) (g0 := true) (Eq.trans (b := PySem.Challenge.pw_pq1020_01) (by kernel_rfl) PySem.W.Fast.te15728551851225233070) Mine.q_eq (by kernel_rfl) (by rfl) (fun _ => by rfl) ?_ ?_; (intro w os; kernel_rfl); with_reducible exact Mine.looks2))))
open_top hd for PySem.Challenge.rw_pq1020_01

set_option maxHeartbeats 8000000
namespace Mine

/-- heaps that grow -/
abbrev Up (h h' : Heap) : Prop := ∀ b o, h.get? b = some o → h'.get? b = some o

structure Gd (w : World) (mg mb : PySem.Str → Option Value) (h : Heap) : Prop where
  X : (hd.heap_1 w.params).In h
  T : TopRead Mine.q (looseW Mine.q []) mg mb h
theorem Gd.up {w : World} {mg mb : PySem.Str → Option Value} {h h' : Heap} (G : Gd w mg mb h) (k : Up h h') : Gd w mg mb h' := ⟨G.X.keeps k, G.T.keeps k⟩

theorem call_fn {prog : Program} {w : World} {A : Around} {s : Shared} {mg mb : PySem.Str → Option Value} {R : Result → Shared → Prop} {name qual : PySem.Str} {params : Arguments} {body : List Stmt} {scope : Scope} {dV kV doc pm cdv ct oc : Value} {an od : Option Addr} {osl : Array (Option Value)} {f : Addr} {args : Args} {binds : List (PySem.Str × Value)}
    (G : Gd w mg mb s.heap)
    (ho : (hd.heap_1 w.params).lookup f = some ⟨oc, od, .func (fnOf name qual params body scope dV kV doc pm an cdv ct), osl⟩) (hcd : codeIn (hd.heap_1 w.params) cdv qual = true) (hroom : A.depth < recursionLimit)
    (hbind : BindsTo s (fnOf name qual params body scope dV kV doc pm an cdv ct) args binds) (hloc : ∀ y ∈ binds, scope.names.lookup y.1 = some .local)
    (h : ∀ h₁, Fr s.heap s.heap.objs.size h₁ (fun y => binds.reverse.lookup y) →
      wpAny (model prog w) (A.deeper (envOf qual scope s.heap.objs.size f cdv)) (execs body (envOf qual scope s.heap.objs.size f cdv))
        (fun fl s' => R (.ok (.ret (match fl with | .ret v => v | _ => .none))) s') (fun _ _ => False)
        { s with heap := h₁, toks := s.toks + binds.length })
    (hco : scope.isCoroutine = false) (hgen : scope.isGenerator = false) (hk : scope.kind = .function)
    (hcell : ∀ x ∈ scope.names, x.2 ≠ .cell) : codeAny (model prog w) A (.call (.ref f) args) R s := by
  refine codeAny_call_def (fd := fnX name qual params body scope [] dV kV doc pm an cdv ct) (body := body) (binds := binds) hroom (G.X _ _ ho) rfl G.T.nolimit (codeRec_of G.X hcd) rfl hbind hcell hloc (fun h₁ hns hk₁ => ?_) hco hgen hk
  exact wpAny_mono (h h₁ ⟨hns, hk₁, Nat.le_refl _⟩) (fun _ _ x => x) fun _ _ x => x.elim

theorem fill : PySem.Challenge.rw_pq1020_01 = PySem.Challenge.rw_pq1020_01 ∧ hd.heap_1 = hd.heap_1 := by
  k_fill
  exact ⟨rfl, rfl⟩

abbrev Nev : Value → Shared → Prop := fun _ _ => False
theorem nev {M : Model} {A : Around} {α : Type} {t : Sem α} {Q Q' : α → Shared → Prop} {E : Value → Shared → Prop} {s : Shared} (h : wpAny M A t Q Nev s) (k : ∀ a s, Q a s → Q' a s) : wpAny M A t Q' E s :=
  wpAny_mono h k fun _ _ x => x.elim

/-- a tuple: nothing writes one -/
def TupO (o : Obj) : Prop := o.cls = .type "tuple" ∧ ∃ xs n, o.data = .seq xs n
/-- what a turn of a comprehension leaves -/
def CompEnd (s₂ : Shared) (h : Heap) (C : Addr) (fp : List Addr) (J : Heap → Prop) (s' : Shared) : Prop :=
  ∃ h' tk' m', s' = { s₂ with heap := h', toks := tk' } ∧ h'.Ns C m' ∧ J h' ∧ (∀ b o, h.get? b = some o → b ≠ C → (s₂.heap.objs.size ≤ b ∨ b ∈ fp) → h'.get? b = some o)

abbrev testsOf (ifs : List PySem.Expr) (cenv : Env) : Sem Bool :=
  forIn ifs true fun c r => if r = true then do let ok ← isTrue c cenv (eval c cenv); pure (ForInStep.yield ok) else pure (ForInStep.yield r)

def CompAt (prog : Program) (w : World) (A : Around) (env : Env) (scope : Scope) (cl : List (PySem.Str × Addr)) (target : PySem.Expr) (ifs : List PySem.Expr) (elt : PySem.Expr) (Q : Value → Shared → Prop) (it : Value) (s₂ : Shared) : Prop :=
  ∃ (I : Addr) (fp wr : List Addr) (n : Nat) (P : Nat → Value → Prop) (St : Nat → Heap → Prop) (J : Nat → List Value → Heap → Prop),
    it = .ref I ∧ Walks prog w A I fp wr n P St ∧ n ≤ sizeLine ∧ St 0 s₂.heap ∧ (∀ b ∈ fp, b < s₂.heap.objs.size) ∧ J 0 [] s₂.heap ∧
    (∀ i ys h h', J i ys h → (∀ b o, h.get? b = some o → (b < s₂.heap.objs.size ∧ b ∉ wr ∨ TupO o) → h'.get? b = some o) → J i ys h') ∧
    (∀ i h, St i h → ∀ b ∈ wr, ∀ o, h.get? b = some o → ¬ TupO o) ∧
    (∀ i (s' : Shared) v (Q' : Unit → Shared → Prop), St i s'.heap → Q' () s' → wpAny (model prog w) A (letOwnedTupleGo target (.ref I) v) Q' Nev s') ∧
    (∀ C i v ys h tk m, i < n → P i v → J i ys h → s₂.heap.objs.size ≤ C → h.Ns C m →
      wpAny (model prog w) A (assign target (compEnvC scope cl C env) v) (fun _ s₄ =>
        wpAny (model prog w) A (testsOf ifs (compEnvC scope cl C env)) (fun ok s₅ =>
          if ok = true then wpAny (model prog w) A (eval elt (compEnvC scope cl C env)) (fun y s₆ => CompEnd s₂ h C fp (J (i + 1) (ys ++ [y])) s₆) Nev s₅
          else CompEnd s₂ h C fp (J (i + 1) ys) s₅) Nev s₄) Nev { s₂ with heap := h, toks := tk }) ∧
    (∀ D h' tk ys, J n ys h' → h'.IsList D ys.toArray → h'.PlainList D ys.toArray → s₂.heap.objs.size ≤ D → Q (.ref D) { s₂ with heap := h', toks := tk })

section
variable {prog : Program} {w : World} {A : Around} {E : Value → Shared → Prop} {R : Result → Shared → Prop} {s : Shared} {env : Env}

theorem compLoop_gen {elt target iter : PySem.Expr} {ifs : List PySem.Expr} {scope : Scope} {pos : Pos} {it acc : Value} {env : Env} (I : Nat → Shared → Prop)
    (turn : ∀ n s, I n s → wpAny (model prog w) A (pyNext it) (fun r s₁ => match r with
      | none => R (.ok .next) s₁
      | some v => wpAny (model prog w) A (letOwnedTupleGo target it v) (fun _ s₁ => wpAny (model prog w) A (assign target env v) (fun _ s₂ =>
          wpAny (model prog w) A (testsOf ifs env) (fun ok s₃ =>
            if ok = true then wpAny (model prog w) A (eval elt env) (fun x s₄ =>
              wpAny (model prog w) A (call (.builtin "list.append") [acc, x]) (fun _ s₅ => ∃ m, m < n ∧ I m s₅) Nev s₄) Nev s₃
            else ∃ m, m < n ∧ I m s₃) Nev s₂) Nev s₁) Nev s₁) Nev s)
    (n : Nat) (h : I n s) :
    codeAny (model prog w) A (.compLoop (.ListComp elt [⟨target, iter, ifs, 0⟩] scope pos) 0 it acc env) R s := by
  refine codeAny_loop rfl I (fun n s hI => ?_) n h
  show wpAny _ A ((compTurn (.ListComp elt [⟨target, iter, ifs, 0⟩] scope pos) 0 it acc env).onRaise (fun x => do noteFrame x env; theTreesLotGoes x)) _ _ s
  refine wpAny_noted ?_
  rw [compTurn_list]
  refine wpAny_bind (wpAny_standAt (wpAny_bind (nev (turn n s hI) (fun r s₁ h₁ => ?_))))
  cases r with
  | none => exact wpAny_pure h₁
  | some v =>
    refine wpAny_bind (nev h₁ fun _ s₂ h₂ => ?_)
    refine wpAny_bind (nev h₂ (fun _ s₂ h₂ => wpAny_bind (nev h₂ (fun ok s₃ h₃ => ?_))))
    cases ok with
    | false => exact wpAny_pure ⟨rfl, h₃⟩
    | true =>
      exact wpAny_bind (wpAny_bind (nev h₃ (fun x s₄ h₄ => wpAny_bind (nev h₄ (fun _ s₅ h₅ => wpAny_pure (wpAny_pure ⟨rfl, h₅⟩))))))

theorem comp_block {elt target iter : PySem.Expr} {ifs : List PySem.Expr} {scope : Scope} {cl : List (PySem.Str × Addr)} {pos : Pos} {it : Value} {s₂ : Shared} {RR : Value → Addr → Result → Shared → Prop}
    (hcell : ∀ y ∈ scope.names, y.2 ≠ .cell) (hkind : scope.kind = .function)
    (H : CompAt prog w A env scope cl target ifs elt (fun v s' => ∀ C m, s'.heap.Ns C m → C < s'.heap.objs.size → s₂.heap.objs.size ≤ C → (∀ D, v = .ref D → D ≠ C) → RR v C (.ok .next) s') it s₂) :
    wpAny (model prog w) A (newList []) (fun acc s₃ => wpAny (model prog w) A (newFunctionEnv scope env.globals cl [] env.qual none .none (some env)) (fun cenv s₄ =>
      codeAny (model prog w) A (.compStart (.ListComp elt [⟨target, iter, ifs, 0⟩] scope pos) 0 it acc { cenv with scope := relabel scope env }) (RR acc cenv.locals) s₄) E s₃) E s₂ := by
  obtain ⟨I, fp, wr, n, P, St, J, rfl, W, hsz, hst, hfp, hJ, stab, hwt, hgo, step, done⟩ := H
  refine wpAny_newObj_type (wpAny_newFunctionEnv hcell (by intro y hy; simp at hy) (fun h₁ hns₁ hsb₁ => ?_) hkind)
  dsimp only at hns₁ hsb₁ ⊢
  generalize hH2 : s₂.heap.push { cls := .type "list", dict := none, data := .seq ([] : List Value).toArray } = H2 at hns₁ hsb₁ ⊢
  have hC : H2.objs.size = s₂.heap.objs.size + 1 := by rw [← hH2, Heap.size_push]
  have hDC : s₂.heap.objs.size ≠ H2.objs.size := by rw [hC]; exact Nat.ne_of_lt (Nat.lt_succ_self _)
  have hCle : s₂.heap.objs.size ≤ H2.objs.size := by rw [hC]; exact Nat.le_succ _
  have below : ∀ b, b < s₂.heap.objs.size → b ≠ H2.objs.size ∧ b ≠ s₂.heap.objs.size := fun b hb => ⟨by rw [hC]; exact Nat.ne_of_lt (Nat.lt_succ_of_lt hb), Nat.ne_of_lt hb⟩
  have hDf : s₂.heap.objs.size ∉ fp := fun hm => Nat.lt_irrefl _ (hfp _ hm)
  have hCf : H2.objs.size ∉ fp := fun hm => by have := hfp _ hm; rw [hC] at this; exact Nat.lt_irrefl _ (Nat.lt_of_succ_lt this)
  have old : ∀ b o, s₂.heap.get? b = some o → h₁.get? b = some o := fun b o e => hsb₁.extBut b o (below b (Heap.lt_size e)).1 (Heap.get?_push_of_some _ (hH2 ▸ Heap.get?_push_of_some _ e))
  have hacc : h₁.PlainList s₂.heap.objs.size #[] := ⟨_, hsb₁.extBut _ _ hDC (Heap.get?_push_of_some _ (hH2 ▸ Heap.get?_push_size _ rfl))⟩
  have hst₁ : St 0 h₁ := W.frame _ _ _ hst fun b _ o e => old b o e
  have hJ₁ : J 0 [] h₁ := stab _ _ _ _ hJ fun b o e _ => old b o e
  generalize hCg : H2.objs.size = C at *
  generalize hDg : s₂.heap.objs.size = D at *
  have fin : ∀ h' tk (ys : Array Value) m', J n ys.toList h' → h'.PlainList D ys → h'.Ns C m' → RR (.ref D) C (.ok .next) { s₂ with heap := h', toks := tk } := fun h' tk ys m' hj hp hn => by
    obtain ⟨cc, hq⟩ := hp
    have hl : h'.IsList D ys := ⟨_, hq, rfl, cc, rfl⟩
    obtain ⟨oc, _, _, hoc, _⟩ := id hn
    refine done D h' tk ys.toList hj (by simpa using hl) (by simpa using ⟨cc, hq⟩) (by omega) C m' hn (Heap.lt_size hoc) (by omega) fun D' e => ?_
    cases e
    exact hDC
  have loop : ∀ s₃ : Shared, s₃ = { s₂ with heap := h₁, toks := s₂.toks + ([] : List (PySem.Str × Value)).length } →
      codeAny (model prog w) A (.compLoop (.ListComp elt [⟨target, iter, ifs, 0⟩] scope pos) 0 (.ref I) (.ref D) (compEnvC scope cl C env))
        (RR (.ref D) C) s₃ := by
    rintro s₃ rfl
    refine compLoop_gen (fun k s' => ∃ h' tk m' ys i, s' = { s₂ with heap := h', toks := tk } ∧ St i h' ∧ h'.PlainList D ys ∧ h'.Ns C m' ∧ J i ys.toList h' ∧ ys.size ≤ i ∧ i ≤ n ∧ k = n + 1 - i) ?_ (n + 1)
      ⟨h₁, _, _, #[], 0, rfl, hst₁, hacc, hns₁, hJ₁, Nat.le_refl _, Nat.zero_le _, rfl⟩
    rintro k s' ⟨h', tk, m', ys, i, rfl, hst', hacc', hn', hJ', hys, hi, rfl⟩
    have hDw : D ∉ wr := fun q => hDf (W.sub _ q)
    have hCw : C ∉ wr := fun q => hCf (W.sub _ q)
    by_cases hlt : i < n
    · refine W.item i _ _ _ hlt hst' fun v h₂ tk₂ hP hst₂ hk₂ => ?_
      refine hgo (i + 1) _ v _ hst₂ ?_
      have hn₂ : h₂.Ns C m' := hn'.at' fun o e => hk₂ C o hCw e
      have hacc₂ : h₂.PlainList D ys := let ⟨c, q⟩ := hacc'; ⟨c, hk₂ D _ hDw q⟩
      have hJ₂ : J i ys.toList h₂ := stab _ _ _ _ hJ' fun b o e q => by
        refine hk₂ b o (fun hb => ?_) e
        rcases q with q | q
        · exact q.2 hb
        · exact hwt i h' hst' b hb o e q
      refine nev (step C i v ys.toList h₂ tk₂ m' hlt hP hJ₂ (by omega) hn₂) fun _ s₄ h₄ => nev h₄ fun ok s₅ h₅ => ?_
      cases ok with
      | false =>
        simp only [Bool.false_eq_true, if_false] at h₅ ⊢
        obtain ⟨h₃, tk₃, m₃, rfl, hn₃, hJ₃, hk₃⟩ := h₅
        obtain ⟨c, hc⟩ := hacc₂
        refine ⟨n + 1 - (i + 1), by omega, h₃, tk₃, m₃, ys, i + 1, rfl, W.frame _ _ _ hst₂ fun b hb o e => hk₃ b o e (fun q => hCf (q ▸ hb)) (.inr hb), ⟨c, hk₃ D _ hc hDC (.inl (by omega))⟩, hn₃, hJ₃, by omega, by omega, rfl⟩
      | true =>
        simp only [if_true] at h₅ ⊢
        refine nev h₅ fun y s₆ h₆ => ?_
        obtain ⟨h₃, tk₃, m₃, rfl, hn₃, hJ₃, hk₃⟩ := h₆
        obtain ⟨c, hc⟩ := hacc₂
        have hD₃ := hk₃ D _ hc hDC (.inl (by omega))
        refine wpAny_list_append_plain (hsz := by omega) ⟨c, hD₃⟩ fun h₄ hl₄ hs₄ => ?_
        refine ⟨n + 1 - (i + 1), by omega, h₄, tk₃, m₃, ys.push y, i + 1, rfl, W.frame _ _ _ hst₂ fun b hb o e => ?_, hl₄, hn₃.sameBut hs₄ (Ne.symm hDC), ?_, by simp; omega, by omega, rfl⟩
        · exact (hs₄.2 b fun q => hDf (q ▸ hb)).trans (hk₃ b o e (fun q => hCf (q ▸ hb)) (.inr hb))
        · have e1 : (ys.push y).toList = ys.toList ++ [y] := by simp
          rw [e1]
          refine stab _ _ _ _ hJ₃ fun b o e q => (hs₄.2 b fun z => ?_).trans e
          subst z
          rcases q with q | q
          · exact absurd q.1 (Nat.lt_irrefl _)
          · rw [hD₃] at e
            cases e
            exact absurd (Value.type.inj q.1) (by decide)
    · have hin : i = n := by omega
      subst hin
      refine W.done _ _ _ hst' fun h₂ tk₂ hk₂ => ?_
      have hn₂ : h₂.Ns C m' := hn'.at' fun o e => hk₂ C o hCw e
      have hacc₂ : h₂.PlainList D ys := let ⟨c, q⟩ := hacc'; ⟨c, hk₂ D _ hDw q⟩
      refine fin h₂ tk₂ ys m' (stab _ _ _ _ hJ' fun b o e q => ?_) hacc₂ hn₂
      refine hk₂ b o (fun hb => ?_) e
      rcases q with q | q
      · exact q.2 hb
      · exact hwt i h' hst' b hb o e q
  exact codeAny_compStart_list (loop _ rfl) (W.self 0 _ _ _ hst₁ (loop _ rfl))

theorem ListComp_gen {elt target iter : PySem.Expr} {ifs : List PySem.Expr} {scope : Scope} {cl : List (PySem.Str × Addr)} {pos : Pos} {Q : Value → Shared → Prop}
    (hclos : closureFor scope env = pure cl) (hcell : ∀ y ∈ scope.names, y.2 ≠ .cell) (hkind : scope.kind = .function)
    (hnames : ∀ y ∈ scope.names, y.2 = .local → scope.names.lookup y.1 = some .local)
    (h : wpAny (model prog w) A (eval iter env) (fun xv s₁ => wpAny (model prog w) A (pyIter xv) (fun it s₂ =>
      CompAt prog w A env scope cl target ifs elt (fun v s' => ∀ h', (∀ b o, s'.heap.get? b = some o → (b < s₂.heap.objs.size ∨ TupO o) → h'.get? b = some o) → (∀ D ys, v = .ref D → s'.heap.PlainList D ys → h'.PlainList D ys) → Q v { s' with heap := h' }) it s₂) E s₁) E s)
    (hs : ∀ x, foldedSetIterable iter env x = pure x := by intro _; rfl) :
    wpAny (model prog w) A (eval (.ListComp elt [⟨target, iter, ifs, 0⟩] scope pos) env) Q E s := by
  rw [eval_ListComp]
  refine wpAny_comprehension_free (use := none) rfl hs hclos hkind hnames (wpAny_mono h (fun xv s₁ h₁ => wpAny_mono h₁ (fun it s₂ h₂ => ?_) fun _ _ e => e) fun _ _ e => e)
  refine comp_block (RR := fun acc C => compPost (model prog w) A E none Q acc C) hcell hkind ?_
  obtain ⟨I, fp, wr, n, P, St, J, rfl, W, hsz, hst, hfp, hJ, stab, hwt, hgo, step, done⟩ := h₂
  refine ⟨I, fp, wr, n, P, St, J, rfl, W, hsz, hst, hfp, hJ, stab, hwt, hgo, step, fun D h' tk ys hj hl hp hD C m hn hCl hC hDC => ?_⟩
  refine ⟨m, hn, fun h'' hs'' => ?_⟩
  obtain ⟨oC, es, ep, hoC, hdC, _⟩ := hn
  refine done D h' tk ys hj hl hp hD h'' (fun b o e q => (hs''.2 b fun z => ?_).trans e) fun D' ys' e hp' => ?_
  · subst z
    rcases q with q | q
    · exact absurd q (Nat.not_lt.mpr hC)
    · obtain ⟨_, xs, n', hx⟩ := q
      rw [hoC] at e
      cases e
      rw [hdC] at hx
      cases hx
  · cases e
    obtain ⟨c, hq⟩ := hp'
    exact ⟨c, (hs''.2 D (hDC D rfl)).trans hq⟩

theorem Assign_ListComp_gen {elt target iter : PySem.Expr} {y : PySem.Str} {py : Pos} {ifs : List PySem.Expr} {scope : Scope} {cl : List (PySem.Str × Addr)} {pos spos : Pos} {Q : Flow → Shared → Prop}
    (hsw : swapsWith (.ListComp elt [⟨target, iter, ifs, 0⟩] scope pos) (some (.Name y py)) spos.line env = pure true)
    (hclos : closureFor scope env = pure cl) (hcell : ∀ y ∈ scope.names, y.2 ≠ .cell) (hkind : scope.kind = .function)
    (hnames : ∀ y ∈ scope.names, y.2 = .local → scope.names.lookup y.1 = some .local)
    (hy : env.kindOf y = some .local) (hp : (env.scope.kind == .class || (env.scope.kind == .module && env.locals != env.globals)) = false)
    (h : wpAny (model prog w) A (eval iter env) (fun xv s₁ => wpAny (model prog w) A (pyIter xv) (fun it s₂ =>
      CompAt prog w A env scope cl target ifs elt (fun v s' => env.locals < s₂.heap.objs.size ∧ ∃ m, s'.heap.Ns env.locals m ∧ ∀ h', (∀ b o, s'.heap.get? b = some o → b ≠ env.locals → (b < s₂.heap.objs.size ∨ TupO o) → h'.get? b = some o) → (∀ D ys, v = .ref D → s'.heap.PlainList D ys → h'.PlainList D ys) →
        h'.Ns env.locals (fun z => if z = y then some v else m z) → Q .next { s' with heap := h', toks := s'.toks + 1 }) it s₂) E s₁) E s)
    (hs : ∀ x, foldedSetIterable iter env x = pure x := by intro _; rfl) :
    wpAny (model prog w) A (exec (.Assign [.Name y py] (.ListComp elt [⟨target, iter, ifs, 0⟩] scope pos) spos) env) Q E s := by
  rw [exec_Assign_Name_used _ _ _ _ hsw]
  refine wpAny_bind (wpAny_standAt (wpAny_bind ?_))
  show wpAny _ A (do let _ ← comprehension (.ListComp elt [⟨target, iter, ifs, 0⟩] scope pos) scope env _ (newList []) false (eval iter env) (some (assign (.Name y py) env))) _ _ s
  refine wpAny_bind (wpAny_mono (wpAny_comprehension_free (use := some (assign (.Name y py) env)) (Q := fun _ s' => Q .next s') rfl hs hclos hkind hnames
    (wpAny_mono h (fun xv s₁ h₁ => wpAny_mono h₁ (fun it s₂ h₂ => ?_) fun _ _ e => e) fun _ _ e => e)) (fun _ s' hq => wpAny_pure (wpAny_pure hq)) fun _ _ e => e)
  refine comp_block (RR := fun acc C => compPost (model prog w) A E (some (assign (.Name y py) env)) (fun _ s' => Q .next s') acc C) hcell hkind ?_
  obtain ⟨I, fp, wr, n, P, St, J, rfl, W, hsz, hst, hfp, hJ, stab, hwt, hgo, step, done⟩ := h₂
  refine ⟨I, fp, wr, n, P, St, J, rfl, W, hsz, hst, hfp, hJ, stab, hwt, hgo, step, fun D h' tk ys hj hl hp' hD C m hn hCl hC hDC => ?_⟩
  obtain ⟨hLs, m₀, hm₀, hq⟩ := done D h' tk ys hj hl hp' hD
  have hLC : env.locals ≠ C := Nat.ne_of_lt (Nat.lt_of_lt_of_le hLs hC)
  have hLD : env.locals ≠ D := Nat.ne_of_lt (Nat.lt_of_lt_of_le hLs hD)
  show wpAny _ A (assign (.Name y py) env (.ref D)) _ _ _
  refine wpAny_assign_Name (wpAny_storeName_local hy hm₀ (fun h₂ hn₂ hs₂ => ?_) hp)
  refine ⟨m, hn.sameBut hs₂ (Ne.symm hLC), fun h'' hs'' => ?_⟩
  obtain ⟨oC, es, ep, hoC, hdC, _⟩ := hn
  refine hq h'' (fun b o e hbL q => (hs''.2 b fun z => ?_).trans ((hs₂.2 b hbL).trans e)) (fun D' ys' e hp'' => ?_) (hn₂.sameBut hs'' hLC)
  · subst z
    rcases q with q | q
    · exact absurd q (Nat.not_lt.mpr hC)
    · obtain ⟨_, xs, n', hx⟩ := q
      rw [hoC] at e
      cases e
      rw [hdC] at hx
      cases hx
  · cases e
    obtain ⟨c, hq'⟩ := hp''
    exact ⟨c, (hs''.2 D (hDC D rfl)).trans ((hs₂.2 D (Ne.symm hLD)).trans hq')⟩
end

section
variable {prog : Program} {w : World} {A : Around} {E : Value → Shared → Prop} {s : Shared} {env : Env} {h₀ : Heap} {x : PySem.Str} {body : List Stmt} {Q : Flow → Shared → Prop} {m : PySem.Str → Option Value} {news : List (Addr × Obj)}
/-- what a turn of a for leaves -/
def TurnQ (h₀ : Heap) (L I : Addr) (own : List (Addr × Obj)) (J : List (Addr × Obj) → Prop) (m : PySem.Str → Option Value) (x : PySem.Str) (stored : List PySem.Str) (s : Shared) (Q : Flow → Shared → Prop) (f : Flow) (s₂ : Shared) : Prop :=
  match f with
  | .ret v => Q (.ret v) s₂
  | .brk => Q .next s₂
  | _ => ∃ h' tk m' news', s₂ = { s with heap := h', toks := tk } ∧ Fr h₀ L h' m' ∧ News h₀ L h' (own ++ news') ∧ (∀ p ∈ news', p.1 ≠ I) ∧ (∀ y, y ≠ x → stored.contains y = false → m' y = m y) ∧ J news'
theorem loopV {I : Addr} {fp : List Addr} {n : Nat} {P : Nat → Value → Prop} {St : Nat → Heap → Prop} (stored : List PySem.Str) (J : Nat → List (Addr × Obj) → Prop)
    (W : Walks prog w A I fp [I] n P St) (hLf : env.locals ∉ fp) (hI : h₀.get? I = none) (hnw : ∀ p ∈ news, p.1 ≠ I) (hst : St 0 s.heap) (F : Fr h₀ env.locals s.heap m) (N : News h₀ env.locals s.heap news) (h0 : J 0 news)
    (turn : ∀ i v (u : PySem.Str → Option Value) news₁ own h tk, i < n → P i v → J i news₁ → (∀ p ∈ news₁, p.1 ≠ I) → Fr h₀ env.locals h (fun y => if y = x then some v else if stored.contains y then u y else m y) → News h₀ env.locals h (own ++ news₁) →
      wpAny (model prog w) A (execs body env) (TurnQ h₀ env.locals I own (J (i + 1)) m x stored s Q) E { s with heap := h, toks := tk })
    (done : ∀ (u : PySem.Str → Option Value) news₁ h tk, J n news₁ → Fr h₀ env.locals h (fun y => if y = x then u y else if stored.contains y then u y else m y) → News h₀ env.locals h news₁ → Q .next { s with heap := h, toks := tk }) :
    LoopAtV prog w A h₀ env x body Q E (.ref I) s := by
  have fixm : ∀ m₁ : PySem.Str → Option Value, (∀ y, y ≠ x → stored.contains y = false → m₁ y = m y) → ∀ v, (fun y => if y = x then v else m₁ y) = fun y => if y = x then v else if stored.contains y then m₁ y else m y := fun m₁ hm v => by
    funext y
    by_cases hy : y = x
    · simp [hy]
    · simp only [if_neg hy]
      cases h2 : stored.contains y with
      | true => simp
      | false => simp only [Bool.false_eq_true, if_false]; exact hm y hy h2
  refine ⟨I, fp, [I], n, P, St, m, news, (fun i m₁ nx => J i nx ∧ ∀ y, y ≠ x → stored.contains y = false → m₁ y = m y), rfl, W, hLf, ?_, ?_, hst, F, N, ⟨h0, fun _ _ _ => rfl⟩, ?_, ?_⟩
  · intro b hb; rw [List.mem_singleton.mp hb]; exact hI
  · intro p hp hb; exact hnw p hp (List.mem_singleton.mp hb)
  · rintro i v m₁ news₁ s₁ own ⟨h, tk, rfl⟩ hi hP ⟨hJ, hm⟩ hoff _ _ _ _ F₁ N₁
    rw [fixm m₁ hm (some v)] at F₁
    refine wpAny_mono (turn i v m₁ news₁ own h tk hi hP hJ (fun p hp e => hoff p hp (List.mem_singleton.mpr e)) F₁ N₁) (fun f s₂ q => ?_) fun _ _ e => e
    have fin : (∃ h' tk m' news', s₂ = { s with heap := h', toks := tk } ∧ Fr h₀ env.locals h' m' ∧ News h₀ env.locals h' (own ++ news') ∧ (∀ p ∈ news', p.1 ≠ I) ∧ (∀ y, y ≠ x → stored.contains y = false → m' y = m y) ∧ J (i + 1) news') → LoopStepU h₀ env.locals [I] own (fun m₁ nx => J (i + 1) nx ∧ ∀ y, y ≠ x → stored.contains y = false → m₁ y = m y) { s with heap := h, toks := tk } .next s₂ := by
      rintro ⟨h', tk', m', news', rfl, F', N', hn', hm', hJ'⟩
      exact ⟨rfl, h', tk', m', news', rfl, F', N', fun p hp hb => hn' p hp (List.mem_singleton.mp hb), hJ', hm'⟩
    cases f with
    | ret v => exact .ret q
    | brk => exact .brk q
    | next => exact .next (fin q)
    | cont => exact .cont (fin q)
  · rintro h' tk m' news' F' N' _ ⟨hJ, hm⟩
    refine done m' news' h' tk hJ ?_ N'
    have e2 : (fun y => if y = x then m' y else if stored.contains y then m' y else m y) = m' := by
      funext y
      by_cases hy : y = x
      · simp [hy]
      · simp only [if_neg hy]
        cases h2 : stored.contains y with
        | true => simp
        | false => simp only [Bool.false_eq_true, if_false]; exact (hm y hy h2).symm
    rw [e2]; exact F'

theorem for_tup {ax : Addr} {items : Array Value} (stored : List PySem.Str) (J : Nat → List (Addr × Obj) → Prop) (hh : A.handled = none) (F : Fr h₀ env.locals s.heap m) (N : News h₀ env.locals s.heap news) (ht : IsTup h₀ ax items) (h0 : J 0 news)
    (turn : ∀ i v (u : PySem.Str → Option Value) news₁ own h tk, items[i]? = some v → J i news₁ → (∀ p ∈ news₁, p.1 ≠ s.heap.objs.size) → Fr h₀ env.locals h (fun y => if y = x then some v else if stored.contains y then u y else m y) → News h₀ env.locals h (own ++ news₁) →
      wpAny (model prog w) A (execs body env) (TurnQ h₀ env.locals s.heap.objs.size own (J (i + 1)) m x stored s Q) E { s with heap := h, toks := tk })
    (done : ∀ (u : PySem.Str → Option Value) news₁ h tk, J items.size news₁ → Fr h₀ env.locals h (fun y => if y = x then u y else if stored.contains y then u y else m y) → News h₀ env.locals h news₁ → Q .next { s with heap := h, toks := tk }) :
    wpAny (model prog w) A (pyIter (.ref ax)) (fun it s₂ => LoopAtV prog w A h₀ env x body Q E it s₂) E s := by
  have hts : s.heap.IsTuple ax items := let ⟨o, ho, r⟩ := ht; ⟨o, F.keep _ _ ho, r⟩
  obtain ⟨ol, hol, _⟩ := id ht
  have hlt : ax < h₀.objs.size := Heap.lt_size hol
  have hne : ax ≠ s.heap.objs.size := Nat.ne_of_lt (Nat.lt_trans (Nat.lt_of_lt_of_le hlt F.above) F.ns.lt)
  refine wpAny_pyIter_tuple hts ?_
  refine loopV stored J (Walks.tuple (prog := prog) (w := w) hh s.heap.objs.size ax hne items) ?_ (next_is_new F) (fun p hp => Nat.ne_of_lt (Heap.lt_size (N p hp).1))
    ⟨⟨_, Heap.get?_push_size _ rfl, rfl, rfl⟩, hts.at fun o e => Heap.get?_push_of_some _ e⟩ (F.push _) (fun p hp => ⟨Heap.get?_push_of_some _ (N p hp).1, (N p hp).2⟩) h0 ?_ ?_
  · intro hm
    rcases List.mem_cons.mp hm with e | hm
    · exact absurd F.ns.lt (e ▸ Nat.lt_irrefl _)
    · exact absurd (Nat.lt_of_lt_of_le hlt F.above) ((List.mem_singleton.mp hm) ▸ Nat.lt_irrefl _)
  · intro i v u news₁ own h tk hi hP
    exact turn i v u news₁ own h tk hP
  · exact done
end

section
variable {prog : Program} {w : World} {A : Around} {E : Value → Shared → Prop} {s : Shared} {h₀ : Heap} {L D b : Addr} {m : PySem.Str → Option Value} {post : List (Addr × Obj)} {vs ws : List Value} {n n2 : Nat}
theorem ext_tup {Q : Value → Shared → Prop} (F : Fr h₀ L s.heap m) (N : News h₀ L s.heap ((D, PySem.W.listOf vs.toArray n) :: post)) (hp : ∀ p ∈ post, p.1 ≠ D) (hb : s.heap.get? b = some { cls := .type "tuple", data := .seq ws.toArray n2 }) (hz : vs.length + ws.length ≤ 100000)
    (h : ∀ h' c, Fr h₀ L h' m → News h₀ L h' ((D, PySem.W.listOf (vs ++ ws).toArray c) :: post) → Q .none { s with heap := h' }) : wpAny (model prog w) A (call (.builtin "list.extend") [.ref D, .ref b]) Q E s := by
  have z := N (D, PySem.W.listOf vs.toArray n) (.head _)
  have hs : 100000 ≤ sizeLine := by rw [sizeLine_eq]; decide
  refine PySem.call_meets PySem.F.slot_list_extend ⟨_, z.1, rfl⟩ PySem.F.entry_list_extend (PySem.F.args_list_extend_2 _ _) (PySem.AutoSeq1.list_extend_list_tuple_0 D vs.toArray n b ws.toArray n2 ?_ (by simp; omega) (by simp; omega)) ⟨z.1, hb, ?_⟩
  · intro q
    simp only [Bool.and_eq_true, Builtin.List.listTooLong] at q
    have := q.2
    simp at this
    omega
  · by_cases e : ws = []
    · subst e
      have N' := PySem.W.kl_turn0 (pre := []) (fun x : Array Value => x ++ ([] : List Value).toArray) N (fun _ q => (nomatch q)) hp (by simp) rfl
      have F' := F.change (Heap.SameBut.update s.heap D (Obj.mapSeq (fun x : Array Value => x ++ ([] : List Value).toArray))) z.2.1 z.2.2
      exact h _ n F' (by simpa using N')
    · have N' := PySem.W.kl_turn (pre := []) (fun x : Array Value => x ++ ws.toArray) N (fun _ q => (nomatch q)) hp (its' := (vs ++ ws).toArray) (by simp) (by simp; exact e)
      have F' := F.change (Heap.SameBut.update s.heap D (Obj.mapSeq (fun x : Array Value => x ++ ws.toArray))) z.2.1 z.2.2
      exact h _ (n + 1) F' (by simpa using N')
end
theorem kl_last_snoc (p : List Value) (y : Value) : PySem.W.kl_last (p ++ [y]) = some (p, y) := by
  induction p with
  | nil => rfl
  | cons x r ih =>
    show (match PySem.W.kl_last (r ++ [y]) with | some (p, y) => some (x :: p, y) | none => some ([], x)) = _
    rw [ih]
theorem valueAt_mem {kvs : List (PySem.Str × Value)} {k : PySem.Str} : (valueAt kvs k).isSome = true ↔ k ∈ kvs.map (·.1) := by
  unfold valueAt
  rw [Option.isSome_map, List.find?_isSome]
  simp only [List.mem_map, decide_eq_true_eq]
theorem stored_new {kvs : List (PySem.Str × Value)} {k : PySem.Str} {v : Value} (h : (valueAt kvs k).isSome = false) : stored kvs k v = kvs ++ [(k, v)] := by
  unfold stored
  have : kvs.any (fun kv => decide (kv.1 = k)) = false := by
    cases q : kvs.any (fun kv => decide (kv.1 = k)) with
    | false => rfl
    | true =>
      rw [List.any_eq_true] at q
      obtain ⟨x, hx, e⟩ := q
      have : k ∈ kvs.map (·.1) := List.mem_map.mpr ⟨x, hx, by simpa using e⟩
      rw [← valueAt_mem, h] at this
      cases this
  rw [this]
  rfl
theorem two_same {a b : Option Value} {x y z : PySem.Str} {u m₀ : PySem.Str → Option Value} (hz : [x, y].contains z = false) :
    (if z = y then a else if z = x then b else kstB (fun z => if [x, y].contains z = true then u z else m₀ z) [] z) = m₀ z := by
  have h := hz
  simp only [List.contains_cons, List.contains_nil, Bool.or_false, Bool.or_eq_false_iff, beq_eq_false_iff_ne, ne_eq] at h
  rw [if_neg h.2, if_neg h.1]
  show (if [x, y].contains z = true then u z else m₀ z) = m₀ z
  rw [hz]
  rfl

section
variable {prog : Program} {w : World} {A : Around} {E : Value → Shared → Prop} {s : Shared} {env : Env} {h₀ : Heap} {target : PySem.Expr} {body : List Stmt} {Q : Flow → Shared → Prop} {m : PySem.Str → Option Value} {news : List (Addr × Obj)}
/-- what a turn of a for with a written target leaves -/
def TurnT (h₀ : Heap) (L I : Addr) (own : List (Addr × Obj)) (J : List (Addr × Obj) → Prop) (m : PySem.Str → Option Value) (stored : List PySem.Str) (s : Shared) (f : Flow) (s₂ : Shared) : Prop :=
  f = .next ∧ ∃ h' tk m' news', s₂ = { s with heap := h', toks := tk } ∧ Fr h₀ L h' m' ∧ News h₀ L h' (own ++ news') ∧ (∀ p ∈ news', p.1 ≠ I) ∧ (∀ y, stored.contains y = false → m' y = m y) ∧ J news'
theorem for_tupT {ax : Addr} {items : Array Value} (stored : List PySem.Str) (J : Nat → List (Addr × Obj) → Prop) (hh : A.handled = none) (F : Fr h₀ env.locals s.heap m) (N : News h₀ env.locals s.heap news) (ht : IsTup h₀ ax items) (h0 : J 0 news)
    (turn : ∀ i v (u : PySem.Str → Option Value) news₁ own (s₁ : Shared), items[i]? = some v → J i news₁ → (∀ p ∈ news₁, p.1 ≠ s.heap.objs.size) → (∀ p ∈ own, p.1 = s.heap.objs.size) → (∃ o, (s.heap.objs.size, o) ∈ own) → Fr h₀ env.locals s₁.heap (fun y => if stored.contains y then u y else m y) → News h₀ env.locals s₁.heap (own ++ news₁) →
      wpAny (model prog w) A (assign target env v) (fun _ s₃ => wpAny (model prog w) A (execs body env) (TurnT h₀ env.locals s.heap.objs.size own (J (i + 1)) m stored s₁) E s₃) E s₁)
    (done : ∀ (u : PySem.Str → Option Value) news₁ h tk, J items.size news₁ → Fr h₀ env.locals h (fun y => if stored.contains y then u y else m y) → News h₀ env.locals h news₁ → Q .next { s with heap := h, toks := tk }) :
    wpAny (model prog w) A (pyIter (.ref ax)) (fun it s₂ => LoopAtT prog w A h₀ env target body Q E it s₂) E s := by
  have hts : s.heap.IsTuple ax items := let ⟨o, ho, r⟩ := ht; ⟨o, F.keep _ _ ho, r⟩
  obtain ⟨ol, hol, _⟩ := id ht
  have hlt : ax < h₀.objs.size := Heap.lt_size hol
  have hne : ax ≠ s.heap.objs.size := Nat.ne_of_lt (Nat.lt_trans (Nat.lt_of_lt_of_le hlt F.above) F.ns.lt)
  have fixm : ∀ m₁ : PySem.Str → Option Value, (∀ y, stored.contains y = false → m₁ y = m y) → m₁ = fun y => if stored.contains y then m₁ y else m y := fun m₁ hm => by
    funext y
    cases h2 : stored.contains y with
    | true => simp
    | false => simp only [Bool.false_eq_true, if_false]; exact hm y h2
  refine wpAny_pyIter_tuple hts ?_
  refine ⟨s.heap.objs.size, [s.heap.objs.size, ax], [s.heap.objs.size], items.size, _, _, m, news, (fun i m₁ nx => J i nx ∧ ∀ y, stored.contains y = false → m₁ y = m y), rfl, Walks.tuple (prog := prog) (w := w) hh s.heap.objs.size ax hne items, ?_, ?_, ?_,
    ⟨⟨_, Heap.get?_push_size _ rfl, rfl, rfl⟩, hts.at fun o e => Heap.get?_push_of_some _ e⟩, F.push _, (fun p hp => ⟨Heap.get?_push_of_some _ (N p hp).1, (N p hp).2⟩), (fun i s' v Q' st hQ' => letGo_tupleiter st.1 hQ'), ⟨h0, fun _ _ => rfl⟩, ?_, ?_⟩
  · intro hm
    rcases List.mem_cons.mp hm with e | hm
    · exact absurd F.ns.lt (e ▸ Nat.lt_irrefl _)
    · exact absurd (Nat.lt_of_lt_of_le hlt F.above) ((List.mem_singleton.mp hm) ▸ Nat.lt_irrefl _)
  · intro b hb
    rw [List.mem_singleton.mp hb]
    exact next_is_new F
  · intro p hp hb
    exact absurd (Heap.lt_size (N p hp).1) ((List.mem_singleton.mp hb) ▸ Nat.lt_irrefl _)
  · rintro i v m₁ news₁ s₁ own hi hP ⟨hJ, hm⟩ hoff hown _ hall hst F₁ N₁
    rw [fixm m₁ hm] at F₁
    have hio : ∃ o, (s.heap.objs.size, o) ∈ own := by
      obtain ⟨o, ho, _⟩ := hst.1
      exact ⟨o, hall _ (.head _) (next_is_new F) o ho⟩
    have hown' : ∀ p ∈ own, p.1 = s.heap.objs.size := fun p hp => by
      rcases List.mem_cons.mp (hown p hp) with e | e
      · exact e
      · have h1 := (N₁ p (List.mem_append_left _ hp)).2.2
        rw [List.mem_singleton.mp e, hol] at h1
        cases h1
    refine wpAny_mono (turn i v m₁ news₁ own s₁ hP hJ (fun p hp e => hoff p hp (List.mem_singleton.mpr e)) hown' hio F₁ N₁) (fun _ s₃ h₃ => wpAny_mono h₃ (fun f s₄ q => ?_) fun _ _ e => e) fun _ _ e => e
    obtain ⟨rfl, h', tk', m', news', rfl, F', N', hn', hm', hJ'⟩ := q
    exact ⟨rfl, h', tk', m', news', rfl, F', N', fun p hp hb => hn' p hp (List.mem_singleton.mp hb), hJ', hm'⟩
  · rintro h' tk m' news' F' N' _ ⟨hJ, hm⟩
    refine done m' news' h' tk hJ ?_ N'
    rw [← fixm m' hm]; exact F'
end

theorem news_new {h₀ h h' : Heap} {L d : Addr} {o : Obj} {m : PySem.Str → Option Value} {news : List (Addr × Obj)} (F : Fr h₀ L h m) (N : News h₀ L h news) (k : ∀ b o, h.get? b = some o → h'.get? b = some o) (hn : h.get? d = none) (ho : h'.get? d = some o) :
    News h₀ L h' ((d, o) :: news) ∧ ∀ p ∈ news, p.1 ≠ d := by
  refine ⟨fun q hq => ?_, fun p hp e => ?_⟩
  · rcases List.mem_cons.mp hq with rfl | hq
    · refine ⟨ho, fun e => ?_, ?_⟩
      · obtain ⟨oL, _, _, hL, _⟩ := F.ns
        dsimp only at e
        rw [← e, hn] at hL
        cases hL
      · cases q : h₀.get? d with
        | none => rfl
        | some x => have := F.keep _ _ q; rw [hn] at this; cases this
    · exact ⟨k _ _ (N q hq).1, (N q hq).2⟩
  · have := (N p hp).1
    rw [e, hn] at this
    cases this

theorem kdlKeys : ∀ {kvs : List (PySem.Str × Value)} {C : List Value → Prop}, (∀ vs, StrsAre vs (kvs.map (·.1)) → C vs) → KdlKeysS kvs C
  | [], _, h => h [] .nil
  | _ :: _, _, h => fun t => kdlKeys fun vs hv => h _ (.cons _ t hv)
theorem fr_congr {h₀ h : Heap} {L : Addr} {m m' : PySem.Str → Option Value} (F : Fr h₀ L h m) (e : ∀ y, m y = m' y) : Fr h₀ L h m' := by
  have : m = m' := funext e
  exact this ▸ F

section
variable {prog : Program} {w : World} {A : Around} {E : Value → Shared → Prop} {s : Shared} {h₀ : Heap} {L D b : Addr} {m : PySem.Str → Option Value} {post : List (Addr × Obj)} {vs ws : List Value} {n n2 : Nat}
theorem app_head {v : Value} {Q : Value → Shared → Prop} (F : Fr h₀ L s.heap m) (N : News h₀ L s.heap ((D, PySem.W.listOf vs.toArray n) :: post)) (hp : ∀ p ∈ post, p.1 ≠ D) (hz : vs.length ≤ 100000)
    (h : ∀ h' c, Fr h₀ L h' m → News h₀ L h' ((D, PySem.W.listOf (vs ++ [v]).toArray c) :: post) → Q .none { s with heap := h' }) : wpAny (model prog w) A (call (.builtin "list.append") [.ref D, v]) Q E s := by
  have z := N (D, PySem.W.listOf vs.toArray n) (.head _)
  have hs : 100000 ≤ sizeLine := by rw [sizeLine_eq]; decide
  refine wpAny_list_append_plain (hsz := by simp; omega) ⟨n, z.1⟩ fun h' hl' hs' => ?_
  obtain ⟨c, hc⟩ := hl'
  refine h h' c (F.change hs' z.2.1 z.2.2) fun p hp' => ?_
  rcases List.mem_cons.mp hp' with rfl | hp'
  · exact ⟨by simpa using hc, z.2⟩
  · have q := N p (.tail _ hp')
    exact ⟨(hs'.2 _ (hp p hp')).trans q.1, q.2⟩
end
abbrev tup2 (p : PySem.Str × PySem.Str) (t u : Tok) : Obj := { cls := .type "tuple", data := .seq [Value.str p.1 t, Value.str p.2 u].toArray }
/-- pairs of texts on the ledger -/
inductive PairL (ts : List (Addr × Obj)) : List Value → List (PySem.Str × PySem.Str) → Prop
  | nil : PairL ts [] []
  | cons {a : Addr} {t u : Tok} {vs : List Value} {p : PySem.Str × PySem.Str} {ps : List (PySem.Str × PySem.Str)} : (a, tup2 p t u) ∈ ts → PairL ts vs ps → PairL ts (.ref a :: vs) (p :: ps)
theorem PairL.mono {ts ts' : List (Addr × Obj)} (k : ∀ p ∈ ts, p ∈ ts') : ∀ {vs : List Value} {ps : List (PySem.Str × PySem.Str)}, PairL ts vs ps → PairL ts' vs ps
  | _, _, .nil => .nil
  | _, _, .cons h r => .cons (k _ h) (r.mono k)
theorem PairL.snoc {ts : List (Addr × Obj)} {a : Addr} {t u : Tok} {p : PySem.Str × PySem.Str} (h : (a, tup2 p t u) ∈ ts) : ∀ {vs : List Value} {ps : List (PySem.Str × PySem.Str)}, PairL ts vs ps → PairL ts (vs ++ [.ref a]) (ps ++ [p])
  | _, _, .nil => .cons h .nil
  | _, _, .cons h' r => .cons h' (r.snoc h)
theorem PairL.len_eq {ts : List (Addr × Obj)} : ∀ {vs : List Value} {ps : List (PySem.Str × PySem.Str)}, PairL ts vs ps → vs.length = ps.length
  | _, _, .nil => rfl
  | _, _, .cons _ r => by simp [r.len_eq]
/-- pairs of texts in a heap -/
inductive PairH (h : Heap) : List Value → List (PySem.Str × PySem.Str) → Prop
  | nil : PairH h [] []
  | cons {a : Addr} {t u : Tok} {vs : List Value} {p : PySem.Str × PySem.Str} {ps : List (PySem.Str × PySem.Str)} : h.get? a = some (tup2 p t u) → PairH h vs ps → PairH h (.ref a :: vs) (p :: ps)
theorem PairL.toH {ts : List (Addr × Obj)} {h : Heap} (k : ∀ p ∈ ts, h.get? p.1 = some p.2) : ∀ {vs : List Value} {ps : List (PySem.Str × PySem.Str)}, PairL ts vs ps → PairH h vs ps
  | _, _, .nil => .nil
  | _, _, .cons h' r => .cons (k _ h') (r.toH k)
theorem PairH.up {h h' : Heap} (k : ∀ b o, h.get? b = some o → h'.get? b = some o) : ∀ {vs : List Value} {ps : List (PySem.Str × PySem.Str)}, PairH h vs ps → PairH h' vs ps
  | _, _, .nil => .nil
  | _, _, .cons e r => .cons (k _ _ e) (r.up k)
theorem PairH.len_eq {h : Heap} : ∀ {vs : List Value} {ps : List (PySem.Str × PySem.Str)}, PairH h vs ps → vs.length = ps.length
  | _, _, .nil => rfl
  | _, _, .cons _ r => by simp [r.len_eq]
theorem head_addr {h₀ h : Heap} {L a : Addr} {o : Obj} {r : List (Addr × Obj)} (_ : News h₀ L h ((a, o) :: r)) : ∃ P, P = a := ⟨a, rfl⟩
theorem take_snoc {α : Type} {l : List α} {i : Nat} {x : α} (h : l[i]? = some x) : l.take (i + 1) = l.take i ++ [x] := by
  rw [List.take_add_one, h]; rfl
theorem three_same {a b c : Option Value} {x y z k : PySem.Str} {u m₀ : PySem.Str → Option Value} (hk : [x, y, z].contains k = false) :
    (if k = z then a else if k = y then b else if k = x then c else if [x, y, z].contains k = true then u k else m₀ k) = m₀ k := by
  have h := hk
  simp only [List.contains_cons, List.contains_nil, Bool.or_false, Bool.or_eq_false_iff, beq_eq_false_iff_ne, ne_eq] at h
  rw [if_neg h.2.2, if_neg h.2.1, if_neg h.1, hk]
  rfl
theorem lt_of_allLt {d : Addr} {l : List (Addr × Obj)} (h : AllLt d l) {p : Addr × Obj} (hp : p ∈ l) : p.1 < d := by
  induction l with
  | nil => cases hp
  | cons q r ih =>
    rcases List.mem_cons.mp hp with rfl | hp
    · exact h.1
    · exact ih h.2 hp

def Halt (p : Prop) : Prop := p
theorem halt {p : Prop} (h : Halt p) : p := h
theorem go {p : Prop} (h : p) : Halt p := h

/-- the rows as the text writes them -/
def rowsE : List PySem.Expr := match PySem.Challenge.pw_pq1020_01.main.body with
  | _ :: .Assign _ (.Tuple es _ _) _ :: _ => es
  | _ => []
structure Rw where
  nm : PySem.Str
  needs : List PySem.Str
  text : PySem.Str
def strE : PySem.Expr → PySem.Str
  | .Constant (.str x) _ _ => x
  | _ => ⟨#[]⟩
def rowE : PySem.Expr → Rw
  | .Tuple [n, .Tuple ns _ _, t] _ _ => ⟨strE n, ns.map strE, strE t⟩
  | _ => ⟨⟨#[]⟩, [], ⟨#[]⟩⟩
def tab : List Rw := rowsE.map rowE
def names : List PySem.Str := tab.map (·.nm)
theorem tab_len : tab.length = 29 := rfl
abbrev rowA (i : Nat) : Addr := 16 + 2 * i
abbrev rowsV : Array Value := ((List.range 29).map fun i => Value.ref (rowA i)).toArray

/-- a row in the heap -/
def RowAt (h : Heap) (i : Nat) : Prop := ∃ r t u vs, tab[i]? = some r ∧ IsTup h (rowA i) #[.str r.nm t, .ref (15 + 2 * i), .str r.text u] ∧ (∃ n, h.get? (15 + 2 * i) = some { cls := .type "tuple", data := .seq vs.toArray n }) ∧ StrsAre vs r.needs
theorem strs_of : ∀ (xs : List PySem.Str) (ts : List Tok), ts.length = xs.length → StrsAre ((xs.zip ts).map fun p => Value.str p.1 p.2) xs
  | [], [], _ => .nil
  | x :: xs, t :: ts, h => .cons x t (strs_of xs ts (by simpa using h))

theorem row_at {w : World} {h : Heap} (X : (hd.heap_1 w.params).In h) : ∀ i, i < 29 → RowAt h i := by
  intro i hi
  have z (a : Addr) (vs : Array Value) (n : Nat) (e : (hd.heap_1 w.params).lookup a = some { cls := .type "tuple", data := .seq vs n }) : IsTup h a vs := ⟨_, X _ _ e, rfl, n, rfl⟩
  iterate 29 (rcases i with _ | i; exact ⟨_, _, _, _, rfl, z _ _ _ rfl, ⟨_, X _ _ rfl⟩, by repeat constructor⟩)
  omega
theorem rows_at {w : World} {h : Heap} (X : (hd.heap_1 w.params).In h) : IsTup h 73 rowsV := ⟨_, X 73 _ rfl, rfl, _, rfl⟩
theorem rowsV_get {i : Nat} {v : Value} (h : rowsV[i]? = some v) : i < 29 ∧ v = .ref (rowA i) := by
  have e : (rowsV.toList[i]? : Option Value) = some v := by rw [Array.getElem?_toList]; exact h
  simp only [rowsV] at e
  have hi : i < 29 := by
    have := (List.getElem?_eq_some_iff.mp e).1
    simpa using this
  refine ⟨hi, ?_⟩
  simp [hi] at e
  exact e.symm
theorem names_get {i : Nat} {r : Rw} (h : tab[i]? = some r) : names.getD i ⟨#[]⟩ = r.nm := by
  unfold names
  simp [List.getD, List.getElem?_map, h]
/-- the place of a name's row -/
def at? (x : PySem.Str) : Option Nat := (List.range 29).find? fun i => decide ((names.getD i ⟨#[]⟩) = x)
def rowV (x : PySem.Str) : Value := match at? x with
  | some i => .ref (rowA i)
  | none => .none
theorem at_some {x : PySem.Str} {i : Nat} (hi : i < 29) (hj : ∀ j, j < i → names.getD j ⟨#[]⟩ ≠ x) (h : names.getD i ⟨#[]⟩ = x) : at? x = some i := by
  unfold at?
  rw [List.find?_eq_some_iff_append]
  refine ⟨by simpa using h, List.range i, (List.range' (i + 1) (28 - i)), ?_, fun a ha => by simpa using hj a (by simpa using ha)⟩
  rw [List.range_eq_range', List.range_eq_range', show 29 = i + (1 + (28 - i)) by omega, ← List.range'_append_1, ← List.range'_append_1]
  simp
theorem at_none {x : PySem.Str} (hj : ∀ j, j < 29 → names.getD j ⟨#[]⟩ ≠ x) : at? x = none := by
  unfold at?
  rw [List.find?_eq_none]
  intro a ha
  simpa using hj a (by simpa using ha)
theorem at_lt {x : PySem.Str} {i : Nat} (h : at? x = some i) : i < 29 ∧ names.getD i ⟨#[]⟩ = x := by
  unfold at? at h
  have h1 := List.mem_of_find?_eq_some h
  have h2 := List.find?_some h
  exact ⟨by simpa using h1, by simpa using h2⟩
/-- what a name's row needs -/
def needs (x : PySem.Str) : List PySem.Str := match at? x with
  | some i => (tab.getD i ⟨⟨#[]⟩, [], ⟨#[]⟩⟩).needs
  | none => []
def kn (x : PySem.Str) : Prop := (at? x).isSome = true
theorem needs_at {x : PySem.Str} {i : Nat} {r : Rw} (h : at? x = some i) (hr : tab[i]? = some r) : needs x = r.needs := by
  unfold needs
  rw [h]
  simp [List.getD, hr]
theorem needs_le (x : PySem.Str) : (needs x).length ≤ 4 := by
  unfold needs
  cases h : at? x with
  | none => simp
  | some i =>
    have : ∀ i, i < 29 → (tab.getD i ⟨⟨#[]⟩, [], ⟨#[]⟩⟩).needs.length ≤ 4 := by
      intro i hi
      iterate 29 (rcases i with _ | i; exact Nat.le_of_ble_eq_true rfl)
      omega
    exact this i (at_lt h).1
theorem kn_names {x : PySem.Str} (h : kn x) : x ∈ names := by
  unfold kn at h
  obtain ⟨i, hi⟩ := Option.isSome_iff_exists.mp h
  obtain ⟨h1, h2⟩ := at_lt hi
  rw [← h2]
  have : i < names.length := h1
  simp [List.getD, List.getElem?_eq_getElem this]
/-- the text of continuations that go through winders -/
def woundT : PySem.Str := match PySem.Challenge.pw_pq1020_01.main.body with
  | _ :: _ :: .Assign _ v _ :: _ => strE v
  | _ => ⟨#[]⟩

section
variable {α : Type} (nd : α → List α) (kn : α → Prop)
/-- what some names reach -/
inductive Cl (asked : List α) : α → Prop
  | base {a : α} : a ∈ asked → kn a → Cl asked a
  | step {k n : α} : Cl asked k → n ∈ nd k → kn n → Cl asked n
structure WInv (asked ks xs : List α) : Prop where
  keys : ∀ k ∈ ks, Cl nd kn asked k
  wait : ∀ x ∈ xs, kn x → Cl nd kn asked x
  ask : ∀ a ∈ asked, kn a → a ∈ ks ∨ a ∈ xs
  nds : ∀ k ∈ ks, ∀ n ∈ nd k, kn n → n ∈ ks ∨ n ∈ xs
variable {nd kn} {asked ks xs : List α} {x : α}
theorem Cl.kn' (h : Cl nd kn asked x) : kn x := by cases h <;> assumption
theorem WInv.start : WInv nd kn asked [] asked := ⟨fun _ h => (nomatch h), fun _ h k => .base h k, fun _ h _ => .inr h, fun _ h => (nomatch h)⟩
theorem WInv.skip (h : WInv nd kn asked ks (xs ++ [x])) (k : kn x → x ∈ ks) : WInv nd kn asked ks xs where
  keys := h.keys
  wait := fun y hy => h.wait y (List.mem_append_left _ hy)
  ask := fun a ha hk => (h.ask a ha hk).elim .inl fun q => (List.mem_append.mp q).elim .inr fun q => by
    rw [List.mem_singleton] at q; subst q; exact .inl (k hk)
  nds := fun a ha n hn hk => (h.nds a ha n hn hk).elim .inl fun q => (List.mem_append.mp q).elim .inr fun q => by
    rw [List.mem_singleton] at q; subst q; exact .inl (k hk)
theorem WInv.take (h : WInv nd kn asked ks (xs ++ [x])) (k : kn x) : WInv nd kn asked (ks ++ [x]) (xs ++ nd x) where
  keys := fun y hy => (List.mem_append.mp hy).elim (h.keys y) fun q => by
    rw [List.mem_singleton] at q; subst q; exact h.wait _ (by simp) k
  wait := fun y hy hk => (List.mem_append.mp hy).elim (fun q => h.wait y (List.mem_append_left _ q) hk) fun q => .step (h.wait x (by simp) k) q hk
  ask := fun a ha hk => by
    rcases h.ask a ha hk with q | q
    · exact .inl (List.mem_append_left _ q)
    · rcases List.mem_append.mp q with q | q
      · exact .inr (List.mem_append_left _ q)
      · exact .inl (List.mem_append_right _ q)
  nds := fun a ha n hn hk => by
    rcases List.mem_append.mp ha with q | q
    · rcases h.nds a q n hn hk with q | q
      · exact .inl (List.mem_append_left _ q)
      · rcases List.mem_append.mp q with q | q
        · exact .inr (List.mem_append_left _ q)
        · exact .inl (List.mem_append_right _ q)
    · rw [List.mem_singleton] at q; subst q
      exact .inr (List.mem_append_right _ hn)
theorem WInv.done (h : WInv nd kn asked ks []) : x ∈ ks ↔ Cl nd kn asked x := by
  constructor
  · exact h.keys x
  · intro c
    induction c with
    | base ha hk => exact (h.ask _ ha hk).elim id fun q => nomatch q
    | step _ hn hk ih => exact (h.nds _ ih _ hn hk).elim id fun q => nomatch q
theorem Cl.mono {ys : List α} (h : Cl nd kn asked x) (s : ∀ a ∈ asked, a ∈ ys) : Cl nd kn ys x := by
  induction h with
  | base ha hk => exact .base (s _ ha) hk
  | step _ hn hk ih => exact .step ih hn hk
theorem cl_again {ks ex : List α} (h : ∀ y, y ∈ ks ↔ Cl nd kn asked y) : Cl nd kn (ks ++ ex) x ↔ Cl nd kn (asked ++ ex) x := by
  constructor
  · intro c
    induction c with
    | base ha hk =>
      rcases List.mem_append.mp ha with q | q
      · exact ((h _).mp q).mono fun a ha => List.mem_append_left _ ha
      · exact .base (List.mem_append_right _ q) hk
    | step _ hn hk ih => exact .step ih hn hk
  · intro c
    induction c with
    | base ha hk =>
      rcases List.mem_append.mp ha with q | q
      · exact .base (List.mem_append_left _ ((h _).mpr (.base q hk))) hk
      · exact .base (List.mem_append_right _ q) hk
    | step _ hn hk ih => exact .step ih hn hk
end
theorem nodup_le {α : Type} [DecidableEq α] : ∀ {l m : List α}, l.Nodup → (∀ x ∈ l, x ∈ m) → l.length ≤ m.length
  | [], _, _, _ => Nat.zero_le _
  | a :: l, m, h, s => by
    have ha : a ∈ m := s a (by simp)
    obtain ⟨hn, hl⟩ := List.nodup_cons.mp h
    have := nodup_le (m := m.erase a) hl fun x hx => by
      have hxa : x ≠ a := fun e => hn (e ▸ hx)
      exact (List.mem_erase_of_ne hxa).mpr (s x (by simp [hx]))
    rw [List.length_erase_of_mem ha] at this
    have hp : 0 < m.length := List.length_pos_of_mem ha
    simp only [List.length_cons]; omega

section WordsPart
open Builtin Builtin.Str StrLaws
/-- one sign for another -/
def swp (c d : Nat) (k : Nat) : Nat := if k = c then d else k
theorem map_free (c d : Nat) : ∀ l : List Nat, c ∉ l → l.map (swp c d) = l
  | [], _ => rfl
  | k :: r, h => by
    have h1 : ¬ k = c := fun e => h (e ▸ List.mem_cons_self ..)
    have h2 : c ∉ r := fun m => h (List.mem_cons_of_mem _ m)
    simp only [List.map_cons]
    rw [map_free c d r h2]
    unfold swp
    rw [if_neg h1]
theorem map_join (c d : Nat) : ∀ parts : List PySem.Str, (∀ p ∈ parts, c ∉ p.cps.toList) → (Str.join ⟨#[c]⟩ parts).cps.toList.map (swp c d) = (Str.join ⟨#[d]⟩ parts).cps.toList
  | [], _ => rfl
  | [p], h => map_free c d _ (h p (List.mem_singleton.mpr rfl))
  | p :: q :: r, h => by
    have ih := map_join c d (q :: r) fun a ha => h a (List.mem_cons_of_mem _ ha)
    show (p ++ ⟨#[c]⟩ ++ Str.join ⟨#[c]⟩ (q :: r)).cps.toList.map (swp c d) = (p ++ ⟨#[d]⟩ ++ Str.join ⟨#[d]⟩ (q :: r)).cps.toList
    simp only [Str.cps_append, Array.toList_append]
    rw [List.map_append, List.map_append, ih, map_free c d _ (h p (List.mem_cons_self ..))]
    congr 1
    congr 1
    simp [swp]
theorem replace_map (x : PySem.Str) (c d : Nat) : (Txt.replace x ⟨#[c]⟩ ⟨#[d]⟩).cps.toList = x.cps.toList.map (swp c d) := by
  rw [replace_one, ← map_join c d _ (split_free x c), join_split]
theorem replace_len (x : PySem.Str) (c d : Nat) : (Txt.replace x ⟨#[c]⟩ ⟨#[d]⟩).length = x.length := by
  have := congrArg List.length (replace_map x c d)
  show (Txt.replace x ⟨#[c]⟩ ⟨#[d]⟩).cps.size = x.cps.size
  simpa using this

/-- between words -/
def sep (c : Nat) : Bool := Unicode.isSpace c || Nat.beq c 40 || Nat.beq c 41 || Nat.beq c 39
def wl : List Nat → List Nat → List (List Nat)
  | [], cur => match cur with | [] => [] | a :: b => [(a :: b).reverse]
  | c :: r, cur => match sep c with
    | true => (match cur with | [] => wl r [] | a :: b => (a :: b).reverse :: wl r [])
    | false => wl r (c :: cur)
def wordsL (l : List Nat) : List (List Nat) := wl l []
def ofL (l : List Nat) : PySem.Str := ⟨l.toArray⟩
def wordsOf (x : PySem.Str) : List PySem.Str := (wordsL x.cps.toList).map ofL
def clear3 (x : PySem.Str) : PySem.Str := Txt.replace (Txt.replace (Txt.replace x ⟨#[40]⟩ ⟨#[32]⟩) ⟨#[41]⟩ ⟨#[32]⟩) ⟨#[39]⟩ ⟨#[32]⟩
def swp3 (k : Nat) : Nat := swp 39 32 (swp 41 32 (swp 40 32 k))
theorem clear3_map (x : PySem.Str) : (clear3 x).cps.toList = x.cps.toList.map swp3 := by
  unfold clear3
  rw [replace_map, replace_map, replace_map, List.map_map, List.map_map]
  rfl
theorem clear3_len (x : PySem.Str) : (clear3 x).length = x.length := by
  unfold clear3
  rw [replace_len, replace_len, replace_len]
theorem swp3_sep (c : Nat) : Unicode.isSpace (swp3 c) = sep c := by
  unfold swp3 swp sep
  have h32 : Unicode.isSpace 32 = true := by decide +kernel
  by_cases h1 : c = 40
  · subst h1; simp [h32]
  · by_cases h2 : c = 41
    · subst h2; simp [h32]
    · by_cases h3 : c = 39
      · subst h3; simp [h32]
      · have e1 : Nat.beq c 40 = false := by cases q : Nat.beq c 40; rfl; exact absurd (Nat.eq_of_beq_eq_true q) h1
        have e2 : Nat.beq c 41 = false := by cases q : Nat.beq c 41; rfl; exact absurd (Nat.eq_of_beq_eq_true q) h2
        have e3 : Nat.beq c 39 = false := by cases q : Nat.beq c 39; rfl; exact absurd (Nat.eq_of_beq_eq_true q) h3
        simp [h1, h2, h3, e1, e2, e3]
theorem swp3_off {c : Nat} (h : sep c = false) : swp3 c = c := by
  unfold sep at h
  simp only [Bool.or_eq_false_iff] at h
  unfold swp3 swp
  have h1 : ¬ c = 40 := Nat.ne_of_beq_eq_false h.1.1.2
  have h2 : ¬ c = 41 := Nat.ne_of_beq_eq_false h.1.2
  have h3 : ¬ c = 39 := Nat.ne_of_beq_eq_false h.2
  simp [h1, h2, h3]
theorem scan_wl : ∀ (l : List Nat) (ws : List PySem.Str) (run : PySem.Str), KWd.fin ((l.map swp3).foldl KWd.step (ws, run)) = ws ++ (wl l run.cps.toList.reverse).map ofL
  | [], ws, run => by
    show KWd.fin (ws, run) = _
    unfold KWd.fin
    by_cases h : run.length = 0
    · have : run.cps.toList = [] := by
        have : run.cps.size = 0 := h
        simpa using this
      rw [if_pos h, this]; simp [wl]
    · rw [if_neg h]
      cases e : run.cps.toList.reverse with
      | nil =>
        exfalso
        apply h
        have : run.cps.toList = [] := by simpa using e
        show run.cps.size = 0
        simpa using this
      | cons a b =>
        show ws ++ [run] = ws ++ [ofL (a :: b).reverse]
        rw [← e, List.reverse_reverse]
        congr 1
  | c :: r, ws, run => by
    rw [List.map_cons, List.foldl_cons]
    cases hc : sep c with
    | true =>
      have hst : KWd.step (ws, run) (swp3 c) = (if run.length = 0 then (ws, run) else (ws ++ [run], Str.empty)) := by
        unfold KWd.step
        dsimp only
        rw [swp3_sep, hc, if_pos rfl]
        try rfl
      have hw : wl (c :: r) run.cps.toList.reverse = (match run.cps.toList.reverse with | [] => wl r [] | a :: b => (a :: b).reverse :: wl r []) := by
        rw [wl.eq_def]
        dsimp only
        rw [hc]
      rw [hst, hw]
      by_cases h : run.length = 0
      · have e : run.cps.toList = [] := by
          have : run.cps.size = 0 := h
          simpa using this
        rw [if_pos h, e]
        have := scan_wl r ws run
        rw [e] at this
        exact this
      · rw [if_neg h]
        have := scan_wl r (ws ++ [run]) Str.empty
        rw [this]
        cases e : run.cps.toList.reverse with
        | nil =>
          exfalso
          apply h
          have : run.cps.toList = [] := by simpa using e
          show run.cps.size = 0
          simpa using this
        | cons a b =>
          show ws ++ [run] ++ (wl r []).map ofL = ws ++ (ofL (a :: b).reverse :: (wl r []).map ofL)
          rw [← e, List.reverse_reverse]
          simp [ofL]
    | false =>
      have hst : KWd.step (ws, run) (swp3 c) = (ws, run ++ ⟨#[c]⟩) := by
        unfold KWd.step
        dsimp only
        rw [swp3_sep, hc, if_neg Bool.false_ne_true, swp3_off hc]
      have hw : wl (c :: r) run.cps.toList.reverse = wl r (c :: run.cps.toList.reverse) := by
        rw [wl.eq_def]
        dsimp only
        rw [hc]
      rw [hst, hw]
      have := scan_wl r ws (run ++ ⟨#[c]⟩)
      rw [this]
      rw [Str.cps_append, Array.toList_append, List.reverse_append]
      rfl
theorem words_clear (x : PySem.Str) : Txt.words (clear3 x) = wordsOf x := by
  rw [KWd.words_scan]
  unfold KWd.scan
  rw [clear3_map]
  exact scan_wl _ [] Str.empty
end WordsPart

/-- a list has no keys -/
theorem keys_of_list {prog : Program} {w : World} {A : Around} {E : Value → Shared → Prop} {s : Shared} {a : Addr} {xs : Array Value} {k : Nat} {Q : Option Value → Shared → Prop}
    (hx : s.heap.get? a = some { cls := .type "list", dict := none, data := .seq xs k }) (hA : A.handled = none)
    (h : ∀ h' tk, (∀ b o, s.heap.get? b = some o → h'.get? b = some o) → Q none { s with heap := h', toks := tk }) :
    wpAny (model prog w) A (getAttr? (.ref a) "keys") Q E s := by
  obtain ⟨hp, g, d, tk, os⟩ := s
  have hmiss : typeLookup (.type "list") "keys" = pure none := am_miss_of_fast (by kernel_rfl)
  have hT : ∀ tk', (⟨hp, g, d, tk', os⟩ : Shared).TypeIs (.ref a) "list" := fun _ => ⟨_, hx, rfl⟩
  have f1 := sub_AttributeError
  have f3 := F.slot_list_getattribute.lookup
  have f4 := F.slot_list_getattribute.bind (.ref a)
  have f5 := am_list_getattr_none
  unfold getAttr? getAttrBy? getAttrBy
  repeat (any_goals (first | assumption | exact hT _ | ((with_reducible show wpAny _ _ (call (Value.builtin "list.__getattribute__") _ _) _ _ _); refine call_meets F.slot_list_getattribute (hT _) am_entry_list_getattribute (F.args_list_getattribute_2 _ _) (meets_getattribute_miss_list a xs k #[] "keys" _ hmiss (by decide +kernel) (by rw [sizeLine_eq]; decide +kernel)) ⟨hx, hA, fun h' tk' e hx' => ?_⟩) | wp_step))
  obtain ⟨t', u', he⟩ := hx'.there
  show wpAny _ _ (getattributeRaised _ _ _ _ _ _ _) _ _ _
  unfold getattributeRaised
  repeat (any_goals (first | assumption | wp_step))
  exact h _ _ hx'.keeps

/-- pairs of a text and a value in a heap -/
inductive KvH (h : Heap) : List Value → List (PySem.Str × Value) → Prop
  | nil : KvH h [] []
  | cons {a : Addr} {k : PySem.Str} {t : Tok} {x : Value} {vs : List Value} {ps : List (PySem.Str × Value)} {n : Nat} : h.get? a = some { cls := .type "tuple", data := .seq [Value.str k t, x].toArray n } → KvH h vs ps → KvH h (.ref a :: vs) ((k, x) :: ps)
theorem KvH.up {h h' : Heap} (k : ∀ b o, h.get? b = some o → h'.get? b = some o) : ∀ {vs : List Value} {ps : List (PySem.Str × Value)}, KvH h vs ps → KvH h' vs ps
  | _, _, .nil => .nil
  | _, _, .cons e r => .cons (k _ _ e) (r.up k)
theorem KvH.len_eq {h : Heap} : ∀ {vs : List Value} {ps : List (PySem.Str × Value)}, KvH h vs ps → vs.length = ps.length
  | _, _, .nil => rfl
  | _, _, .cons _ r => by simp [r.len_eq]
theorem KvH.at {h : Heap} : ∀ {vs : List Value} {ps : List (PySem.Str × Value)}, KvH h vs ps → ∀ {i : Nat} {v : Value}, vs[i]? = some v → ∃ a k t x n, v = .ref a ∧ ps[i]? = some (k, x) ∧ h.get? a = some { cls := .type "tuple", data := .seq [Value.str k t, x].toArray n }
  | _, _, .nil, i, v, e => by simp at e
  | _, _, .cons (a := a) (k := k) (t := t) (x := x) (n := n) e r, 0, v, q => by
    simp at q
    exact ⟨a, k, t, x, n, q.symm, rfl, e⟩
  | _, _, .cons e r, i + 1, v, q => by
    simp at q
    obtain ⟨a, k, t, x, n, h1, h2, h3⟩ := r.at q
    exact ⟨a, k, t, x, n, h1, by simpa using h2, h3⟩

theorem plain_update_loop : plainId "dict.update.loop" = true := by decide +kernel
theorem entry_update_loop : entryFor table "dict.update.loop" = some Builtin.«dict.update.loop» := entryFor_of_fast (by kernel_rfl)

section
variable {prog : Program} {w : World} {A : Around} {E : Value → Shared → Prop} {s : Shared}
theorem dict_loop {R : Result → Shared → Prop} {vs : List Value} {kvs : List (PySem.Str × Value)} {a I d : Addr} {h₀ : Heap} (hh : A.handled = none) (hne : a ≠ I) (hdI : d ≠ I) (hda : d ≠ a)
    (hI0 : h₀.get? I = none) (hd0 : h₀.get? d = none) (hkv : KvH h₀ vs kvs) (hsz : kvs.length ≤ sizeLine)
    (hR : ∀ h' tk, (∀ b o, h₀.get? b = some o → h'.get? b = some o) → h'.DictOf (PySem.strKind prog w) d (merged [] kvs) → R (.ok (.ret .none)) { s with heap := h', toks := tk }) :
    ∀ (k i : Nat) (h : Heap) (tk : Nat), vs.length - i = k → i ≤ vs.length → h.IsListIter I a i → h.IsList a vs.toArray → (∀ b o, h₀.get? b = some o → h.get? b = some o) → h.DictOf (PySem.strKind prog w) d (merged [] (kvs.take i)) →
      codeAny (model prog w) A (.builtin "dict.update.loop" ⟨[.ref d, .ref I, .int i 0, .none], []⟩) R { s with heap := h, toks := tk } := by
  have W := Walks.list (prog := prog) (w := w) (A := A.in1) hh I a hne vs.toArray
  intro k
  induction k with
  | zero =>
    intro i h tk hk hi hit hl hup hd
    have hin : i = vs.length := by omega
    refine codeAny_builtin entry_update_loop ?_
    rw [Around.under_plainId plain_update_loop _]
    show wpAny _ A.in1 (pyNext (.ref I) >>= _) _ _ _
    refine wpAny_bind (W.done _ _ _ ⟨by simpa [hin] using hit, hl⟩ fun h' tk' hm => ?_)
    refine wpAny_bind (m := Builtin.Dict.addKeywords d []) (wpAny_pure ?_)
    refine wpAny_pure (hR h' tk' (fun b o e => ?_) ?_)
    · refine hm b o (fun hb => ?_) (hup b o e)
      rw [List.mem_singleton.mp hb, hI0] at e
      cases e
    · have ht : kvs.take i = kvs := List.take_of_length_le (by rw [hin, hkv.len_eq]; exact Nat.le_refl _)
      rw [ht] at hd
      obtain ⟨o, es, ep, ho, r⟩ := hd
      exact ⟨o, es, ep, hm d o (fun hb => hdI (List.mem_singleton.mp hb)) ho, r⟩
  | succ k ih =>
    intro i h tk hk hi hit hl hup hd
    have hlt : i < vs.length := by omega
    refine codeAny_builtin entry_update_loop ?_
    rw [Around.under_plainId plain_update_loop _]
    show wpAny _ A.in1 (pyNext (.ref I) >>= _) _ _ _
    refine wpAny_bind (W.item i _ _ _ (by simpa using hlt) ⟨hit, hl⟩ fun v h' tk' hv hst hm => ?_)
    obtain ⟨b, key, t, x, n, rfl, hx, hb⟩ := hkv.at (by simpa using hv)
    have hup' : ∀ b o, h₀.get? b = some o → h'.get? b = some o := fun b o e => by
      refine hm b o (fun hb => ?_) (hup b o e)
      rw [List.mem_singleton.mp hb, hI0] at e
      cases e
    have hd' : h'.DictOf (PySem.strKind prog w) d (merged [] (kvs.take i)) := by
      obtain ⟨o, es, ep, ho, r⟩ := hd
      exact ⟨o, es, ep, hm d o (fun hb => hdI (List.mem_singleton.mp hb)) ho, r⟩
    have hb' := hup' _ _ hb
    dsimp only
    refine wpAny_bind (wpAny_holding (wpAny_bind (wpAny_tryCatch ?_)))
    unfold Builtin.Dict.pairItems
    refine wpAny_bind (wpAny_typeOf ⟨_, hb', rfl⟩ ?_)
    rw [if_pos (by decide)]
    refine wpAny_bind (wpAny_seqItems hb' rfl ?_)
    refine wpAny_pure ?_
    dsimp only [Option.getD]
    refine wpAny_holding ?_
    unfold dictSet
    refine wpAny_holding ?_
    refine wpAny_bind (wpAny_pyHash_str ?_)
    have hle : (merged [] (kvs.take i)).length ≤ sizeLine := by
      have e1 := merged_length_le ([] : List (PySem.Str × Value)) (kvs.take i)
      have e2 : (kvs.take i).length ≤ kvs.length := by rw [List.length_take]; omega
      simp only [List.length_nil] at e1
      omega
    refine wpAny_dictSetHashed_pairs (knd := PySem.strKind prog w) (k := key) (hsz := hle) (by show Value.isStrOf key (Value.str key t) = true; simp [Value.isStrOf]) hd' fun h'' hd'' hs'' => ?_
    refine wpAny_pure ⟨plainId_quiet plain_update_loop _, ?_⟩
    have hdb : ∀ b o, h₀.get? b = some o → b ≠ d := fun b o e q => by rw [q, hd0] at e; cases e
    refine ih (i + 1) h'' _ (by omega) (by omega) (hst.1.at fun o e => (hs''.2 I (Ne.symm hdI)).trans e) (hst.2.at fun o e => (hs''.2 a (Ne.symm hda)).trans e) (fun b o e => (hs''.2 b (hdb b o e)).trans (hup' b o e)) ?_
    rw [merged_take_succ [] kvs i (key, x) hx]
    exact hd''

theorem dict_pairs {vs : List Value} {kvs : List (PySem.Str × Value)} {a : Addr} {n : Nat} {Q : Value → Shared → Prop} (hh : A.handled = none)
    (hl : s.heap.get? a = some { cls := .type "list", dict := none, data := .seq vs.toArray n }) (hkv : KvH s.heap vs kvs) (hsz : kvs.length ≤ sizeLine)
    (h : ∀ h' tk, (∀ b o, s.heap.get? b = some o → h'.get? b = some o) → h'.DictOf (PySem.strKind prog w) s.heap.objs.size (merged [] kvs) → Q (.ref s.heap.objs.size) { s with heap := h', toks := tk }) :
    wpAny (model prog w) A (call (.type "dict") [.ref a]) Q E s := by
  refine callType_codes (Q₁ := fun obj s₁ => obj = .ref s.heap.objs.size ∧ s₁ = { s with heap := s.heap.push { cls := .type "dict", data := .dict #[] } }) F.kt_called_dict (F.kt_typeCall_dict_1 _) F.entry_dict_init (kt_code_dict_new _ ⟨rfl, rfl⟩) ?_
  rintro obj s₁ ⟨rfl, rfl⟩
  have hnew : (s.heap.push { cls := .type "dict", data := .dict #[] }).DictOf (PySem.strKind prog w) s.heap.objs.size [] := Heap.DictOf.new s.heap
  have hl' := Heap.get?_push_of_some { cls := .type "dict", data := .dict #[] } hl
  have hlt := Heap.lt_size hl
  have hsize : (s.heap.push { cls := .type "dict", data := .dict #[] }).objs.size = s.heap.objs.size + 1 := by rw [Heap.size_push]
  refine ⟨hnew.typeIs, F.args_dict_init_2 _ _, ?_⟩
  unfold Builtin.«dict.__init__»
  refine wpAny_bind ?_
  unfold Builtin.Dict.selfAndRest
  refine wpAny_bind (wpAny_notOrdered_dict hnew.typeIs ?_)
  show wpAny _ _ (pure (s.heap.objs.size, [Value.ref a])) _ _ _
  refine wpAny_pure ?_
  show wpAny _ _ (Builtin.Dict.updateFrom "dict.__init__" s.heap.objs.size (.ref a) [] .none) _ _ _
  unfold Builtin.Dict.updateFrom
  refine wpAny_bind (wpAny_typeOf ⟨_, hl', rfl⟩ ?_)
  rw [if_pos (by decide)]
  refine wpAny_bind (keys_of_list hl' hh fun h₁ tk₁ hk₁ => ?_)
  dsimp only [Option.isNone]
  rw [if_pos rfl]
  refine wpAny_bind (wpAny_rule ?_)
  have hl₁ : h₁.IsList a vs.toArray := ⟨_, hk₁ _ _ hl', rfl, n, rfl⟩
  refine wpAny_bind (wpAny_pyIter_list hl₁ ?_)
  refine wpAny_pure ⟨plainId_quiet plain_update_loop _, ?_⟩
  have hd1 : h₁.DictOf (PySem.strKind prog w) s.heap.objs.size [] := by
    obtain ⟨o, es, ep, ho, r⟩ := hnew
    exact ⟨o, es, ep, hk₁ _ _ ho, r⟩
  have hdlt : s.heap.objs.size < h₁.objs.size := by
    obtain ⟨o, es, ep, ho, r⟩ := hd1
    exact Heap.lt_size ho
  have hup : ∀ b o, s.heap.get? b = some o → (h₁.push { cls := .type "list_iterator", data := .fields #[.ref a, .int 0 0] }).get? b = some o := fun b o e => Heap.get?_push_of_some _ (hk₁ _ _ (Heap.get?_push_of_some _ e))
  refine dict_loop (A := A.in1) (h₀ := s.heap) (a := a) (I := h₁.objs.size) (d := s.heap.objs.size) hh (Nat.ne_of_lt (Nat.lt_trans hlt hdlt)) (Nat.ne_of_lt hdlt) (Nat.ne_of_gt hlt) (Heap.get?_none_of_le (Nat.le_of_lt hdlt)) (Heap.get?_none_of_le (Nat.le_refl _)) hkv hsz ?_ _ 0 _ _ rfl (by omega) ⟨_, Heap.get?_push_size _ rfl, rfl, rfl⟩ (hl₁.at fun o e => Heap.get?_push_of_some _ e) hup ?_
  · intro h' tk hk hd'
    exact ⟨rfl, h h' tk hk hd'⟩
  · obtain ⟨o, es, ep, ho, r⟩ := hd1
    exact ⟨o, es, ep, Heap.get?_push_of_some _ ho, r⟩
end

/-- sorted lists of the same texts -/
def leS (a b : PySem.Str) : Prop := Spec.ltCps b.cps.toList a.cps.toList = false
theorem leS_trans {a b c : PySem.Str} (h1 : leS a b) (h2 : leS b c) : leS a c := by
  unfold leS at *
  rw [ltCps_eq, decide_eq_false_iff_not] at *
  exact fun h3 => by
    rcases PyProof.Rows.strKind.negTrans c.cps.toList b.cps.toList a.cps.toList (by simpa using h3) with q | q
    · exact h2 (by simpa using q)
    · exact h1 (by simpa using q)
theorem leS_anti {a b : PySem.Str} (h1 : leS a b) (h2 : leS b a) : a = b := by
  unfold leS at *
  rw [ltCps_eq, decide_eq_false_iff_not] at *
  have e : a.cps.toList = b.cps.toList := List.le_antisymm h1 h2
  obtain ⟨x⟩ := a
  obtain ⟨y⟩ := b
  congr 1
  exact Array.toList_inj.mp e
theorem rising_pairwise : ∀ (l : List PySem.Str) (p : PySem.Str), risingS p l = true → (p :: l).Pairwise leS
  | [], p, _ => by simp
  | x :: r, p, h => by
    unfold risingS at h
    simp only [Bool.and_eq_true, Bool.not_eq_true'] at h
    have ih := rising_pairwise r x h.2
    refine List.pairwise_cons.mpr ⟨fun y hy => ?_, ih⟩
    rcases List.mem_cons.mp hy with rfl | hy
    · exact h.1
    · exact leS_trans h.1 (List.rel_of_pairwise_cons ih hy)
theorem sorted_pairwise : ∀ {l : List PySem.Str}, sortedS l = true → l.Pairwise leS
  | [], _ => .nil
  | x :: r, h => rising_pairwise r x h
theorem sorted_same {a b : List PySem.Str} (ha : sortedS a = true) (hb : sortedS b = true) (h : a.Perm b) : a = b :=
  List.Perm.eq_of_pairwise (le := leS) (fun _ _ _ _ h1 h2 => leS_anti h1 h2) (sorted_pairwise ha) (sorted_pairwise hb) h
theorem perm_of_mem {a b : List PySem.Str} (ha : a.Nodup) (hb : b.Nodup) (h : ∀ x, x ∈ a ↔ x ∈ b) : a.Perm b :=
  (List.perm_ext_iff_of_nodup ha hb).mpr h

theorem eqvAll_strs : ∀ ns ms : List PySem.Str, PyData.eqvAll (ns.map PyData.str) (ms.map PyData.str) = decide (ns = ms)
  | [], [] => by simp [PyData.eqvAll]
  | [], _ :: _ => by simp [PyData.eqvAll]
  | _ :: _, [] => by simp [PyData.eqvAll]
  | a :: r, b :: t => by
    simp only [List.map_cons, PyData.eqvAll, PyData.eqv, eqvAll_strs r t]
    by_cases h : a = b <;> by_cases h' : r = t <;> simp [h, h']
def okS (x : PySem.Str) : Bool := x.cps.all (· < 0x110000)
theorem shaped_strs {ss : List PySem.Str} (h : ss.all okS = true) : SeqAt.shaped (.list (ss.map .str)) = true := by
  unfold SeqAt.shaped
  simp only [PyData.canLay0, canLayAll_strs', PyData.depth, depthAll_strs', Bool.and_eq_true, decide_eq_true_eq]
  exact ⟨h, by decide⟩
def pairD (p : PySem.Str × PySem.Str) : PyData := .tuple [.str p.1, .str p.2]
theorem eqvAll_pairs : ∀ ns ms : List (PySem.Str × PySem.Str), PyData.eqvAll (ns.map pairD) (ms.map pairD) = decide (ns = ms)
  | [], [] => by simp [PyData.eqvAll]
  | [], _ :: _ => by simp [PyData.eqvAll]
  | _ :: _, [] => by simp [PyData.eqvAll]
  | (a, x) :: r, (b, y) :: t => by
    simp only [List.map_cons, PyData.eqvAll, PyData.eqv, pairD, eqvAll_pairs r t]
    by_cases h : a = b <;> by_cases h1 : x = y <;> by_cases h' : r = t <;> simp [h, h1, h']
theorem canLay_pairs : ∀ ss : List (PySem.Str × PySem.Str), PyData.canLayAll0 (ss.map pairD) = ss.all fun p => okS p.1 && okS p.2
  | [] => rfl
  | (a, x) :: r => by
    simp only [List.map_cons, PyData.canLayAll0, PyData.canLay0, pairD, canLay_pairs r, List.all_cons, Bool.and_true]
    rfl
theorem depth_pairs : ∀ ss : List (PySem.Str × PySem.Str), PyData.depthAll (ss.map pairD) ≤ 2
  | [] => Nat.zero_le _
  | (a, x) :: r => by
    have ih := depth_pairs r
    simp only [List.map_cons, PyData.depthAll, PyData.depth, pairD]
    omega
theorem shaped_pairs {ss : List (PySem.Str × PySem.Str)} (h : (ss.all fun p => okS p.1 && okS p.2) = true) : SeqAt.shaped (.list (ss.map pairD)) = true := by
  unfold SeqAt.shaped
  have := depth_pairs ss
  have hd : (PyData.list (ss.map pairD)).depth ≤ 64 := by
    simp only [PyData.depth]
    omega
  simp only [PyData.canLay0, canLay_pairs, Bool.and_eq_true]
  exact ⟨h, decide_eq_true hd⟩
theorem PairH.reads {h : Heap} : ∀ {vs : List Value} {ps : List (PySem.Str × PySem.Str)}, PairH h vs ps → ReadsAll h vs (ps.map pairD) []
  | _, _, .nil => .nil
  | _, _, .cons (t := t) (u := u) e r => .cons (as := []) (reads_tuple_at e rfl rfl (.cons (as := []) (.str _ t) (.cons (as := []) (.str _ u) .nil))) r.reads

section
variable {prog : Program} {w : World} {A : Around} {E : Value → Shared → Prop} {s : Shared} {h₀ : Heap} {L : Addr} {m : PySem.Str → Option Value} {news : List (Addr × Obj)}
theorem reads_strs {h : Heap} {a : Addr} {xs : List Value} {ss : List PySem.Str} (ha : h.IsList a xs.toArray) (hi : StrsAre xs ss) : Reads h (.ref a) (.list (ss.map .str)) [a] := by
  obtain ⟨o, ho, hc, n, hd⟩ := ha
  exact reads_list_at ho hc hd (by simpa using hi.reads h)
theorem ne_strs {a b : Addr} {xs ys : List Value} {ss ts : List PySem.Str} {Q : Value → Shared → Prop} (ha : s.heap.IsList a xs.toArray) (hb : s.heap.IsList b ys.toArray) (hi : StrsAre xs ss) (hj : StrsAre ys ts)
    (oi : ss.all okS = true) (oj : ts.all okS = true) (hu : A.units + 64 < cLine) (h : Q (.bool (!decide (ss = ts))) s) : wpAny (model prog w) A (compareOp .NotEq (.ref a) (.ref b)) Q E s :=
  ne_dataH (reads_strs ha hi) (reads_strs hb hj) (shaped_strs oi) (shaped_strs oj) hu (by
    have e : PyData.eqv (.list (ss.map .str)) (.list (ts.map .str)) = decide (ss = ts) := by rw [← eqvAll_strs]; simp [PyData.eqv]
    rw [e]; exact h)
theorem eq_strs {a b : Addr} {xs ys : List Value} {ss ts : List PySem.Str} {Q : Value → Shared → Prop} (ha : s.heap.IsList a xs.toArray) (hb : s.heap.IsList b ys.toArray) (hi : StrsAre xs ss) (hj : StrsAre ys ts)
    (oi : ss.all okS = true) (oj : ts.all okS = true) (hu : A.units + 64 < cLine) (h : Q (.bool (decide (ss = ts))) s) : wpAny (model prog w) A (compareOp .Eq (.ref a) (.ref b)) Q E s :=
  eq_dataH (reads_strs ha hi) (reads_strs hb hj) (shaped_strs oi) (shaped_strs oj) hu (by
    have e : PyData.eqv (.list (ss.map .str)) (.list (ts.map .str)) = decide (ss = ts) := by rw [← eqvAll_strs]; simp [PyData.eqv]
    rw [e]; exact h)
theorem reads_pairs {h : Heap} {a : Addr} {xs : List Value} {ss : List (PySem.Str × PySem.Str)} (ha : h.IsList a xs.toArray) (hi : PairH h xs ss) : Reads h (.ref a) (.list (ss.map pairD)) [a] := by
  obtain ⟨o, ho, hc, n, hd⟩ := ha
  exact reads_list_at ho hc hd (by simpa using hi.reads)
theorem eq_pairs {a b : Addr} {xs ys : List Value} {ss ts : List (PySem.Str × PySem.Str)} {Q : Value → Shared → Prop} (ha : s.heap.IsList a xs.toArray) (hb : s.heap.IsList b ys.toArray) (hi : PairH s.heap xs ss) (hj : PairH s.heap ys ts)
    (oi : (ss.all fun p => okS p.1 && okS p.2) = true) (oj : (ts.all fun p => okS p.1 && okS p.2) = true) (hu : A.units + 64 < cLine) (h : Q (.bool (decide (ss = ts))) s) : wpAny (model prog w) A (compareOp .Eq (.ref a) (.ref b)) Q E s :=
  eq_dataH (reads_pairs ha hi) (reads_pairs hb hj) (shaped_pairs oi) (shaped_pairs oj) hu (by
    have e : PyData.eqv (.list (ss.map pairD)) (.list (ts.map pairD)) = decide (ss = ts) := by rw [← eqvAll_pairs]; simp [PyData.eqv]
    rw [e]; exact h)
theorem ne_pairs {a b : Addr} {xs ys : List Value} {ss ts : List (PySem.Str × PySem.Str)} {Q : Value → Shared → Prop} (ha : s.heap.IsList a xs.toArray) (hb : s.heap.IsList b ys.toArray) (hi : PairH s.heap xs ss) (hj : PairH s.heap ys ts)
    (oi : (ss.all fun p => okS p.1 && okS p.2) = true) (oj : (ts.all fun p => okS p.1 && okS p.2) = true) (hu : A.units + 64 < cLine) (h : Q (.bool (!decide (ss = ts))) s) : wpAny (model prog w) A (compareOp .NotEq (.ref a) (.ref b)) Q E s :=
  ne_dataH (reads_pairs ha hi) (reads_pairs hb hj) (shaped_pairs oi) (shaped_pairs oj) hu (by
    have e : PyData.eqv (.list (ss.map pairD)) (.list (ts.map pairD)) = decide (ss = ts) := by rw [← eqvAll_pairs]; simp [PyData.eqv]
    rw [e]; exact h)

theorem sort_head {D : Addr} {vs : List Value} {ss : List PySem.Str} {c : Nat} {Q : Value → Shared → Prop} (F : Fr h₀ L s.heap m) (N : News h₀ L s.heap ((D, PySem.W.listOf vs.toArray c) :: news)) (hp : ∀ p ∈ news, p.1 ≠ D) (hS : StrsAre vs ss) (h64 : vs.length < 64)
    (h : ∀ h' vs' ss' c', Fr h₀ L h' m → News h₀ L h' ((D, PySem.W.listOf (List.toArray vs') c') :: news) → StrsAre vs' ss' → ss'.Perm ss → sortedS ss' = true → Q .none { s with heap := h' }) :
    wpAny (model prog w) A (call (.builtin "list.sort") [.ref D]) Q E s := by
  have z := N _ (.head _)
  have ho : s.heap.get? D = some (seqObj "list" vs.toArray c) := z.1
  refine wpAny_call_entry slot_list_sort ⟨_, ho, rfl⟩ entry_list_sort (list_sort_treeK strKind_oneLt ho hS.keysOf (fun v₁ v₂ rest e => keyKind_strs (by rw [← e]; exact hS)) h64 fun st' a1 a2 => ⟨_, rfl, ?_⟩) (args_list_sort _)
  obtain ⟨ss', h1, h2, h3⟩ := sorted_out_str hS a1 a2
  obtain ⟨e, he⟩ := sortedHeap_at (out := (arrOf st').map (·.2)) ho
  have old : ∀ b, b ≠ D → ∀ o, s.heap.get? b = some o → (sortedHeap s.heap D vs ((arrOf st').map (·.2))).get? b = some o := fun b hb o q => (sortedHeap_old hb (Heap.lt_size q)).trans q
  refine h _ ((arrOf st').map (·.2)).toList ss' e ⟨?_, fun b o q => old b (fun z' => ?_) o (F.keep b o q), F.above⟩ (fun p hp' => ?_) h1 h2 h3
  · exact F.ns.at' fun o q => old L (Ne.symm z.2.1) o q
  · subst z'
    have := z.2.2
    dsimp only at this
    rw [q] at this
    cases this
  · rcases List.mem_cons.mp hp' with rfl | hp'
    · exact ⟨by rw [he], z.2⟩
    · have q := N p (.tail _ hp')
      exact ⟨old p.1 (hp p hp') _ q.1, q.2⟩

theorem sorted_list {l : Addr} {vs : List Value} {ss : List PySem.Str} {Q : Value → Shared → Prop} (F : Fr h₀ L s.heap m) (N : News h₀ L s.heap news) (hl : s.heap.IsList l vs.toArray) (hS : StrsAre vs ss) (h64 : vs.length < 64)
    (h : ∀ (D : Addr) (h' : Heap) (vs' : List Value) (ss' : List PySem.Str) (c' : Nat), Fr h₀ L h' m → News h₀ L h' ((D, PySem.W.listOf vs'.toArray c') :: news) → (∀ p ∈ news, p.1 < D) → StrsAre vs' ss' → ss'.Perm ss → sortedS ss' = true → Q (.ref D) { s with heap := h' }) :
    wpAny (model prog w) A (call (.builtin "sorted") [.ref l]) Q E s :=
  sorted_N_str F N hl hS h64 fun h' vs' ss' e F' N' a b c => h _ h' vs' ss' e F' N' (fun p hp => Nat.lt_succ_of_lt (Heap.lt_size (N p hp).1)) a b c

theorem sorted_dict {d : Addr} {kvs : List (PySem.Str × Value)} {Q : Value → Shared → Prop} (hh : A.handled = none) (F : Fr h₀ L s.heap m) (N : News h₀ L s.heap news) (hd : s.heap.DictOf (PySem.strKind prog w) d kvs) (lo : (d == sysModules) = false) (h64 : kvs.length < 64)
    (h : ∀ (D : Addr) (h' : Heap) (tk : Nat) (vs' : List Value) (ss' : List PySem.Str) (c' : Nat), Fr h₀ L h' m → News h₀ L h' ((D, PySem.W.listOf vs'.toArray c') :: news) → (∀ p ∈ news, p.1 < D) → StrsAre vs' ss' → ss'.Perm (kvs.map (·.1)) → sortedS ss' = true → Q (.ref D) { s with heap := h', toks := tk }) :
    wpAny (model prog w) A (call (.builtin "sorted") [.ref d]) Q E s := by
  obtain ⟨ep, hat⟩ := hd.dictAt
  refine kdu_sorted (kdl_dict (knd := PySem.strKind prog w) (kvs := kvs) (ep := ep) lo) hh F N hat (by rw [sizeLine_eq]; omega) fun D h' tk vs F' N' l1 hl hv => ?_
  have hS : StrsAre vs (kvs.map (·.1)) := by
    have key : ∀ (vs : List Value) (kvs : List (PySem.Str × Value)), vs.length = kvs.length → (∀ (j : Nat) (v : Value), vs[j]? = some v → ∃ k x, kvs[j]? = some (k, x) ∧ (PySem.strKind prog w).is k v = true) → StrsAre vs (kvs.map (·.1)) := by
      intro vs
      induction vs with
      | nil => intro kvs hl _; cases kvs with | nil => exact .nil | cons _ _ => simp at hl
      | cons v r ih =>
        intro kvs hl hv
        cases kvs with
        | nil => simp at hl
        | cons q t =>
          obtain ⟨k, x, e, hk⟩ := hv 0 v rfl
          simp at e
          subst e
          obtain ⟨u, rfl⟩ := Value.isStrOf_shape hk
          exact .cons _ _ (ih t (by simpa using hl) fun j u hu => by simpa using hv (j + 1) u (by simpa using hu))
    exact key vs kvs hl hv
  refine sort_head F' N' (fun p hp => Nat.ne_of_lt (l1 p hp)) hS (by omega) fun h'' vs' ss' c' F'' N'' a b c => ?_
  exact h D h'' tk vs' ss' c' F'' N'' l1 a b c
end

/-- a call of a def some of whose names are cells -/
theorem call_fnC {prog : Program} {w : World} {A : Around} {s : Shared} {mg mb : PySem.Str → Option Value} {R : Result → Shared → Prop} {name qual : PySem.Str} {params : Arguments} {body : List Stmt} {scope : Scope} {dV kV doc pm cdv ct oc : Value} {an od : Option Addr} {osl : Array (Option Value)} {f : Addr} {args : Args} {binds : List (PySem.Str × Value)}
    (G : Gd w mg mb s.heap)
    (ho : (hd.heap_1 w.params).lookup f = some ⟨oc, od, .func (fnOf name qual params body scope dV kV doc pm an cdv ct), osl⟩) (hcd : codeIn (hd.heap_1 w.params) cdv qual = true) (hroom : A.depth < recursionLimit)
    (hbind : BindsTo s (fnOf name qual params body scope dV kV doc pm an cdv ct) args binds)
    (hkind : ∀ n, ∀ x ∈ binds, scope.names.lookup x.1 = some .local ∨ (scope.names.lookup x.1 = some .cell ∧ ((cellsFrom n scope.names []).lookup x.1).isSome = true))
    (hnd : ((cellsFrom 0 scope.names []).map (·.1)).Nodup)
    (h : ∀ h₁ tk cells, Fr s.heap s.heap.objs.size h₁ (bindL (envOfC qual scope s.heap.objs.size f cdv).kindOf binds fun _ => none) → News s.heap s.heap.objs.size h₁ cells →
      CellsAre (bindC (envOfC qual scope s.heap.objs.size f cdv).kindOf binds fun _ => none) (cellsFrom (s.heap.objs.size + 1) scope.names []) cells →
      wpAny (model prog w) (A.deeper (envOfC qual scope s.heap.objs.size f cdv)) (execs body (envOfC qual scope s.heap.objs.size f cdv))
        (fun fl s' => R (.ok (.ret (match fl with | .ret v => v | _ => .none))) s') (fun _ _ => False)
        { s with heap := h₁, toks := tk })
    (hco : scope.isCoroutine = false) (hgen : scope.isGenerator = false) (hk : scope.kind = .function) : codeAny (model prog w) A (.call (.ref f) args) R s := by
  refine codeAny_call_function hroom (G.X _ _ ho) rfl hco hgen rfl (codeRec_of G.X hcd) (hbind _ _ _ _ ?_)
  refine wpAny_newFunctionEnv_cells hk (hkind _) fun env' he s' x => ?_
  subst he
  refine ⟨G.T.nolimit.keeps x.toInCall.keep, codeAny_func ?_⟩
  obtain ⟨h₁, tk, rfl, _⟩ := x.done
  have hk₁ := x.toInCall.keep
  obtain ⟨cells, NC, Y⟩ := Cl.news (h₀ := s.heap) (Nat.le_refl _) fun n c hm => ⟨x.cell n c (lookup_of_mem_nodup (cellsFrom_names scope.names 0 (s.heap.objs.size + 1) [] [] rfl ▸ hnd) hm), x.above n c hm⟩
  exact wpAny_mono (h h₁ tk cells ⟨x.toInCall.ns, hk₁, Nat.le_refl _⟩ NC Y) (fun _ _ x => x) fun _ _ x => x.elim
theorem call_fnT {prog : Program} {w : World} {A : Around} {s : Shared} {mg mb : PySem.Str → Option Value} {R : Result → Shared → Prop} {name qual : PySem.Str} {params : Arguments} {body : List Stmt} {scope : Scope} {dV kV doc pm cdv ct oc : Value} {an od : Option Addr} {osl : Array (Option Value)} {f : Addr} {args : Args} {binds : List (PySem.Str × Value)}
    (G : Gd w mg mb s.heap)
    (ho : (hd.heap_1 w.params).lookup f = some ⟨oc, od, .func (fnOf name qual params body scope dV kV doc pm an cdv ct), osl⟩) (hcd : codeIn (hd.heap_1 w.params) cdv qual = true) (hroom : A.depth < recursionLimit)
    (hbind : BindsTo s (fnOf name qual params body scope dV kV doc pm an cdv ct) args binds) (hloc : ∀ y ∈ binds, scope.names.lookup y.1 = some .local)
    (h : ∀ h₁ tk, Fr s.heap s.heap.objs.size h₁ (fun y => binds.reverse.lookup y) →
      wpAny (model prog w) (A.deeper (envOf qual scope s.heap.objs.size f cdv)) (execs body (envOf qual scope s.heap.objs.size f cdv))
        (fun fl s' => R (.ok (.ret (match fl with | .ret v => v | _ => .none))) s') (fun _ _ => False)
        { s with heap := h₁, toks := tk })
    (hco : scope.isCoroutine = false) (hgen : scope.isGenerator = false) (hk : scope.kind = .function)
    (hcell : ∀ x ∈ scope.names, x.2 ≠ .cell) : codeAny (model prog w) A (.call (.ref f) args) R s :=
  call_fn G ho hcd hroom hbind hloc (fun h₁ F => h h₁ _ F) hco hgen hk hcell
theorem kinds {scope : Scope} {binds : List (PySem.Str × Value)} (h : ∀ n, (binds.all fun x => decide (scope.names.lookup x.1 = some .local) || (decide (scope.names.lookup x.1 = some .cell) && ((cellsFrom n scope.names []).lookup x.1).isSome)) = true) :
    ∀ n, ∀ x ∈ binds, scope.names.lookup x.1 = some .local ∨ (scope.names.lookup x.1 = some .cell ∧ ((cellsFrom n scope.names []).lookup x.1).isSome = true) := fun n x hx => by
  have := List.all_eq_true.mp (h n) x hx
  simp only [Bool.or_eq_true, Bool.and_eq_true, decide_eq_true_eq] at this
  exact this

section PartP
open PySem.Calls

/-- what stands on a heap beside a frame -/
def restOf (h₀ h : Heap) (C : Addr) : List (Addr × Obj) := (List.range h.objs.size).filterMap fun b => if b = C ∨ (h₀.get? b).isSome = true then none else (h.get? b).map fun o => (b, o)
theorem mem_restOf {h₀ h : Heap} {C b : Addr} {o : Obj} : (b, o) ∈ restOf h₀ h C ↔ h.get? b = some o ∧ b ≠ C ∧ h₀.get? b = none := by
  unfold restOf
  rw [List.mem_filterMap]
  constructor
  · rintro ⟨x, hx, e⟩
    split at e
    · cases e
    · rename_i hc
      rw [Option.map_eq_some_iff] at e
      obtain ⟨y, hy, e⟩ := e
      cases e
      refine ⟨hy, fun q => hc (.inl q), ?_⟩
      cases q : h₀.get? b with
      | none => rfl
      | some _ => exact absurd (.inr (by rw [q]; rfl)) hc
  · rintro ⟨h1, h2, h3⟩
    refine ⟨b, List.mem_range.mpr (Heap.lt_size h1), ?_⟩
    rw [if_neg, h1]
    · rfl
    · rintro (q | q)
      · exact h2 q
      · rw [h3] at q; cases q
/-- the end of a block's turn: all that stands but the block's own frame and what `ch` may change -/
def CEnd (h₀ : Heap) (C : Addr) (led : List (Addr × Obj)) (J : Heap → Prop) (s : Shared) (s' : Shared) : Prop :=
  ∃ h' tk' m' news', s' = { s with heap := h', toks := tk' } ∧ Fr h₀ C h' m' ∧ News h₀ C h' news' ∧ (∀ p ∈ led, p ∈ news') ∧ J h'
theorem tests_nil {M : Model} {A : Around} {E : Value → Shared → Prop} {s : Shared} {Q : Bool → Shared → Prop} {cenv : Env} (h : Q true s) : wpAny M A (testsOf [] cenv) Q E s := by
  unfold testsOf
  rw [List.forIn_nil]
  exact wpAny_pure h
theorem tests_one {M : Model} {A : Around} {E : Value → Shared → Prop} {s : Shared} {Q : Bool → Shared → Prop} {cenv : Env} {c : PySem.Expr} (h : wpAny M A (isTrue c cenv (eval c cenv)) Q E s) : wpAny M A (testsOf [c] cenv) Q E s := by
  unfold testsOf
  rw [List.forIn_cons]
  simp only [if_true]
  refine wpAny_bind (wpAny_bind (wpAny_mono h (fun ok s₁ q => wpAny_pure ?_) fun _ _ e => e))
  dsimp only
  rw [List.forIn_nil]
  exact wpAny_pure q

section
variable {prog : Program} {w : World} {A : Around} {E : Value → Shared → Prop} {s : Shared} {env : Env} {h₀ : Heap} {L : Addr} {m : PySem.Str → Option Value} {news : List (Addr × Obj)}
/-- a block over a source that is walked: what each turn may count upon and must leave; `led`: what is to stand of the ledger -/
theorem comp_at {Post : Value → Shared → Prop} {target elt : PySem.Expr} {ifs : List PySem.Expr} {scope : Scope} {cl : List (PySem.Str × Addr)} {oI : Obj} {fp : List Addr} {n : Nat} {P : Nat → Value → Prop} {St : Nat → Heap → Prop} (led : List (Addr × Obj)) (J : Nat → List Value → Heap → Prop)
    (F : Fr h₀ L s.heap m) (N : News h₀ L s.heap led)
    (W : Walks prog w A s.heap.objs.size fp [s.heap.objs.size] n P St) (hn : n ≤ sizeLine) (hst : St 0 (s.heap.push oI)) (hfp : ∀ b ∈ fp, b < s.heap.objs.size + 1)
    (hI : ∀ i h, St i h → ∀ o, h.get? s.heap.objs.size = some o → ¬ TupO o)
    (hgo : ∀ i (s' : Shared) v (Q' : Unit → Shared → Prop), St i s'.heap → Q' () s' → wpAny (model prog w) A (letOwnedTupleGo target (.ref s.heap.objs.size) v) Q' Nev s')
    (J0 : J 0 [] s.heap)
    (stab : ∀ i ys h h', J i ys h → (∀ b o, h.get? b = some o → (b < s.heap.objs.size ∨ TupO o) → h'.get? b = some o) → J i ys h')
    (step : ∀ C i v ys h tk mC own, i < n → P i v → J i ys h → Fr h₀ C h mC → News h₀ C h (led ++ own) →
      wpAny (model prog w) A (assign target (compEnvC scope cl C env) v) (fun _ s₄ =>
        wpAny (model prog w) A (testsOf ifs (compEnvC scope cl C env)) (fun ok s₅ =>
          if ok = true then wpAny (model prog w) A (eval elt (compEnvC scope cl C env)) (fun y s₆ => CEnd h₀ C own (fun h' => (∀ p ∈ led, h'.get? p.1 = some p.2) ∧ J (i + 1) (ys ++ [y]) h') s s₆) Nev s₅
          else CEnd h₀ C own (fun h' => (∀ p ∈ led, h'.get? p.1 = some p.2) ∧ J (i + 1) ys h') s s₅) Nev s₄) Nev { s with heap := h, toks := tk })
    (done : ∀ D h' tk ys, Fr h₀ L h' m → News h₀ L h' led → J n ys h' → h'.IsList D ys.toArray → h'.PlainList D ys.toArray → s.heap.objs.size < D → Post (.ref D) { s with heap := h', toks := tk }) :
    CompAt prog w A env scope cl target ifs elt Post (.ref s.heap.objs.size) { s with heap := s.heap.push oI } := by
  obtain ⟨oL, es, ep, hoL, hLd, hLk, hLf⟩ := id F.ns
  have hL0 : h₀.get? L = none := Heap.get?_none_of_le F.above
  have hLs : L < s.heap.objs.size := Heap.lt_size hoL
  have hsz : (s.heap.push oI).objs.size = s.heap.objs.size + 1 := by rw [Heap.size_push]
  have ledlt : ∀ p ∈ led, p.1 < s.heap.objs.size := fun p hp => Heap.lt_size (N p hp).1
  have h0lt : ∀ b o, h₀.get? b = some o → b < s.heap.objs.size := fun b o e => Heap.lt_size (F.keep b o e)
  refine ⟨s.heap.objs.size, fp, [s.heap.objs.size], n, P, St, fun i ys h => (h.get? L = some oL ∧ (∀ b o, h₀.get? b = some o → h.get? b = some o) ∧ ∀ p ∈ led, h.get? p.1 = some p.2) ∧ J i ys h, rfl, W, hn, hst, ?_, ?_, ?_, ?_, ?_, ?_, ?_⟩
  · intro b hb
    dsimp only
    rw [hsz]; exact hfp b hb
  · refine ⟨⟨Heap.get?_push_of_some _ hoL, fun b o e => Heap.get?_push_of_some _ (F.keep b o e), fun p hp => Heap.get?_push_of_some _ (N p hp).1⟩, stab _ _ _ _ J0 fun b o e _ => Heap.get?_push_of_some _ e⟩
  · rintro i ys h h' ⟨⟨a1, a2, a3⟩, a4⟩ hk
    dsimp only at hk
    rw [hsz] at hk
    have hk' : ∀ b o, h.get? b = some o → b < s.heap.objs.size → h'.get? b = some o := fun b o e hb => hk b o e (.inl ⟨Nat.lt_succ_of_lt hb, by simpa using Nat.ne_of_lt hb⟩)
    refine ⟨⟨hk' _ _ a1 hLs, fun b o e => hk' _ _ (a2 b o e) (h0lt b o e), fun p hp => hk' _ _ (a3 p hp) (ledlt p hp)⟩, stab _ _ _ _ a4 fun b o e q => ?_⟩
    rcases q with q | q
    · exact hk' b o e q
    · exact hk b o e (.inr q)
  · intro i h hS b hb o ho
    rw [List.mem_singleton.mp hb] at ho
    exact hI i h hS o ho
  · intro i s' v Q' hS hQ
    exact hgo i s' v Q' hS hQ
  · rintro C i v ys h tk mC hi hP ⟨⟨a1, a2, a3⟩, a4⟩ hC hNs
    dsimp only at hC
    rw [hsz] at hC
    have FC : Fr h₀ C h mC := ⟨hNs, a2, Nat.le_of_lt (Nat.lt_of_le_of_lt F.above (Nat.lt_trans hLs hC))⟩
    have NC : News h₀ C h (led ++ restOf h₀ h C) := fun p hp => by
      rcases List.mem_append.mp hp with hp | hp
      · exact ⟨a3 p hp, Nat.ne_of_lt (Nat.lt_trans (ledlt p hp) hC), (N p hp).2.2⟩
      · obtain ⟨b1, b2, b3⟩ := mem_restOf (b := p.1) (o := p.2) |>.mp hp
        exact ⟨b1, b2, b3⟩
    have fin : ∀ ys' s', CEnd h₀ C (restOf h₀ h C) (fun h' => (∀ p ∈ led, h'.get? p.1 = some p.2) ∧ J (i + 1) ys' h') s s' → CompEnd { s with heap := s.heap.push oI } h C fp (fun h' => (h'.get? L = some oL ∧ (∀ b o, h₀.get? b = some o → h'.get? b = some o) ∧ ∀ p ∈ led, h'.get? p.1 = some p.2) ∧ J (i + 1) ys' h') s' := by
      rintro ys' s' ⟨h', tk', m', news', rfl, F', N', hsub, hled, hJ⟩
      have keep : ∀ b o, h.get? b = some o → b ≠ C → h'.get? b = some o := fun b o e hb => by
        cases q : h₀.get? b with
        | some x =>
          have h1 := a2 b x q
          rw [e] at h1
          cases h1
          exact F'.keep b _ q
        | none => exact (N' _ (hsub _ (mem_restOf.mpr ⟨e, hb, q⟩))).1
      exact ⟨h', tk', m', rfl, F'.ns, ⟨⟨keep _ _ a1 (Nat.ne_of_lt (Nat.lt_trans hLs hC)), F'.keep, hled⟩, hJ⟩, fun b o e hb _ => keep b o e hb⟩
    refine nev (step C i v ys h tk mC _ hi hP a4 FC NC) fun _ s₄ h₄ => nev h₄ fun ok s₅ h₅ => ?_
    cases ok with
    | true =>
      simp only [if_true] at h₅ ⊢
      exact nev h₅ fun y s₆ h₆ => fin _ _ h₆
    | false =>
      simp only [Bool.false_eq_true, if_false] at h₅ ⊢
      exact fin _ _ h₅
  · rintro D h' tk ys ⟨⟨a1, a2, a3⟩, a4⟩ hl hp hD
    dsimp only at hD
    rw [hsz] at hD
    exact done D h' tk ys ⟨⟨oL, es, ep, a1, hLd, hLk, hLf⟩, a2, F.above⟩ (fun p hp => ⟨a3 p hp, (N p hp).2⟩) a4 hl hp hD

/-- the end of a block as a value -/
abbrev PostV (Q : Value → Shared → Prop) (s₂ : Shared) : Value → Shared → Prop := fun v s' => ∀ h', (∀ b o, s'.heap.get? b = some o → (b < s₂.heap.objs.size ∨ TupO o) → h'.get? b = some o) → (∀ D ys, v = .ref D → s'.heap.PlainList D ys → h'.PlainList D ys) → Q v { s' with heap := h' }
theorem postV {Q : Value → Shared → Prop} {s₂ : Shared} {J : List Value → Heap → Prop} {led : List (Addr × Obj)} {D : Addr} {h' : Heap} {tk : Nat} {ys : List Value} (hz : s₂.heap.objs.size = s.heap.objs.size + 1)
    (F₁ : Fr h₀ L s.heap m) (N₁ : News h₀ L s.heap led) (F : Fr h₀ L h' m) (N : News h₀ L h' led) (hJ : J ys h') (stab : ∀ ys h h', J ys h → (∀ b o, h.get? b = some o → (b < s.heap.objs.size ∨ TupO o) → h'.get? b = some o) → J ys h') (hp : h'.PlainList D ys.toArray) (hD : s.heap.objs.size < D)
    (done : ∀ h' c, Fr h₀ L h' m → News h₀ L h' ((D, PySem.W.listOf ys.toArray c) :: led) → (∀ p ∈ led, p.1 < D) → J ys h' → Q (.ref D) { s with heap := h', toks := tk }) :
    PostV Q s₂ (.ref D) { s with heap := h', toks := tk } := by
  intro h'' hk hpl
  dsimp only at hk hpl ⊢
  rw [hz] at hk
  obtain ⟨oL, es, ep, hoL, hLd, hLk, hLf⟩ := id F.ns
  obtain ⟨oL1, _, _, hoL1, _⟩ := id F₁.ns
  have hLs : L < s.heap.objs.size := Heap.lt_size hoL1
  have hk' : ∀ b o, h'.get? b = some o → b < s.heap.objs.size → h''.get? b = some o := fun b o e hb => hk b o e (.inl (Nat.lt_succ_of_lt hb))
  have ledlt : ∀ p ∈ led, p.1 < s.heap.objs.size := fun p hp => Heap.lt_size (N₁ p hp).1
  obtain ⟨c, hq⟩ := hpl D _ rfl hp
  refine done h'' c ⟨⟨oL, es, ep, hk' _ _ hoL hLs, hLd, hLk, hLf⟩, fun b o e => hk' b o (F.keep b o e) (Heap.lt_size (F₁.keep b o e)), F.above⟩ (fun p hp' => ?_) (fun p hp' => Nat.lt_trans (ledlt p hp') hD) (stab _ _ _ hJ fun b o e q => ?_)
  · rcases List.mem_cons.mp hp' with rfl | hp'
    · refine ⟨hq, fun e => ?_, Heap.get?_none_of_le (Nat.le_trans F.above (Nat.le_of_lt (Nat.lt_trans hLs hD)))⟩
      dsimp only at e
      rw [e] at hD
      exact absurd hD (Nat.lt_asymm hLs)
    · exact ⟨hk' _ _ (N p hp').1 (ledlt p hp'), (N p hp').2⟩
  · rcases q with q | q
    · exact hk' b o e q
    · exact hk b o e (.inr q)

end
section
variable {prog : Program} {w : World} {A : Around} {E : Value → Shared → Prop} {s : Shared} {env : Env} {h₀ : Heap} {L : Addr} {m : PySem.Str → Option Value} {news : List (Addr × Obj)}
/-- what a block may run over -/
def Src (prog : Program) (w : World) (A : Around) (s : Shared) (n : Nat) (P : Nat → Value → Prop) (v : Value) : Prop :=
  ∃ (oI : Obj) (fp : List Addr) (St : Nat → Heap → Prop), Walks prog w A s.heap.objs.size fp [s.heap.objs.size] n P St ∧ St 0 (s.heap.push oI) ∧ (∀ b ∈ fp, b < s.heap.objs.size + 1) ∧
    (∀ i h, St i h → ∀ o, h.get? s.heap.objs.size = some o → ¬ TupO o) ∧
    (∀ target i (s' : Shared) v (Q' : Unit → Shared → Prop), St i s'.heap → Q' () s' → wpAny (model prog w) A (letOwnedTupleGo target (.ref s.heap.objs.size) v) Q' Nev s') ∧
    (∀ (Q : Value → Shared → Prop) (E : Value → Shared → Prop), Q (.ref s.heap.objs.size) { s with heap := s.heap.push oI } → wpAny (model prog w) A (pyIter v) Q E s)
theorem src_list {a : Addr} {items : Array Value} (hh : A.handled = none) (hl : s.heap.IsList a items) : Src prog w A s items.size (fun i v => items[i]? = some v) (.ref a) := by
  obtain ⟨o, ho, _⟩ := id hl
  have hlt := Heap.lt_size ho
  refine ⟨{ cls := .type "list_iterator", data := .fields #[.ref a, .int 0 0] }, _, _, Walks.list hh s.heap.objs.size a (Nat.ne_of_lt hlt) items, ⟨⟨_, Heap.get?_push_size _ rfl, rfl, rfl⟩, hl.at fun o e => Heap.get?_push_of_some _ e⟩, ?_, ?_, ?_, ?_⟩
  · intro b hb
    rcases List.mem_cons.mp hb with rfl | hb
    · exact Nat.lt_succ_self _
    · rw [List.mem_singleton.mp hb]; exact Nat.lt_succ_of_lt hlt
  · rintro i h ⟨⟨o, ho, hc, hd⟩, _⟩ o' ho' ⟨ht, _⟩
    rw [ho] at ho'; cases ho'
    rw [hc] at ht; exact absurd (Value.type.inj ht) (by decide)
  · intro target i s' v Q' hS hQ
    exact letGo_listiter hS.1 hQ
  · intro Q E hQ
    exact wpAny_pyIter_list hl hQ
theorem src_tuple {a : Addr} {items : Array Value} (hh : A.handled = none) (hl : s.heap.IsTuple a items) : Src prog w A s items.size (fun i v => items[i]? = some v) (.ref a) := by
  obtain ⟨o, ho, _⟩ := id hl
  have hlt := Heap.lt_size ho
  refine ⟨{ cls := .type "tuple_iterator", data := .fields #[.ref a, .int 0 0] }, _, _, Walks.tuple hh s.heap.objs.size a (Nat.ne_of_lt hlt) items, ⟨⟨_, Heap.get?_push_size _ rfl, rfl, rfl⟩, hl.at fun o e => Heap.get?_push_of_some _ e⟩, ?_, ?_, ?_, ?_⟩
  · intro b hb
    rcases List.mem_cons.mp hb with rfl | hb
    · exact Nat.lt_succ_self _
    · rw [List.mem_singleton.mp hb]; exact Nat.lt_succ_of_lt hlt
  · rintro i h ⟨⟨o, ho, hc, hd⟩, _⟩ o' ho' ⟨ht, _⟩
    rw [ho] at ho'; cases ho'
    rw [hc] at ht; exact absurd (Value.type.inj ht) (by decide)
  · intro target i s' v Q' hS hQ
    exact letGo_tupleiter hS.1 hQ
  · intro Q E hQ
    exact wpAny_pyIter_tuple hl hQ
theorem src_dict {a : Addr} {kvs : List (PySem.Str × Value)} (hh : A.handled = none) (lo : (a == sysModules) = false) (hl : s.heap.DictOf (PySem.strKind prog w) a kvs) : Src prog w A s kvs.length (fun i v => ∃ k x, kvs[i]? = some (k, x) ∧ (PySem.strKind prog w).is k v = true) (.ref a) := by
  obtain ⟨ep, hat⟩ := hl.dictAt
  have hlt := hat.lt_size
  refine ⟨{ cls := .type "dict_keyiterator", data := .fields #[.ref a, .int 0 0, .int kvs.length 0, .int ep 0] }, _, _, Walks.dictKeys hh s.heap.objs.size a (Nat.ne_of_lt hlt) kvs ep, ⟨⟨_, Heap.get?_push_size _ rfl, rfl, rfl⟩, hat.push _⟩, ?_, ?_, ?_, ?_⟩
  · intro b hb
    rcases List.mem_cons.mp hb with rfl | hb
    · exact Nat.lt_succ_self _
    · rw [List.mem_singleton.mp hb]; exact Nat.lt_succ_of_lt hlt
  · rintro i h ⟨⟨o, ho, hc, hd⟩, _⟩ o' ho' ⟨ht, _⟩
    rw [ho] at ho'; cases ho'
    rw [hc] at ht; exact absurd (Value.type.inj ht) (by decide)
  · intro target i s' v Q' hS hQ
    exact letGo_keyiter hS.1 hQ
  · intro Q E hQ
    exact wpAny_pyIter_dict lo hat hQ

theorem comp_src {target elt : PySem.Expr} {ifs : List PySem.Expr} {scope : Scope} {cl : List (PySem.Str × Addr)} {n : Nat} {P : Nat → Value → Prop} {v : Value} {Q : Value → Shared → Prop} (S : Src prog w A s n P v) (led : List (Addr × Obj)) (J : Nat → List Value → Heap → Prop)
    (F : Fr h₀ L s.heap m) (N : News h₀ L s.heap led) (hn : n ≤ sizeLine)
    (J0 : J 0 [] s.heap)
    (stab : ∀ i ys h h', J i ys h → (∀ b o, h.get? b = some o → (b < s.heap.objs.size ∨ TupO o) → h'.get? b = some o) → J i ys h')
    (step : ∀ C i v ys h tk mC own, i < n → P i v → J i ys h → Fr h₀ C h mC → News h₀ C h (led ++ own) →
      wpAny (model prog w) A (assign target (compEnvC scope cl C env) v) (fun _ s₄ =>
        wpAny (model prog w) A (testsOf ifs (compEnvC scope cl C env)) (fun ok s₅ =>
          if ok = true then wpAny (model prog w) A (eval elt (compEnvC scope cl C env)) (fun y s₆ => CEnd h₀ C own (fun h' => (∀ p ∈ led, h'.get? p.1 = some p.2) ∧ J (i + 1) (ys ++ [y]) h') s s₆) Nev s₅
          else CEnd h₀ C own (fun h' => (∀ p ∈ led, h'.get? p.1 = some p.2) ∧ J (i + 1) ys h') s s₅) Nev s₄) Nev { s with heap := h, toks := tk })
    (done : ∀ D h' tk ys c, Fr h₀ L h' m → News h₀ L h' ((D, PySem.W.listOf (List.toArray ys) c) :: led) → (∀ p ∈ led, p.1 < D) → J n ys h' → Q (.ref D) { s with heap := h', toks := tk }) :
    wpAny (model prog w) A (pyIter v) (fun it s₂ => CompAt prog w A env scope cl target ifs elt (PostV Q s₂) it s₂) E s := by
  obtain ⟨oI, fp, St, W, hst, hfp, hI, hgo, hit⟩ := S
  refine hit _ _ ?_
  refine comp_at led J F N W hn hst hfp hI (hgo target) J0 stab step fun D h' tk ys F' N' hJ hl hp hD => ?_
  exact postV (J := J n) (by rw [Heap.size_push]) F N F' N' hJ (stab n) hp hD fun h'' c F'' N'' l1 hJ' => done D h'' tk ys c F'' N'' l1 hJ'

theorem asg_name {C : Addr} {h : Heap} {tk : Nat} {scope : Scope} {cl : List (PySem.Str × Addr)} {x : PySem.Str} {px : Pos} {v : Value} {mC : PySem.Str → Option Value} {led : List (Addr × Obj)} {Q : Unit → Shared → Prop} (hx : scope.names.lookup x = some .local) (hk : scope.kind = .function)
    (F : Fr h₀ C h mC) (N : News h₀ C h led) (k : ∀ h', Fr h₀ C h' (fun y => if y = x then some v else mC y) → News h₀ C h' led → Q () { s with heap := h', toks := tk + 1 }) :
    wpAny (model prog w) A (assign (.Name x px) (compEnvC scope cl C env) v) Q Nev { s with heap := h, toks := tk } :=
  wpAny_assign_Name (wpAny_storeName_local (lookup_relabel_local hx) F.ns (fun h' hn hs => k h' (F.set hn hs) (N.set hs)) (by simp [compEnvC, relabel, hk]))
end

section
variable {M : Model} {A : Around} {E : Value → Shared → Prop} {s : Shared} {K : Frag} {h₀ : Heap} {L C : Addr} {m mg mb : PySem.Str → Option Value} {scope : Scope} {cl : List (PySem.Str × Addr)} {env : Env} {p : Program} {loose : List PySem.Str} {x : PySem.Str} {pos : Pos} {v : Value} {Q : Value → Shared → Prop}
theorem nmC_L (F : Fr h₀ C s.heap m) (hv : m x = some v) (h : Q v s)
    (hk : (compEnvC scope cl C env).scope.kind = .function := by rfl) (hx : (compEnvC scope cl C env).kindOf x = some .local := by rfl) (hd : (x == ("__debug__" : PySem.Str)) = false := by decide) :
    wpAny M A (eval (.Name x pos) (compEnvC scope cl C env)) Q E s := wpAny_Name (wpAny_loadName_local hk hx F.ns hv h) hd
theorem nmC_K (F : Fr h₀ L s.heap m) (X : K.In h₀) (T : TopRead p loose mg mb h₀) (e : nsIn K mainGlobals x = some (some v)) (h : Q v s) (hg : env.globals = mainGlobals := by rfl)
    (hk : (compEnvC scope cl C env).scope.kind = .function := by rfl) (hx : (compEnvC scope cl C env).kindOf x = some .globalImplicit := by rfl) (hd : (x == ("__debug__" : PySem.Str)) = false := by decide) :
    wpAny M A (eval (.Name x pos) (compEnvC scope cl C env)) Q E s :=
  Name_function_global hk hx (loadGlobal_global (env := compEnvC scope cl C env) (show s.heap.Ns env.globals mg from hg ▸ (T.g.keeps F.keep)) (mg_of X T.g e) h) hd
theorem nmC_B (F : Fr h₀ L s.heap m) (X : K.In h₀) (T : TopRead p loose mg mb h₀) (e : nsIn K mainGlobals x = some none) (hv : bootBuiltins x = some v) (hn : x ≠ "__name__") (h : Q v s) (hg : env.globals = mainGlobals := by rfl) (hb : env.builtins = builtinsNs := by rfl)
    (hk : (compEnvC scope cl C env).scope.kind = .function := by rfl) (hx : (compEnvC scope cl C env).kindOf x = some .globalImplicit := by rfl) (hd : (x == ("__debug__" : PySem.Str)) = false := by decide) :
    wpAny M A (eval (.Name x pos) (compEnvC scope cl C env)) Q E s :=
  Name_function_global hk hx (loadGlobal_builtin (env := compEnvC scope cl C env) (show s.heap.Ns env.globals mg from hg ▸ (T.g.keeps F.keep)) (mg_none_of X T.g e) (show s.heap.Ns env.builtins mb from hb ▸ (T.b.keeps F.keep)) ((T.builtins x hn).trans hv) h) hd
end

theorem cend {h₀ h' : Heap} {C : Addr} {led own : List (Addr × Obj)} {J : Heap → Prop} {s : Shared} {tk : Nat} {m' : PySem.Str → Option Value} (F : Fr h₀ C h' m') (N : News h₀ C h' (led ++ own)) (hJ : J h') :
    CEnd h₀ C own (fun h' => (∀ p ∈ led, h'.get? p.1 = some p.2) ∧ J h') s { s with heap := h', toks := tk } :=
  ⟨h', tk, m', led ++ own, rfl, F, N, fun p hp => List.mem_append_right _ hp, fun p hp => (N p (List.mem_append_left _ hp)).1, hJ⟩
theorem cend2 {h₀ h' : Heap} {C : Addr} {led own news : List (Addr × Obj)} {J : Heap → Prop} {s : Shared} {tk : Nat} {m' : PySem.Str → Option Value} (F : Fr h₀ C h' m') (N : News h₀ C h' news) (hs : ∀ p ∈ led ++ own, p ∈ news) (hJ : J h') :
    CEnd h₀ C own (fun h' => (∀ p ∈ led, h'.get? p.1 = some p.2) ∧ J h') s { s with heap := h', toks := tk } :=
  ⟨h', tk, m', news, rfl, F, N, fun p hp => hs p (List.mem_append_right _ hp), fun p hp => (N p (hs p (List.mem_append_left _ hp))).1, hJ⟩
theorem dictOf_up {K : Type} [DecidableEq K] {prog : Program} {w : World} {knd : PySem.KeyKind prog w K} {h h' : Heap} {d : Addr} {kvs : List (K × Value)} (hd : h.DictOf knd d kvs) (k : ∀ b o, h.get? b = some o → h'.get? b = some o) : h'.DictOf knd d kvs := by
  obtain ⟨o, es, ep, ho, r⟩ := hd
  exact ⟨o, es, ep, k _ _ ho, r⟩
theorem kst_one {a : Option Value} {n k z : PySem.Str} {w : Value} {u m₀ : PySem.Str → Option Value} (hz : ∀ p ∈ [(k, w)], z ≠ p.1) (hc : [n].contains z = false) :
    (if z = n then a else kstB (fun z => if [n].contains z = true then u z else m₀ z) [(k, w)] z) = m₀ z := by
  have h1 : z ≠ k := hz (k, w) (.head _)
  have h2 : z ≠ n := by
    intro e; subst e; simp at hc
  rw [if_neg h2]
  simp only [kstB, if_neg h1, hc, Bool.false_eq_true, if_false]
theorem kst_two {a b : Option Value} {n k z : PySem.Str} {w w' : Value} {u m₀ : PySem.Str → Option Value} (hz : ∀ p ∈ [(k, w')], z ≠ p.1) (hc : [n].contains z = false) :
    (if z = k then b else if z = n then a else kstB (fun z => if [n].contains z = true then u z else m₀ z) [(k, w)] z) = m₀ z := by
  have h1 : z ≠ k := hz (k, w') (.head _)
  rw [if_neg h1]
  exact kst_one (by intro p hp; rw [List.mem_singleton] at hp; subst hp; exact h1) hc
theorem strs_at : ∀ {vs : List Value} {xs : List PySem.Str}, StrsAre vs xs → ∀ {i : Nat} {v : Value}, vs.toArray[i]? = some v → ∃ y t, xs[i]? = some y ∧ v = .str y t
  | _, _, .nil, i, v, h => by simp at h
  | _, _, .cons y t r, 0, v, h => by simp at h; exact ⟨y, t, rfl, h.symm⟩
  | _, _, .cons y t r, i + 1, v, h => by
    obtain ⟨z, u, h1, h2⟩ := strs_at r (i := i) (v := v) (by simpa using h)
    exact ⟨z, u, by simpa using h1, h2⟩
theorem strs_snoc : ∀ {vs : List Value} {xs : List PySem.Str} {y : PySem.Str} {t : Tok}, StrsAre vs xs → StrsAre (vs ++ [.str y t]) (xs ++ [y])
  | _, _, _, _, h => strsAre_append h (.cons _ _ .nil)
theorem filt_t {α : Type} {xs : List α} {p : α → Bool} {i : Nat} {y : α} (hy : xs[i]? = some y) (h : p y = true) : (xs.take (i + 1)).filter p = (xs.take i).filter p ++ [y] := by
  rw [take_snoc hy, List.filter_append, List.filter_cons_of_pos h]; rfl
theorem filt_f {α : Type} {xs : List α} {p : α → Bool} {i : Nat} {y : α} (hy : xs[i]? = some y) (h : p y = false) : (xs.take (i + 1)).filter p = (xs.take i).filter p := by
  rw [take_snoc hy, List.filter_append, List.filter_cons_of_neg (by rw [h]; exact Bool.false_ne_true)]
  simp
theorem take_all {α : Type} {xs : List α} {n : Nat} (h : xs.length ≤ n) : xs.take n = xs := List.take_of_length_le h
theorem any_mem {ns : List PySem.Str} {y : PySem.Str} : (ns.any fun x => x == y) = true ↔ y ∈ ns := by
  rw [List.any_eq_true]
  constructor
  · rintro ⟨x, hx, e⟩
    rw [← eq_of_beq e]; exact hx
  · intro h
    exact ⟨y, h, by simp⟩
theorem names_ok : names.all okS = true := by decide +kernel
theorem ok_of_names {xs : List PySem.Str} (h : ∀ x ∈ xs, x ∈ names) : xs.all okS = true :=
  List.all_eq_true.mpr fun x hx => List.all_eq_true.mp names_ok x (h x hx)
section
variable {prog : Program} {w : World} {A : Around} {E : Value → Shared → Prop} {s : Shared} {h₀ : Heap} {L : Addr} {m : PySem.Str → Option Value} {news : List (Addr × Obj)}
theorem slice_temp {value slice : PySem.Expr} {l : Addr} {items : Array Value} {vl vu : Value} {lo hi : Option Int} {zs : List Value} {Q : Value → Shared → Prop}
    (F : Fr h₀ L s.heap m) (N : News h₀ L s.heap news) (hl : s.heap.IsList l items) (pl : IsPart vl lo) (pu : IsPart vu hi) (e : slicePick items lo hi none = zs.toArray)
    (h : ∀ D h', Fr h₀ L h' m → News h₀ L h' ((D, PySem.W.listOf zs.toArray 0) :: news) → (∀ p ∈ news, p.1 < D) → Q (.ref D) { s with heap := h' })
    (hs : subscripted slice false (.ref l) (.ref s.heap.objs.size) = operate [.ref s.heap.objs.size, .ref l] (getItem (.ref l) (.ref s.heap.objs.size)) := by with_unfolding_all rfl)
    (hsz : items.size ≤ sizeLine) :
    wpAny (model prog w) A (subscriptTail value slice (.ref l) (.ref s.heap.objs.size)) Q E { s with heap := s.heap.push { cls := .type "slice", data := .fields #[vl, vu, .none] } } := by
  refine tail_any (Heap.IsList.typeIs (s := { s with heap := s.heap.push { cls := .type "slice", data := .fields #[vl, vu, .none] } }) (hl.push _)) list_getitem_lookup
    (wpAny_getItem_list_slice (hl.push _) (Heap.IsSliceOf.new ..) pl pu .none (by simp) ?_ hsz) hs
  have N1 := News.push (F.push { cls := .type "slice", data := .fields #[vl, vu, .none] }) (N.grown fun _ _ e => Heap.get?_push_of_some _ e) { cls := .type "list", data := .seq (slicePick items lo hi none) }
  rw [Heap.size_push] at N1
  show Q (.ref (s.heap.push _).objs.size) _
  rw [Heap.size_push]
  rw [e] at N1 ⊢
  exact h _ _ ((F.push _).push _) N1 fun p hp => Nat.lt_succ_of_lt (Heap.lt_size (N p hp).1)
end
theorem pick_from (vs : List Value) {x : Int} (h : 0 ≤ x) : slicePick vs.toArray (some x) none none = (vs.drop x.toNat).toArray := by
  have e : sliceBounds (some x) none none vs.toArray.size = (((min x.toNat vs.toArray.size : Nat) : Int), ((vs.toArray.size : Nat) : Int), 1) := by
    simp only [sliceBounds, Option.getD_none, show (1 : Int) > 0 by decide, if_true, if_neg (show ¬ (x < 0) by omega)]
    congr 1
    omega
  rw [kmk_pick_nat _ e]
  show ((vs.drop (min x.toNat vs.toArray.size)).take (vs.toArray.size - min x.toNat vs.toArray.size)).toArray = _
  rw [List.size_toArray, kmk_drop_min, List.take_of_length_le (by rw [List.length_drop]; omega)]
theorem pick_upto (vs : List Value) {y : Int} (h : 0 ≤ y) : slicePick vs.toArray none (some y) none = (vs.take y.toNat).toArray := by
  have e : sliceBounds none (some y) none vs.toArray.size = (((0 : Nat) : Int), ((min y.toNat vs.toArray.size : Nat) : Int), 1) := by
    simp only [sliceBounds, Option.getD_none, show (1 : Int) > 0 by decide, if_true, if_neg (show ¬ (y < 0) by omega)]
    congr 1
    congr 1
    omega
  rw [kmk_pick_nat _ e]
  show ((vs.drop 0).take (min y.toNat vs.toArray.size - 0)).toArray = _
  rw [List.drop_zero, Nat.sub_zero, List.size_toArray, kmk_take_min]
theorem strs_drop : ∀ {vs : List Value} {xs : List PySem.Str}, StrsAre vs xs → ∀ n, StrsAre (vs.drop n) (xs.drop n)
  | _, _, h, 0 => h
  | _, _, .nil, _ + 1 => .nil
  | _, _, .cons _ _ h, n + 1 => strs_drop h n
theorem strs_take : ∀ {vs : List Value} {xs : List PySem.Str}, StrsAre vs xs → ∀ n, StrsAre (vs.take n) (xs.take n)
  | _, _, _, 0 => .nil
  | _, _, .nil, _ + 1 => .nil
  | _, _, .cons y t h, n + 1 => .cons y t (strs_take h n)

def rowsOf (n : Nat) : List PySem.Expr := match PySem.Challenge.pw_pq1020_01.main.body[n]? with
  | some (.Assign _ (.Tuple es _ _) _) => es
  | _ => []
def firstE : PySem.Expr → PySem.Str
  | .Tuple (e :: _) _ _ => strE e
  | _ => ⟨#[]⟩
def ctlNames : List PySem.Str := (rowsOf 10).map firstE
def primNames : List PySem.Str := (rowsOf 13).map firstE
theorem ctl_len : ctlNames.length = 4 := rfl
theorem prim_len : primNames.length = 192 := rfl
/-- a row whose first place is this text -/
def rowIs (o : Obj) (x : PySem.Str) : Bool := (match o.cls with | .type "tuple" => true | _ => false) && match o.data with
  | .seq vs _ => (match vs.toList with | .str y _ :: _ => y == x | _ => false)
  | _ => false
theorem rowIs_of {o : Obj} {x : PySem.Str} (h : rowIs o x = true) : o.cls = .type "tuple" ∧ ∃ t r n, o.data = .seq (List.toArray (.str x t :: r)) n := by
  unfold rowIs at h
  simp only [Bool.and_eq_true] at h
  obtain ⟨h1, h2⟩ := h
  refine ⟨?_, ?_⟩
  · split at h1
    · assumption
    · cases h1
  · split at h2
    · rename_i vs n hd
      split at h2
      · rename_i y t r hv
        refine ⟨t, r, n, ?_⟩
        rw [hd]
        have := eq_of_beq h2
        subst this
        rw [← hv]
      · cases h2
    · cases h2
def rowsLook (K : Frag) (a : Addr) : Nat → List PySem.Str → Bool
  | _, [] => true
  | i, x :: r => (match K.lookup (a + i) with | some o => rowIs o x | none => false) && rowsLook K a (i + 1) r
theorem rowsLook_at {K : Frag} {a : Addr} : ∀ {l : List PySem.Str} {i j : Nat} {x : PySem.Str}, rowsLook K a i l = true → l[j]? = some x → ∃ o, K.lookup (a + (i + j)) = some o ∧ rowIs o x = true
  | [], i, j, x, _, h => by simp at h
  | y :: r, i, 0, x, h, e => by
    simp at e
    subst e
    unfold rowsLook at h
    simp only [Bool.and_eq_true] at h
    split at h
    · rename_i o ho
      exact ⟨o, ho, h.1⟩
    · cases h.1
  | y :: r, i, j + 1, x, h, e => by
    unfold rowsLook at h
    simp only [Bool.and_eq_true] at h
    obtain ⟨o, ho, q⟩ := rowsLook_at (j := j) (x := x) h.2 (by simpa using e)
    exact ⟨o, by rw [show i + (j + 1) = i + 1 + j by omega]; exact ho, q⟩
theorem prim_look (P : Params) : rowsLook (hd.heap_1 P) 110 0 primNames = true := by kernel_rfl
theorem ctl_look (P : Params) : rowsLook (hd.heap_1 P) 100 0 ctlNames = true := by kernel_rfl
theorem prim_at {w : World} {h : Heap} (X : (hd.heap_1 w.params).In h) {i : Nat} {x : PySem.Str} (e : primNames[i]? = some x) : ∃ t r, IsTup h (110 + i) (List.toArray (.str x t :: r)) := by
  obtain ⟨o, ho, q⟩ := rowsLook_at (prim_look w.params) e
  obtain ⟨h1, t, r, n, h2⟩ := rowIs_of q
  rw [Nat.zero_add] at ho
  exact ⟨t, r, o, X _ _ ho, h1, n, h2⟩
theorem ctl_at {w : World} {h : Heap} (X : (hd.heap_1 w.params).In h) {i : Nat} {x : PySem.Str} (e : ctlNames[i]? = some x) : ∃ t r, IsTup h (100 + i) (List.toArray (.str x t :: r)) := by
  obtain ⟨o, ho, q⟩ := rowsLook_at (ctl_look w.params) e
  obtain ⟨h1, t, r, n, h2⟩ := rowIs_of q
  rw [Nat.zero_add] at ho
  exact ⟨t, r, o, X _ _ ho, h1, n, h2⟩
abbrev primV : List Value := (List.range 192).map fun i => Value.ref (110 + i)
abbrev ctlV : List Value := (List.range 4).map fun i => Value.ref (100 + i)
theorem prims_at {w : World} {h : Heap} (X : (hd.heap_1 w.params).In h) : IsTup h 302 primV.toArray := ⟨_, X 302 _ rfl, rfl, _, rfl⟩
theorem ctls_at {w : World} {h : Heap} (X : (hd.heap_1 w.params).In h) : IsTup h 104 ctlV.toArray := ⟨_, X 104 _ rfl, rfl, _, rfl⟩
theorem primV_get {i : Nat} (h : i < 192) : primV[i]? = some (.ref (110 + i)) := by
  simp [primV, h]
theorem ctlV_get {i : Nat} {v : Value} (h : ctlV.toArray[i]? = some v) : i < 4 ∧ v = .ref (100 + i) := by
  have e : ctlV[i]? = some v := by simpa using h
  have hi : i < 4 := by
    have := (List.getElem?_eq_some_iff.mp e).1
    simpa using this
  refine ⟨hi, ?_⟩
  simp [ctlV, hi] at e
  exact e.symm

section
variable {prog : Program} {w : World} {A : Around} {E : Value → Shared → Prop} {s : Shared} {env : Env} {h₀ : Heap} {L : Addr} {m : PySem.Str → Option Value} {news : List (Addr × Obj)}
theorem asg_pair {C T : Addr} {h : Heap} {tk : Nat} {scope : Scope} {cl : List (PySem.Str × Addr)} {a b : PySem.Str} {pa pb tp : Pos} {kk : Nat} {x y : Value} {mC : PySem.Str → Option Value} {led : List (Addr × Obj)} {Q : Unit → Shared → Prop} (hh : A.handled = none) (ht : h.IsTuple T #[x, y]) (hx : scope.names.lookup a = some .local) (hy : scope.names.lookup b = some .local) (hk : scope.kind = .function)
    (F : Fr h₀ C h mC) (N : News h₀ C h led) (k : ∀ h' tk, Fr h₀ C h' (fun z => if z = b then some y else if z = a then some x else mC z) → News h₀ C h' led → Q () { s with heap := h', toks := tk }) :
    wpAny (model prog w) A (assign (.Tuple [.Name a pa, .Name b pb] kk tp) (compEnvC scope cl C env) (.ref T)) Q Nev { s with heap := h, toks := tk } := by
  refine kcp_assign (env := compEnvC scope cl C env) hh ht (lookup_relabel_local hx) (lookup_relabel_local hy) (by simp [compEnvC, relabel, hk]) F.ns fun h' tk' hn hk' => ?_
  have hC0 : h₀.get? C = none := Heap.get?_none_of_le F.above
  exact k h' tk' ⟨hn, fun b o e => hk' b o (fun q => by rw [show b = C from q, hC0] at e; cases e) (F.keep b o e), F.above⟩ fun p hp => ⟨hk' _ _ (N p hp).2.1 (N p hp).1, (N p hp).2⟩
end
/-- pairs that stand in the base or on a ledger -/
theorem pair_led {h₀ h : Heap} {L : Addr} {m : PySem.Str → Option Value} (F : Fr h₀ L h m) : ∀ {us : List Value} {ps : List (PySem.Str × PySem.Str)}, PairH h us ps →
    ∃ pl, News h₀ L h pl ∧ (∀ p ∈ pl, ∃ q t u, p.2 = tup2 q t u) ∧ ∀ h' : Heap, (∀ b o, h₀.get? b = some o → h'.get? b = some o) → (∀ p ∈ pl, h'.get? p.1 = some p.2) → PairH h' us ps
  | _, _, .nil => ⟨[], News.nil, fun _ h => (nomatch h), fun _ _ _ => .nil⟩
  | _, _, .cons (a := a) (t := t) (u := u) (p := p) e r => by
    obtain ⟨pl, N, hs, k⟩ := pair_led F r
    cases q : h₀.get? a with
    | some o =>
      have : o = tup2 p t u := by
        have := F.keep _ _ q
        rw [e] at this
        exact (Option.some.inj this).symm
      subst this
      exact ⟨pl, N, hs, fun h' h1 h2 => .cons (h1 _ _ q) (k h' h1 h2)⟩
    | none =>
      refine ⟨(a, tup2 p t u) :: pl, fun z hz => ?_, fun z hz => ?_, fun h' h1 h2 => .cons (h2 (a, _) (.head _)) (k h' h1 fun p hp => h2 p (.tail _ hp))⟩
      · rcases List.mem_cons.mp hz with rfl | hz
        · refine ⟨e, fun eL => ?_, q⟩
          obtain ⟨oL, es, ep, hoL, hd, _⟩ := F.ns
          dsimp only at eL
          rw [← eL, e] at hoL
          cases hoL
          cases hd
        · exact N z hz
      · rcases List.mem_cons.mp hz with rfl | hz
        · exact ⟨p, t, u, rfl⟩
        · exact hs z hz
theorem pl_ne {h₀ h : Heap} {L c : Addr} {o : Obj} {pl : List (Addr × Obj)} (N : News h₀ L h pl) (hs : ∀ p ∈ pl, ∃ q t u, p.2 = tup2 q t u) (ho : h.get? c = some o) (hc : ∀ xs n, o.data = .seq xs n → o.cls ≠ .type "tuple") : ∀ p ∈ pl, p.1 ≠ c := fun p hp e => by
  have h1 := (N p hp).1
  obtain ⟨q, t, u, e2⟩ := hs p hp
  rw [e, ho, e2] at h1
  cases h1
  exact hc _ _ rfl rfl
/-- pairs of texts as keys with values -/
theorem pair_kv {h : Heap} : ∀ {us : List Value} {ps : List (PySem.Str × PySem.Str)}, PairH h us ps → ∃ kvs, KvH h us kvs ∧ kvs.map (·.1) = ps.map (·.1) ∧ ∀ n v, (n, v) ∈ kvs → ∃ x t, (n, x) ∈ ps ∧ v = Value.str x t
  | _, _, .nil => ⟨[], .nil, rfl, fun _ _ h => (nomatch h)⟩
  | _, _, .cons (u := u) (p := p) e r => by
    obtain ⟨kvs, h1, h2, h3⟩ := pair_kv r
    refine ⟨(p.1, .str p.2 u) :: kvs, .cons e h1, by simp [h2], fun n v hv => ?_⟩
    rcases List.mem_cons.mp hv with e | hv
    · cases e
      exact ⟨p.2, u, .head _, rfl⟩
    · obtain ⟨x, t, a, b⟩ := h3 n v hv
      exact ⟨x, t, .tail _ a, b⟩
theorem valueAt_in {kvs : List (PySem.Str × Value)} {n : PySem.Str} {v : Value} (h : valueAt kvs n = some v) : (n, v) ∈ kvs := by
  unfold valueAt at h
  rw [Option.map_eq_some_iff] at h
  obtain ⟨p, hp, rfl⟩ := h
  have h1 := List.mem_of_find?_eq_some hp
  have h2 := List.find?_some hp
  simp only [decide_eq_true_eq] at h2
  rw [← h2]
  exact h1
theorem pair_at {h : Heap} : ∀ {us : List Value} {ps : List (PySem.Str × PySem.Str)}, PairH h us ps → ∀ {i : Nat} {v : Value}, us.toArray[i]? = some v → ∃ a p t u, ps[i]? = some p ∧ v = .ref a ∧ h.get? a = some (tup2 p t u)
  | _, _, .nil, i, v, h => by simp at h
  | _, _, .cons (a := a) (t := t) (u := u) (p := p) e r, 0, v, h => by simp at h; exact ⟨a, p, t, u, rfl, h.symm, e⟩
  | _, _, .cons e r, i + 1, v, h => by
    obtain ⟨a, p, t, u, h1, h2, h3⟩ := pair_at r (i := i) (v := v) (by simpa using h)
    exact ⟨a, p, t, u, by simpa using h1, h2, h3⟩
section
variable {prog : Program} {w : World} {A : Around} {E : Value → Shared → Prop} {s : Shared} {h₀ : Heap} {L : Addr} {m : PySem.Str → Option Value} {news : List (Addr × Obj)}
theorem dict_pairsN {vs : List Value} {kvs : List (PySem.Str × Value)} {a : Addr} {n : Nat} {Q : Value → Shared → Prop} (hh : A.handled = none) (F : Fr h₀ L s.heap m) (N : News h₀ L s.heap news) (hbig : h₀.NoLimit)
    (hl : s.heap.get? a = some { cls := .type "list", dict := none, data := .seq vs.toArray n }) (hkv : KvH s.heap vs kvs) (hsz : kvs.length ≤ 1000)
    (h : ∀ D h' tk o, Fr h₀ L h' m → News h₀ L h' ((D, o) :: news) → (∀ p ∈ news, p.1 < D) → (D == sysModules) = false → o.IsDictOf (PySem.strKind prog w) (merged [] kvs) → Q (.ref D) { s with heap := h', toks := tk }) :
    wpAny (model prog w) A (call (.type "dict") [.ref a]) Q E s := by
  refine dict_pairs hh hl hkv (by rw [sizeLine_eq]; omega) fun h' tk up hD => ?_
  obtain ⟨oD, hoD, hdd⟩ := Heap.dictOf_iff.mp hD
  exact h _ h' tk oD (F.keeps up) (news_new F N up (Heap.get?_none_of_le (Nat.le_refl _)) hoD).1 (fun p hp => Heap.lt_size (N p hp).1) (F.notModules (modules_low hbig)) hdd
end
theorem bools_snoc : ∀ {vs : List Value} {bs : List Bool} {b : Bool}, LSm.BoolsAre vs bs → LSm.BoolsAre (vs ++ [.bool b]) (bs ++ [b])
  | _, _, b, .nil => .cons b .nil
  | _, _, _, .cons c h => .cons c (bools_snoc h)
theorem bools_rep {vs : List Value} {i : Nat} (h : LSm.BoolsAre vs (List.replicate i true)) : LSm.BoolsAre (vs ++ [.bool true]) (List.replicate (i + 1) true) := by
  rw [List.replicate_succ']
  exact bools_snoc h
theorem all_rep (i : Nat) : (List.replicate i true).all id = true := by
  rw [List.all_eq_true]
  intro x hx
  exact (List.mem_replicate.mp hx).2

def strL (x : PySem.Str) : List Nat := x.cps.toList
theorem strL_inj {x y : PySem.Str} (h : strL x = strL y) : x = y := by
  obtain ⟨a⟩ := x
  obtain ⟨b⟩ := y
  congr 1
  exact Array.toList_inj.mp h
theorem strL_ofL (l : List Nat) : strL (ofL l) = l := rfl
theorem ofL_iff {y : PySem.Str} {l : List Nat} : ofL l = y ↔ l = strL y := ⟨fun h => by rw [← h, strL_ofL], fun h => strL_inj (by rw [strL_ofL, h])⟩
theorem dec_lit {x : PySem.Str} {s : String} {cs : List Char} (h0 : x = Str.ofString s) (h : s = String.ofList cs) : strL x = cs.map Char.toNat := by
  subst h h0
  unfold strL
  rw [Str.ofString_eq_toList]
  simp
def eqL : List Nat → List Nat → Bool
  | [], [] => true
  | a :: r, b :: t => match Nat.beq a b with | true => eqL r t | false => false
  | _, _ => false
theorem eqL_iff : ∀ {a b : List Nat}, eqL a b = true ↔ a = b
  | [], [] => by simp [eqL]
  | [], _ :: _ => by simp [eqL]
  | _ :: _, [] => by simp [eqL]
  | a :: r, b :: t => by
    unfold eqL
    cases h : Nat.beq a b with
    | true =>
      have := Nat.eq_of_beq_eq_true h
      subst this
      simp only [List.cons.injEq, true_and]
      exact eqL_iff
    | false =>
      have := Nat.ne_of_beq_eq_false h
      simp [this]
def memL (x : List Nat) : List (List Nat) → Bool
  | [] => false
  | y :: r => match eqL x y with | true => true | false => memL x r
theorem memL_iff {x : List Nat} : ∀ {l : List (List Nat)}, memL x l = true ↔ x ∈ l
  | [] => by simp [memL]
  | y :: r => by
    unfold memL
    cases h : eqL x y with
    | true => simp [eqL_iff.mp h]
    | false =>
      have hne : x ≠ y := fun e => by rw [eqL_iff.mpr e] at h; cases h
      simp only [List.mem_cons, hne, false_or]
      exact memL_iff
def nodupL : List (List Nat) → Bool
  | [] => true
  | y :: r => match memL y r with | true => false | false => nodupL r
theorem nodupL_ok : ∀ {l : List (List Nat)}, nodupL l = true → l.Nodup
  | [], _ => .nil
  | y :: r, h => by
    unfold nodupL at h
    split at h
    · cases h
    · rename_i q
      exact List.nodup_cons.mpr ⟨fun e => (by rw [memL_iff.mpr e] at q; cases q), nodupL_ok h⟩
structure RowD where
  nm : List Nat
  needs : List (List Nat)
  text : List Nat
inductive StrsD : List PySem.Str → List (List Nat) → Prop
  | nil : StrsD [] []
  | cons {x : PySem.Str} {l : List Nat} {xs : List PySem.Str} {ls : List (List Nat)} : strL x = l → StrsD xs ls → StrsD (x :: xs) (l :: ls)
inductive RowIs : Rw → RowD → Prop
  | mk {a : PySem.Str} {b : List PySem.Str} {c : PySem.Str} {d : List Nat} {e : List (List Nat)} {f : List Nat} : strL a = d → StrsD b e → strL c = f → RowIs ⟨a, b, c⟩ ⟨d, e, f⟩
inductive TabIs : List Rw → List RowD → Prop
  | nil : TabIs [] []
  | cons {r : Rw} {d : RowD} {rs : List Rw} {ds : List RowD} : RowIs r d → TabIs rs ds → TabIs (r :: rs) (d :: ds)
theorem StrsD.map : ∀ {xs : List PySem.Str} {ls : List (List Nat)}, StrsD xs ls → ls = xs.map strL
  | _, _, .nil => rfl
  | _, _, .cons h r => by rw [List.map_cons, h, ← r.map]
theorem StrsD.mem {xs : List PySem.Str} {ls : List (List Nat)} (h : StrsD xs ls) {y : PySem.Str} : y ∈ xs ↔ strL y ∈ ls := by
  rw [h.map, List.mem_map]
  exact ⟨fun q => ⟨y, q, rfl⟩, fun ⟨z, q, e⟩ => strL_inj e ▸ q⟩
theorem StrsD.app : ∀ {xs ys : List PySem.Str} {ls ms : List (List Nat)}, StrsD xs ls → StrsD ys ms → StrsD (xs ++ ys) (ls ++ ms)
  | _, _, _, _, .nil, h => h
  | _, _, _, _, .cons e r, h => .cons e (r.app h)
theorem TabIs.names : ∀ {l : List Rw} {T : List RowD}, TabIs l T → StrsD (l.map (·.nm)) (T.map (·.nm))
  | _, _, .nil => .nil
  | _, _, .cons (.mk a _ _) r => .cons a r.names
theorem TabIs.at : ∀ {l : List Rw} {T : List RowD}, TabIs l T → ∀ r ∈ l, ∃ d ∈ T, RowIs r d
  | _, _, .nil, r, h => nomatch h
  | _, _, .cons (r := r0) (d := d) e q, r, h => by
    rcases List.mem_cons.mp h with rfl | h
    · exact ⟨d, .head _, e⟩
    · obtain ⟨d', h1, h2⟩ := q.at r h
      exact ⟨d', .tail _ h1, h2⟩
theorem mem_words {x y : PySem.Str} : y ∈ wordsOf x ↔ strL y ∈ wordsL (strL x) := by
  unfold wordsOf
  rw [List.mem_map]
  exact ⟨fun ⟨l, h, e⟩ => ofL_iff.mp e ▸ h, fun h => ⟨_, h, ofL_iff.mpr rfl⟩⟩
theorem mem_words2 {x y : PySem.Str} : y ∈ (wordsOf x).drop 2 ↔ strL y ∈ (wordsL (strL x)).drop 2 := by
  unfold wordsOf
  rw [← List.map_drop, List.mem_map]
  exact ⟨fun ⟨l, h, e⟩ => ofL_iff.mp e ▸ h, fun h => ⟨_, h, ofL_iff.mpr rfl⟩⟩
/-- is the first sign a percent -/
def pct (l : List Nat) : Bool := match l with | c :: _ => Nat.beq c 37 | [] => false
def allNames : List PySem.Str := primNames ++ (ctlNames ++ names)
abbrev defineL : List Nat := [100, 101, 102, 105, 110, 101]
abbrev takeL : List Nat := [37, 116, 97, 107, 101]
abbrev windL : List Nat := [37, 119, 105, 110, 100]
abbrev wccL : List Nat := [37, 119, 111, 117, 110, 100, 45, 99, 97, 108, 108, 47, 99, 99]
def chkRow (NL OL : List (List Nat)) (d : RowD) : Bool :=
  (fun ws : List (List Nat) => Nat.ble ws.length 100 && Nat.ble d.text.length 5000 && (match ws with | a :: b :: _ => eqL a defineL && eqL b d.nm | _ => false)
    && (ws.drop 2).all (fun y => !memL y NL || (memL y d.needs || eqL y d.nm))
    && d.needs.all (fun y => memL y (ws.drop 2) && memL y NL)
    && d.text.all (fun c => Nat.ble c 1000) && d.nm.all (fun c => Nat.ble c 1000)
    && (!eqL d.nm takeL || (d.needs.isEmpty && !memL wccL ws))
    && (ws.drop 2).all (fun y => pct y || !memL y OL)) (wordsL d.text)
def chkT (OL : List (List Nat)) (T : List RowD) : Bool := nodupL (T.map (·.nm)) && T.all (chkRow (T.map (·.nm)) OL)
theorem primD : ∃ L, StrsD primNames L := by
  apply Exists.intro
  repeat' first | exact StrsD.nil | exact dec_lit rfl rfl | apply StrsD.cons
theorem allD_tabD : ∃ P T, StrsD (primNames ++ ctlNames) P ∧ TabIs tab T ∧ chkT (P ++ T.map (·.nm)) T = true := by
  apply Exists.intro
  apply Exists.intro
  apply And.intro
  focus repeat' first | exact StrsD.nil | exact dec_lit rfl rfl | apply StrsD.cons
  apply And.intro
  focus repeat' first | exact TabIs.nil | exact StrsD.nil | exact dec_lit rfl rfl | apply TabIs.cons | apply RowIs.mk | apply StrsD.cons
  decide +kernel

def outerS (x : PySem.Str) : Prop := x ∈ allNames ∧ pct (strL x) = false
structure RowFacts (r : Rw) : Prop where
  wl : (wordsOf r.text).length ≤ 100
  tl : r.text.length ≤ 5000
  hd : (wordsOf r.text).take 2 = [Str.ofString "define", r.nm]
  sub : ∀ y ∈ (wordsOf r.text).drop 2, y ∈ names → y ∈ r.needs ∨ y = r.nm
  sup : ∀ y ∈ r.needs, y ∈ (wordsOf r.text).drop 2 ∧ y ∈ names
  okt : okS r.text = true
  okn : okS r.nm = true
  tk : r.nm = "%take" → r.needs = [] ∧ ¬ Str.ofString "%wound-call/cc" ∈ wordsOf r.text
  inn : ∀ y ∈ (wordsOf r.text).drop 2, ¬ outerS y
theorem defineS : strL "define" = defineL := dec_lit rfl rfl
theorem takeS : strL "%take" = takeL := dec_lit rfl rfl
theorem windS : strL "%wind" = windL := dec_lit rfl rfl
theorem wccS : strL "%wound-call/cc" = wccL := dec_lit rfl rfl
theorem okS_of {x : PySem.Str} {l : List Nat} (h : strL x = l) (hl : (l.all fun c => Nat.ble c 1000) = true) : okS x = true := by
  unfold okS
  rw [← Array.all_toList]
  rw [List.all_eq_true]
  intro c hc
  have := List.all_eq_true.mp hl c (by rw [← h]; exact hc)
  have := Nat.le_of_ble_eq_true this
  simp
  omega
theorem rowFacts_of {NL OL : List (List Nat)} {r : Rw} {d : RowD} (h : RowIs r d) (hN : StrsD names NL) (hO : StrsD allNames OL) (c : chkRow NL OL d = true) : RowFacts r := by
  obtain ⟨ha, hb, hc⟩ := h
  rename_i a b c0 d0 e0 f0
  unfold chkRow at c
  simp only [Bool.and_eq_true] at c
  obtain ⟨⟨⟨⟨⟨⟨⟨⟨c1, c2⟩, c3⟩, c4⟩, c5⟩, c6⟩, c7⟩, c8⟩, c9⟩ := c
  have hw : wordsL (strL c0) = wordsL f0 := by rw [hc]
  constructor
  · show ((wordsL (strL c0)).map ofL).length ≤ 100
    rw [List.length_map, hw]
    exact Nat.le_of_ble_eq_true c1
  · show c0.cps.size ≤ 5000
    have : (strL c0).length ≤ 5000 := by rw [hc]; exact Nat.le_of_ble_eq_true c2
    simpa [strL] using this
  · show ((wordsL (strL c0)).map ofL).take 2 = _
    rw [hw]
    split at c3
    · rename_i x y t q
      rw [q]
      simp only [Bool.and_eq_true, eqL_iff] at c3
      show [ofL x, ofL y] = _
      rw [ofL_iff.mpr (c3.1.trans defineS.symm), ofL_iff.mpr (c3.2.trans (show d0 = strL a from ha.symm))]
    · cases c3
  · intro y hy hn
    have hy' := mem_words2.mp hy
    rw [show strL c0 = f0 from hc] at hy'
    have := List.all_eq_true.mp c4 _ hy'
    rw [memL_iff.mpr (hN.mem.mp hn)] at this
    simp only [Bool.not_true, Bool.false_or, Bool.or_eq_true, memL_iff, eqL_iff] at this
    rcases this with q | q
    · exact .inl (hb.mem.mpr q)
    · exact .inr (strL_inj (q.trans ha.symm))
  · intro y hy
    have := List.all_eq_true.mp c5 _ (hb.mem.mp hy)
    simp only [Bool.and_eq_true, memL_iff] at this
    exact ⟨mem_words2.mpr (by rw [show strL c0 = f0 from hc]; exact this.1), hN.mem.mpr this.2⟩
  · exact okS_of hc c6
  · exact okS_of ha c7
  · intro hn
    have e : d0 = takeL := by rw [← ha]; exact (congrArg strL hn).trans takeS
    subst e
    rw [show eqL takeL takeL = true from by decide] at c8
    simp only [Bool.not_true, Bool.false_or, Bool.and_eq_true, Bool.not_eq_true', List.isEmpty_iff] at c8
    refine ⟨?_, fun q => ?_⟩
    · have := hb.map
      rw [c8.1] at this
      simpa using this.symm
    · have q' := mem_words.mp q
      rw [wccS, show strL c0 = f0 from hc] at q'
      rw [memL_iff.mpr q'] at c8
      cases c8.2
  · intro y hy ho
    have hy' := mem_words2.mp hy
    rw [show strL c0 = f0 from hc] at hy'
    have := List.all_eq_true.mp c9 _ hy'
    rw [ho.2, memL_iff.mpr (hO.mem.mp ho.1)] at this
    cases this
theorem facts : names.Nodup ∧ ∀ r ∈ tab, RowFacts r := by
  obtain ⟨P, T, hP, hT, hc⟩ := allD_tabD
  unfold chkT at hc
  simp only [Bool.and_eq_true] at hc
  have hN : StrsD names (T.map (·.nm)) := hT.names
  have hO : StrsD allNames (P ++ T.map (·.nm)) := by
    unfold allNames
    rw [← List.append_assoc]
    exact hP.app hN
  refine ⟨?_, fun r hr => ?_⟩
  · have := nodupL_ok hc.1
    rw [hN.map] at this
    exact (List.pairwise_map.mp this).imp fun h e => h (congrArg _ e)
  · obtain ⟨d, hd, hr'⟩ := hT.at r hr
    exact rowFacts_of hr' hN hO (List.all_eq_true.mp hc.2 d hd)
def chkW (NL : List (List Nat)) (f : List Nat) : Bool :=
  (fun ws : List (List Nat) => Nat.ble ws.length 100 && Nat.ble f.length 5000 && (match ws with | a :: b :: _ => eqL a defineL && eqL b takeL | _ => false)
    && (ws.drop 2).all (fun y => !memL y NL || eqL y wccL)
    && memL wccL (ws.drop 2) && memL wccL NL && f.all (fun c => Nat.ble c 1000)) (wordsL f)
theorem woundD_tabD : ∃ f T, strL woundT = f ∧ TabIs tab T ∧ chkW (T.map (·.nm)) f = true := by
  apply Exists.intro
  apply Exists.intro
  apply And.intro
  focus exact dec_lit rfl rfl
  apply And.intro
  focus repeat' first | exact TabIs.nil | exact StrsD.nil | exact dec_lit rfl rfl | apply TabIs.cons | apply RowIs.mk | apply StrsD.cons
  decide +kernel
structure WoundFacts : Prop where
  wl : (wordsOf woundT).length ≤ 100
  tl : woundT.length ≤ 5000
  hd : (wordsOf woundT).take 2 = [Str.ofString "define", Str.ofString "%take"]
  sub : ∀ y ∈ (wordsOf woundT).drop 2, y ∈ names → y = Str.ofString "%wound-call/cc"
  sup : Str.ofString "%wound-call/cc" ∈ (wordsOf woundT).drop 2
  nm : Str.ofString "%wound-call/cc" ∈ names
  okt : okS woundT = true
theorem wound_facts : WoundFacts := by
  obtain ⟨f, T, hf, hT, c⟩ := woundD_tabD
  have hN : StrsD names (T.map (·.nm)) := hT.names
  unfold chkW at c
  simp only [Bool.and_eq_true] at c
  obtain ⟨⟨⟨⟨⟨⟨c1, c2⟩, c3⟩, c4⟩, c5⟩, c6⟩, c7⟩ := c
  have hw : wordsL (strL woundT) = wordsL f := by rw [hf]
  constructor
  · show ((wordsL (strL woundT)).map ofL).length ≤ 100
    rw [List.length_map, hw]
    exact Nat.le_of_ble_eq_true c1
  · show woundT.cps.size ≤ 5000
    have : (strL woundT).length ≤ 5000 := by rw [hf]; exact Nat.le_of_ble_eq_true c2
    simpa [strL] using this
  · show ((wordsL (strL woundT)).map ofL).take 2 = _
    rw [hw]
    split at c3
    · rename_i x y t q
      rw [q]
      simp only [Bool.and_eq_true, eqL_iff] at c3
      show [ofL x, ofL y] = _
      rw [ofL_iff.mpr (c3.1.trans defineS.symm), ofL_iff.mpr (c3.2.trans takeS.symm)]
    · cases c3
  · intro y hy hn
    have hy' := mem_words2.mp hy
    rw [hf] at hy'
    have := List.all_eq_true.mp c4 _ hy'
    rw [memL_iff.mpr (hN.mem.mp hn)] at this
    simp only [Bool.not_true, Bool.false_or, eqL_iff] at this
    exact strL_inj (this.trans wccS.symm)
  · rw [mem_words2, wccS, hf]
    exact memL_iff.mp c5
  · rw [hN.mem, wccS]
    exact memL_iff.mp c6
  · exact okS_of hf c7
theorem wound_inn : ∀ y ∈ (wordsOf woundT).drop 2, ¬ outerS y := by
  have key : ∃ f P T, strL woundT = f ∧ StrsD (primNames ++ ctlNames) P ∧ TabIs tab T ∧ ((wordsL f).drop 2).all (fun y => pct y || !memL y (P ++ T.map (·.nm))) = true := by
    apply Exists.intro
    apply Exists.intro
    apply Exists.intro
    apply And.intro
    focus exact dec_lit rfl rfl
    apply And.intro
    focus repeat' first | exact StrsD.nil | exact dec_lit rfl rfl | apply StrsD.cons
    apply And.intro
    focus repeat' first | exact TabIs.nil | exact StrsD.nil | exact dec_lit rfl rfl | apply TabIs.cons | apply RowIs.mk | apply StrsD.cons
    decide +kernel
  obtain ⟨f, P, T, hf, hP, hT, c⟩ := key
  have hO : StrsD allNames (P ++ T.map (·.nm)) := by
    unfold allNames
    rw [← List.append_assoc]
    exact hP.app hT.names
  intro y hy ho
  have hy' := mem_words2.mp hy
  rw [hf] at hy'
  have := List.all_eq_true.mp c _ hy'
  rw [ho.2, memL_iff.mpr (hO.mem.mp ho.1)] at this
  cases this

/-- the row of a name -/
def textOf (n : PySem.Str) : PySem.Str := match at? n with
  | some i => (tab.getD i ⟨⟨#[]⟩, [], ⟨#[]⟩⟩).text
  | none => ⟨#[]⟩
theorem row_of_at {n : PySem.Str} {i : Nat} (h : at? n = some i) : ∃ r, tab[i]? = some r ∧ r.nm = n ∧ textOf n = r.text ∧ needs n = r.needs := by
  obtain ⟨hi, hn⟩ := at_lt h
  have hl : i < tab.length := hi
  refine ⟨tab[i], List.getElem?_eq_getElem hl, ?_, ?_, needs_at h (List.getElem?_eq_getElem hl)⟩
  · rw [← names_get (List.getElem?_eq_getElem hl)]; exact hn
  · unfold textOf
    rw [h]
    simp [List.getD, List.getElem?_eq_getElem hl]
theorem mem_kn {n : PySem.Str} (h : n ∈ names) : kn n := by
  unfold kn
  cases q : at? n with
  | some i => rfl
  | none =>
    exfalso
    unfold at? at q
    rw [List.find?_eq_none] at q
    obtain ⟨i, hi, e⟩ := List.getElem_of_mem h
    have h29 : i < 29 := hi
    have := q i (by simpa using h29)
    apply this
    simp only [decide_eq_true_eq]
    simp [List.getD, List.getElem?_eq_getElem hi, e]
theorem kn_iff {n : PySem.Str} : kn n ↔ n ∈ names := ⟨kn_names, mem_kn⟩
theorem row_kn {n : PySem.Str} (h : n ∈ names) : ∃ r ∈ tab, r.nm = n ∧ textOf n = r.text ∧ needs n = r.needs := by
  obtain ⟨i, hi⟩ := Option.isSome_iff_exists.mp (mem_kn h)
  obtain ⟨r, hr, e1, e2, e3⟩ := row_of_at hi
  exact ⟨r, List.mem_of_getElem? hr, e1, e2, e3⟩
theorem at_row {r : Rw} (h : r ∈ tab) : textOf r.nm = r.text ∧ needs r.nm = r.needs := by
  have hn : r.nm ∈ names := List.mem_map.mpr ⟨r, h, rfl⟩
  obtain ⟨r', h', e1, e2, e3⟩ := row_kn hn
  have : r' = r := by
    have hnd := facts.1
    unfold names at hnd
    have hp := List.pairwise_map.mp hnd
    obtain ⟨i, hi, ei⟩ := List.getElem_of_mem h
    obtain ⟨j, hj, ej⟩ := List.getElem_of_mem h'
    rcases Nat.lt_trichotomy i j with q | q | q
    · have := List.pairwise_iff_getElem.mp hp i j hi hj q
      rw [ei, ej] at this
      exact absurd e1.symm this
    · subst q
      rw [← ei, ← ej]
    · have := List.pairwise_iff_getElem.mp hp j i hj hi q
      rw [ei, ej] at this
      exact absurd e1 this
  subst this
  exact ⟨e2, e3⟩

theorem letGo_rangeiter {prog : Program} {w : World} {A : Around} {E : Value → Shared → Prop} {target : PySem.Expr} {I : Addr} {x left step : Int} {v : Value} {Q' : Unit → Shared → Prop} {s' : Shared} (hit : IsRangeIter s'.heap I x left step) (h : Q' () s') :
    wpAny (model prog w) A (letOwnedTupleGo target (.ref I) v) Q' E s' := by
  unfold letOwnedTupleGo
  cases target <;> first
    | exact wpAny_pure h
    | (cases v <;> first
        | exact wpAny_pure h
        | (refine wpAny_bind (wpAny_load hit ?_)
           exact wpAny_pure h))
section
variable {prog : Program} {w : World} {A : Around} {E : Value → Shared → Prop} {s : Shared} {env : Env} {h₀ : Heap} {L : Addr} {m : PySem.Str → Option Value} {news : List (Addr × Obj)}
theorem src_range {r : Addr} {n : Nat} {b : Int} {t u v : Tok} (hh : A.handled = none) (hr : IsRange s.heap r 0 b 1 t u v) (hsm : Builtin.Range.small 0 b 1 = true) (hn : Builtin.Range.rangeSize 0 b 1 = ((n : Nat) : Int)) : Src prog w A s n (fun i v => ∃ t, v = .int (i : Int) t) (.ref r) := by
  refine ⟨{ cls := .type "range_iterator", data := .fields #[rawInt 0, rawInt (Builtin.Range.rangeSize 0 b 1), rawInt 1] }, [s.heap.objs.size], fun i h => IsRangeIter h s.heap.objs.size (0 + (i : Nat) * 1) ((n : Int) - (i : Nat)) 1, ?_, ?_, ?_, ?_, ?_, ?_⟩
  · have W := LCg.range_walks (prog := prog) (w := w) (A := A) (I := s.heap.objs.size) hh 0 n
    refine { sub := W.sub, frame := W.frame, done := W.done, self := W.self, item := fun i s Q E hi st hQ => W.item i s Q E hi st fun v h' tk hP => hQ v h' tk ?_ }
    obtain ⟨t, rfl⟩ := hP
    exact ⟨t, by rw [Int.zero_add]⟩
  · show Heap.get? _ _ = some _
    rw [hn]
    simpa using Heap.get?_push_size _ rfl
  · intro b hb
    rw [List.mem_singleton.mp hb]; exact Nat.lt_succ_self _
  · rintro i h hS o' ho' ⟨ht, _⟩
    have hS' : h.get? _ = some _ := hS
    rw [hS'] at ho'; cases ho'
    exact absurd (Value.type.inj ht) (by decide)
  · intro target i s' v Q' hS hQ
    exact letGo_rangeiter hS hQ
  · intro Q E hQ
    exact wpAny_pyIter_range hr hsm hQ

theorem for_list {x : PySem.Str} {body : List Stmt} {a : Addr} {items : Array Value} {Q : Flow → Shared → Prop} (stored : List PySem.Str) (J : Nat → List (Addr × Obj) → Prop) (hh : A.handled = none) (F : Fr h₀ env.locals s.heap m) (N : News h₀ env.locals s.heap news) (hl : s.heap.IsList a items) (hL : a ≠ env.locals) (h0 : J 0 news)
    (turn : ∀ i v (u : PySem.Str → Option Value) news₁ own h tk, i < items.size → items[i]? = some v → J i news₁ → (∀ p ∈ news₁, p.1 ≠ s.heap.objs.size) → Fr h₀ env.locals h (fun y => if y = x then some v else if stored.contains y then u y else m y) → News h₀ env.locals h (own ++ news₁) →
      wpAny (model prog w) A (execs body env) (TurnQ h₀ env.locals s.heap.objs.size own (J (i + 1)) m x stored s Q) E { s with heap := h, toks := tk })
    (done : ∀ (u : PySem.Str → Option Value) news₁ h tk, J items.size news₁ → Fr h₀ env.locals h (fun y => if y = x then u y else if stored.contains y then u y else m y) → News h₀ env.locals h news₁ → Q .next { s with heap := h, toks := tk }) :
    wpAny (model prog w) A (pyIter (.ref a)) (fun it s₂ => LoopAtV prog w A h₀ env x body Q E it s₂) E s := by
  obtain ⟨o, ho, _⟩ := id hl
  have hlt := Heap.lt_size ho
  refine wpAny_pyIter_list hl ?_
  refine loopV stored J (Walks.list (prog := prog) (w := w) hh s.heap.objs.size a (Nat.ne_of_lt hlt) items) ?_ (next_is_new F) (fun p hp => Nat.ne_of_lt (Heap.lt_size (N p hp).1))
    ⟨⟨_, Heap.get?_push_size _ rfl, rfl, rfl⟩, hl.at fun o e => Heap.get?_push_of_some _ e⟩ (F.push _) (fun p hp => ⟨Heap.get?_push_of_some _ (N p hp).1, (N p hp).2⟩) h0 ?_ ?_
  · intro hm
    rcases List.mem_cons.mp hm with e | hm
    · exact absurd F.ns.lt (e ▸ Nat.lt_irrefl _)
    · exact hL (List.mem_singleton.mp hm).symm
  · intro i v u news₁ own h tk hi hP
    exact turn i v u news₁ own h tk hi hP
  · exact done
theorem for_range {x : PySem.Str} {body : List Stmt} {r : Addr} {n : Nat} {b : Int} {t u₀ v₀ : Tok} {Q : Flow → Shared → Prop} (stored : List PySem.Str) (J : Nat → List (Addr × Obj) → Prop) (hh : A.handled = none) (F : Fr h₀ env.locals s.heap m) (N : News h₀ env.locals s.heap news)
    (hr : IsRange s.heap r 0 b 1 t u₀ v₀) (hsm : Builtin.Range.small 0 b 1 = true) (hn : Builtin.Range.rangeSize 0 b 1 = ((n : Nat) : Int)) (h0 : J 0 news)
    (turn : ∀ i v (u : PySem.Str → Option Value) news₁ own h tk, i < n → (∃ t, v = .int (i : Int) t) → J i news₁ → (∀ p ∈ news₁, p.1 ≠ s.heap.objs.size) → Fr h₀ env.locals h (fun y => if y = x then some v else if stored.contains y then u y else m y) → News h₀ env.locals h (own ++ news₁) →
      wpAny (model prog w) A (execs body env) (TurnQ h₀ env.locals s.heap.objs.size own (J (i + 1)) m x stored s Q) E { s with heap := h, toks := tk })
    (done : ∀ (u : PySem.Str → Option Value) news₁ h tk, J n news₁ → Fr h₀ env.locals h (fun y => if y = x then u y else if stored.contains y then u y else m y) → News h₀ env.locals h news₁ → Q .next { s with heap := h, toks := tk }) :
    wpAny (model prog w) A (pyIter (.ref r)) (fun it s₂ => LoopAtV prog w A h₀ env x body Q E it s₂) E s := by
  refine wpAny_pyIter_range hr hsm ?_
  have W := LCg.range_walks (prog := prog) (w := w) (A := A) (I := s.heap.objs.size) hh 0 n
  refine loopV stored J W ?_ (next_is_new F) (fun p hp => Nat.ne_of_lt (Heap.lt_size (N p hp).1)) ?_ (F.push _) (fun p hp => ⟨Heap.get?_push_of_some _ (N p hp).1, (N p hp).2⟩) h0 ?_ ?_
  · intro hm
    exact absurd F.ns.lt ((List.mem_singleton.mp hm) ▸ Nat.lt_irrefl _)
  · show Heap.get? _ _ = some _
    rw [hn]
    simpa using Heap.get?_push_size _ rfl
  · intro i v u news₁ own h tk hi hP
    obtain ⟨t, rfl⟩ := hP
    exact turn i _ u news₁ own h tk hi ⟨t, by rw [Int.zero_add]⟩
  · exact done
end
theorem KvH.tup {h h' : Heap} (k : ∀ b o, h.get? b = some o → TupO o → h'.get? b = some o) : ∀ {vs : List Value} {ps : List (PySem.Str × Value)}, KvH h vs ps → KvH h' vs ps
  | _, _, .nil => .nil
  | _, _, .cons e r => .cons (k _ _ e ⟨rfl, _, _, rfl⟩) (r.tup k)
theorem KvH.snoc {h : Heap} {a : Addr} {k : PySem.Str} {t : Tok} {x : Value} {n : Nat} (e : h.get? a = some { cls := .type "tuple", data := .seq [Value.str k t, x].toArray n }) : ∀ {vs : List Value} {ps : List (PySem.Str × Value)}, KvH h vs ps → KvH h (vs ++ [.ref a]) (ps ++ [(k, x)])
  | _, _, .nil => .cons e .nil
  | _, _, .cons e' r => .cons e' (r.snoc e)
/-- tuples of a text and something -/
def KvN (h : Heap) (vs : List Value) (xs : List PySem.Str) : Prop := ∃ kvs, KvH h vs kvs ∧ kvs.map (·.1) = xs
theorem KvN.up {h h' : Heap} {vs : List Value} {xs : List PySem.Str} (k : ∀ b o, h.get? b = some o → h'.get? b = some o) : KvN h vs xs → KvN h' vs xs := fun ⟨kvs, a, b⟩ => ⟨kvs, a.up k, b⟩
theorem KvN.tup {h h' : Heap} {vs : List Value} {xs : List PySem.Str} (k : ∀ b o, h.get? b = some o → TupO o → h'.get? b = some o) : KvN h vs xs → KvN h' vs xs := fun ⟨kvs, a, b⟩ => ⟨kvs, a.tup k, b⟩
theorem KvN.nil {h : Heap} : KvN h [] [] := ⟨[], .nil, rfl⟩
theorem KvN.snoc {h : Heap} {a : Addr} {k : PySem.Str} {t : Tok} {x : Value} {n : Nat} {vs : List Value} {xs : List PySem.Str} (e : h.get? a = some { cls := .type "tuple", data := .seq [Value.str k t, x].toArray n }) : KvN h vs xs → KvN h (vs ++ [.ref a]) (xs ++ [k]) :=
  fun ⟨kvs, a, b⟩ => ⟨kvs ++ [(k, x)], a.snoc e, by simp [b]⟩
theorem KvH.app {h : Heap} : ∀ {vs ws : List Value} {ps qs : List (PySem.Str × Value)}, KvH h vs ps → KvH h ws qs → KvH h (vs ++ ws) (ps ++ qs)
  | _, _, _, _, .nil, q => q
  | _, _, _, _, .cons e r, q => .cons e (r.app q)
theorem KvN.app {h : Heap} {vs ws : List Value} {xs ys : List PySem.Str} : KvN h vs xs → KvN h ws ys → KvN h (vs ++ ws) (xs ++ ys) :=
  fun ⟨k1, a1, b1⟩ ⟨k2, a2, b2⟩ => ⟨k1 ++ k2, a1.app a2, by simp [b1, b2]⟩
theorem KvN.len {h : Heap} {vs : List Value} {xs : List PySem.Str} : KvN h vs xs → vs.length = xs.length := fun ⟨_, a, b⟩ => by rw [a.len_eq, ← b, List.length_map]
theorem ne_of_none {h : Heap} {a d : Addr} {o : Obj} (ho : h.get? a = some o) (hd : h.get? d = none) : @Ne Nat a d := fun e => by
  have e' : a = d := e
  rw [e', hd] at ho
  cases ho
theorem take_succ_get {xs : List PySem.Str} {i : Nat} {y : PySem.Str} (h : xs[i]? = some y) : xs.take (i + 1) = xs.take i ++ [y] := take_snoc h
/-- the keys of a merged table -/
theorem stored_keys {K : Type} [DecidableEq K] (acc : List (K × Value)) (k : K) (v : Value) (x : K) : x ∈ (stored acc k v).map (·.1) ↔ x ∈ acc.map (·.1) ∨ x = k := by
  unfold stored
  split
  · rename_i h
    rw [List.any_eq_true] at h
    obtain ⟨p, hp, e⟩ := h
    have hk : k ∈ acc.map (·.1) := List.mem_map.mpr ⟨p, hp, by simpa using e⟩
    rw [keys_map_store]
    constructor
    · exact .inl
    · rintro (h | rfl)
      · exact h
      · exact hk
  · rw [List.map_append, List.mem_append]
    simp
theorem merged_keys {K : Type} [DecidableEq K] (more : List (K × Value)) : ∀ (acc : List (K × Value)) (x : K), x ∈ (merged acc more).map (·.1) ↔ x ∈ acc.map (·.1) ∨ x ∈ more.map (·.1) := by
  induction more with
  | nil => intro acc x; simp [merged]
  | cons p r ih =>
    intro acc x
    show x ∈ (merged (stored acc p.1 p.2) r).map (·.1) ↔ _
    rw [ih, stored_keys, List.map_cons, List.mem_cons, or_assoc]
theorem merged_len (more : List (PySem.Str × Value)) : (merged [] more).length ≤ more.length := by
  have := merged_length_le ([] : List (PySem.Str × Value)) more
  simpa using this
theorem news_cons {h₀ h : Heap} {L : Addr} {q : Addr × Obj} {l l' : List (Addr × Obj)} (N : News h₀ L h l) (Nd : News h₀ L h (q :: l')) : News h₀ L h (q :: l) := fun p hp => by
  rcases List.mem_cons.mp hp with rfl | hp
  · exact Nd _ (.head _)
  · exact N p hp
section
variable {prog : Program} {w : World} {A : Around} {E : Value → Shared → Prop} {s : Shared} {env : Env} {h₀ : Heap} {L : Addr} {m : PySem.Str → Option Value} {news : List (Addr × Obj)}
/-- a block over a source that is walked: what each turn may count upon and must leave; `led`: what is to stand of the ledger -/
theorem comp_atT {Post : Value → Shared → Prop} {target elt : PySem.Expr} {ifs : List PySem.Expr} {scope : Scope} {cl : List (PySem.Str × Addr)} {oI : Obj} {fp : List Addr} {n : Nat} {P : Nat → Value → Prop} {St : Nat → Heap → Prop} (led : List (Addr × Obj)) (J : Nat → List Value → Heap → Prop)
    (F : Fr h₀ L s.heap m) (N : News h₀ L s.heap led)
    (W : Walks prog w A s.heap.objs.size fp [s.heap.objs.size] n P St) (hn : n ≤ sizeLine) (hst : St 0 (s.heap.push oI)) (hfp : ∀ b ∈ fp, b < s.heap.objs.size + 1)
    (hI : ∀ i h, St i h → ∀ o, h.get? s.heap.objs.size = some o → ¬ TupO o)
    (hgo : ∀ i (s' : Shared) v (Q' : Unit → Shared → Prop), St i s'.heap → Q' () s' → wpAny (model prog w) A (letOwnedTupleGo target (.ref s.heap.objs.size) v) Q' Nev s')
    (J0 : J 0 [] s.heap)
    (stab : ∀ i ys h h', J i ys h → (∀ b o, h.get? b = some o → (b < s.heap.objs.size ∨ TupO o) → h'.get? b = some o) → J i ys h')
    (step : ∀ C i v ys h tk mC own, i < n → P i v → J i ys h → Fr h₀ C h mC → News h₀ C h (led ++ own) → (∀ h' m' news', Fr h₀ C h' m' → News h₀ C h' news' → (∀ p ∈ own, p ∈ news') → ∀ b o, h.get? b = some o → TupO o → h'.get? b = some o) →
      wpAny (model prog w) A (assign target (compEnvC scope cl C env) v) (fun _ s₄ =>
        wpAny (model prog w) A (testsOf ifs (compEnvC scope cl C env)) (fun ok s₅ =>
          if ok = true then wpAny (model prog w) A (eval elt (compEnvC scope cl C env)) (fun y s₆ => CEnd h₀ C own (fun h' => (∀ p ∈ led, h'.get? p.1 = some p.2) ∧ J (i + 1) (ys ++ [y]) h') s s₆) Nev s₅
          else CEnd h₀ C own (fun h' => (∀ p ∈ led, h'.get? p.1 = some p.2) ∧ J (i + 1) ys h') s s₅) Nev s₄) Nev { s with heap := h, toks := tk })
    (done : ∀ D h' tk ys, Fr h₀ L h' m → News h₀ L h' led → J n ys h' → h'.IsList D ys.toArray → h'.PlainList D ys.toArray → s.heap.objs.size < D → Post (.ref D) { s with heap := h', toks := tk }) :
    CompAt prog w A env scope cl target ifs elt Post (.ref s.heap.objs.size) { s with heap := s.heap.push oI } := by
  obtain ⟨oL, es, ep, hoL, hLd, hLk, hLf⟩ := id F.ns
  have hL0 : h₀.get? L = none := Heap.get?_none_of_le F.above
  have hLs : L < s.heap.objs.size := Heap.lt_size hoL
  have hsz : (s.heap.push oI).objs.size = s.heap.objs.size + 1 := by rw [Heap.size_push]
  have ledlt : ∀ p ∈ led, p.1 < s.heap.objs.size := fun p hp => Heap.lt_size (N p hp).1
  have h0lt : ∀ b o, h₀.get? b = some o → b < s.heap.objs.size := fun b o e => Heap.lt_size (F.keep b o e)
  refine ⟨s.heap.objs.size, fp, [s.heap.objs.size], n, P, St, fun i ys h => (h.get? L = some oL ∧ (∀ b o, h₀.get? b = some o → h.get? b = some o) ∧ ∀ p ∈ led, h.get? p.1 = some p.2) ∧ J i ys h, rfl, W, hn, hst, ?_, ?_, ?_, ?_, ?_, ?_, ?_⟩
  · intro b hb
    dsimp only
    rw [hsz]; exact hfp b hb
  · refine ⟨⟨Heap.get?_push_of_some _ hoL, fun b o e => Heap.get?_push_of_some _ (F.keep b o e), fun p hp => Heap.get?_push_of_some _ (N p hp).1⟩, stab _ _ _ _ J0 fun b o e _ => Heap.get?_push_of_some _ e⟩
  · rintro i ys h h' ⟨⟨a1, a2, a3⟩, a4⟩ hk
    dsimp only at hk
    rw [hsz] at hk
    have hk' : ∀ b o, h.get? b = some o → b < s.heap.objs.size → h'.get? b = some o := fun b o e hb => hk b o e (.inl ⟨Nat.lt_succ_of_lt hb, by simpa using Nat.ne_of_lt hb⟩)
    refine ⟨⟨hk' _ _ a1 hLs, fun b o e => hk' _ _ (a2 b o e) (h0lt b o e), fun p hp => hk' _ _ (a3 p hp) (ledlt p hp)⟩, stab _ _ _ _ a4 fun b o e q => ?_⟩
    rcases q with q | q
    · exact hk' b o e q
    · exact hk b o e (.inr q)
  · intro i h hS b hb o ho
    rw [List.mem_singleton.mp hb] at ho
    exact hI i h hS o ho
  · intro i s' v Q' hS hQ
    exact hgo i s' v Q' hS hQ
  · rintro C i v ys h tk mC hi hP ⟨⟨a1, a2, a3⟩, a4⟩ hC hNs
    dsimp only at hC
    rw [hsz] at hC
    have FC : Fr h₀ C h mC := ⟨hNs, a2, Nat.le_of_lt (Nat.lt_of_le_of_lt F.above (Nat.lt_trans hLs hC))⟩
    have NC : News h₀ C h (led ++ restOf h₀ h C) := fun p hp => by
      rcases List.mem_append.mp hp with hp | hp
      · exact ⟨a3 p hp, Nat.ne_of_lt (Nat.lt_trans (ledlt p hp) hC), (N p hp).2.2⟩
      · obtain ⟨b1, b2, b3⟩ := mem_restOf (b := p.1) (o := p.2) |>.mp hp
        exact ⟨b1, b2, b3⟩
    have fin : ∀ ys' s', CEnd h₀ C (restOf h₀ h C) (fun h' => (∀ p ∈ led, h'.get? p.1 = some p.2) ∧ J (i + 1) ys' h') s s' → CompEnd { s with heap := s.heap.push oI } h C fp (fun h' => (h'.get? L = some oL ∧ (∀ b o, h₀.get? b = some o → h'.get? b = some o) ∧ ∀ p ∈ led, h'.get? p.1 = some p.2) ∧ J (i + 1) ys' h') s' := by
      rintro ys' s' ⟨h', tk', m', news', rfl, F', N', hsub, hled, hJ⟩
      have keep : ∀ b o, h.get? b = some o → b ≠ C → h'.get? b = some o := fun b o e hb => by
        cases q : h₀.get? b with
        | some x =>
          have h1 := a2 b x q
          rw [e] at h1
          cases h1
          exact F'.keep b _ q
        | none => exact (N' _ (hsub _ (mem_restOf.mpr ⟨e, hb, q⟩))).1
      exact ⟨h', tk', m', rfl, F'.ns, ⟨⟨keep _ _ a1 (Nat.ne_of_lt (Nat.lt_trans hLs hC)), F'.keep, hled⟩, hJ⟩, fun b o e hb _ => keep b o e hb⟩
    refine nev (step C i v ys h tk mC _ hi hP a4 FC NC fun h' m' news' F' N' hsub b o e ht => by
      have hb : b ≠ C := fun q => by
        obtain ⟨oC, _, _, hoC, hdC, _⟩ := hNs
        obtain ⟨_, xs, n', hx⟩ := ht
        rw [q, hoC] at e
        cases e
        rw [hdC] at hx
        cases hx
      cases q : h₀.get? b with
      | some x =>
        have h1 := a2 b x q
        rw [e] at h1
        cases h1
        exact F'.keep b _ q
      | none => exact (N' _ (hsub _ (mem_restOf.mpr ⟨e, hb, q⟩))).1) fun _ s₄ h₄ => nev h₄ fun ok s₅ h₅ => ?_
    cases ok with
    | true =>
      simp only [if_true] at h₅ ⊢
      exact nev h₅ fun y s₆ h₆ => fin _ _ h₆
    | false =>
      simp only [Bool.false_eq_true, if_false] at h₅ ⊢
      exact fin _ _ h₅
  · rintro D h' tk ys ⟨⟨a1, a2, a3⟩, a4⟩ hl hp hD
    dsimp only at hD
    rw [hsz] at hD
    exact done D h' tk ys ⟨⟨oL, es, ep, a1, hLd, hLk, hLf⟩, a2, F.above⟩ (fun p hp => ⟨a3 p hp, (N p hp).2⟩) a4 hl hp hD

theorem comp_srcT {target elt : PySem.Expr} {ifs : List PySem.Expr} {scope : Scope} {cl : List (PySem.Str × Addr)} {n : Nat} {P : Nat → Value → Prop} {v : Value} {Q : Value → Shared → Prop} (S : Src prog w A s n P v) (led : List (Addr × Obj)) (J : Nat → List Value → Heap → Prop)
    (F : Fr h₀ L s.heap m) (N : News h₀ L s.heap led) (hn : n ≤ sizeLine)
    (J0 : J 0 [] s.heap)
    (stab : ∀ i ys h h', J i ys h → (∀ b o, h.get? b = some o → (b < s.heap.objs.size ∨ TupO o) → h'.get? b = some o) → J i ys h')
    (step : ∀ C i v ys h tk mC own, i < n → P i v → J i ys h → Fr h₀ C h mC → News h₀ C h (led ++ own) → (∀ h' m' news', Fr h₀ C h' m' → News h₀ C h' news' → (∀ p ∈ own, p ∈ news') → ∀ b o, h.get? b = some o → TupO o → h'.get? b = some o) →
      wpAny (model prog w) A (assign target (compEnvC scope cl C env) v) (fun _ s₄ =>
        wpAny (model prog w) A (testsOf ifs (compEnvC scope cl C env)) (fun ok s₅ =>
          if ok = true then wpAny (model prog w) A (eval elt (compEnvC scope cl C env)) (fun y s₆ => CEnd h₀ C own (fun h' => (∀ p ∈ led, h'.get? p.1 = some p.2) ∧ J (i + 1) (ys ++ [y]) h') s s₆) Nev s₅
          else CEnd h₀ C own (fun h' => (∀ p ∈ led, h'.get? p.1 = some p.2) ∧ J (i + 1) ys h') s s₅) Nev s₄) Nev { s with heap := h, toks := tk })
    (done : ∀ D h' tk ys c, Fr h₀ L h' m → News h₀ L h' ((D, PySem.W.listOf (List.toArray ys) c) :: led) → (∀ p ∈ led, p.1 < D) → J n ys h' → Q (.ref D) { s with heap := h', toks := tk }) :
    wpAny (model prog w) A (pyIter v) (fun it s₂ => CompAt prog w A env scope cl target ifs elt (PostV Q s₂) it s₂) E s := by
  obtain ⟨oI, fp, St, W, hst, hfp, hI, hgo, hit⟩ := S
  refine hit _ _ ?_
  refine comp_atT led J F N W hn hst hfp hI (hgo target) J0 stab step fun D h' tk ys F' N' hJ hl hp hD => ?_
  exact postV (J := J n) (by rw [Heap.size_push]) F N F' N' hJ (stab n) hp hD fun h'' c F'' N'' l1 hJ' => done D h'' tk ys c F'' N'' l1 hJ'

end

section
variable {prog : Program} {w : World} {A : Around} {E : Value → Shared → Prop} {s : Shared} {env : Env} {h₀ : Heap} {x : PySem.Str} {body : List Stmt} {Q : Flow → Shared → Prop} {m : PySem.Str → Option Value} {news : List (Addr × Obj)}
theorem loopVo {I : Addr} {fp : List Addr} {n : Nat} {P : Nat → Value → Prop} {St : Nat → Heap → Prop} (stored : List PySem.Str) (J : Nat → List (Addr × Obj) → Prop)
    (W : Walks prog w A I fp [I] n P St) (hLf : env.locals ∉ fp) (hI : h₀.get? I = none) (hnw : ∀ p ∈ news, p.1 ≠ I) (hst : St 0 s.heap) (F : Fr h₀ env.locals s.heap m) (N : News h₀ env.locals s.heap news) (h0 : J 0 news)
    (turn : ∀ i v (u : PySem.Str → Option Value) news₁ own h tk, i < n → P i v → J i news₁ → (∀ p ∈ news₁, p.1 ≠ I) → (∀ p ∈ own, p.1 ∈ fp) → Fr h₀ env.locals h (fun y => if y = x then some v else if stored.contains y then u y else m y) → News h₀ env.locals h (own ++ news₁) →
      wpAny (model prog w) A (execs body env) (TurnQ h₀ env.locals I own (J (i + 1)) m x stored s Q) E { s with heap := h, toks := tk })
    (done : ∀ (u : PySem.Str → Option Value) news₁ h tk, J n news₁ → Fr h₀ env.locals h (fun y => if y = x then u y else if stored.contains y then u y else m y) → News h₀ env.locals h news₁ → Q .next { s with heap := h, toks := tk }) :
    LoopAtV prog w A h₀ env x body Q E (.ref I) s := by
  have fixm : ∀ m₁ : PySem.Str → Option Value, (∀ y, y ≠ x → stored.contains y = false → m₁ y = m y) → ∀ v, (fun y => if y = x then v else m₁ y) = fun y => if y = x then v else if stored.contains y then m₁ y else m y := fun m₁ hm v => by
    funext y
    by_cases hy : y = x
    · simp [hy]
    · simp only [if_neg hy]
      cases h2 : stored.contains y with
      | true => simp
      | false => simp only [Bool.false_eq_true, if_false]; exact hm y hy h2
  refine ⟨I, fp, [I], n, P, St, m, news, (fun i m₁ nx => J i nx ∧ ∀ y, y ≠ x → stored.contains y = false → m₁ y = m y), rfl, W, hLf, ?_, ?_, hst, F, N, ⟨h0, fun _ _ _ => rfl⟩, ?_, ?_⟩
  · intro b hb; rw [List.mem_singleton.mp hb]; exact hI
  · intro p hp hb; exact hnw p hp (List.mem_singleton.mp hb)
  · rintro i v m₁ news₁ s₁ own ⟨h, tk, rfl⟩ hi hP ⟨hJ, hm⟩ hoff hown _ _ _ F₁ N₁
    rw [fixm m₁ hm (some v)] at F₁
    refine wpAny_mono (turn i v m₁ news₁ own h tk hi hP hJ (fun p hp e => hoff p hp (List.mem_singleton.mpr e)) hown F₁ N₁) (fun f s₂ q => ?_) fun _ _ e => e
    have fin : (∃ h' tk m' news', s₂ = { s with heap := h', toks := tk } ∧ Fr h₀ env.locals h' m' ∧ News h₀ env.locals h' (own ++ news') ∧ (∀ p ∈ news', p.1 ≠ I) ∧ (∀ y, y ≠ x → stored.contains y = false → m' y = m y) ∧ J (i + 1) news') → LoopStepU h₀ env.locals [I] own (fun m₁ nx => J (i + 1) nx ∧ ∀ y, y ≠ x → stored.contains y = false → m₁ y = m y) { s with heap := h, toks := tk } .next s₂ := by
      rintro ⟨h', tk', m', news', rfl, F', N', hn', hm', hJ'⟩
      exact ⟨rfl, h', tk', m', news', rfl, F', N', fun p hp hb => hn' p hp (List.mem_singleton.mp hb), hJ', hm'⟩
    cases f with
    | ret v => exact .ret q
    | brk => exact .brk q
    | next => exact .next (fin q)
    | cont => exact .cont (fin q)
  · rintro h' tk m' news' F' N' _ ⟨hJ, hm⟩
    refine done m' news' h' tk hJ ?_ N'
    have e2 : (fun y => if y = x then m' y else if stored.contains y then m' y else m y) = m' := by
      funext y
      by_cases hy : y = x
      · simp [hy]
      · simp only [if_neg hy]
        cases h2 : stored.contains y with
        | true => simp
        | false => simp only [Bool.false_eq_true, if_false]; exact (hm y hy h2).symm
    rw [e2]; exact F'

end
section
variable {prog : Program} {w : World} {A : Around} {E : Value → Shared → Prop} {s : Shared} {env : Env} {h₀ : Heap} {m : PySem.Str → Option Value} {news : List (Addr × Obj)}
theorem for_rangeo {x : PySem.Str} {body : List Stmt} {r : Addr} {n : Nat} {b : Int} {t u₀ v₀ : Tok} {Q : Flow → Shared → Prop} (stored : List PySem.Str) (J : Nat → List (Addr × Obj) → Prop) (hh : A.handled = none) (F : Fr h₀ env.locals s.heap m) (N : News h₀ env.locals s.heap news)
    (hr : IsRange s.heap r 0 b 1 t u₀ v₀) (hsm : Builtin.Range.small 0 b 1 = true) (hn : Builtin.Range.rangeSize 0 b 1 = ((n : Nat) : Int)) (h0 : J 0 news)
    (turn : ∀ i v (u : PySem.Str → Option Value) news₁ own h tk, i < n → (∃ t, v = .int (i : Int) t) → J i news₁ → (∀ p ∈ news₁, p.1 ≠ s.heap.objs.size) → (∀ p ∈ own, p.1 = s.heap.objs.size) → Fr h₀ env.locals h (fun y => if y = x then some v else if stored.contains y then u y else m y) → News h₀ env.locals h (own ++ news₁) →
      wpAny (model prog w) A (execs body env) (TurnQ h₀ env.locals s.heap.objs.size own (J (i + 1)) m x stored s Q) E { s with heap := h, toks := tk })
    (done : ∀ (u : PySem.Str → Option Value) news₁ h tk, J n news₁ → Fr h₀ env.locals h (fun y => if y = x then u y else if stored.contains y then u y else m y) → News h₀ env.locals h news₁ → Q .next { s with heap := h, toks := tk }) :
    wpAny (model prog w) A (pyIter (.ref r)) (fun it s₂ => LoopAtV prog w A h₀ env x body Q E it s₂) E s := by
  refine wpAny_pyIter_range hr hsm ?_
  have W := LCg.range_walks (prog := prog) (w := w) (A := A) (I := s.heap.objs.size) hh 0 n
  refine loopVo stored J W ?_ (next_is_new F) (fun p hp => Nat.ne_of_lt (Heap.lt_size (N p hp).1)) ?_ (F.push _) (fun p hp => ⟨Heap.get?_push_of_some _ (N p hp).1, (N p hp).2⟩) h0 ?_ ?_
  · intro hm
    exact absurd F.ns.lt ((List.mem_singleton.mp hm) ▸ Nat.lt_irrefl _)
  · show Heap.get? _ _ = some _
    rw [hn]
    simpa using Heap.get?_push_size _ rfl
  · intro i v u news₁ own h tk hi hP hJ hn hown
    obtain ⟨t, rfl⟩ := hP
    exact turn i _ u news₁ own h tk hi ⟨t, by rw [Int.zero_add]⟩ hJ hn fun p hp => List.mem_singleton.mp (hown p hp)
  · exact done
end
section
variable {prog : Program} {w : World} {A : Around} {E : Value → Shared → Prop} {s : Shared} {env : Env} {h₀ : Heap} {L : Addr} {m : PySem.Str → Option Value}
/-- a block over a range; its turns may change what `led` does not hold; its end is stored -/
theorem comp_rangeA {Q : Flow → Shared → Prop} {y : PySem.Str} {target elt : PySem.Expr} {scope : Scope} {cl : List (PySem.Str × Addr)} {r : Addr} {n : Nat} {b : Int} {t u v : Tok} (led : List (Addr × Obj)) (J : Nat → List Value → Heap → Prop)
    (hh : A.handled = none) (hr : IsRange s.heap r 0 b 1 t u v) (hsm : Builtin.Range.small 0 b 1 = true) (hnb : Builtin.Range.rangeSize 0 b 1 = ((n : Nat) : Int)) (hn : n ≤ sizeLine) (hLe : env.locals = L)
    (F : Fr h₀ L s.heap m) (N : News h₀ L s.heap led)
    (J0 : J 0 [] s.heap)
    (stab : ∀ i ys h h', J i ys h → (∀ b o, h.get? b = some o → b ≠ L → (b < s.heap.objs.size ∨ TupO o) → h'.get? b = some o) → J i ys h')
    (step : ∀ C i v ys h tk mC own, i < n → (∃ t, v = .int (i : Int) t) → J i ys h → Fr h₀ C h mC → News h₀ C h (led ++ own) → (∀ p ∈ own, ∀ c, c < s.heap.objs.size → c ≠ L → p.1 ≠ c) → (∀ c, c < s.heap.objs.size → C ≠ c) →
      wpAny (model prog w) A (assign target (compEnvC scope cl C env) v) (fun _ s₄ =>
        wpAny (model prog w) A (eval elt (compEnvC scope cl C env)) (fun y s₆ => CEnd h₀ C own (fun h' => (∀ p ∈ led, h'.get? p.1 = some p.2) ∧ J (i + 1) (ys ++ [y]) h') s s₆) Nev s₄) Nev { s with heap := h, toks := tk })
    (done : ∀ D h' tk ys c, Fr h₀ L h' (fun z => if z = y then some (.ref D) else m z) → News h₀ L h' ((D, PySem.W.listOf (List.toArray ys) c) :: led) → (∀ p ∈ led, p.1 < D) → s.heap.objs.size < D → J n ys h' → Q .next { s with heap := h', toks := tk }) :
    wpAny (model prog w) A (pyIter (.ref r)) (fun it s₂ => CompAt prog w A env scope cl target [] elt (fun v s' => env.locals < s₂.heap.objs.size ∧ ∃ m, s'.heap.Ns env.locals m ∧ ∀ h', (∀ b o, s'.heap.get? b = some o → b ≠ env.locals → (b < s₂.heap.objs.size ∨ TupO o) → h'.get? b = some o) → (∀ D ys, v = .ref D → s'.heap.PlainList D ys → h'.PlainList D ys) →
        h'.Ns env.locals (fun z => if z = y then some v else m z) → Q .next { s' with heap := h', toks := s'.toks + 1 }) it s₂) E s := by
  subst hLe
  refine wpAny_pyIter_range hr hsm ?_
  obtain ⟨oL, es, ep, hoL, hLd, hLk, hLf⟩ := id F.ns
  have hLs : env.locals < s.heap.objs.size := Heap.lt_size hoL
  have W := LCg.range_walks (prog := prog) (w := w) (A := A) (I := s.heap.objs.size) hh 0 n
  generalize hoI : ({ cls := .type "range_iterator", data := .fields #[rawInt 0, rawInt (Builtin.Range.rangeSize 0 b 1), rawInt 1] } : Obj) = oI
  have hsz : (s.heap.push oI).objs.size = s.heap.objs.size + 1 := by rw [Heap.size_push]
  have ledlt : ∀ p ∈ led, p.1 < s.heap.objs.size := fun p hp => Heap.lt_size (N p hp).1
  have h0lt : ∀ b o, h₀.get? b = some o → b < s.heap.objs.size := fun b o e => Heap.lt_size (F.keep b o e)
  have stab' : ∀ i ys h h', J i ys h → (∀ b o, h.get? b = some o → (b < s.heap.objs.size ∨ TupO o) → h'.get? b = some o) → J i ys h' := fun i ys h h' hJ k => stab i ys h h' hJ fun b o e _ q => k b o e q
  refine ⟨s.heap.objs.size, [s.heap.objs.size], [s.heap.objs.size], n, _, _, fun i ys h => (h.get? env.locals = some oL ∧ (∀ b o, h₀.get? b = some o → h.get? b = some o) ∧ ∀ p ∈ led, h.get? p.1 = some p.2) ∧ J i ys h, rfl, W, hn, ?_, ?_, ?_, ?_, ?_, ?_, ?_, ?_⟩
  · show Heap.get? _ _ = some _
    rw [← hoI, hnb]
    simpa using Heap.get?_push_size _ rfl
  · intro b hb
    dsimp only
    rw [hsz, List.mem_singleton.mp hb]; exact Nat.lt_succ_self _
  · refine ⟨⟨Heap.get?_push_of_some _ hoL, fun b o e => Heap.get?_push_of_some _ (F.keep b o e), fun p hp => Heap.get?_push_of_some _ (N p hp).1⟩, stab' _ _ _ _ J0 fun b o e _ => Heap.get?_push_of_some _ e⟩
  · rintro i ys h h' ⟨⟨a1, a2, a3⟩, a4⟩ hk
    dsimp only at hk
    rw [hsz] at hk
    have hk' : ∀ b o, h.get? b = some o → b < s.heap.objs.size → h'.get? b = some o := fun b o e hb => hk b o e (.inl ⟨Nat.lt_succ_of_lt hb, by simpa using Nat.ne_of_lt hb⟩)
    refine ⟨⟨hk' _ _ a1 hLs, fun b o e => hk' _ _ (a2 b o e) (h0lt b o e), fun p hp => hk' _ _ (a3 p hp) (ledlt p hp)⟩, stab' _ _ _ _ a4 fun b o e q => ?_⟩
    rcases q with q | q
    · exact hk' b o e q
    · exact hk b o e (.inr q)
  · intro i h hS b hb o ho
    rw [List.mem_singleton.mp hb] at ho
    have hS' : h.get? _ = some _ := hS
    rw [hS'] at ho; cases ho
    rintro ⟨ht, _⟩
    exact absurd (Value.type.inj ht) (by decide)
  · intro i s' v Q' hS hQ
    exact letGo_rangeiter hS hQ
  · rintro C i v ys h tk mC hi hP ⟨⟨a1, a2, a3⟩, a4⟩ hC hNs
    dsimp only at hC
    rw [hsz] at hC
    have FC : Fr h₀ C h mC := ⟨hNs, a2, Nat.le_of_lt (Nat.lt_of_le_of_lt F.above (Nat.lt_trans hLs hC))⟩
    let own := (env.locals, oL) :: (restOf h₀ h C).filter fun p => decide (s.heap.objs.size ≤ p.1)
    have hown : ∀ p ∈ own, p = (env.locals, oL) ∨ (p ∈ restOf h₀ h C ∧ s.heap.objs.size ≤ p.1) := fun p hp => by
      rcases List.mem_cons.mp hp with e | hp
      · exact .inl e
      · have := List.mem_filter.mp hp
        exact .inr ⟨this.1, of_decide_eq_true this.2⟩
    have NC : News h₀ C h (led ++ own) := fun p hp => by
      rcases List.mem_append.mp hp with hp | hp
      · exact ⟨a3 p hp, Nat.ne_of_lt (Nat.lt_trans (ledlt p hp) hC), (N p hp).2.2⟩
      · rcases hown p hp with rfl | ⟨hp, _⟩
        · exact ⟨a1, Nat.ne_of_lt (Nat.lt_trans hLs hC), Heap.get?_none_of_le F.above⟩
        · obtain ⟨b1, b2, b3⟩ := mem_restOf (b := p.1) (o := p.2) |>.mp hp
          exact ⟨b1, b2, b3⟩
    have fin : ∀ ys' s', CEnd h₀ C own (fun h' => (∀ p ∈ led, h'.get? p.1 = some p.2) ∧ J (i + 1) ys' h') s s' → CompEnd { s with heap := s.heap.push oI } h C [s.heap.objs.size] (fun h' => (h'.get? env.locals = some oL ∧ (∀ b o, h₀.get? b = some o → h'.get? b = some o) ∧ ∀ p ∈ led, h'.get? p.1 = some p.2) ∧ J (i + 1) ys' h') s' := by
      rintro ys' s' ⟨h', tk', m', news', rfl, F', N', hsub, hled, hJ⟩
      have keep : ∀ b o, h.get? b = some o → b ≠ C → s.heap.objs.size ≤ b → h'.get? b = some o := fun b o e hb hle => by
        cases q : h₀.get? b with
        | some x =>
          have h1 := a2 b x q
          rw [e] at h1
          cases h1
          exact F'.keep b _ q
        | none => exact (N' _ (hsub _ (List.mem_cons_of_mem _ (List.mem_filter.mpr ⟨mem_restOf.mpr ⟨e, hb, q⟩, decide_eq_true hle⟩)))).1
      refine ⟨h', tk', m', rfl, F'.ns, ⟨⟨(N' _ (hsub _ (List.mem_cons_self ..))).1, F'.keep, hled⟩, hJ⟩, fun b o e hb q => keep b o e hb ?_⟩
      rcases q with q | q
      · dsimp only at q
        rw [hsz] at q
        exact Nat.le_of_succ_le q
      · rw [List.mem_singleton.mp q]; exact Nat.le_refl _
    refine nev (step C i v ys h tk mC own hi (by obtain ⟨t, rfl⟩ := hP; exact ⟨t, by rw [Int.zero_add]⟩) a4 FC NC (fun p hp c hc hcL => ?_) fun c hc => Nat.ne_of_gt (Nat.lt_trans hc hC)) fun _ s₄ h₄ => tests_nil ?_
    · rcases hown p hp with rfl | ⟨_, hle⟩
      · exact fun e => hcL e.symm
      · exact Nat.ne_of_gt (Nat.lt_of_lt_of_le hc hle)
    · simp only [if_true]
      exact nev h₄ fun y s₆ h₆ => fin _ _ h₆
  · rintro D h' tk ys ⟨⟨a1, a2, a3⟩, a4⟩ hl hp hD
    dsimp only at hD ⊢
    rw [hsz] at hD ⊢
    refine ⟨Nat.lt_succ_of_lt hLs, m, ⟨oL, es, ep, a1, hLd, hLk, hLf⟩, fun h'' hk hpl hNs => ?_⟩
    have hLD : env.locals ≠ D := Nat.ne_of_lt (Nat.lt_trans hLs hD)
    have hk' : ∀ b o, h'.get? b = some o → b ≠ env.locals → b < s.heap.objs.size → h''.get? b = some o := fun b o e hb hlt => hk b o e hb (.inl (Nat.lt_succ_of_lt hlt))
    obtain ⟨c, hq⟩ := hpl D _ rfl hp
    have hL0 : h₀.get? env.locals = none := Heap.get?_none_of_le F.above
    refine done D h'' _ ys c ⟨hNs, fun b o e => hk' b o (a2 b o e) (fun q => by rw [q, hL0] at e; cases e) (h0lt b o e), F.above⟩ (fun p hp' => ?_) (fun p hp' => Nat.lt_trans (ledlt p hp') hD) hD (stab _ _ _ _ a4 fun b o e hb q => ?_)
    · rcases List.mem_cons.mp hp' with rfl | hp'
      · exact ⟨hq, fun e => hLD e.symm, Heap.get?_none_of_le (Nat.le_trans F.above (Nat.le_of_lt (Nat.lt_trans hLs hD)))⟩
      · exact ⟨hk' _ _ (a3 p hp') (N p hp').2.1 (ledlt p hp'), (N p hp').2⟩
    · rcases q with q | q
      · exact hk' b o e hb q
      · exact hk b o e hb (.inr q)
end
/-- behind a draw -/
theorem draw_fn {h₀ h h' : Heap} {L a : Addr} {m : PySem.Str → Option Value} {oa o' : Obj} {rest : List (Addr × Obj)} (F : Fr h₀ L h m) (N : News h₀ L h rest) (ha : h.get? a = some oa) (ha0 : h₀.get? a = none) (haL : L ≠ a) (hr : ∀ p ∈ rest, p.1 ≠ a)
    (hk : ∀ x o, h.get? x = some o → x ≠ a → h'.get? x = some o) (ha' : h'.get? a = some o') : Fr h₀ L h' m ∧ News h₀ L h' rest ∧ News h₀ L h' ((a, o') :: rest) := by
  have N' : News h₀ L h' rest := fun p hp => ⟨hk _ _ (N p hp).1 (hr p hp), (N p hp).2⟩
  refine ⟨⟨F.ns.at' fun o e => hk L o e haL, fun b o e => hk b o (F.keep b o e) (fun q => by rw [q, ha0] at e; cases e), F.above⟩, N', fun p hp => ?_⟩
  rcases List.mem_cons.mp hp with rfl | hp
  · exact ⟨ha', Ne.symm haL, ha0⟩
  · exact N' p hp
theorem range7 {r : Int} (h0 : 0 ≤ r) (h7 : r < 7) : Builtin.Range.small 0 r 1 = true ∧ Builtin.Range.rangeSize 0 r 1 = ((r.toNat : Nat) : Int) := by
  have : r = 0 ∨ r = 1 ∨ r = 2 ∨ r = 3 ∨ r = 4 ∨ r = 5 ∨ r = 6 := by omega
  rcases this with rfl | rfl | rfl | rfl | rfl | rfl | rfl <;> exact ⟨by decide +kernel, by decide +kernel⟩
/-- behind the drawing of a lot -/
def AskP (h₀ : Heap) (L : Addr) (m : PySem.Str → Option Value) (led : List (Addr × Obj)) (d b : Addr) (k : Int) (st : Shared) (f : Flow) (s' : Shared) : Prop :=
  f = .next ∧ ∃ (h' : Heap) (tk : Nat) (D : Addr) (ys : List Value) (xs : List PySem.Str) (c : Nat) (k' : Int) (t' : Tok) (n' : Nat), s' = { heap := h', gens := st.gens, drawn := st.drawn, toks := tk, os := st.os } ∧
    Fr h₀ L h' (fun z => if z = "asked" then some (.ref D) else m z) ∧ News h₀ L h' ((D, PySem.W.listOf (List.toArray ys) c) :: led) ∧ (∀ p ∈ led, p.1 < D) ∧ h'.get? d = some (PySem.W.listOf #[.ref b, .int k' t'] n') ∧ d < D ∧ 0 ≤ k' ∧ k' ≤ k + 8 ∧ StrsAre ys xs ∧ xs.length ≤ 7
/-- tuples that stand in the base or on a ledger -/
theorem kv_led {h₀ h : Heap} {L : Addr} {m : PySem.Str → Option Value} (F : Fr h₀ L h m) {us : List Value} {xs : List PySem.Str} (H : KvN h us xs) :
    ∃ tl, News h₀ L h tl ∧ (∀ p ∈ tl, ∃ xs n, p.2.data = .seq xs n) ∧ ∀ h' : Heap, (∀ b o, h₀.get? b = some o → h'.get? b = some o) → (∀ p ∈ tl, h'.get? p.1 = some p.2) → KvN h' us xs := by
  obtain ⟨kvs, hk, rfl⟩ := H
  suffices ∃ tl, News h₀ L h tl ∧ (∀ p ∈ tl, ∃ xs n, p.2.data = .seq xs n) ∧ ∀ h' : Heap, (∀ b o, h₀.get? b = some o → h'.get? b = some o) → (∀ p ∈ tl, h'.get? p.1 = some p.2) → KvH h' us kvs by
    obtain ⟨tl, a, b, c⟩ := this
    exact ⟨tl, a, b, fun h' h1 h2 => ⟨kvs, c h' h1 h2, rfl⟩⟩
  induction hk with
  | nil => exact ⟨[], News.nil, fun _ h => (nomatch h), fun _ _ _ => .nil⟩
  | @cons a k t x vs ps n e r ih =>
    obtain ⟨tl, N, hs, kk⟩ := ih
    cases q : h₀.get? a with
    | some o =>
      have : o = { cls := .type "tuple", data := .seq [Value.str k t, x].toArray n } := by
        have := F.keep _ _ q
        rw [e] at this
        exact (Option.some.inj this).symm
      subst this
      exact ⟨tl, N, hs, fun h' h1 h2 => .cons (h1 _ _ q) (kk h' h1 h2)⟩
    | none =>
      refine ⟨(a, { cls := .type "tuple", data := .seq [Value.str k t, x].toArray n }) :: tl, fun z hz => ?_, fun z hz => ?_, fun h' h1 h2 => .cons (h2 (a, _) (.head _)) (kk h' h1 fun p hp => h2 p (.tail _ hp))⟩
      · rcases List.mem_cons.mp hz with rfl | hz
        · refine ⟨e, fun eL => ?_, q⟩
          obtain ⟨oL, es, ep, hoL, hd, _⟩ := F.ns
          dsimp only at eL
          rw [← eL, e] at hoL
          cases hoL
          cases hd
        · exact N z hz
      · rcases List.mem_cons.mp hz with rfl | hz
        · exact ⟨_, _, rfl⟩
        · exact hs z hz
theorem tl_ne {h₀ h : Heap} {L c : Addr} {o : Obj} {tl : List (Addr × Obj)} (N : News h₀ L h tl) (hs : ∀ p ∈ tl, ∃ xs n, p.2.data = .seq xs n) (ho : h.get? c = some o) (hc : ∀ xs n, o.data ≠ .seq xs n) : ∀ p ∈ tl, p.1 ≠ c := fun p hp e => by
  have h1 := (N p hp).1
  rw [e, ho] at h1
  obtain ⟨xs, n, hx⟩ := hs p hp
  rw [← Option.some.inj h1] at hx
  exact hc xs n hx
theorem news_app {h₀ h : Heap} {L : Addr} {l l' : List (Addr × Obj)} (N : News h₀ L h l) (N' : News h₀ L h l') : News h₀ L h (l ++ l') := fun p hp => (List.mem_append.mp hp).elim (N p) (N' p)
theorem cl_nil {nd : PySem.Str → List PySem.Str} {K : PySem.Str → Prop} {x : PySem.Str} (h : Cl nd K [] x) : False := by
  induction h with
  | base ha _ => cases ha
  | step _ _ _ ih => exact ih

theorem pct_slice (y : PySem.Str) : (Txt.slice y none (some 1) == Str.ofString "%") = pct (strL y) := by
  have e37 : Str.ofString "%" = ⟨#[37]⟩ := by decide +kernel
  rw [e37]
  cases hy : strL y with
  | nil =>
    have : y = ⟨#[]⟩ := strL_inj (by rw [hy]; rfl)
    subst this
    decide +kernel
  | cons c r =>
    have hy' : y.cps.toList = c :: r := hy
    have hl : (1 : Int) ≤ y.length := by
      have : y.cps.size = (c :: r).length := by rw [← hy', Array.length_toList]
      show (1 : Int) ≤ (y.cps.size : Int)
      rw [this]
      simp
      omega
    have := eq_of_beq (slice_closes_toL (x := y) (j := 1) (by decide) hl)
    rw [this, hy']
    show ((⟨[c].toArray⟩ : PySem.Str) == ⟨#[37]⟩) = Nat.beq c 37
    rw [Bool.eq_iff_iff, beq_iff_eq]
    constructor
    · intro h
      have h1 : [c].toArray = #[37] := congrArg Str.cps h
      have h2 : [c] = [37] := congrArg Array.toList h1
      cases h2
      rfl
    · intro h
      rw [Nat.eq_of_beq_eq_true h]
theorem all_len : ∀ y ∈ allNames, y.length ≤ 100 := by
  have key : ∃ P T, StrsD (primNames ++ ctlNames) P ∧ TabIs tab T ∧ (P ++ T.map (·.nm)).all (fun l => Nat.ble l.length 100) = true := by
    apply Exists.intro
    apply Exists.intro
    apply And.intro
    focus repeat' first | exact StrsD.nil | exact dec_lit rfl rfl | apply StrsD.cons
    apply And.intro
    focus repeat' first | exact TabIs.nil | exact StrsD.nil | exact dec_lit rfl rfl | apply TabIs.cons | apply RowIs.mk | apply StrsD.cons
    decide +kernel
  obtain ⟨P, T, hP, hT, c⟩ := key
  have hO : StrsD allNames (P ++ T.map (·.nm)) := by
    unfold allNames
    rw [← List.append_assoc]
    exact hP.app hT.names
  intro y hy
  have := Nat.le_of_ble_eq_true (List.all_eq_true.mp c _ (hO.mem.mp hy))
  show y.cps.size ≤ 100
  rw [← Array.length_toList]
  exact this

end PartP

local macro_rules | `(tactic| walk_at "eval IfExp") => `(tactic| refine halt ?_)
local macro_rules | `(tactic| walk_at "exec For Name Call cons nil") => `(tactic| refine halt ?_)
local macro_rules | `(tactic| walk_at "exec For Name Name cons nil") => `(tactic| refine halt ?_)
local macro_rules | `(tactic| walk_at "exec For Tuple Name cons nil") => `(tactic| refine halt ?_)
local macro_rules | `(tactic| walk_at "exec For") => `(tactic| refine halt ?_)
local macro_rules | `(tactic| walk_at "exec For Name Name") => `(tactic| refine halt ?_)
local macro_rules | `(tactic| walk_at "exec For Tuple Name") => `(tactic| refine halt ?_)
local macro_rules | `(tactic| walk_at "exec While Compare cons nil") => `(tactic| refine halt ?_)
local macro_rules | `(tactic| walk_at "exec If Name") => `(tactic| refine halt ?_)
local macro_rules | `(tactic| walk_at "exec Assign cons ListComp") => `(tactic| refine halt ?_)
local macro_rules | `(tactic| walk_at "eval ListComp") => `(tactic| refine halt ?_)
local macro_rules | `(tactic| walk_at "eval BoolOp") => `(tactic| refine halt ?_)
local macro_rules | `(tactic| walk_at "call type:list") => `(tactic| refine halt ?_)
local macro_rules | `(tactic| walk_at "call type:dict") => `(tactic| refine halt ?_)
local macro_rules | `(tactic| walk_at "call ref") => `(tactic| refine halt ?_)
local macro_rules | `(tactic| walk_at "call builtin:len") => `(tactic| refine halt ?_)
local macro_rules | `(tactic| walk_at "call builtin:sorted") => `(tactic| refine halt ?_)
local macro_rules | `(tactic| walk_at "call builtin:all") => `(tactic| refine halt ?_)
local macro_rules | `(tactic| walk_at "call builtin:list.pop") => `(tactic| refine halt ?_)
local macro_rules | `(tactic| walk_at "call builtin:list.extend") => `(tactic| refine halt ?_)
local macro_rules | `(tactic| walk_at "call builtin:list.append") => `(tactic| refine halt ?_)
local macro_rules | `(tactic| walk_at "setItem ref str") => `(tactic| refine halt ?_)
local macro_rules | `(tactic| walk_at "compareOp NotIn str ref") => `(tactic| refine halt ?_)
local macro_rules | `(tactic| walk_at "compareOp In str ref") => `(tactic| refine halt ?_)
local macro_rules | `(tactic| walk_at "compareOp Eq ref ref") => `(tactic| refine halt ?_)
local macro_rules | `(tactic| walk_at "compareOp NotEq ref ref") => `(tactic| refine halt ?_)
local macro_rules | `(tactic| walk_at "binaryOp Add ref ref") => `(tactic| refine halt ?_)
local macro_rules | `(tactic| walk_at "KswPost") => `(tactic| refine halt ?_)
local macro_rules | `(tactic| walk_at "TurnQ") => `(tactic| refine halt ?_)
local macro_rules | `(tactic| walk_at "TurnT") => `(tactic| refine halt ?_)
local macro_rules | `(tactic| walk_at "CompEnd") => `(tactic| refine halt ?_)
local macro_rules | `(tactic| walk_at "CEnd") => `(tactic| refine halt ?_)
local macro_rules | `(tactic| walk_at "eval Name") => `(tactic| (k_here; (with_reducible show wpAny _ _ (eval (Expr.Name _ _) (compEnvC _ _ _ _)) _ _ _); k_dflt (first
  | refine nmC_L (by k_asm) (by first | rfl | assumption) ?_
  | refine nmC_K (by k_asm) (by k_asm) (by k_asm) (by k_is) ?_
  | refine nmC_B (by k_asm) (by k_asm) (by k_asm) (by k_is) (by boot_by_name) (by decide) ?_)))
local macro_rules | `(tactic| k_all) => `(tactic| assumption)

theorem row_of_ok {prog : Program} {w : World} {A : Around} {s : Shared} {mg mb : PySem.Str → Option Value} {R : Result → Shared → Prop} {x : PySem.Str} {t : Tok} (G : Gd w mg mb s.heap) (hd : A.depth < 900) (hh : A.handled = none)
    (h : ∀ h' tk, Up s.heap h' → R (.ok (.ret (rowV x))) { s with heap := h', toks := tk }) :
    codeAny (model prog w) A (.call (.ref 80) ⟨[.str x t], []⟩) R s := by
  have X := G.X
  have T := G.T
  refine call_fn (f := 80) G (by k_is) (by k_is) (by show A.depth < 1000; omega) (BindsTo.of_eq rfl) (locs rfl) ?_ rfl rfl rfl (by decide)
  intro h₁ F
  replace F : Fr s.heap s.heap.objs.size h₁ (fun y => List.lookup y [("name", .str x t)]) := F
  have N : News s.heap s.heap.objs.size h₁ [] := News.nil
  (try dsimp only); (try k_unmd); (try k_fold)
  k_steps
  refine go ?_
  refine For_invVF F rfl rfl ?_
  k_steps
  refine for_tup [] (fun i nx => nx = [] ∧ ∀ j, j < i → names.getD j ⟨#[]⟩ ≠ x) hh F N (rows_at X) ⟨rfl, by intro j hj; omega⟩ ?_ ?_
  · clear F N
    rintro i v u news₁ own h₂ tk hv ⟨rfl, hj⟩ _ F N
    obtain ⟨hi, rfl⟩ := rowsV_get hv
    obtain ⟨r, tt, uu, vs, hr, ht, _⟩ := row_at X i hi
    have hnm := names_get hr
    replace F : Fr s.heap s.heap.objs.size h₂ (fun y => if y = "row" then some (.ref (rowA i)) else List.lookup y [("name", .str x t)]) := F
    (try dsimp only); (try k_fold)
    k_steps
    · rename (r.nm == x) = true => he
      have e := at_some hi hj (hnm.trans (eq_of_beq he))
      have q := fun tk => h h₂ tk F.keep
      simp only [rowV, e] at q
      exact q _
    · rename (r.nm == x) = false => he
      refine ⟨_, _, _, [], rfl, F, by simpa using N, fun p hp => (nomatch hp), fun y hy _ => by simp [hy], rfl, fun j hj' => ?_⟩
      by_cases hji : j = i
      · subst hji; rw [hnm]; exact fun e => by simp [e] at he
      · exact hj j (by omega)
  · rintro u news₁ h₂ tk ⟨rfl, hj⟩ F N
    have e := at_none (x := x) (by simpa using hj)
    (try dsimp only); (try k_fold)
    k_steps
    have q := fun tk => h h₂ tk F.keep
    simp only [rowV, e] at q
    exact q _

structure WN (prog : Program) (w : World) (xs0 : List PySem.Str) (c : Obj × List (PySem.Str × Value) × List Value × Nat) : Prop where
  dict : c.1.IsDictOf (PySem.strKind prog w) c.2.1
  inv : ∃ xs, StrsAre c.2.2.1 xs ∧ WInv needs kn xs0 (c.2.1.map (·.1)) xs ∧ xs.length ≤ xs0.length + 4 * c.2.1.length ∧ c.2.1.length ≤ 29

theorem with_needs_ok {prog : Program} {w : World} {A : Around} {s : Shared} {mg mb : PySem.Str → Option Value} {R : Result → Shared → Prop} {a : Addr} {vs : List Value} {xs : List PySem.Str} (G : Gd w mg mb s.heap) (hd : A.depth < 800) (hh : A.handled = none)
    (hl : s.heap.IsList a vs.toArray) (hs : StrsAre vs xs) (hlen : vs.length ≤ 1000)
    (h : ∀ h' tk d o kvs, Up s.heap h' → s.heap.get? d = none → (d == sysModules) = false → h'.get? d = some o → o.IsDictOf (PySem.strKind prog w) kvs → (∀ x, x ∈ kvs.map (·.1) ↔ Cl needs kn xs x) → kvs.length ≤ 29 → R (.ok (.ret (.ref d))) { s with heap := h', toks := tk }) :
    codeAny (model prog w) A (.call (.ref 92) ⟨[.ref a], []⟩) R s := by
  obtain ⟨hA0, dep, frs, gus, uns⟩ := A
  dsimp only at hd hh
  subst hh
  have hx0 : xs.length ≤ 1000 := by have := hs.len_eq; omega
  have X := G.X
  have T := G.T
  refine call_fn (f := 92) G (by k_is) (by k_is) (by show dep < 1000; omega) (BindsTo.of_eq rfl) (locs rfl) ?_ rfl rfl rfl (by decide)
  intro h₁ F
  replace F : Fr s.heap s.heap.objs.size h₁ (fun y => List.lookup y [("names", .ref a)]) := F
  have N : News s.heap s.heap.objs.size h₁ [] := News.nil
  (try dsimp only); (try k_unmd); (try k_fold)
  k_steps
  rename Fr _ _ _ _ => F
  rename News _ _ _ _ => N
  rename (_ == sysModules) = false => hsys
  rename Obj.IsDictOf (PySem.strKind prog w) _ _ => hdict
  refine go (list_copyK F N (hl.at fun o e => F.keep _ _ e) ?_ (by simp [sizeLine_eq]; omega))
  intro W c h₂ F₂ N₂ l2
  k_lt l2
  k_steps
  rename Fr _ _ _ _ => F
  rename News _ _ _ _ => N
  refine go (ksw_while (σ := Obj × List (PySem.Str × Value) × List Value × Nat) (fun c => [(W, listOf c.2.2.1.toArray c.2.2.2), (_, c.1)]) (fun _ => []) (WN prog w xs) ["name", "row"] (fun _ => True)
    (fun c => c.2.2.1.length + 5 * (29 - c.2.1.length)) (_, [], vs, c) F (fun p hp => N p (List.mem_cons_of_mem _ hp)) ?_ (fun p hp => (nomatch hp)) trivial ?_ ?_)
  · exact ⟨hdict, xs, hs, WInv.start, by simp, by simp⟩
  · clear F N hdict hs hl
    rintro ⟨o, kvs, vs, c⟩ u h₃ tk ⟨hdict, xs, hs, hI, hx1, hx2⟩ - F N
    dsimp only at *
    rcases PyProof.Rows.strs_nil_or_snoc hs with ⟨rfl, rfl⟩ | ⟨vi, yi, y, t, rfl, rfl, hs'⟩
    · (try k_fold)
      k_steps
      refine go (PySem.Calls.call_len_list (N.isList (.head _)) (by decide) ?_)
      k_steps
      exact h _ _ _ _ _ F.keep (N _ (.tail _ (.head _))).2.2 hsys (N _ (.tail _ (.head _))).1 hdict (fun x => hI.done) hx2
    · (try k_fold)
      have hvl : (vi ++ [Value.str y t]).length ≤ 2000 := by
        have := hs'.len_eq
        have h2 := hs.len_eq
        omega
      k_steps
      refine go (PySem.Calls.call_len_list (N.isList (.head _)) (by simp at hvl ⊢; omega) ?_)
      k_steps
      · refine go (kl_pop F N (p := vi) (y := .str y t) (kl_last_snoc _ _) (by k_upd) (by rw [sizeLine_eq]; simp at hvl ⊢; omega) ?_)
        intro h₄ F₄ N₄
        clear F N
        k_steps
        rename Fr _ _ _ _ => F
        rename News _ _ _ _ => N
        refine go (wpAny_call (row_of_ok (G.up F.keep) (by show dep + 1 < 900; omega) rfl ?_))
        intro h₅ tk₅ up₅
        replace F := F.keeps up₅
        replace N := N.grown up₅
        try clear F₄ N₄
        (try dsimp only)
        k_steps
        rename Fr _ _ _ _ => F
        rename News _ _ _ _ => N
        cases hat : at? y with
        | none =>
          have hrv : rowV y = .none := by simp only [rowV, hat]
          simp only [hrv] at F ⊢
          k_steps
          rename Fr _ _ _ _ => F
          rename News _ _ _ _ => N
          refine go (ksw_end (o, kvs, vi, c + 1) F N (fun p hp => hp) ⟨hdict, yi, hs', hI.skip fun hk => ?_, by simp at hx1 ⊢; omega, hx2⟩ (fun p hp => (nomatch hp)) (fun z _ hz => two_same hz) trivial (by simp))
          unfold kn at hk
          rw [hat] at hk
          cases hk
        | some i =>
          have hrv : rowV y = .ref (rowA i) := by simp only [rowV, hat]
          simp only [hrv] at F ⊢
          obtain ⟨hi, hnm⟩ := at_lt hat
          obtain ⟨r, tt, uu, ws, hr, ht, ⟨nn, hw⟩, hws⟩ := row_at X i hi
          have hnd := needs_at hat hr
          have hkn : kn y := by unfold kn; rw [hat]; rfl
          k_steps
          rename Fr _ _ _ _ => F
          rename News _ _ _ _ => N
          refine go (kdg_notin (knd := PySem.strKind _ _) N (.tail _ (.head _)) hdict hsys (strKind_is _ _ _ _) _ rfl ?_)
          k_steps
          · rename Fr _ _ _ _ => F
            rename News _ _ _ _ => N
            rename (valueAt kvs y).isSome = true => hin
            refine go (ksw_end (o, kvs, vi, c + 1) F N (fun p hp => hp) ⟨hdict, yi, hs', hI.skip fun _ => valueAt_mem.mp hin, by simp at hx1 ⊢; omega, hx2⟩ (fun p hp => (nomatch hp)) (fun z _ hz => two_same hz) trivial (by simp))
          · rename Fr _ _ _ _ => F
            rename News _ _ _ _ => N
            rename (valueAt kvs y).isSome = false => hout
            refine go (kda_set (knd := PySem.strKind _ _) F N (by k_updF) hdict (strKind_is _ _ _ _) (by rw [sizeLine_eq]; omega) ?_)
            intro h₆ o₆ F₆ N₆ hd₆
            rw [stored_new hout] at hd₆
            (try dsimp only at N₆)
            have hlt : (kvs ++ [(y, Value.bool true)]).length ≤ 29 := by
              have hnd' := hd₆
              obtain ⟨es, ep, _, _, _, _, hnodup⟩ := hnd'
              have := nodup_le (m := names) hnodup fun x hx => by
                rw [List.map_append, List.mem_append] at hx
                rcases hx with hx | hx
                · exact kn_names (hI.keys x hx).kn'
                · simp at hx; subst hx; exact kn_names hkn
              rw [show names.length = 29 from rfl] at this
              simpa using this
            k_steps
            refine go (ext_tup F₆ N₆ (by intro p hp; simp at hp; subst hp; exact Nat.ne_of_lt l2) (F₆.keep _ _ hw) (by have := hws.len_eq; have := needs_le y; rw [hnd] at this; simp at hvl; omega) ?_)
            intro h₇ c₇ F₇ N₇
            k_steps
            rename Fr _ _ _ _ => F
            rename News _ _ _ _ => N
            have hle := needs_le y
            have hwl := hws.len_eq
            have hI' := hI.take hkn
            rw [hnd] at hle hI'
            refine go (ksw_end (o₆, kvs ++ [(y, Value.bool true)], vi ++ ws, c₇) F N (fun p hp => hp) ⟨hd₆, yi ++ r.needs, strsAre_append hs' hws, by simpa using hI', by simp at hx1 ⊢; omega, hlt⟩ (fun p hp => (nomatch hp)) (fun z _ hz => two_same hz) trivial ?_)
            simp at hlt ⊢
            omega
      · exfalso
        rename ¬ _ => hno
        exact hno (by simp)
  · k_steps

/-- does something that is told wind -/
def Wound (xs : List PySem.Str) : Prop := Cl needs kn xs "%wind" ∧ Cl needs kn xs "%take"
open Classical in
/-- what is told -/
def TT (xs : List PySem.Str) (x : PySem.Str) : Prop := Cl needs kn (if Wound xs then xs ++ [Str.ofString "%wound-call/cc"] else xs) x
open Classical in
noncomputable def pairOf (xs : List PySem.Str) (r : Rw) : PySem.Str × PySem.Str := (r.nm, if Wound xs ∧ r.nm = "%take" then woundT else r.text)
open Classical in
noncomputable def chosen (xs : List PySem.Str) (r : Rw) : Bool := decide (TT xs r.nm)
open Classical in
theorem chosen_iff {xs : List PySem.Str} {r : Rw} : chosen xs r = true ↔ TT xs r.nm := by
  unfold chosen
  exact decide_eq_true_iff
noncomputable def psOf (xs : List PySem.Str) (l : List Rw) : List (PySem.Str × PySem.Str) := (l.filter (chosen xs)).map (pairOf xs)
/-- behind the choice of a text -/
def PF2 (s : Shared) (h : Heap) (xs : List PySem.Str) (r : Rw) (v : Value) (s' : Shared) : Prop :=
  ∃ t tk, v = .str (pairOf xs r).2 t ∧ s' = { heap := h, gens := s.gens, drawn := s.drawn, toks := tk, os := s.os }
/-- behind the test of winding -/
def PF1 (prog : Program) (w : World) (s : Shared) (a : Addr) (xs : List PySem.Str) (bw : Bool) (f : Flow) (s' : Shared) : Prop :=
  f = .next ∧ ∃ h' tk d o kvs, s' = { heap := h', gens := s.gens, drawn := s.drawn, toks := tk, os := s.os } ∧
    Fr s.heap s.heap.objs.size h' (fun y => if y = "found" then some (.ref d) else if y = "is_wound" then some (.bool bw) else List.lookup y [("names", .ref a)]) ∧ News s.heap s.heap.objs.size h' [(d, o)] ∧ (d == sysModules) = false ∧ o.IsDictOf (PySem.strKind prog w) kvs ∧ (∀ x, x ∈ kvs.map (·.1) ↔ TT xs x)
theorem prelude_for_ok {prog : Program} {w : World} {A : Around} {s : Shared} {mg mb : PySem.Str → Option Value} {R : Result → Shared → Prop} {a : Addr} {vs : List Value} {xs : List PySem.Str} (G : Gd w mg mb s.heap) (hd : A.depth < 700) (hh : A.handled = none)
    (hl : s.heap.IsList a vs.toArray) (hs : StrsAre vs xs) (hlen : vs.length ≤ 900)
    (h : ∀ h' tk d us, Up s.heap h' → s.heap.get? d = none → h'.PlainList d us.toArray → PairH h' us (psOf xs tab) → R (.ok (.ret (.ref d))) { s with heap := h', toks := tk }) :
    codeAny (model prog w) A (.call (.ref 99) ⟨[.ref a], []⟩) R s := by
  obtain ⟨hA0, dep, frs, gus, uns⟩ := A
  dsimp only at hd hh
  subst hh
  have X := G.X
  have T := G.T
  refine call_fn (f := 99) G (by k_is) (by k_is) (by show dep < 1000; omega) (BindsTo.of_eq rfl) (locs rfl) ?_ rfl rfl rfl (by decide)
  intro h₁ F
  replace F : Fr s.heap s.heap.objs.size h₁ (fun y => List.lookup y [("names", .ref a)]) := F
  have N : News s.heap s.heap.objs.size h₁ [] := News.nil
  (try dsimp only); (try k_unmd); (try k_fold)
  k_steps
  refine go (wpAny_call (with_needs_ok (G.up F.keep) (by show dep + 1 < 800; omega) rfl (hl.at fun o e => F.keep _ _ e) hs (by omega) ?_))
  intro h₂ tk₂ d o kvs up₂ dn lo hdo hdd hcl hkl
  replace N := (news_new F N up₂ dn hdo).1
  replace F := F.keeps up₂
  (try dsimp only)
  k_steps
  rename Fr _ _ _ _ => F
  rename News _ _ _ _ => N
  rename Heap => h₃
  refine go (wpAny_mono (Q := fun v s' => v = .bool ((valueAt kvs "%wind").isSome && (valueAt kvs "%take").isSome) ∧ ∃ tk, s' = { heap := h₃, gens := s.gens, drawn := s.drawn, toks := tk, os := s.os }) ?_ ?_ (fun _ _ x => x))
  · refine BoolOp_and ?_
    k_steps
    refine go (kda_in (knd := PySem.strKind _ _) N (.head _) hdd lo (strKind_is _ _ _ _) _ rfl ?_)
    k_steps
    · refine go (BoolOp_one ?_)
      k_steps
      refine go (kda_in (knd := PySem.strKind _ _) N (.head _) hdd lo (strKind_is _ _ _ _) _ rfl ?_)
      refine ⟨?_, _, rfl⟩
      rename _ = true => hw
      rw [hw]; rfl
    · rename _ = false => hw
      first
        | (rw [hw]; rfl)
        | exact ⟨by rw [hw]; rfl, _, rfl⟩
  · rintro v s' ⟨rfl, tk, rfl⟩
    generalize hbw : ((valueAt kvs "%wind").isSome && (valueAt kvs "%take").isSome) = bw
    k_steps
    rename Fr _ _ _ _ => F
    rename News _ _ _ _ => N
    rename Heap => h₄
    have hbw' : bw = true ↔ Wound xs := by
      rw [← hbw, Bool.and_eq_true, valueAt_mem, valueAt_mem, hcl, hcl]
      exact Iff.rfl
    refine go (wpAny_mono (Q := PF1 prog w s a xs bw) ?_ ?_ (fun _ _ x => x))
    · cases bw with
      | false =>
        have hnw : ¬ Wound xs := fun q => by have := hbw'.mpr q; cases this
        refine wpAny_If ?_
        k_steps
        refine ⟨rfl, h₄, _, d, o, kvs, rfl, fr_congr F ?_, N, lo, hdd, fun x => ?_⟩
        · intro y
          by_cases h1 : y = "found"
          · subst h1; rfl
          · by_cases h2 : y = "is_wound"
            · subst h2; rfl
            · simp only [h1, h2, if_false]
        · rw [hcl]; unfold TT; rw [if_neg hnw]
      | true =>
        have hyw : Wound xs := hbw'.mp rfl
        refine wpAny_If ?_
        k_steps
        refine go (kdl_list_keysS rfl F N (.head _) hdd lo (by omega) fun B c h₅ tk => kdlKeys fun us hus F₅ N₅ l5 => ?_)
        k_lt l5
        clear F N
        k_steps
        rename Fr _ _ _ _ => F
        rename News _ _ _ _ => N
        have hul := hus.len_eq
        simp only [List.length_map] at hul
        refine go (kmk_add_lit F N (N.isList (.tail _ (.head _))) (N.isList (.head _)) rfl ?_ (by simp [sizeLine_eq]; omega))
        intro D h₆ F₆ N₆ l6
        clear F N
        k_steps
        refine go (wpAny_call (with_needs_ok (G.up F₆.keep) (by show dep + 1 < 800; omega) rfl (N₆.isList (.head _)) (strsAre_append hus (.cons _ _ .nil)) (by simp; omega) ?_))
        intro h₇ tk₇ d₂ o₂ kvs₂ up₇ dn₂ lo₂ hdo₂ hdd₂ hcl₂ hkl₂
        have N := (news_new F₆ N₆ up₇ dn₂ hdo₂).1
        have F := F₆.keeps up₇
        clear F₆ N₆
        (try dsimp only)
        k_steps
        rename Fr _ _ _ _ => F
        rename News _ _ _ _ => N
        refine ⟨rfl, _, _, d₂, o₂, kvs₂, rfl, fr_congr F ?_, (fun p hp => by rw [List.mem_singleton] at hp; subst hp; exact N _ (.head _)), lo₂, hdd₂, fun x => ?_⟩
        · intro y
          by_cases h1 : y = "found"
          · simp only [h1, if_true]
          · by_cases h2 : y = "is_wound"
            · subst h2; rfl
            · simp only [h1, h2, if_false]
        · rw [hcl₂]; unfold TT; rw [if_pos hyw]
          exact cl_again hcl
    · rintro f s' ⟨rfl, h₅, tk, d₂, o₂, kvs₂, rfl, F₅, N₅, lo₂, hd₂, ht₂⟩
      clear F N hdo up₂ dn
      k_steps
      rename Fr _ _ _ _ => F
      rename News _ _ _ _ => N
      refine go (For_invTF F ?_ (by intro _; rfl) ?_)
      · k_steps
        obtain ⟨P, hP⟩ := head_addr N
        subst hP
        rename d₂ < P => hdP
        refine for_tupT ["name", "needs", "text"] (fun i nx => ∃ vs c ts, nx = (P, W.listOf vs.toArray c) :: (d₂, o₂) :: ts ∧ (∀ p ∈ ts, p.1 ≠ P) ∧ PairL ts vs (psOf xs (tab.take i))) rfl F N (rows_at X) ⟨[], 0, [], rfl, fun _ q => (nomatch q), .nil⟩ ?_ ?_
        · clear F N
          rintro i v u _ own s₁ hv ⟨us, c, ts, rfl, hts, hps⟩ hnI hown ⟨oI, hoI⟩ F N
          obtain ⟨hi, rfl⟩ := rowsV_get hv
          obtain ⟨r, tt, uu, ws, hr, ht, _, hws⟩ := row_at X i hi
          have N₁ : News s.heap s.heap.objs.size s₁.heap ((P, W.listOf us.toArray c) :: (d₂, o₂) :: (ts ++ own)) := fun p hp => N p (by
            simp only [List.mem_cons, List.mem_append] at hp ⊢
            rcases hp with h | h | h | h
            · exact .inr (.inl h)
            · exact .inr (.inr (.inl h))
            · exact .inr (.inr (.inr h))
            · exact .inl h)
          have hoff : ∀ p ∈ (d₂, o₂) :: (ts ++ own), p.1 ≠ P := by
            intro p hp
            rcases List.mem_cons.mp hp with rfl | hp
            · exact Nat.ne_of_lt hdP
            · rcases List.mem_append.mp hp with hp | hp
              · exact hts p hp
              · rw [hown p hp]; exact fun e => hnI _ (.head _) e.symm
          (try dsimp only)
          (try k_fold)
          k_steps
          rename Fr _ _ _ _ => F
          rename News _ _ _ _ => N
          refine go (kda_in (knd := PySem.strKind _ _) N (.tail _ (.head _)) hd₂ lo₂ (strKind_is _ _ _ _) _ rfl ?_)
          k_steps
          · rename (valueAt kvs₂ r.nm).isSome = true => hin
            rename Heap => h₆
            refine go (wpAny_mono (Q := PF2 s₁ h₆ xs r) ?_ ?_ (fun _ _ x => x))
            · cases hb : bw with
              | false =>
                have hnw : ¬ Wound xs := fun q => by have := hbw'.mpr q; rw [hb] at this; cases this
                have e2 : (pairOf xs r).2 = r.text := if_neg fun q => hnw q.1
                rename Fr _ _ _ _ => F
                rw [hb] at F
                refine IfExp_ ?_
                k_steps
                exact ⟨_, _, by rw [e2], rfl⟩
              | true =>
                have hyw : Wound xs := hbw'.mp hb
                rename Fr _ _ _ _ => F
                rw [hb] at F
                refine IfExp_ ?_
                k_steps
                · rename (r.nm == _) = true => he
                  have e2 : (pairOf xs r).2 = woundT := if_pos ⟨hyw, eq_of_beq he⟩
                  exact ⟨_, _, by rw [e2]; rfl, rfl⟩
                · rename (r.nm == _) = false => he
                  have e2 : (pairOf xs r).2 = r.text := if_neg fun q => by rw [q.2] at he; simp at he
                  exact ⟨_, _, by rw [e2], rfl⟩
            · rintro v s' ⟨t₂, tk, rfl, rfl⟩
              k_steps
              rename Fr _ _ _ _ => F
              rename News _ _ _ _ => N
              obtain ⟨TT', hTT⟩ := head_addr N
              subst hTT
              rename P < TT' ∧ _ => hlt
              have N₂ : News s.heap s.heap.objs.size _ ((P, W.listOf us.toArray c) :: (TT', tup2 (pairOf xs r) tt t₂) :: (d₂, o₂) :: (ts ++ own)) := fun p hp => N p (by
                simp only [List.mem_cons] at hp ⊢
                rcases hp with h | h | h
                · exact .inr (.inl h)
                · exact .inl h
                · exact .inr (.inr h))
              have hul := hps.len_eq
              have hps29 : (psOf xs (tab.take i)).length ≤ 29 := by
                unfold psOf
                rw [List.length_map]
                exact Nat.le_trans (List.length_filter_le _ _) (by rw [List.length_take]; exact Nat.le_trans (Nat.min_le_right _ _) (Nat.le_of_eq rfl))
              refine go (app_head F N₂ (fun p hp => ?_) (by omega) ?_)
              · rcases List.mem_cons.mp hp with rfl | hp
                · exact Nat.ne_of_gt hlt.1
                · exact hoff p hp
              intro h₇ c₇ F₇ N₇
              clear F N N₂
              k_steps
              rename Fr _ _ _ _ => F
              rename News _ _ _ _ => N
              have hyc : chosen xs r = true := by
                rw [chosen_iff, ← ht₂, ← valueAt_mem, hin]
              refine go ⟨rfl, _, _, _, (P, W.listOf (us ++ [Value.ref TT']).toArray c₇) :: (d₂, o₂) :: (TT', tup2 (pairOf xs r) tt t₂) :: ts, rfl, F, ?_, ?_, fun y hy => ?_, ⟨_, c₇, (TT', tup2 (pairOf xs r) tt t₂) :: ts, rfl, ?_, ?_⟩⟩
              · intro p hp
                refine N p ?_
                simp only [List.mem_cons, List.mem_append] at hp ⊢
                rcases hp with h | h | h | h | h
                · exact .inr (.inr (.inr (.inr h)))
                · exact .inl h
                · exact .inr (.inr (.inl h))
                · exact .inr (.inl h)
                · exact .inr (.inr (.inr (.inl h)))
              · intro p hp
                rcases List.mem_cons.mp hp with rfl | hp
                · exact fun e => hnI (P, W.listOf us.toArray c) (.head _) e
                · rcases List.mem_cons.mp hp with rfl | hp
                  · exact fun e => hnI (d₂, o₂) (.tail _ (.head _)) e
                  · rcases List.mem_cons.mp hp with rfl | hp
                    · have hIo : (_ : Nat) < TT' := lt_of_allLt hlt.2.2 (List.mem_append_right _ hoI)
                      exact Nat.ne_of_gt hIo
                    · exact hnI _ (.tail _ (.tail _ hp))
              · exact three_same (m₀ := fun y => if y = "pairs" then some (.ref P) else if y = "found" then some (.ref d₂) else if y = "is_wound" then some (.bool bw) else List.lookup y [("names", .ref a)]) hy
              · intro p hp
                rcases List.mem_cons.mp hp with rfl | hp
                · exact Nat.ne_of_gt hlt.1
                · exact hts p hp
              · rw [take_snoc hr]
                unfold psOf at hps ⊢
                rw [List.filter_append, List.filter_cons_of_pos (by simp [hyc]), List.map_append]
                exact (hps.mono fun p hp => .tail _ hp).snoc (.head _)
          · rename (valueAt kvs₂ r.nm).isSome = false => hout
            rename Fr _ _ _ _ => F
            rename News _ _ _ _ => N
            have hnc : chosen xs r = false := by
              rw [← Bool.not_eq_true, chosen_iff, ← ht₂, ← valueAt_mem, hout]
              decide
            refine go ⟨rfl, _, _, _, (P, W.listOf us.toArray c) :: (d₂, o₂) :: ts, rfl, F, ?_, hnI, fun y hy => ?_, ⟨us, c, ts, rfl, hts, ?_⟩⟩
            · intro p hp
              refine N p ?_
              simp only [List.mem_cons, List.mem_append] at hp ⊢
              rcases hp with h | h | h | h
              · exact .inr (.inr (.inr h))
              · exact .inl h
              · exact .inr (.inl h)
              · exact .inr (.inr (.inl h))
            · exact three_same (m₀ := fun y => if y = "pairs" then some (.ref P) else if y = "found" then some (.ref d₂) else if y = "is_wound" then some (.bool bw) else List.lookup y [("names", .ref a)]) hy
            · rw [take_snoc hr]
              unfold psOf at hps ⊢
              rw [List.filter_append, List.filter_cons_of_neg (by simp [hnc])]
              simpa using hps
        · rintro u _ h₆ tk ⟨us, c, ts, rfl, hts, hps⟩ F N
          (try dsimp only)
          (try k_fold)
          k_steps
          have e29 : tab.take rowsV.size = tab := List.take_of_length_le (Nat.le_of_eq rfl)
          rw [e29] at hps
          refine h h₆ _ P us F.keep (N _ (.head _)).2.2 ⟨c, (N _ (.head _)).1⟩ (hps.toH fun p hp => (N p (.tail _ (.tail _ hp))).1)
      · k_steps

/-- the text behind the signs so far -/
def after (x : PySem.Str) : Nat → PySem.Str
  | 0 => x
  | 1 => Txt.replace x ⟨#[40]⟩ ⟨#[32]⟩
  | 2 => Txt.replace (Txt.replace x ⟨#[40]⟩ ⟨#[32]⟩) ⟨#[41]⟩ ⟨#[32]⟩
  | _ => clear3 x
theorem after_len (x : PySem.Str) (i : Nat) : (after x i).length = x.length := by
  rcases i with _ | _ | _ | i
  · rfl
  · exact replace_len _ _ _
  · show (Txt.replace (Txt.replace x ⟨#[40]⟩ ⟨#[32]⟩) ⟨#[41]⟩ ⟨#[32]⟩).length = _
    rw [replace_len, replace_len]
  · exact clear3_len x
theorem after_next (x : PySem.Str) {i : Nat} (hi : i < 3) : ∃ c, ("()'" : PySem.Str).cps[i]? = some c ∧ after x (i + 1) = Txt.replace (after x i) ⟨#[c]⟩ ⟨#[32]⟩ ∧ (⟨#[c]⟩ == (⟨#[32]⟩ : PySem.Str)) = false := by
  rcases i with _ | _ | _ | i
  · exact ⟨40, by decide +kernel, rfl, by decide⟩
  · exact ⟨41, by decide +kernel, rfl, by decide⟩
  · exact ⟨39, by decide +kernel, rfl, by decide⟩
  · omega
def SgAt (s : Shared) (I : Addr) (x : PySem.Str) (t0 : Tok) (i : Nat) (s' : Shared) : Prop :=
  ∃ h' tk o u v0, s' = { heap := h', gens := s.gens, drawn := s.drawn, toks := tk, os := s.os } ∧ 1 ≤ tk ∧ o.cls = .type "str_ascii_iterator" ∧ o.data = .fields #[.str "()'" t0, .int i 0] ∧
    Fr s.heap s.heap.objs.size h' (fun z => if z = "sign_here" then v0 else if z = "text" then some (.str (after x i) u) else none) ∧ News s.heap s.heap.objs.size h' [(I, o)]
def SgT (s : Shared) (I : Addr) (x : PySem.Str) (t0 : Tok) (i : Nat) (f : Flow) (s' : Shared) : Prop := f = .next ∧ SgAt s I x t0 i s'
theorem fr_extBut {h₀ h h' : Heap} {L d : Addr} {m : PySem.Str → Option Value} (F : Fr h₀ L h m) (hL : d ≠ L) (hn : h₀.get? d = none) (hs : Heap.ExtBut d h h') : Fr h₀ L h' m := by
  refine ⟨F.ns.extBut hs hL.symm, fun b x e => hs b x ?_ (F.keep b x e), F.above⟩
  rintro rfl
  rw [hn] at e
  cases e
theorem law_words_ok {prog : Program} {w : World} {A : Around} {s : Shared} {mg mb : PySem.Str → Option Value} {R : Result → Shared → Prop} {x : PySem.Str} {t : Tok} (G : Gd w mg mb s.heap) (hd : A.depth < 900) (hh : A.handled = none)
    (hlen : x.length ≤ 5000)
    (h : ∀ h' tk d (us : List Value), Up s.heap h' → s.heap.get? d = none → h'.PlainList d us.toArray → StrsAre us (wordsOf x) → R (.ok (.ret (.ref d))) { s with heap := h', toks := tk }) :
    codeAny (model prog w) A (.call (.ref 335) ⟨[.str x t], []⟩) R s := by
  obtain ⟨hA0, dep, frs, gus, uns⟩ := A
  dsimp only at hd hh
  subst hh
  have X := G.X
  have T := G.T
  refine call_fn (f := 335) G (by k_is) (by k_is) (by show dep < 1000; omega) (BindsTo.of_eq rfl) (locs rfl) ?_ rfl rfl rfl (by decide)
  intro h₁ F
  replace F : Fr s.heap s.heap.objs.size h₁ (fun y => List.lookup y [("text", .str x t)]) := F
  have N : News s.heap s.heap.objs.size h₁ [] := News.nil
  (try dsimp only); (try k_unmd); (try k_fold)
  change wpAny _ _ _ _ _ { heap := h₁, gens := s.gens, drawn := s.drawn, toks := s.toks + 1, os := s.os }
  generalize htk : s.toks + 1 = tk0
  have h1 : 1 ≤ tk0 := by omega
  refine wpAny_execs_cons ?_
  refine wpAny_For ?_
  refine wpAny_with_toks (n := 1) h1 ?_
  k_steps
  clear h1 htk
  rename 1 ≤ _ => h1
  dsimp only at h1 ⊢
  refine wpAny_pyIter_ascii (by decide +kernel) ?_
  dsimp only
  generalize hH2 : h₁.push { cls := .type "str_ascii_iterator", data := .fields #[.str "()'" tk0, .int 0 0] } = h₂
  have hpush : ∀ b o, h₁.get? b = some o → h₂.get? b = some o := fun b o e => hH2 ▸ Heap.get?_push_of_some _ e
  have hI : h₂.get? h₁.objs.size = some { cls := .type "str_ascii_iterator", data := .fields #[.str "()'" tk0, .int 0 0] } := hH2 ▸ Heap.get?_push_size _ rfl
  have N₂ := (news_new (o := { cls := .type "str_ascii_iterator", data := .fields #[.str "()'" tk0, .int 0 0] }) (d := h₁.objs.size) F N hpush (Heap.get?_none_of_le (Nat.le_refl _)) hI).1
  have F₂ := F.keeps hpush
  generalize hIa : h₁.objs.size = I at *
  refine codeAny_forLoop (fun n s' => ∃ i, i ≤ 3 ∧ n = 4 - i ∧ SgAt s I x tk0 i s') ?_ 4 ⟨0, by omega, rfl, h₂, tk0 + 1, _, t, none, rfl, h1, rfl, rfl, fr_congr F₂ ?_, N₂⟩
  · rintro n s' ⟨i, hi, rfl, h₃, tk, o, u, v0, rfl, htk, hoc, hod, F, N⟩
    by_cases hlt : i < 3
    · obtain ⟨c, hc, hnx, hne⟩ := after_next x hlt
      have z := N _ (.head _)
      have hit : h₃.IsStrIter I "str_ascii_iterator" "()'" tk0 i := ⟨o, z.1, hoc, hod⟩
      refine wpAny_pyNext_ascii_item hit hc fun h₄ hit₄ hs₄ => ?_
      obtain ⟨o₄, ho₄, hc₄, hd₄⟩ := hit₄
      have F₄ := F.change hs₄ z.2.1 z.2.2
      have N₄ : News s.heap s.heap.objs.size h₄ [(I, o₄)] := fun p hp => by
        rw [List.mem_singleton] at hp; subst hp; exact ⟨ho₄, z.2⟩
      dsimp only
      refine wpAny_assign_Name (wpAny_storeName_local rfl F₄.ns (fun h₅ hn₅ hs₅ => ?_) (by rfl))
      have F₅ := F₄.set hn₅ hs₅
      have N₅ : News s.heap s.heap.objs.size h₅ [(I, o₄)] := fun p hp => by
        have q := N₄ p hp
        exact ⟨(hs₅.2 _ q.2.1).trans q.1, q.2⟩
      clear F F₄ N N₄ F₂ N₂
      dsimp only
      have htk1 : 1 ≤ tk + 1 + 1 := by omega
      have hlen2 := after_len x i
      have hu : tk ≠ 0 := by omega
      obtain ⟨tkI, hkI⟩ : ∃ k, k = tk := ⟨_, rfl⟩
      generalize htk2 : tk + 1 + 1 = tk2 at *
      have huv : tk ≠ tk2 := by omega
      refine wpAny_mono (Q := SgT s I x tk0 (i + 1)) ?_ (fun f s'' q => ?_) (fun _ _ e => e)
      · refine wpAny_with_toks (n := 1) htk1 ?_
        k_steps
        have he : (" " : PySem.Str) = ⟨#[32]⟩ := by decide +kernel
        refine SC.replace hu (Nat.ne_of_gt htk1) huv (by rw [he]; exact hne) (by rw [he, show (⟨#[32]⟩ : PySem.Str).length = 1 from rfl]; omega) fun t' k => ?_
        rw [he, ← hnx]
        k_steps
        rename Fr _ _ _ _ => F'
        rename News _ _ _ _ => N'
        rename 1 ≤ _ => ha
        refine ⟨rfl, _, _, o₄, t', some (.str ⟨#[c]⟩ tkI), rfl, ha, hc₄, hd₄, fr_congr F' ?_, N'⟩
        intro y
        by_cases h1 : y = "text"
        · subst h1; rfl
        · by_cases h2 : y = "sign_here"
          · subst h2; rw [hkI]; rfl
          · simp only [h1, h2, if_false]
      · obtain ⟨rfl, q⟩ := q
        exact ⟨4 - (i + 1), by omega, i + 1, by omega, rfl, q⟩
    · have hi3 : i = 3 := by omega
      subst hi3
      have z := N _ (.head _)
      have hit : h₃.IsStrIter I "str_ascii_iterator" "()'" tk0 3 := ⟨o, z.1, hoc, hod⟩
      refine wpAny_pyNext_ascii_end rfl hit (by decide +kernel) fun h₄ he => wpAny_execs_nil ?_
      have F₄ : Fr s.heap s.heap.objs.size h₄ _ := fr_extBut F z.2.1 z.2.2 he
      have N₄ : News s.heap s.heap.objs.size h₄ [] := News.nil
      clear F N F₂ N₂
      (try dsimp only)
      k_steps
      rename Fr _ _ _ _ => F
      rename News _ _ _ _ => N
      refine KSpl.split0 F N (fun D l h' k el hl F N _ => ?_) ?_
      · have ew : l.map (·.1) = wordsOf x := el.trans (words_clear x)
        rw [ew] at hl
        exact h _ _ D (strValues l) F.keep (N _ (.head _)).2.2 ⟨_, (N _ (.head _)).1⟩ hl
      · rw [after_len, sizeLine_eq]; omega
  · intro y
    by_cases h1 : y = "text"
    · subst h1; rfl
    · by_cases h2 : y = "sign_here"
      · subst h2; rfl
      · simp only [h1, h2, if_false]
        rw [List.lookup_cons, beq_eq_false_iff_ne.mpr h1]
        rfl

open PySem.Calls

/-- words of a told text that are names -/
def wnd (tx : PySem.Str → PySem.Str) (n : PySem.Str) : List PySem.Str := ((wordsOf (tx n)).drop 2).filter fun y => names.any (· == y)
theorem WInv.startF {nd : PySem.Str → List PySem.Str} {xs : List PySem.Str} : WInv nd (· ∈ names) xs [] (xs.filter fun y => names.any fun x => x == y) where
  keys := fun _ h => (nomatch h)
  wait := fun x hx hk => .base (List.mem_filter.mp hx).1 hk
  ask := fun a ha hk => .inr (List.mem_filter.mpr ⟨ha, any_mem.mpr hk⟩)
  nds := fun _ h => (nomatch h)
structure WR (prog : Program) (w : World) (xs0 : List PySem.Str) (tx : PySem.Str → PySem.Str) (c : Addr × Obj × List (PySem.Str × Value) × List Value × Nat) : Prop where
  dict : c.2.1.IsDictOf (PySem.strKind prog w) c.2.2.1
  inv : ∃ xs, StrsAre c.2.2.2.1 xs ∧ WInv (wnd tx) (· ∈ names) xs0 (c.2.2.1.map (·.1)) xs ∧ xs.length ≤ xs0.length + 100 * c.2.2.1.length ∧ c.2.2.1.length ≤ 29 ∧ ∀ x ∈ xs, x ∈ names
theorem law_reached_ok {prog : Program} {w : World} {A : Around} {s : Shared} {mg mb : PySem.Str → Option Value} {R : Result → Shared → Prop} {a k d : Addr} {vs ks : List Value} {xs : List PySem.Str} {kvs : List (PySem.Str × Value)} {tx : PySem.Str → PySem.Str} (G : Gd w mg mb s.heap) (hd : A.depth < 800) (hu : A.units ≤ 900) (hh : A.handled = none)
    (hl : s.heap.IsList a vs.toArray) (hs : StrsAre vs xs) (hlen : vs.length ≤ 900)
    (hlk : s.heap.IsList k ks.toArray) (hsk : StrsAre ks names)
    (hdd : s.heap.DictOf (PySem.strKind prog w) d kvs) (lod : (d == sysModules) = false)
    (htx : ∀ n v, valueAt kvs n = some v → ∃ t, v = .str (tx n) t) (hwl : ∀ n, (wordsOf (tx n)).length ≤ 100) (htl : ∀ n, (tx n).length ≤ 5000)
    (hT : ∀ x, Cl (wnd tx) (· ∈ names) xs x → (valueAt kvs x).isSome = true)
    (h : ∀ h' tk d' o kvs', Up s.heap h' → s.heap.get? d' = none → (d' == sysModules) = false → h'.get? d' = some o → o.IsDictOf (PySem.strKind prog w) kvs' → (∀ x, x ∈ kvs'.map (·.1) ↔ Cl (wnd tx) (· ∈ names) xs x) → kvs'.length ≤ 29 → R (.ok (.ret (.ref d'))) { s with heap := h', toks := tk }) :
    codeAny (model prog w) A (.call (.ref 340) ⟨[.ref a, .ref k, .ref d], []⟩) R s := by
  obtain ⟨hA0, dep, frs, gus, uns⟩ := A
  dsimp only at hd hh
  subst hh
  have X := G.X
  have T := G.T
  refine call_fnC (f := 340) G (by k_is) (by k_is) (by show dep < 1000; omega) (BindsTo.of_eq rfl) (kinds fun n => rfl) (by decide) ?_ rfl rfl rfl
  intro h₁ tk cells F N Y
  obtain ⟨oc, hE, hc⟩ := CellsAre.one Y
  subst hE
  clear Y
  replace hc : oc.data = .cell (some (.ref k)) := hc
  replace F : Fr s.heap s.heap.objs.size h₁ (fun y => if y = "texts" then some (.ref d) else if y = "asked" then some (.ref a) else none) := F
  (try dsimp only); (try k_unmd); (try k_fold)
  k_steps
  rename Fr _ _ _ _ => F
  rename News _ _ _ _ => N
  rename Heap => h₂
  have hl₂ := hl.at fun o e => F.keep _ _ e
  refine go (ListComp_gen (cl := [("known", s.heap.objs.size + 1)]) (by with_unfolding_all rfl) (by decide) rfl (by decide) ?_)
  k_steps
  refine comp_src (src_list rfl hl₂) _ (fun i ys _ => StrsAre ys ((xs.take i).filter fun y => names.any (· == y))) F N (by rw [sizeLine_eq]; simp; omega) .nil (fun _ _ _ _ q _ => q) ?_ ?_
  · intro C i v ys h₃ tk mC own hi hv hJ FC NC
    obtain ⟨y, t, hy, rfl⟩ := strs_at hs hv
    refine asg_name rfl rfl FC NC ?_
    clear FC NC
    intro h₄ FC NC
    refine tests_one ?_
    have hlk₂ := hlk.at fun o e => FC.keep _ _ e
    k_steps
    refine go (in_list_strs hlk₂ hsk ?_)
    k_steps
    · rename _ = true => hb
      exact go (cend FC NC (by rw [filt_t hy hb]; exact strs_snoc hJ))
    · rename _ = false => hb
      exact go (cend FC NC (by rw [filt_f hy hb]; exact hJ))
  clear F N
  intro W h₃ tk₃ ws c F N l2 hws
  rw [take_all (by have := hs.len_eq; simp; omega)] at hws
  k_lt l2
  k_steps
  rename Fr _ _ _ _ => F
  rename News _ _ _ _ => N
  rename Obj.IsDictOf (PySem.strKind prog w) _ _ => hdict
  rename (_ == sysModules) = false => hsys
  refine go (ksw_while (σ := Addr × Obj × List (PySem.Str × Value) × List Value × Nat) (fun c => [(c.1, PySem.W.listOf c.2.2.2.1.toArray c.2.2.2.2), (_, c.2.1), (s.heap.objs.size + 1, oc)]) (fun c => [("waiting", .ref c.1)]) (WR prog w xs tx) ["name"] (fun c => @LT.lt Nat _ _ c.1 ∧ @LT.lt Nat _ (s.heap.objs.size + 1) c.1)
    (fun c => c.2.2.2.1.length + 101 * (29 - c.2.2.1.length)) (W, _, [], ws, c) F (fun p hp => N p (List.mem_cons_of_mem _ hp)) ?_ ?_ l2 ?_ ?_)
  · exact ⟨hdict, _, hws, WInv.startF, by simpa using List.length_filter_le _ _, by simp, fun x hx => any_mem.mp (List.mem_filter.mp hx).2⟩
  · intro p hp
    rw [List.mem_singleton] at hp
    subst hp
    rfl
  · clear F N hdict hws
    rintro ⟨W, o, ks', vs', c⟩ u h₃ tk ⟨hdict, xs', hs', hI, hx1, hx2, hx3⟩ hW F N
    dsimp only at *
    rcases PyProof.Rows.strs_nil_or_snoc hs' with ⟨rfl, rfl⟩ | ⟨vi, yi, y, t, rfl, rfl, hv'⟩
    · (try k_fold)
      k_steps
      rename Fr _ _ _ _ => F
      rename News _ _ _ _ => N
      refine go (ne_strs (N.isList (.tail _ (.head _))) (N.isList (.head _)) .nil .nil rfl rfl (by show uns + 3 + 64 < 9900; omega) ?_)
      (try dsimp only [decide_true, Bool.not_true])
      k_steps
      exact h _ _ _ _ _ F.keep (N _ (.tail _ (.tail _ (.head _)))).2.2 hsys (N _ (.tail _ (.tail _ (.head _)))).1 hdict (fun x => hI.done) hx2
    · (try k_fold)
      have hvl : (vi ++ [Value.str y t]).length ≤ 4000 := by
        have := hs'.len_eq
        have h2 := hs.len_eq
        have : (yi ++ [y]).length ≤ xs.length + 100 * ks'.length := hx1
        have h3 : ks'.length ≤ 29 := hx2
        rw [hs'.len_eq]
        omega
      k_steps
      rename Fr _ _ _ _ => F
      rename News _ _ _ _ => N
      refine go (ne_strs (N.isList (.tail _ (.head _))) (N.isList (.head _)) hs' .nil (ok_of_names hx3) rfl (by show uns + 3 + 64 < 9900; omega) ?_)
      have hne : decide (yi ++ [y] = []) = false := by simp
      rw [hne]
      (try dsimp only [Bool.not_false])
      have N' : News s.heap s.heap.objs.size _ [(W, PySem.W.listOf (vi ++ [Value.str y t]).toArray c), (_, o), (s.heap.objs.size + 1, oc)] := fun p hp => N p (.tail _ hp)
      clear N
      k_steps
      refine go (kl_pop F N' (p := vi) (y := .str y t) (kl_last_snoc _ _) (by k_upd) (by rw [sizeLine_eq]; simp at hvl ⊢; omega) ?_)
      intro h₄ F₄ N₄
      clear F N'
      k_steps
      rename Fr _ _ _ _ => F
      rename News _ _ _ _ => N
      have hkn : y ∈ names := hx3 y (by simp)
      refine go (kdg_notin (knd := PySem.strKind _ _) N (.tail _ (.head _)) hdict hsys (strKind_is _ _ _ _) _ rfl ?_)
      k_steps
      · rename Fr _ _ _ _ => F
        rename News _ _ _ _ => N
        rename (valueAt ks' y).isSome = true => hin
        refine go (ksw_end (W, o, ks', vi, c + 1) F N (fun p hp => hp) ⟨hdict, yi, hv', hI.skip fun _ => valueAt_mem.mp hin, by simp at hx1 ⊢; omega, hx2, fun x hx => hx3 x (by simp [hx])⟩ ?_ (fun z hz hc => kst_one hz hc) hW (by simp))
        intro p hp
        rw [List.mem_singleton] at hp
        subst hp
        rfl
      · rename Fr _ _ _ _ => F
        rename News _ _ _ _ => N
        rename (valueAt ks' y).isSome = false => hout
        have hval := hT y (hI.wait y (by simp) hkn)
        have hdd₂ := dictOf_up hdd F.keep
        refine go (wpAny_notIn_of (strKind_is _ _ _ _) lod hdd₂.mapOf ?_)
        rw [show (valueAt kvs y).isSome = true from hval]
        k_steps
        rename Fr _ _ _ _ => F
        rename News _ _ _ _ => N
        refine go (kda_set (knd := PySem.strKind _ _) F N (by k_updF) hdict (strKind_is _ _ _ _) (by rw [sizeLine_eq]; omega) ?_)
        intro h₆ o₆ F₆ N₆ hd₆
        clear F N
        rw [stored_new hout] at hd₆
        (try dsimp only at N₆)
        have hlt : (ks' ++ [(y, Value.bool true)]).length ≤ 29 := by
          have hnd' := hd₆
          obtain ⟨es, ep, _, _, _, _, hnodup⟩ := hnd'
          have := nodup_le (m := names) hnodup fun x hx => by
            rw [List.map_append, List.mem_append] at hx
            rcases hx with hx | hx
            · exact (hI.keys x hx).kn'
            · simp at hx; subst hx; exact hkn
          rw [show names.length = 29 from rfl] at this
          simpa using this
        k_steps
        refine go (ListComp_gen (cl := [("known", s.heap.objs.size + 1)]) (by with_unfolding_all rfl) (by decide) rfl (by decide) ?_)
        k_steps
        obtain ⟨v, hv⟩ := Option.isSome_iff_exists.mp hval
        obtain ⟨tt, rfl⟩ := htx y v hv
        have hdd₆ := dictOf_up hdd F₆.keep
        refine tail_any hdd₆.mapOf.typeIs slot_dict_getitem.lookup (wpAny_getItem_of (strKind_is _ _ _ _) hdd₆.mapOf hv ?_) (by with_unfolding_all rfl)
        k_steps
        refine go (wpAny_call (law_words_ok (G.up F₆.keep) (by show dep + 1 < 900; omega) rfl (htl y) ?_))
        intro h₇ tk₇ d₇ us up₇ dn₇ hpl₇ hus
        obtain ⟨c₇, hq₇⟩ := hpl₇
        have N := (news_new (o := PySem.W.listOf us.toArray c₇) F₆ N₆ up₇ dn₇ hq₇).1
        have F := F₆.keeps up₇
        clear F₆ N₆
        have hul : us.length ≤ 100 := by rw [hus.len_eq]; exact hwl y
        (try dsimp only)
        k_steps
        rename Fr _ _ _ _ => F
        rename News _ _ _ _ => N
        have hws : StrsAre (us.drop 2) ((wordsOf (tx y)).drop 2) := strs_drop hus 2
        have hl₈ := N.isList (.head _)
        rw [pick_from _ (by decide)] at hl₈
        have N' : News s.heap s.heap.objs.size _ [(W, PySem.W.listOf vi.toArray (c + 1)), (_, o₆), (s.heap.objs.size + 1, oc)] := fun p hp => N p (.tail _ (.tail _ hp))
        clear N
        refine comp_src (src_list rfl hl₈) _ (fun i ys _ => StrsAre ys ((((wordsOf (tx y)).drop 2).take i).filter fun y => names.any (· == y))) F N' (by rw [sizeLine_eq]; simp; omega) .nil (fun _ _ _ _ q _ => q) ?_ ?_
        · intro C i v ys h₃ tk mC own hi hv hJ FC NC
          obtain ⟨z, t, hy, rfl⟩ := strs_at hws hv
          refine asg_name rfl rfl FC NC ?_
          clear FC NC
          intro h₄ FC NC
          refine tests_one ?_
          have hlk₂ := hlk.at fun o e => FC.keep _ _ e
          k_steps
          refine go (in_list_strs hlk₂ hsk ?_)
          k_steps
          · rename _ = true => hb
            exact go (cend FC NC (by rw [filt_t hy hb]; exact strs_snoc hJ))
          · rename _ = false => hb
            exact go (cend FC NC (by rw [filt_f hy hb]; exact hJ))
        clear F N'
        intro D₉ h₉ tk₉ es c₉ F N l₉ hes
        rw [take_all (by rw [List.size_toArray]; exact Nat.le_of_eq hws.len_eq.symm)] at hes
        k_lt l₉
        k_steps
        rename Fr _ _ _ _ => F
        rename News _ _ _ _ => N
        have hel : es.length ≤ 100 := by
          rw [hes.len_eq]
          refine Nat.le_trans (List.length_filter_le _ _) ?_
          have := hwl y
          rw [List.length_drop]; omega
        refine go (kmk_add_lit (zs := vi ++ es) F N (N.isList (.tail _ (.head _))) (N.isList (.head _)) rfl ?_ (by rw [sizeLine_eq]; simp at hvl ⊢; omega))
        intro Z h₁₀ F₁₀ N₁₀ l₁₀
        clear F N
        k_lt l₁₀
        k_steps
        rename Fr _ _ _ _ => F
        rename News _ _ _ _ => N
        refine go (ksw_end (Z, o₆, ks' ++ [(y, Value.bool true)], vi ++ es, 0) F N (fun p hp => ?_) ⟨hd₆, yi ++ wnd tx y, strsAre_append hv' hes, by simpa using hI.take hkn, ?_, hlt, fun x hx => ?_⟩ ?_ (fun z hz hc => kst_two hz hc) ⟨l₁₀.2.2.1, l₁₀.2.2.2⟩ ?_)
        · simp only [List.mem_cons, List.not_mem_nil, or_false] at hp ⊢
          rcases hp with hp | hp | hp
          · exact .inl hp
          · exact .inr (.inr (.inr (.inl hp)))
          · exact .inr (.inr (.inr (.inr hp)))
        · have := hes.len_eq
          have e : (wnd tx y).length = es.length := this.symm
          simp at hx1 ⊢
          omega
        · rcases List.mem_append.mp hx with hx | hx
          · exact hx3 x (by simp [hx])
          · exact any_mem.mp (List.mem_filter.mp hx).2
        · intro p hp
          rw [List.mem_singleton] at hp
          subst hp
          rfl
        · simp at hlt ⊢
          omega
  · k_steps

theorem law_is_inner_ok {prog : Program} {w : World} {A : Around} {s : Shared} {mg mb : PySem.Str → Option Value} {R : Result → Shared → Prop} {d : Addr} {x : PySem.Str} {t : Tok} {kvs : List (PySem.Str × Value)} (G : Gd w mg mb s.heap) (hd : A.depth < 800) (hu : A.units ≤ 900) (hh : A.handled = none)
    (hlen : x.length ≤ 5000) (hwl : (wordsOf x).length ≤ 100)
    (hdd : s.heap.DictOf (PySem.strKind prog w) d kvs) (lod : (d == sysModules) = false)
    (hno : ∀ y ∈ (wordsOf x).drop 2, (valueAt kvs y).isSome = false)
    (h : ∀ h' tk, Up s.heap h' → R (.ok (.ret (.bool true))) { s with heap := h', toks := tk }) :
    codeAny (model prog w) A (.call (.ref 345) ⟨[.str x t, .ref d], []⟩) R s := by
  obtain ⟨hA0, dep, frs, gus, uns⟩ := A
  dsimp only at hd hh hu
  subst hh
  have X := G.X
  have T := G.T
  refine call_fnC (f := 345) G (by k_is) (by k_is) (by show dep < 1000; omega) (BindsTo.of_eq rfl) (kinds fun n => rfl) (by decide) ?_ rfl rfl rfl
  intro h₁ tk cells F N Y
  obtain ⟨oc, hE, hc⟩ := CellsAre.one Y
  subst hE
  clear Y
  replace hc : oc.data = .cell (some (.ref d)) := hc
  replace F : Fr s.heap s.heap.objs.size h₁ (fun y => if y = "text" then some (.str x t) else none) := F
  (try dsimp only); (try k_unmd); (try k_fold)
  k_steps
  rename Fr _ _ _ _ => F
  rename News _ _ _ _ => N
  refine go (ListComp_gen (cl := [("outer", s.heap.objs.size + 1)]) (by with_unfolding_all rfl) (by decide) rfl (by decide) ?_)
  k_steps
  refine go (wpAny_call (law_words_ok (G.up F.keep) (by show dep + 1 < 900; omega) rfl hlen ?_))
  intro h₇ tk₇ d₇ us up₇ dn₇ hpl₇ hus
  obtain ⟨c₇, hq₇⟩ := hpl₇
  have N' := (news_new (o := PySem.W.listOf us.toArray c₇) F N up₇ dn₇ hq₇).1
  have F' := F.keeps up₇
  clear F N
  have hul : us.length ≤ 100 := by rw [hus.len_eq]; exact hwl
  (try dsimp only)
  k_steps
  rename Fr _ _ _ _ => F
  rename News _ _ _ _ => N
  have hws : StrsAre (us.drop 2) ((wordsOf x).drop 2) := strs_drop hus 2
  have hl₈ := N.isList (.head _)
  rw [pick_from _ (by decide)] at hl₈
  have N' : News s.heap s.heap.objs.size _ [(s.heap.objs.size + 1, oc)] := fun p hp => N p (.tail _ (.tail _ hp))
  clear N
  refine comp_src (src_list rfl hl₈) _ (fun i ys _ => ys = []) F N' (by rw [sizeLine_eq]; simp; omega) rfl (fun _ _ _ _ q _ => q) ?_ ?_
  · intro C i v ys h₃ tk mC own hi hv hJ FC NC
    obtain ⟨z, t, hy, rfl⟩ := strs_at hws hv
    refine asg_name rfl rfl FC NC ?_
    clear FC NC
    intro h₄ FC NC
    refine tests_one ?_
    have hdd₂ := dictOf_up hdd FC.keep
    k_steps
    refine go (wpAny_in_of (strKind_is _ _ _ _) lod hdd₂.mapOf ?_)
    have hf : (valueAt kvs z).isSome = false := hno z (List.mem_of_getElem? hy)
    rw [show (valueAt kvs z).isSome = false from hf]
    k_steps
    exact go (cend FC NC hJ)
  clear F N'
  intro D₉ h₉ tk₉ es c₉ F N l₉ hes
  subst hes
  k_lt l₉
  k_steps
  rename Fr _ _ _ _ => F
  rename News _ _ _ _ => N
  refine go (eq_strs (N.isList (.tail _ (.head _))) (N.isList (.head _)) .nil .nil rfl rfl ?hu ?_)
  case hu => show uns + 3 + 64 < 9900; omega
  (try dsimp only [decide_true])
  k_steps
  rename Fr _ _ _ _ => F
  exact h _ _ F.keep

theorem prelude_names_ok {prog : Program} {w : World} {A : Around} {s : Shared} {mg mb : PySem.Str → Option Value} {R : Result → Shared → Prop} (G : Gd w mg mb s.heap) (hd : A.depth < 800) (hh : A.handled = none)
    (h : ∀ h' tk d us, Up s.heap h' → s.heap.get? d = none → h'.PlainList d (List.toArray us) → StrsAre us names → R (.ok (.ret (.ref d))) { s with heap := h', toks := tk }) :
    codeAny (model prog w) A (.call (.ref 85) ⟨[], []⟩) R s := by
  obtain ⟨hA0, dep, frs, gus, uns⟩ := A
  dsimp only at hd hh
  subst hh
  have X := G.X
  have T := G.T
  refine call_fn (f := 85) G (by k_is) (by k_is) (by show dep < 1000; omega) (BindsTo.of_eq rfl) (locs rfl) ?_ rfl rfl rfl (by decide)
  intro h₁ F
  replace F : Fr s.heap s.heap.objs.size h₁ (fun y => none) := F
  have N : News s.heap s.heap.objs.size h₁ [] := News.nil
  (try dsimp only); (try k_unmd); (try k_fold)
  k_steps
  refine go (ListComp_gen (cl := []) (by with_unfolding_all rfl) (by decide) rfl (by decide) ?_)
  k_steps
  have ht₁ : h₁.IsTuple 73 rowsV := let ⟨o, ho, r⟩ := rows_at X; ⟨o, F.keep _ _ ho, r⟩
  refine comp_src (src_tuple rfl ht₁) [] (fun i ys _ => StrsAre ys (names.take i)) F N (by rw [sizeLine_eq]; decide) .nil (fun _ _ _ _ q _ => q) ?_ ?_
  · intro C i v ys h₃ tk mC own hi hv hJ FC NC
    obtain ⟨hi, rfl⟩ := rowsV_get hv
    obtain ⟨r, tt, uu, vs, hr, ht, _⟩ := row_at X i hi
    refine asg_name rfl rfl FC NC ?_
    clear FC NC
    intro h₄ FC NC
    refine tests_nil ?_
    simp only [if_true]
    have ht₄ : IsTup h₄ (rowA i) #[.str r.nm tt, .ref (15 + 2 * i), .str r.text uu] := let ⟨o, ho, r⟩ := ht; ⟨o, FC.keep _ _ ho, r⟩
    k_steps
    have hn : names[i]? = some r.nm := by
      unfold names
      rw [List.getElem?_map, hr]; rfl
    first
      | exact go (cend FC NC (by rw [take_snoc hn]; exact strs_snoc hJ))
  · clear F N
    intro D₉ h₉ tk₉ es c₉ F N l₉ hes
    rw [take_all (by decide)] at hes
    k_steps
    first
      | exact h _ _ _ _ F.keep (N _ (.head _)).2.2 ⟨_, (N _ (.head _)).1⟩ hes

theorem control_names_ok {prog : Program} {w : World} {A : Around} {s : Shared} {mg mb : PySem.Str → Option Value} {R : Result → Shared → Prop} (G : Gd w mg mb s.heap) (hd : A.depth < 800) (hh : A.handled = none)
    (h : ∀ h' tk d us, Up s.heap h' → s.heap.get? d = none → h'.PlainList d (List.toArray us) → StrsAre us ctlNames → R (.ok (.ret (.ref d))) { s with heap := h', toks := tk }) :
    codeAny (model prog w) A (.call (.ref 109) ⟨[], []⟩) R s := by
  obtain ⟨hA0, dep, frs, gus, uns⟩ := A
  dsimp only at hd hh
  subst hh
  have X := G.X
  have T := G.T
  refine call_fn (f := 109) G (by k_is) (by k_is) (by show dep < 1000; omega) (BindsTo.of_eq rfl) (locs rfl) ?_ rfl rfl rfl (by decide)
  intro h₁ F
  replace F : Fr s.heap s.heap.objs.size h₁ (fun y => none) := F
  have N : News s.heap s.heap.objs.size h₁ [] := News.nil
  (try dsimp only); (try k_unmd); (try k_fold)
  k_steps
  refine go (ListComp_gen (cl := []) (by with_unfolding_all rfl) (by decide) rfl (by decide) ?_)
  k_steps
  have ht₁ : h₁.IsTuple 104 ctlV.toArray := let ⟨o, ho, r⟩ := ctls_at X; ⟨o, F.keep _ _ ho, r⟩
  refine comp_src (src_tuple rfl ht₁) [] (fun i ys _ => StrsAre ys (ctlNames.take i)) F N (by rw [sizeLine_eq]; decide) .nil (fun _ _ _ _ q _ => q) ?_ ?_
  · intro C i v ys h₃ tk mC own hi hv hJ FC NC
    obtain ⟨hi, rfl⟩ := ctlV_get hv
    have hn : ctlNames[i]? = some (ctlNames[i]'hi) := List.getElem?_eq_getElem _
    generalize ctlNames[i]'hi = x at hn
    obtain ⟨tt, r, ht⟩ := ctl_at X hn
    refine asg_name rfl rfl FC NC ?_
    clear FC NC
    intro h₄ FC NC
    refine tests_nil ?_
    simp only [if_true]
    have ht₄ : IsTup h₄ (100 + i) (List.toArray (.str x tt :: r)) := let ⟨o, ho, r⟩ := ht; ⟨o, FC.keep _ _ ho, r⟩
    k_steps
    first
      | exact go (cend FC NC (by rw [take_snoc hn]; exact strs_snoc hJ))
      | skip
    refine item_tupleT ht₄ (by decide) (by decide) (j := 0) ?_ rfl ?_ (by with_unfolding_all rfl)
    · simp [seqIndex?]
    · k_steps
      exact go (cend FC NC (by rw [take_snoc hn]; exact strs_snoc hJ))
  · clear F N
    intro D₉ h₉ tk₉ es c₉ F N l₉ hes
    rw [take_all (by decide)] at hes
    k_steps
    first
      | exact h _ _ _ _ F.keep (N _ (.head _)).2.2 ⟨_, (N _ (.head _)).1⟩ hes

theorem how_many_ok {prog : Program} {w : World} {A : Around} {s : Shared} {mg mb : PySem.Str → Option Value} {R : Result → Shared → Prop} (G : Gd w mg mb s.heap) (hd : A.depth < 800) (hh : A.handled = none)
    (h : ∀ h' tk t, Up s.heap h' → R (.ok (.ret (.int 192 t))) { s with heap := h', toks := tk }) :
    codeAny (model prog w) A (.call (.ref 309) ⟨[], []⟩) R s := by
  obtain ⟨hA0, dep, frs, gus, uns⟩ := A
  dsimp only at hd hh
  subst hh
  have X := G.X
  have T := G.T
  refine call_fn (f := 309) G (by k_is) (by k_is) (by show dep < 1000; omega) (BindsTo.of_eq rfl) (locs rfl) ?_ rfl rfl rfl (by decide)
  intro h₁ F
  replace F : Fr s.heap s.heap.objs.size h₁ (fun y => none) := F
  have N : News s.heap s.heap.objs.size h₁ [] := News.nil
  (try dsimp only); (try k_unmd); (try k_fold)
  k_steps
  have ht₁ : IsTup h₁ 302 primV.toArray := let ⟨o, ho, r⟩ := prims_at X; ⟨o, F.keep _ _ ho, r⟩
  refine go (len_tuple ht₁ (by decide) ?_)
  k_steps
  exact h _ _ _ F.keep

theorem name_of_ok {prog : Program} {w : World} {A : Around} {s : Shared} {mg mb : PySem.Str → Option Value} {R : Result → Shared → Prop} {i : Nat} {t : Tok} {x : PySem.Str} (G : Gd w mg mb s.heap) (hd : A.depth < 800) (hh : A.handled = none)
    (hx : primNames[i]? = some x)
    (h : ∀ h' tk t, Up s.heap h' → R (.ok (.ret (.str x t))) { s with heap := h', toks := tk }) :
    codeAny (model prog w) A (.call (.ref 316) ⟨[.int i t], []⟩) R s := by
  obtain ⟨hA0, dep, frs, gus, uns⟩ := A
  dsimp only at hd hh
  subst hh
  have X := G.X
  have T := G.T
  have hi : i < 192 := (List.getElem?_eq_some_iff.mp hx).1
  refine call_fn (f := 316) G (by k_is) (by k_is) (by show dep < 1000; omega) (BindsTo.of_eq rfl) (locs rfl) ?_ rfl rfl rfl (by decide)
  intro h₁ F
  replace F : Fr s.heap s.heap.objs.size h₁ (fun y => List.lookup y [("op", .int i t)]) := F
  have N : News s.heap s.heap.objs.size h₁ [] := News.nil
  (try dsimp only); (try k_unmd); (try k_fold)
  k_steps
  have ht₁ : IsTup h₁ 302 primV.toArray := let ⟨o, ho, r⟩ := prims_at X; ⟨o, F.keep _ _ ho, r⟩
  obtain ⟨tt, r, ht⟩ := prim_at X hx
  refine item_tupleT ht₁ (by omega) (by omega) (j := i) ?_ (primV_get hi) ?_ (by with_unfolding_all rfl)
  · unfold seqIndex?
    have : primV.length = 192 := by simp
    rw [this]
    simp
    omega
  k_steps
  have ht₄ : IsTup h₁ (110 + i) (List.toArray (.str x tt :: r)) := let ⟨o, ho, r⟩ := ht; ⟨o, F.keep _ _ ho, r⟩
  refine item_tupleT ht₄ (by decide) (by decide) (j := 0) ?_ rfl ?_ (by with_unfolding_all rfl)
  · simp [seqIndex?]
  · k_steps
    exact h _ _ _ F.keep

theorem law_draw_ok {prog : Program} {w : World} {A : Around} {s : Shared} {mg mb : PySem.Str → Option Value} {R : Result → Shared → Prop} {h₀ : Heap} {a b : Addr} {ms : List Value} {ns : List Int} {k many : Int} {t tm : Tok} {n : Nat} (G : Gd w mg mb h₀) (hup : Up h₀ s.heap) (ha0 : h₀.get? a = none) (hd : A.depth < 800) (hh : A.handled = none)
    (ha : s.heap.get? a = some (PySem.W.listOf #[.ref b, .int k t] n)) (hb : s.heap.IsList b ms.toArray) (hab : b ≠ a) (hms : IntsAre ms ns)
    (hlen : ns.length ≤ 60) (hpos : 1 ≤ ns.length) (hns : ∀ x ∈ ns, 0 ≤ x ∧ x < 2000000) (hk : 0 ≤ k) (hk2 : k < 1000) (hm : 1 ≤ many) (hm2 : many < 1000)
    (h : ∀ h' tk r t' t'' n', (∀ x o, s.heap.get? x = some o → x ≠ a → h'.get? x = some o) → h'.get? a = some (PySem.W.listOf #[.ref b, .int (k + 1) t''] n') → 0 ≤ r → r < many → R (.ok (.ret (.int r t'))) { s with heap := h', toks := tk }) :
    codeAny (model prog w) A (.call (.ref 328) ⟨[.ref a, .int many tm], []⟩) R s := by
  obtain ⟨hA0, dep, frs, gus, uns⟩ := A
  dsimp only at hd hh
  subst hh
  have up₀ : Up h₀ (s.heap.hide a) := fun x o e => (Heap.hide_ne _ (fun q => by rw [q, ha0] at e; cases e)).trans (hup x o e)
  refine call_fnT (f := 328) (G.up hup) (by k_is) (by k_is) (by show dep < 1000; omega) (BindsTo.of_eq rfl) (locs rfl) ?_ rfl rfl rfl (by decide)
  intro h₁ tk₀ F₁
  have G₂ := G.up up₀
  have X := G₂.X
  have T := G₂.T
  have F : Fr (s.heap.hide a) s.heap.objs.size h₁ (fun y => List.lookup y [("many", .int many tm), ("deck", .ref a)]) := ⟨F₁.ns, fun x o e => F₁.keep x o (Heap.of_hide e), Nat.le_of_eq (Heap.hide_size _ _)⟩
  have N : News (s.heap.hide a) s.heap.objs.size h₁ [(a, PySem.W.listOf #[.ref b, .int k t] n)] := fun p hp => by
    rw [List.mem_singleton] at hp; subst hp
    exact ⟨F₁.keep _ _ ha, Nat.ne_of_lt (Heap.lt_size ha), Heap.hide_self _ _⟩
  have hb₀ : (s.heap.hide a).IsList b ms.toArray := hb.at fun o e => (Heap.hide_ne _ hab).trans e
  clear F₁
  (try dsimp only); (try k_unmd); (try k_fold)
  have hml : ms.length = ns.length := hms.length
  k_steps
  rename Fr _ _ _ _ => F
  rename News _ _ _ _ => N
  have hb₁ := hb₀.at fun o e => F.keep _ _ e
  refine go (PySem.Calls.call_len_list hb₁ (by simp; omega) ?_)
  k_steps
  · exact h _ _ _ _ _ _ (fun x o e hx => F.keep x o ((Heap.hide_ne _ hx).trans e)) (N _ (.head _)).1 (Int.fmod_nonneg_of_pos _ (by omega)) (Int.fmod_lt_of_pos _ (by omega))
  · refine go (PySem.Calls.call_len_list hb₁ (by simp; omega) ?_)
    iterate 18 (first | walk1 | (dsimp only; walk1))
    rename Fr _ _ _ _ => F
    rename News _ _ _ _ => N
    have hV : ∃ V t', 0 ≤ V ∧ V < 4294967291 ∧ Fr (s.heap.hide a) s.heap.objs.size _ (fun y => if y = "mixed" then some (.int V t') else List.lookup y [("many", .int many tm), ("deck", .ref a)]) := ⟨_, _, Int.fmod_nonneg_of_pos _ (by decide), Int.fmod_lt_of_pos _ (by decide), F⟩
    clear F
    obtain ⟨V, t', hV0, hV1, F⟩ := hV
    k_steps
    exact h _ _ _ _ _ _ (fun x o e hx => F.keep x o ((Heap.hide_ne _ hx).trans e)) (N _ (.head _)).1 (Int.fmod_nonneg_of_pos _ (by omega)) (Int.fmod_lt_of_pos _ (by omega))

theorem ints_at : ∀ {vs : List Value} {xs : List Int}, IntsAre vs xs → ∀ {i : Nat} {v : Value}, vs.toArray[i]? = some v → ∃ y t, xs[i]? = some y ∧ v = .int y t
  | _, _, .nil, i, v, h => by simp at h
  | _, _, .cons y t r, 0, v, h => by simp at h; exact ⟨y, t, rfl, h.symm⟩
  | _, _, .cons y t r, i + 1, v, h => by
    obtain ⟨z, u, h1, h2⟩ := ints_at r (i := i) (v := v) (by simpa using h)
    exact ⟨z, u, by simpa using h1, h2⟩
theorem ints_snoc : ∀ {vs : List Value} {xs : List Int} {y : Int} {t : Tok}, IntsAre vs xs → IntsAre (vs ++ [.int y t]) (xs ++ [y])
  | _, _, y, t, .nil => .cons y t .nil
  | _, _, _, _, .cons z u h => .cons z u (ints_snoc h)
def Small (ms : List Int) : Prop := ∀ x ∈ ms, 0 ≤ x ∧ x < 2000000
theorem law_deck_ok {prog : Program} {w : World} {A : Around} {s : Shared} {mg mb : PySem.Str → Option Value} {R : Result → Shared → Prop} {a : Addr} {vs : List Value} {ns : List Int} (G : Gd w mg mb s.heap) (hd : A.depth < 800) (hh : A.handled = none)
    (hl : s.heap.IsList a vs.toArray) (hi : IntsAre vs ns) (hlen : ns.length ≤ 63)
    (h : ∀ h' tk d b n' n'' ws ms t, Up s.heap h' → s.heap.get? d = none → s.heap.get? b = none → b ≠ d → h'.get? d = some (PySem.W.listOf #[.ref b, .int 0 t] n') → h'.get? b = some (PySem.W.listOf (List.toArray ws) n'') → IntsAre ws ms → ms.length ≤ 60 → 1 ≤ ms.length → Small ms → R (.ok (.ret (.ref d))) { s with heap := h', toks := tk }) :
    codeAny (model prog w) A (.call (.ref 321) ⟨[.ref a], []⟩) R s := by
  obtain ⟨hA0, dep, frs, gus, uns⟩ := A
  dsimp only at hd hh
  subst hh
  have X := G.X
  have T := G.T
  refine call_fnT (f := 321) G (by k_is) (by k_is) (by show dep < 1000; omega) (BindsTo.of_eq rfl) (locs rfl) ?_ rfl rfl rfl (by decide)
  intro h₁ tk₀ F
  replace F : Fr s.heap s.heap.objs.size h₁ (fun y => List.lookup y [("script", .ref a)]) := F
  have N : News s.heap s.heap.objs.size h₁ [] := News.nil
  have hvl : vs.length = ns.length := hi.length
  (try dsimp only); (try k_unmd); (try k_fold)
  k_steps
  refine go (ListComp_gen (cl := []) (by with_unfolding_all rfl) (by decide) rfl (by decide) ?_)
  k_steps
  rename Fr _ _ _ _ => F
  rename News _ _ _ _ => N
  rename IntsAre _ (List.take 40 ns) => hws
  have hl₂ := N.isList (.head _)
  have hwl := hws.length
  rw [List.length_take] at hwl
  refine comp_src (src_list rfl hl₂) [] (fun i ys _ => ∃ ms, IntsAre ys ms ∧ ms.length = i ∧ Small ms) F News.nil (by rw [sizeLine_eq]; simp; omega) ⟨[], .nil, rfl, fun _ h => (nomatch h)⟩ (fun _ _ _ _ q _ => q) ?_ ?_
  · intro C i v ys h₃ tk mC own hi hv hJ FC NC
    obtain ⟨z, t, hy, rfl⟩ := ints_at hws hv
    obtain ⟨ms, h1, h2, h3⟩ := hJ
    refine asg_name rfl rfl FC NC ?_
    clear FC NC
    intro h₄ FC NC
    refine tests_nil ?_
    simp only [if_true]
    k_steps
    refine go (cend FC NC ⟨_, ints_snoc h1, by simp [h2], fun x hx => ?_⟩)
    rcases List.mem_append.mp hx with hx | hx
    · exact h3 x hx
    · rw [List.mem_singleton] at hx
      subst hx
      refine ⟨Int.fmod_nonneg_of_pos _ (by decide), Int.lt_trans (Int.fmod_lt_of_pos _ (by decide)) (by decide)⟩
  · clear F N
    intro D₉ h₉ tk₉ es c₉ F N l₉ hes
    obtain ⟨ms, h1, h2, h3⟩ := hes
    have hml : ms.length ≤ 40 := by
      rw [h2]; simp; omega
    k_steps
    have hl₅ := hl.at fun o e => F.keep _ _ e
    refine go (PySem.Calls.call_len_list hl₅ (by simp; omega) ?_)
    k_steps
    rename Fr _ _ _ _ => F
    rename News _ _ _ _ => N
    refine go (kmk_add_lit F N (N.isList (.tail _ (.head _))) (N.isList (.head _)) rfl ?_ (by rw [sizeLine_eq]; have := h1.length; simp; omega))
    intro Z h₁₀ F₁₀ N₁₀ l₁₀
    clear F N
    k_lt l₁₀
    k_steps
    rename Fr _ _ _ _ => F
    rename News _ _ _ _ => N
    rename Z < _ ∧ _ => lz
    refine h _ _ _ Z _ _ _ (ms ++ [((vs.toArray.size : Nat) : Int) + 5]) _ F.keep (N _ (.head _)).2.2 (N _ (.tail _ (.head _))).2.2 (Nat.ne_of_lt lz.1) (N _ (.head _)).1 (N _ (.tail _ (.head _))).1 (ints_snoc h1) (by simp; omega) (by simp) (fun x hx => ?_)
    rcases List.mem_append.mp hx with hx | hx
    · exact h3 x hx
    · rw [List.mem_singleton] at hx
      subst hx
      simp
      omega

open Classical in
/-- the told text of a name -/
noncomputable def txOf (xs : List PySem.Str) (n : PySem.Str) : PySem.Str := if Wound xs ∧ n = "%take" then woundT else textOf n
theorem txOf_w {xs : List PySem.Str} (h : Wound xs) : txOf xs "%take" = woundT := if_pos ⟨h, rfl⟩
theorem txOf_n {xs : List PySem.Str} {n : PySem.Str} (h : ¬ (Wound xs ∧ n = "%take")) : txOf xs n = textOf n := if_neg h
theorem tx_len (xs : List PySem.Str) (n : PySem.Str) : (wordsOf (txOf xs n)).length ≤ 100 ∧ (txOf xs n).length ≤ 5000 := by
  by_cases h : Wound xs ∧ n = "%take"
  · rw [h.2, txOf_w h.1]
    exact ⟨wound_facts.wl, wound_facts.tl⟩
  · rw [txOf_n h]
    by_cases hn : n ∈ names
    · obtain ⟨r, hr, e1, e2, e3⟩ := row_kn hn
      rw [e2]
      exact ⟨(facts.2 r hr).wl, (facts.2 r hr).tl⟩
    · have e : textOf n = ⟨#[]⟩ := by
        unfold textOf
        cases q : at? n with
        | none => rfl
        | some i => exact absurd (kn_names (show kn n by unfold kn; rw [q]; rfl)) hn
      rw [e]
      exact ⟨by decide, by decide⟩
theorem mem_wnd {tx : PySem.Str → PySem.Str} {n y : PySem.Str} : y ∈ wnd tx n ↔ y ∈ (wordsOf (tx n)).drop 2 ∧ y ∈ names := by
  unfold wnd
  rw [List.mem_filter, any_mem]
theorem needs_take : needs "%take" = [] := by
  have h : (Str.ofString "%take") ∈ names := by
    obtain ⟨P, T, hP, hT, hc⟩ := allD_tabD
    exact List.mem_map.mpr ⟨tab[8], List.getElem_mem _, rfl⟩
  obtain ⟨r, hr, e1, e2, e3⟩ := row_kn h
  rw [e3]
  exact ((facts.2 r hr).tk e1).1
theorem needs_wnd {xs : List PySem.Str} {k y : PySem.Str} (hk : k ∈ names) (hnt : ¬ (Wound xs ∧ k = "%take")) (h : y ∈ needs k) : y ∈ wnd (txOf xs) k := by
  obtain ⟨r, hr, e1, e2, e3⟩ := row_kn hk
  rw [mem_wnd, txOf_n hnt, e2]
  rw [e3] at h
  exact (facts.2 r hr).sup y h
theorem wnd_needs {xs : List PySem.Str} {k y : PySem.Str} (hk : k ∈ names) (hnt : ¬ (Wound xs ∧ k = "%take")) (h : y ∈ wnd (txOf xs) k) : y ∈ needs k ∨ y = k := by
  obtain ⟨r, hr, e1, e2, e3⟩ := row_kn hk
  rw [mem_wnd, txOf_n hnt, e2] at h
  rw [e3, ← e1]
  exact (facts.2 r hr).sub y h.1 h.2
theorem wnd_take {xs : List PySem.Str} (hw : Wound xs) {y : PySem.Str} : y ∈ wnd (txOf xs) "%take" ↔ y = "%wound-call/cc" := by
  rw [mem_wnd, txOf_w hw]
  constructor
  · exact fun h => wound_facts.sub y h.1 h.2
  · rintro rfl
    exact ⟨wound_facts.sup, wound_facts.nm⟩
theorem cl_names {nd : PySem.Str → List PySem.Str} {xs : List PySem.Str} {x : PySem.Str} (h : Cl nd (· ∈ names) xs x) : x ∈ names := h.kn'
theorem cl_n {xs : List PySem.Str} {x : PySem.Str} (h : Cl needs kn xs x) : x ∈ names := kn_iff.mp h.kn'
theorem cl_up {xs : List PySem.Str} {x : PySem.Str} (h : Cl needs kn xs x) : Cl (wnd (txOf xs)) (· ∈ names) xs x := by
  induction h with
  | base ha hk => exact .base ha (kn_iff.mp hk)
  | @step k n hc hn hk ih =>
    by_cases hnt : Wound xs ∧ k = "%take"
    · rw [hnt.2, needs_take] at hn
      cases hn
    · exact .step ih (needs_wnd (cl_n hc) hnt hn) (kn_iff.mp hk)
theorem tt_of {xs : List PySem.Str} {x : PySem.Str} (h : Cl needs kn xs x) : TT xs x := by
  unfold TT
  split
  · exact h.mono fun a ha => List.mem_append_left _ ha
  · exact h
theorem tt_not {xs : List PySem.Str} (hw : ¬ Wound xs) {x : PySem.Str} : TT xs x ↔ Cl needs kn xs x := by
  unfold TT
  rw [if_neg hw]
theorem tt_yes {xs : List PySem.Str} (hw : Wound xs) {x : PySem.Str} : TT xs x ↔ Cl needs kn (xs ++ [Str.ofString "%wound-call/cc"]) x := by
  unfold TT
  rw [if_pos hw]
theorem tt_step {xs : List PySem.Str} {k y : PySem.Str} (h : TT xs k) (hn : y ∈ needs k) (hk : y ∈ names) : TT xs y := by
  unfold TT at *
  exact .step h hn (kn_iff.mpr hk)
theorem tt_names {xs : List PySem.Str} {x : PySem.Str} (h : TT xs x) : x ∈ names := by
  unfold TT at h
  exact kn_iff.mp h.kn'
theorem tt_wcc {xs : List PySem.Str} (hw : Wound xs) : TT xs "%wound-call/cc" := (tt_yes hw).mpr (.base (List.mem_append_right _ (.head _)) (kn_iff.mpr wound_facts.nm))
theorem cl_iff {xs : List PySem.Str} {x : PySem.Str} : Cl (wnd (txOf xs)) (· ∈ names) xs x ↔ TT xs x := by
  constructor
  · intro h
    induction h with
    | base ha hk => exact tt_of (.base ha (kn_iff.mpr hk))
    | @step k n hc hn hk ih =>
      by_cases hnt : Wound xs ∧ k = "%take"
      · rw [hnt.2] at hn
        rw [(wnd_take hnt.1).mp hn]
        exact tt_wcc hnt.1
      · rcases wnd_needs (cl_names hc) hnt hn with q | rfl
        · exact tt_step ih q hk
        · exact ih
  · intro h
    by_cases hw : Wound xs
    · rw [tt_yes hw] at h
      induction h with
      | base ha hk =>
        rcases List.mem_append.mp ha with ha | ha
        · exact .base ha (kn_iff.mp hk)
        · rw [List.mem_singleton] at ha
          subst ha
          exact .step (cl_up hw.2) ((wnd_take hw).mpr rfl) wound_facts.nm
      | @step k n hc hn hk ih =>
        by_cases hnt : k = "%take"
        · rw [hnt, needs_take] at hn
          cases hn
        · exact .step ih (needs_wnd (kn_iff.mp hc.kn') (fun q => hnt q.2) hn) (kn_iff.mp hk)
    · exact cl_up ((tt_not hw).mp h)
theorem wound_iff {xs : List PySem.Str} (h : TT xs "%take") : Wound xs ↔ TT xs "%wind" := by
  constructor
  · exact fun q => tt_of q.1
  · intro q
    by_cases hw : Wound xs
    · exact hw
    · exact ⟨(tt_not hw).mp q, (tt_not hw).mp h⟩
theorem wcc_iff {xs : List PySem.Str} : (Str.ofString "%wound-call/cc") ∈ wordsOf (txOf xs "%take") ↔ Wound xs := by
  constructor
  · intro h
    by_cases hw : Wound xs
    · exact hw
    · exfalso
      rw [txOf_n fun q => hw q.1] at h
      have hn : (Str.ofString "%take") ∈ names := List.mem_map.mpr ⟨tab[8], List.getElem_mem _, rfl⟩
      obtain ⟨r, hr, e1, e2, e3⟩ := row_kn hn
      rw [e2] at h
      exact ((facts.2 r hr).tk e1).2 h
  · intro hw
    rw [txOf_w hw]
    exact List.mem_of_mem_drop wound_facts.sup

/-- the told pairs -/
theorem pair_tx {xs : List PySem.Str} {r : Rw} (h : r ∈ tab) : pairOf xs r = (r.nm, txOf xs r.nm) := by
  unfold pairOf txOf
  rw [(at_row h).1]
theorem ps_names (xs : List PySem.Str) : (psOf xs tab).map (·.1) = names.filter (fun n => (Classical.propDecidable (TT xs n)).decide) := by
  unfold psOf names
  rw [List.map_map, List.filter_map]
  congr 1
theorem ps_mem {xs : List PySem.Str} {p : PySem.Str × PySem.Str} (h : p ∈ psOf xs tab) : p.1 ∈ names ∧ TT xs p.1 ∧ p.2 = txOf xs p.1 := by
  unfold psOf at h
  obtain ⟨r, hr, rfl⟩ := List.mem_map.mp h
  obtain ⟨h1, h2⟩ := List.mem_filter.mp hr
  rw [pair_tx h1]
  exact ⟨List.mem_map.mpr ⟨r, h1, rfl⟩, chosen_iff.mp h2, rfl⟩
theorem ps_has {xs : List PySem.Str} {n : PySem.Str} (h : TT xs n) : (n, txOf xs n) ∈ psOf xs tab := by
  obtain ⟨r, hr, e1, _, _⟩ := row_kn (tt_names h)
  unfold psOf
  refine List.mem_map.mpr ⟨r, List.mem_filter.mpr ⟨hr, chosen_iff.mpr (e1 ▸ h)⟩, ?_⟩
  rw [pair_tx hr, e1]
theorem ps_nodup (xs : List PySem.Str) : ((psOf xs tab).map (·.1)).Nodup := by
  rw [ps_names]
  exact facts.1.filter _
theorem ps_len (xs : List PySem.Str) : (psOf xs tab).length ≤ 29 := by
  unfold psOf
  rw [List.length_map]
  exact Nat.le_trans (List.length_filter_le _ _) (Nat.le_of_eq rfl)
theorem take_names : (Str.ofString "%take") ∈ names := List.mem_map.mpr ⟨tab[8], List.getElem_mem _, rfl⟩
theorem ps_hd {xs : List PySem.Str} {p : PySem.Str × PySem.Str} (h : p ∈ psOf xs tab) : (wordsOf p.2).take 2 = [Str.ofString "define", p.1] := by
  obtain ⟨h1, h2, h3⟩ := ps_mem h
  rw [h3]
  by_cases hw : Wound xs ∧ p.1 = "%take"
  · rw [hw.2, txOf_w hw.1]
    exact wound_facts.hd
  · rw [txOf_n hw]
    obtain ⟨r, hr, e1, e2, e3⟩ := row_kn h1
    rw [e2, ← e1]
    exact (facts.2 r hr).hd
theorem ps_ok (xs : List PySem.Str) : ((psOf xs tab).all fun p => okS p.1 && okS p.2) = true := by
  rw [List.all_eq_true]
  intro p hp
  obtain ⟨h1, h2, h3⟩ := ps_mem hp
  obtain ⟨r, hr, e1, e2, e3⟩ := row_kn h1
  rw [Bool.and_eq_true]
  refine ⟨e1 ▸ (facts.2 r hr).okn, ?_⟩
  rw [h3]
  by_cases hw : Wound xs ∧ p.1 = "%take"
  · rw [hw.2, txOf_w hw.1]
    exact wound_facts.okt
  · rw [txOf_n hw, e2]
    exact (facts.2 r hr).okt
theorem ps_inn {xs : List PySem.Str} {p : PySem.Str × PySem.Str} (h : p ∈ psOf xs tab) : ∀ y ∈ (wordsOf p.2).drop 2, ¬ outerS y := by
  obtain ⟨h1, h2, h3⟩ := ps_mem h
  rw [h3]
  by_cases hw : Wound xs ∧ p.1 = "%take"
  · rw [hw.2, txOf_w hw.1]
    exact wound_inn
  · rw [txOf_n hw]
    obtain ⟨r, hr, e1, e2, e3⟩ := row_kn h1
    rw [e2]
    exact (facts.2 r hr).inn

theorem law_is_right_ok {prog : Program} {w : World} {A : Around} {s : Shared} {mg mb : PySem.Str → Option Value} {R : Result → Shared → Prop} {a k : Addr} {vs ks : List Value} {xs : List PySem.Str} (G : Gd w mg mb s.heap) (hd : A.depth < 600) (hu : A.units ≤ 800) (hh : A.handled = none)
    (hl : s.heap.IsList a vs.toArray) (hs : StrsAre vs xs) (hlen : vs.length ≤ 900)
    (hlk : s.heap.IsList k ks.toArray) (hsk : StrsAre ks names)
    (h : ∀ h' tk, Up s.heap h' → R (.ok (.ret (.bool true))) { s with heap := h', toks := tk }) :
    codeAny (model prog w) A (.call (.ref 350) ⟨[.ref a, .ref k], []⟩) R s := by
  obtain ⟨hA0, dep, frs, gus, uns⟩ := A
  dsimp only at hd hh hu
  subst hh
  have X := G.X
  have T := G.T
  have hkl : ks.length = 29 := hsk.len_eq
  refine call_fnC (f := 350) G (by k_is) (by k_is) (by show dep < 1000; omega) (BindsTo.of_eq rfl) (kinds fun n => rfl) (by decide) ?_ rfl rfl rfl
  intro h₁ tk cells F N Y
  obtain ⟨oc, hE, hc⟩ := CellsAre.one Y
  subst hE
  clear Y
  replace hc : oc.data = .cell none := hc
  replace F : Fr s.heap s.heap.objs.size h₁ (fun y => if y = "known" then some (.ref k) else if y = "asked" then some (.ref a) else none) := F
  (try dsimp only); (try k_unmd); (try k_fold)
  k_steps
  refine go (wpAny_call (prelude_for_ok (G.up F.keep) (by show dep + 1 < 700; omega) rfl (hl.at fun o e => F.keep _ _ e) hs hlen ?_))
  intro h₂ tk₂ d₁ us up₂ dn₂ hpl₂ hps
  obtain ⟨c₂, hq₂⟩ := hpl₂
  have N₂ := (news_new (o := PySem.W.listOf us.toArray c₂) F N up₂ dn₂ hq₂).1
  have F₂ := F.keeps up₂
  obtain ⟨pl, NP, hpt, hpr⟩ := pair_led F₂ hps
  have hplc : ∀ p ∈ pl, p.1 ≠ s.heap.objs.size + 1 := pl_ne NP hpt (N₂ _ (.tail _ (.head _))).1 (by intro xs n e; rw [hc] at e; cases e)
  have N₃ : News s.heap s.heap.objs.size h₂ ((d₁, PySem.W.listOf us.toArray c₂) :: (s.heap.objs.size + 1, oc) :: pl) := fun p hp => by
    rcases List.mem_cons.mp hp with rfl | hp
    · exact N₂ _ (.head _)
    · rcases List.mem_cons.mp hp with rfl | hp
      · exact N₂ _ (.tail _ (.head _))
      · exact NP p hp
  have ld₁ : @Ne Nat (s.heap.objs.size + 1) d₁ := fun e => by
    have h1 := (N _ (.head _)).1
    dsimp only at h1 dn₂
    rw [e, dn₂] at h1
    cases h1
  clear F N N₂ NP
  (try dsimp only)
  k_steps
  rename Fr _ _ _ _ => F
  rename News _ _ _ _ => N
  have hps₃ := hpr _ F.keep fun p hp => (N p (.tail _ (.tail _ hp))).1
  obtain ⟨kvs, hkv, hkn, hkx⟩ := pair_kv hps₃
  have hpl29 := ps_len xs
  have hkl29 : kvs.length ≤ 29 := by
    have := congrArg List.length hkn
    simp only [List.length_map] at this
    omega
  refine go (dict_pairsN rfl F N T.nolimit (N _ (.head _)).1 hkv (by omega) ?_)
  intro D h₄ tk₄ oD F₄ N₄ lD hlo hdd
  rw [merged_nil_of_nodup kvs (by rw [hkn]; exact ps_nodup xs)] at hdd
  clear F N
  k_lt lD
  (try dsimp only)
  k_steps
  rename Fr _ _ _ _ => F
  rename News _ _ _ _ => N
  rename _ = Data.cell (some (Value.ref D)) => hc₂
  rename Obj => oc₂
  refine go (ListComp_gen (cl := []) (by with_unfolding_all rfl) (by decide) rfl (by decide) ?_)
  k_steps
  have hul : us.length = (psOf xs tab).length := hps₃.len_eq
  refine comp_src (src_list rfl (N.isList (.tail _ (.head _)))) _ (fun i ys _ => StrsAre ys (((psOf xs tab).map fun p : PySem.Str × PySem.Str => p.1).take i)) F N (by rw [sizeLine_eq]; simp; omega) .nil (fun _ _ _ _ q _ => q) ?_ ?_
  · intro C i v ys h₃ tk mC own hi hv hJ FC NC
    have hps₅ := hpr _ FC.keep fun p hp => (NC p (List.mem_append_left _ (.tail _ (.tail _ (.tail _ hp))))).1
    obtain ⟨b, p, t, u, hp, rfl, hb⟩ := pair_at hps₅ hv
    refine asg_pair rfl ⟨_, hb, rfl, _, rfl⟩ rfl rfl rfl FC NC ?_
    clear FC NC
    intro h₄ tk₄ FC NC
    refine tests_nil ?_
    simp only [if_true]
    k_steps
    refine go (cend FC NC ?_)
    rw [take_snoc (x := p.1) (by rw [List.getElem?_map, hp]; rfl)]
    exact strs_snoc hJ
  intro Z₁ h₅ tk₅ zs₁ cz₁ F₅ N₅ lz₁ hz₁
  rw [take_all (by simp; omega)] at hz₁
  clear F N
  k_steps
  rename Fr _ _ _ _ => F
  rename News _ _ _ _ => N
  refine go (ListComp_gen (cl := [("texts", s.heap.objs.size + 1)]) (by with_unfolding_all rfl) (by decide) rfl (by decide) ?_)
  k_steps
  have hlk₅ := hlk.at fun o e => F.keep _ _ e
  refine comp_src (src_list rfl hlk₅) _ (fun i ys _ => StrsAre ys ((names.take i).filter fun y => (valueAt kvs y).isSome)) F N (by rw [sizeLine_eq]; simp; omega) .nil (fun _ _ _ _ q _ => q) ?_ ?_
  · intro C i v ys h₃ tk mC own hi hv hJ FC NC
    obtain ⟨y, t, hy, rfl⟩ := strs_at hsk hv
    refine asg_name rfl rfl FC NC ?_
    clear FC NC
    intro h₄ FC NC
    refine tests_one ?_
    k_steps
    refine go (kda_in (knd := PySem.strKind _ _) NC (.tail _ (.head _)) hdd hlo (strKind_is _ _ _ _) _ rfl ?_)
    k_steps
    · rename _ = true => hb
      exact go (cend FC NC (by rw [filt_t hy hb]; exact strs_snoc hJ))
    · rename _ = false => hb
      exact go (cend FC NC (by rw [filt_f hy hb]; exact hJ))
  intro Z₂ h₆ tk₆ zs₂ cz₂ F₆ N₆ lz₂ hz₂
  rw [take_all (by rw [List.size_toArray, hkl]; exact Nat.le_of_eq rfl)] at hz₂
  clear F N
  k_steps
  rename Fr _ _ _ _ => F
  rename News _ _ _ _ => N
  have hin : ∀ y, (valueAt kvs y).isSome = true ↔ TT xs y := fun y => by
    rw [valueAt_mem, hkn]
    constructor
    · intro q
      obtain ⟨p, hp, e⟩ := List.mem_map.mp q
      exact e ▸ (ps_mem hp).2.1
    · intro q
      exact List.mem_map.mpr ⟨_, ps_has q, rfl⟩
  have hee : ((psOf xs tab).map fun p : PySem.Str × PySem.Str => p.1) = names.filter fun y => (valueAt kvs y).isSome := by
    rw [ps_names]
    refine List.filter_congr fun y _ => ?_
    rw [Bool.eq_iff_iff, hin y]
    exact @decide_eq_true_iff _ (Classical.propDecidable _)
  refine go (ne_strs (N.isList (.tail _ (.head _))) (N.isList (.head _)) hz₁ hz₂ ?_ ?_ ?hu ?_)
  · rw [hee]; exact ok_of_names fun x hx => (List.mem_filter.mp hx).1
  · exact ok_of_names fun x hx => (List.mem_filter.mp hx).1
  case hu => show uns + 3 + 64 < 9900; omega
  rw [decide_eq_true hee]
  (try dsimp only [Bool.not_true])
  k_steps
  rename Fr _ _ _ _ => F
  rename News _ _ _ _ => N
  refine go (wpAny_call (law_reached_ok (tx := txOf xs) (G.up F.keep) (by show dep + 1 < 800; omega) (by show uns + 3 ≤ 900; omega) rfl (hl.at fun o e => F.keep _ _ e) hs hlen (hlk.at fun o e => F.keep _ _ e) hsk (Heap.dictOf_iff.mpr ⟨oD, (N _ (.tail _ (.tail _ (.head _)))).1, hdd⟩) hlo ?_ (fun n => (tx_len xs n).1) (fun n => (tx_len xs n).2) ?_ ?_))
  · intro n v hv
    obtain ⟨x, t, h1, h2⟩ := hkx n v (valueAt_in hv)
    have h3 := (ps_mem h1).2.2
    dsimp only at h3
    exact ⟨t, by rw [h2, h3]⟩
  · intro x hx
    exact (hin x).mpr (cl_iff.mp hx)
  intro h₇ tk₇ r₁ oR rvs up₇ dn₇ lor hoR hrd hrk hr29
  have N₇ := (news_new F N up₇ dn₇ hoR).1
  have F₇ := F.keeps up₇
  clear F N
  (try dsimp only)
  k_steps
  rename Fr _ _ _ _ => F
  rename News _ _ _ _ => N
  have hdR := Heap.dictOf_iff.mpr ⟨oR, (N _ (.head _)).1, hrd⟩
  refine go (sorted_dict rfl F N hdR lor (by omega) ?_)
  intro S₁ h₈ tk₈ sv₁ ss₁ sc₁ F₈ N₈ ls₁ hsv₁ hsp₁ hso₁
  clear F N hdR
  k_steps
  rename Fr _ _ _ _ => F
  rename News _ _ _ _ => N
  have hdT := Heap.dictOf_iff.mpr ⟨oD, (N _ (.tail _ (.tail _ (.tail _ (.tail _ (.head _)))))).1, hdd⟩
  refine go (sorted_dict rfl F N hdT hlo (by omega) ?_)
  intro S₂ h₉ tk₉ sv₂ ss₂ sc₂ F₉ N₉ ls₂ hsv₂ hsp₂ hso₂
  clear F N hdT
  k_steps
  rename Fr _ _ _ _ => F
  rename News _ _ _ _ => N
  have hndR : (rvs.map (·.1)).Nodup := let ⟨_, _, _, _, _, _, hn⟩ := hrd; hn
  have hndT : (kvs.map (·.1)).Nodup := let ⟨_, _, _, _, _, _, hn⟩ := hdd; hn
  have hrin : ∀ x, x ∈ rvs.map (·.1) ↔ TT xs x := fun x => (hrk x).trans cl_iff
  have hkin : ∀ x, x ∈ kvs.map (·.1) ↔ TT xs x := fun x => valueAt_mem.symm.trans (hin x)
  have hsame : ss₁ = ss₂ := sorted_same hso₁ hso₂ (hsp₁.trans ((perm_of_mem hndR hndT fun x => (hrin x).trans (hkin x).symm).trans hsp₂.symm))
  refine go (ne_strs (N.isList (.tail _ (.head _))) (N.isList (.head _)) hsv₁ hsv₂ ?_ ?_ ?hu ?_)
  · exact ok_of_names fun x hx => tt_names ((hrin x).mp (hsp₁.mem_iff.mp hx))
  · exact ok_of_names fun x hx => tt_names ((hkin x).mp (hsp₂.mem_iff.mp hx))
  case hu => show uns + 3 + 64 < 9900; omega
  rw [decide_eq_true hsame]
  (try dsimp only [Bool.not_true])
  k_steps
  rename Fr _ _ _ _ => F
  rename News _ _ _ _ => N
  have NB : News s.heap s.heap.objs.size _ ((r₁, oR) :: (D, oD) :: (d₁, PySem.W.listOf us.toArray c₂) :: (s.heap.objs.size + 1, oc₂) :: pl) := fun p hp => N p (by
    simp only [List.mem_cons] at hp ⊢
    rcases hp with h | h | h | h | h
    · exact .inr (.inr (.inl h))
    · exact .inr (.inr (.inr (.inr (.inr (.inl h)))))
    · exact .inr (.inr (.inr (.inr (.inr (.inr (.inl h))))))
    · exact .inr (.inr (.inr (.inr (.inr (.inr (.inr (.inl h)))))))
    · exact .inr (.inr (.inr (.inr (.inr (.inr (.inr (.inr h))))))))
  clear N
  refine go (ListComp_gen (cl := []) (by with_unfolding_all rfl) (by decide) rfl (by decide) ?_)
  k_steps
  refine comp_src (src_list rfl (NB.isList (.tail _ (.tail _ (.head _))))) _ (fun i ys _ => LSm.BoolsAre ys (List.replicate i true)) F NB (by rw [sizeLine_eq]; simp; omega) .nil (fun _ _ _ _ q _ => q) ?_ ?_
  · intro C i v ys h₃ tk mC own hi hv hJ FC NC
    have hps₅ := hpr _ FC.keep fun p hp => (NC p (List.mem_append_left _ (.tail _ (.tail _ (.tail _ (.tail _ hp)))))).1
    obtain ⟨b, p, t, u, hp, rfl, hb⟩ := pair_at hps₅ hv
    have hpm : p ∈ psOf xs tab := List.mem_of_getElem? hp
    have hp2 := (ps_mem hpm).2.2
    refine asg_pair rfl ⟨_, hb, rfl, _, rfl⟩ rfl rfl rfl FC NC ?_
    clear FC NC
    intro h₄ tk₄ FC NC
    refine tests_nil ?_
    simp only [if_true]
    k_steps
    refine go (wpAny_call (law_words_ok (G.up FC.keep) (by show dep + 1 < 900; omega) rfl (by rw [hp2]; exact (tx_len xs _).2) ?_))
    intro h₇ tk₇ d₇ ws up₇ dn₇ hpl₇ hus
    obtain ⟨c₇, hq₇⟩ := hpl₇
    have N₇ := (news_new (o := PySem.W.listOf ws.toArray c₇) FC NC up₇ dn₇ hq₇).1
    have F₇ := FC.keeps up₇
    clear FC NC
    (try dsimp only)
    iterate 5 (first | walk1 | (dsimp only; walk1))
    have hwl : ws.length ≤ 100 := by rw [hus.len_eq, hp2]; exact (tx_len xs _).1
    refine slice_temp F₇ N₇ (N₇.isList (.head _)) .none (.int 2 _) (pick_upto _ (by decide)) ?_ ?hs ?hz
    case hs => with_unfolding_all rfl
    case hz => rw [sizeLine_eq]; simp; omega
    intro D₈ h₈ F₈ N₈ l₈
    clear F₇ N₇
    k_steps
    rename Fr _ _ _ _ => FC
    rename News _ _ _ _ => NC
    have e2 := ps_hd hpm
    have hok : ((wordsOf p.2).take 2).all okS = true := by
      rw [e2]
      have h1 := List.all_eq_true.mp (ps_ok xs) p hpm
      rw [Bool.and_eq_true] at h1
      simp only [List.all_cons, List.all_nil, Bool.and_true, h1.1]
      decide +kernel
    refine go (eq_strs (NC.isList (.tail _ (.head _))) (NC.isList (.head _)) (strs_take hus 2) (.cons _ _ (.cons _ _ .nil)) hok (by rw [← e2]; exact hok) ?hu ?_)
    case hu => show uns + 3 + 64 < 9900; omega
    rw [decide_eq_true e2]
    k_steps
    refine go (cend2 FC NC (fun q hq => .tail _ (.tail _ (.tail _ hq))) (bools_rep hJ))
  intro Z₃ h₁₀ tk₁₀ zs₃ cz₃ F₁₀ N₁₀ lz₃ hz₃
  clear F NB
  k_steps
  rename Fr _ _ _ _ => F
  rename News _ _ _ _ => N
  refine go (LSm.all_bools F N rfl (N.isList (.head _)) hz₃ ?_)
  rw [all_rep]
  intro h₁₁ tk₁₁ F₁₁ N₁₁
  clear F N
  k_steps
  rename Fr _ _ _ _ => F
  rename News _ _ _ _ => N
  refine go (kda_in (knd := PySem.strKind _ _) N (.tail _ (.head _)) hrd lor (strKind_is _ _ _ _) _ rfl ?_)
  k_steps
  · rename _ = true => htk
    rename Fr _ _ _ _ => F
    rename News _ _ _ _ => N
    have htt : TT xs "%take" := (hrin _).mp (valueAt_mem.mp htk)
    obtain ⟨v, hv⟩ := Option.isSome_iff_exists.mp ((hin _).mpr htt)
    obtain ⟨x, t, hv1, rfl⟩ := hkx _ v (valueAt_in hv)
    have hv2 := (ps_mem hv1).2.2
    dsimp only at hv2
    subst hv2
    have hdT := Heap.dictOf_iff.mpr ⟨oD, (N _ (.tail _ (.tail _ (.head _)))).1, hdd⟩
    refine tail_any hdT.mapOf.typeIs slot_dict_getitem.lookup (wpAny_getItem_of (strKind_is _ _ _ _) hdT.mapOf hv ?_) (by with_unfolding_all rfl)
    k_steps
    refine go (wpAny_call (law_words_ok (G.up F.keep) (by show dep + 1 < 900; omega) rfl (tx_len xs _).2 ?_))
    intro h₁₃ tk₁₃ d₃ ws up₁₃ dn₁₃ hpl₁₃ hus
    obtain ⟨c₁₃, hq₁₃⟩ := hpl₁₃
    have N₁₃ := (news_new (o := PySem.W.listOf ws.toArray c₁₃) F N up₁₃ dn₁₃ hq₁₃).1
    have F₁₃ := F.keeps up₁₃
    clear F N hdT
    (try dsimp only)
    k_steps
    rename Fr _ _ _ _ => F
    rename News _ _ _ _ => N
    refine go (in_list_strs (N.isList (.head _)) hus ?_)
    have hbw : ((wordsOf (txOf xs "%take")).any fun x => x == Str.ofString "%wound-call/cc") = (valueAt rvs "%wind").isSome := by
      rw [Bool.eq_iff_iff, any_mem, wcc_iff, wound_iff htt, ← hrin, valueAt_mem]
    rw [hbw]
    have N' : News s.heap s.heap.objs.size _ ((Z₃, PySem.W.listOf zs₃.toArray cz₃) :: (r₁, oR) :: (D, oD) :: (d₁, PySem.W.listOf us.toArray c₂) :: (s.heap.objs.size + 1, oc₂) :: pl) := fun p hp => N p (.tail _ hp)
    clear N
    generalize hbg : (valueAt rvs "%wind").isSome = bw
    k_steps
    rename Fr _ _ _ _ => F
    rename News _ _ _ _ => N
    refine go (kda_in (knd := PySem.strKind _ _) N (.tail _ (.head _)) hrd lor (strKind_is _ _ _ _) bw hbg ?_)
    have hbb : (bw != bw) = false := by cases bw <;> rfl
    k_steps
    rename Fr _ _ _ _ => F
    rename News _ _ _ _ => N
    refine go (wpAny_call (prelude_for_ok (G.up F.keep) (by show dep + 1 < 700; omega) rfl (hl.at fun o e => F.keep _ _ e) hs hlen ?_))
    intro h₁₂ tk₁₂ d₂ us₂ up₁₂ dn₁₂ hpl₁₂ hps₂
    obtain ⟨c₁₂, hq₁₂⟩ := hpl₁₂
    have N₁₂ := (news_new (o := PySem.W.listOf us₂.toArray c₁₂) F N up₁₂ dn₁₂ hq₁₂).1
    have F₁₂ := F.keeps up₁₂
    clear F N
    (try dsimp only)
    k_steps
    rename Fr _ _ _ _ => F
    rename News _ _ _ _ => N
    have hpsA := hpr _ F.keep fun p hp => (N p (.tail _ (.tail _ (.tail _ (.tail _ (.tail _ (.tail _ hp))))))).1
    refine go (eq_pairs (N.isList (.head _)) (N.isList (.tail _ (.tail _ (.tail _ (.tail _ (.head _)))))) hps₂ hpsA (ps_ok xs) (ps_ok xs) ?hu ?_)
    case hu => show uns + 3 + 64 < 9900; omega
    rw [decide_eq_true (rfl : psOf xs tab = psOf xs tab)]
    k_steps
    rename Fr _ _ _ _ => F
    exact h _ _ F.keep
  · rename _ = false => htk
    rename Fr _ _ _ _ => F
    rename News _ _ _ _ => N
    refine go (wpAny_call (prelude_for_ok (G.up F.keep) (by show dep + 1 < 700; omega) rfl (hl.at fun o e => F.keep _ _ e) hs hlen ?_))
    intro h₁₂ tk₁₂ d₂ us₂ up₁₂ dn₁₂ hpl₁₂ hps₂
    obtain ⟨c₁₂, hq₁₂⟩ := hpl₁₂
    have N₁₂ := (news_new (o := PySem.W.listOf us₂.toArray c₁₂) F N up₁₂ dn₁₂ hq₁₂).1
    have F₁₂ := F.keeps up₁₂
    clear F N
    (try dsimp only)
    k_steps
    rename Fr _ _ _ _ => F
    rename News _ _ _ _ => N
    have hpsA := hpr _ F.keep fun p hp => (N p (.tail _ (.tail _ (.tail _ (.tail _ (.tail _ (.tail _ hp))))))).1
    refine go (eq_pairs (N.isList (.head _)) (N.isList (.tail _ (.tail _ (.tail _ (.tail _ (.head _)))))) hps₂ hpsA (ps_ok xs) (ps_ok xs) ?hu ?_)
    case hu => show uns + 3 + 64 < 9900; omega
    rw [decide_eq_true (rfl : psOf xs tab = psOf xs tab)]
    k_steps
    rename Fr _ _ _ _ => F
    exact h _ _ F.keep

theorem ps_nil : psOf [] tab = [] := by
  unfold psOf
  rw [List.map_eq_nil_iff, List.filter_eq_nil_iff]
  intro r _ hc
  have ht := chosen_iff.mp hc
  by_cases hw : Wound []
  · exact cl_nil hw.1
  · exact cl_nil ((tt_not hw).mp ht)
theorem main : PySem.Challenge.rw_pq1020_01.Holds := hd (by
  k_go0
  all_goals try k_fold
  rename_i scr vals asx hL ra9 w19 r09 hI hr9 hn63 hT9 K09 hD9 h₁ tk₁ F oO oN oD hcO hcN hcD N X0
  clear X0
  rename World => w
  rename Shared => s₁
  rename Top _ _ _ _ _ _ => T₀
  rename Frag.In _ _ => X
  have T := topRead_of T₀
  have G : Gd w _ _ _ := ⟨X, T⟩
  replace hcO : oO.data = .cell none := hcO
  replace hcN : oN.data = .cell none := hcN
  replace hcD : oD.data = .cell none := hcD
  have F' : Fr (Shared.heap _) _ _ (fun y => if y = "script" then some _ else none) := F
  clear F
  k_steps
  refine go (wpAny_call (law_deck_ok (G.up F'.keep) (by k_room) rfl (hL.at fun o e => F'.keep _ _ e) hI (by omega) ?_))
  intro h₂ tk₂ d b n₁ n₂ ws ms t₀ up₂ dn₂ bn₂ hbd hq₂ hb₂ hms hml hml1 hmsS
  (try dsimp only at dn₂ bn₂)
  have edO := ne_of_none (N _ (.head _)).1 dn₂
  have edN := ne_of_none (N _ (.tail _ (.head _))).1 dn₂
  have edD := ne_of_none (N _ (.tail _ (.tail _ (.head _)))).1 dn₂
  have ebO := ne_of_none (N _ (.head _)).1 bn₂
  have ebN := ne_of_none (N _ (.tail _ (.head _))).1 bn₂
  have ebD := ne_of_none (N _ (.tail _ (.tail _ (.head _)))).1 bn₂
  have edb : @Ne Nat b d := hbd
  have N₂ := news_cons (news_new F' N up₂ bn₂ hb₂).1 (news_new F' N up₂ dn₂ hq₂).1
  have F₂ := F'.keeps up₂
  clear F' N
  dsimp only at edO edN edD ebO ebN ebD
  (try dsimp only)
  k_steps
  refine go (wpAny_call (prelude_names_ok (G.up F₂.keep) (by k_room) rfl ?_))
  intro h₃ tk₃ kn kvs₀ up₃ dn₃ hpl₃ hkn
  obtain ⟨c₃, hq₃⟩ := hpl₃
  (try dsimp only at dn₃)
  have ekd := ne_of_none (N₂ _ (.head _)).1 dn₃
  have ekb := ne_of_none (N₂ _ (.tail _ (.head _))).1 dn₃
  have ekO := ne_of_none (N₂ _ (.tail _ (.tail _ (.head _)))).1 dn₃
  have ekN := ne_of_none (N₂ _ (.tail _ (.tail _ (.tail _ (.head _))))).1 dn₃
  have ekD := ne_of_none (N₂ _ (.tail _ (.tail _ (.tail _ (.tail _ (.head _)))))).1 dn₃
  dsimp only at ekd ekb ekO ekN ekD
  have N₃ := (news_new (o := PySem.W.listOf kvs₀.toArray c₃) F₂ N₂ up₃ dn₃ hq₃).1
  have F₃ := F₂.keeps up₃
  clear F₂ N₂
  have hknl : kvs₀.length = 29 := hkn.len_eq
  (try dsimp only)
  k_steps
  rename Fr _ _ _ _ => F
  rename News _ _ _ _ => N
  rename _ = Data.cell (some (Value.ref d)) => hD₂
  rename Obj => oD₂
  have NB : News _ _ _ [(kn, PySem.W.listOf kvs₀.toArray c₃), (d, PySem.W.listOf #[Value.ref b, Value.int 0 t₀] n₁), (b, PySem.W.listOf ws.toArray n₂), (_, oO), (_, oN), (_, oD₂)] := fun p hp => N p (.tail _ hp)
  clear N
  refine go (sorted_list F NB (NB.isList (.head _)) hkn (by omega) ?_)
  intro S₁ h₄ sv₁ ss₁ sc₁ F₄ N₄ ls₁ hsv₁ hsp₁ hso₁
  clear F NB
  k_lt ls₁
  k_steps
  rename Fr _ _ _ _ => F
  rename News _ _ _ _ => N
  refine go (ListComp_gen (cl := []) (by with_unfolding_all rfl) (by decide) rfl (by decide) ?_)
  k_steps
  refine comp_srcT (src_list rfl (N.isList (.tail _ (.head _)))) _ (fun i ys h => KvN h ys (names.take i)) F N (by rw [sizeLine_eq]; simp; omega) .nil (fun _ _ _ _ q k => q.tup fun b o e t => k b o e (.inr t)) ?_ ?_
  · intro C i v ys h₅ tk mC own hi hv hJ FC NC hk
    obtain ⟨y, t, hy, rfl⟩ := strs_at hkn hv
    refine asg_name rfl rfl FC NC ?_
    clear FC NC
    intro h₆ FC NC
    refine tests_nil ?_
    simp only [if_true]
    k_steps
    rename Fr _ _ _ _ => FC
    rename News _ _ _ _ => NC
    refine go (cend2 FC NC (fun p hp => .tail _ hp) ?_)
    rw [take_succ_get hy]
    exact (hJ.tup (hk _ _ _ FC NC fun p hp => .tail _ (List.mem_append_right _ hp))).snoc (NC _ (.head _)).1
  intro Z₁ h₅ tk₅ zs₁ cz₁ F₅ N₅ lz₁ hz₁
  rw [take_all (by rw [List.size_toArray, hknl]; exact Nat.le_of_eq rfl)] at hz₁
  clear F N
  k_lt lz₁
  k_steps
  rename Fr _ _ _ _ => F
  rename News _ _ _ _ => N
  obtain ⟨kv₁, hkv₁, hke₁⟩ := hz₁
  have hkl₁ : kv₁.length = 29 := by
    have := congrArg List.length hke₁
    rw [List.length_map] at this
    exact this
  refine go (dict_pairsN rfl F N T.nolimit (N _ (.head _)).1 hkv₁ (by omega) ?_)
  intro D₁ h₆ tk₆ oD₁ F₆ N₆ ld₁ hlo₁ hdd₁
  rw [merged_nil_of_nodup kv₁ (by rw [hke₁]; exact facts.1)] at hdd₁
  clear F N
  k_lt ld₁
  (try dsimp only)
  k_steps
  rename Fr _ _ _ _ => F
  rename News _ _ _ _ => N
  have hdT := Heap.dictOf_iff.mpr ⟨oD₁, (N _ (.head _)).1, hdd₁⟩
  refine go (sorted_dict rfl F N hdT hlo₁ (by omega) ?_)
  intro S₂ h₇ tk₇ sv₂ ss₂ sc₂ F₇ N₇ ls₂ hsv₂ hsp₂ hso₂
  clear F N hdT
  k_lt ls₂
  k_steps
  rename Fr _ _ _ _ => F
  rename News _ _ _ _ => N
  have hsame : ss₁ = ss₂ := sorted_same hso₁ hso₂ (hsp₁.trans ((List.Perm.of_eq hke₁.symm).trans hsp₂.symm))
  refine go (ne_strs (N.isList (.tail _ (.tail _ (.tail _ (.head _))))) (N.isList (.head _)) hsv₁ hsv₂ ?_ ?_ (by first | units_room | exact Nat.le_of_ble_eq_true rfl) ?_)
  · exact ok_of_names fun x hx => hsp₁.mem_iff.mp hx
  · exact ok_of_names fun x hx => hke₁ ▸ hsp₂.mem_iff.mp hx
  rw [decide_eq_true hsame]
  (try dsimp only [Bool.not_true])
  k_steps
  rename Fr _ _ _ _ => F
  rename News _ _ _ _ => N
  have NC : News _ _ _ [(kn, PySem.W.listOf kvs₀.toArray c₃), (d, PySem.W.listOf #[Value.ref b, Value.int 0 t₀] n₁), (b, PySem.W.listOf ws.toArray n₂), (_, oO), (_, oN), (_, oD₂)] := fun p hp => N p (.tail _ (.tail _ (.tail _ (.tail _ hp))))
  clear N ls₁ lz₁ ld₁ ls₂
  refine go (For_invVF F rfl rfl ?_)
  iterate 7 (first | walk1 | (dsimp only; walk1))
  rename IsRange _ _ _ _ _ _ _ _ => hR
  rename Fr _ _ _ _ => F₈
  rename News _ _ _ _ => N₈
  refine for_rangeo ["names", "asked"] (fun i nx => ∃ (k : Int) (t : Tok) (n : Nat) (o : Obj), 0 ≤ k ∧ k ≤ 10 * (i : Int) ∧ nx = [(kn, PySem.W.listOf kvs₀.toArray c₃), (d, PySem.W.listOf #[Value.ref b, Value.int k t] n), (b, PySem.W.listOf ws.toArray n₂), (_, oO), (_, o), (_, oD₂)] ∧ (∃ v, o.data = .cell v)) rfl F₈ N₈ hR rfl (n := 2) rfl ⟨0, _, _, _, Int.le_refl _, by simp, rfl, _, hcN⟩ ?_ ?_
  · have lI := fun (p : Addr × Obj) (hp : p ∈ _) => Heap.lt_size (N₈ p hp).1
    have lId := lI _ (.tail _ (.head _))
    have lIN := lI _ (.tail _ (.tail _ (.tail _ (.tail _ (.head _)))))
    clear lI F₈ N₈
    rintro i v u _ own h₉ tk₉ hi ⟨tv, rfl⟩ ⟨k, t, n, o, hk0, hk1, rfl, vN, hoN⟩ hnI hown F N
    have hocN : ∀ p ∈ own, p.1 ≠ s₁.heap.objs.size + 1 + 1 := fun p hp e => by
      rw [hown p hp] at e
      exact absurd lIN (e ▸ Nat.lt_irrefl _)
    have hocd : ∀ p ∈ own, p.1 ≠ d := fun p hp e => by
      rw [hown p hp] at e
      exact absurd lId (e ▸ Nat.lt_irrefl _)
    have N₁ : News _ _ _ ((kn, PySem.W.listOf kvs₀.toArray c₃) :: (d, PySem.W.listOf #[Value.ref b, Value.int k t] n) :: (b, PySem.W.listOf ws.toArray n₂) :: (_, oO) :: (_, o) :: (_, oD₂) :: own) := fun p hp => N p (by
      simp only [List.mem_append, List.mem_cons, List.not_mem_nil, or_false] at hp ⊢
      rcases hp with h | h | h | h | h | h | h
      · exact .inr (.inl h)
      · exact .inr (.inr (.inl h))
      · exact .inr (.inr (.inr (.inl h)))
      · exact .inr (.inr (.inr (.inr (.inl h))))
      · exact .inr (.inr (.inr (.inr (.inr (.inl h)))))
      · exact .inr (.inr (.inr (.inr (.inr (.inr h)))))
      · exact .inl h)
    clear N
    (try dsimp only)
    k_steps
    refine go (list_copyK F N₁ (N₁.isList (.head _)) ?_ (by rw [sizeLine_eq]; simp; omega))
    intro CP cc h₁₀ F₁₀ N₁₀ lcp
    clear F N₁
    k_lt lcp
    k_steps
    rename Fr _ _ _ _ => F
    rename News _ _ _ _ => N
    refine go (kmk_add_lit F N (N.isList (.tail _ (.head _))) (N.isList (.head _)) rfl ?_ (by rw [sizeLine_eq]; simp; omega))
    intro NL h₁₁ F₁₁ N₁₁ lnl
    clear F N
    k_lt lnl
    k_steps
    rename Fr _ _ _ _ => F
    rename News _ _ _ _ => N
    rename _ = Data.cell (some (Value.ref NL)) => hcN₂
    rename Obj => oN₂
    have hnv := strsAre_append hkn (.cons "car" tk₉ (.cons "x" (tk₉ + 1) (.cons "%map" (tk₉ + 1 + 1) (.cons "list" (tk₉ + 1 + 1 + 1) (.cons "" (tk₉ + 1 + 1 + 1 + 1) .nil)))))
    generalize kvs₀ ++ [_, _, _, _, _] = nv at N hnv
    have hnvl : nv.length = 34 := hnv.len_eq
    have hcell9 := (N _ (.tail _ (.tail _ (.tail _ (.tail _ (.head _)))))).1
    have NR : News _ _ _ ((NL, PySem.W.listOf nv.toArray 0) :: (kn, PySem.W.listOf kvs₀.toArray c₃) :: (b, PySem.W.listOf ws.toArray n₂) :: (_, oO) :: (_, oN₂) :: (_, oD₂) :: own) := fun p hp => N p (by
      simp only [List.mem_cons] at hp ⊢
      rcases hp with h | h | h | h | h | h | h
      · exact .inl h
      · exact .inr (.inr (.inr (.inl h)))
      · exact .inr (.inr (.inr (.inr (.inr (.inl h)))))
      · exact .inr (.inr (.inr (.inr (.inr (.inr (.inl h))))))
      · exact .inr (.inr (.inr (.inr (.inr (.inr (.inr (.inl h)))))))
      · exact .inr (.inr (.inr (.inr (.inr (.inr (.inr (.inr (.inl h))))))))
      · exact .inr (.inr (.inr (.inr (.inr (.inr (.inr (.inr (.inr h)))))))))
    have hd0 := (N (d, _) (.tail _ (.tail _ (.tail _ (.tail _ (.head _)))))).2.2
    have hdL := (N (d, _) (.tail _ (.tail _ (.tail _ (.tail _ (.head _)))))).2.1
    clear N
    refine go (wpAny_mono (Q := AskP s₁.heap s₁.heap.objs.size (fun y => if y = "turn" then some (.int i tv) else if [("names" : PySem.Str), "asked"].contains y then u y else if y = "known" then some (.ref kn) else if y = "script" then some (.ref scr) else none) ((NL, PySem.W.listOf nv.toArray 0) :: (kn, PySem.W.listOf kvs₀.toArray c₃) :: (b, PySem.W.listOf ws.toArray n₂) :: (s₁.heap.objs.size + 1 + 1 + 1, oO) :: (s₁.heap.objs.size + 1 + 1, oN₂) :: (s₁.heap.objs.size + 1, oD₂) :: own) d b k s₁) ?_ ?_ (fun _ _ x => x))
    · refine Assign_ListComp_gen (by rfl) (by with_unfolding_all rfl) (by decide) rfl (by decide) rfl rfl ?_
      k_steps
      have hms9 : ms.length ≤ 60 := hml
      have hi9 : (i : Int) ≤ 1 := by omega
      have hrest : ∀ p ∈ (NL, PySem.W.listOf nv.toArray 0) :: (kn, PySem.W.listOf kvs₀.toArray c₃) :: (b, PySem.W.listOf ws.toArray n₂) :: (s₁.heap.objs.size + 1 + 1 + 1, oO) :: (s₁.heap.objs.size + 1 + 1, oN₂) :: (s₁.heap.objs.size + 1, oD₂) :: own, p.1 ≠ d := by
        intro p hp e
        simp only [List.mem_cons] at hp
        rcases hp with rfl | rfl | rfl | rfl | rfl | rfl | hp
        · (have e : @Eq Nat _ _ := e); dsimp only at e; omega
        · (have e : @Eq Nat _ _ := e); dsimp only at e; omega
        · exact hbd e
        · (have e : @Eq Nat _ _ := e); dsimp only at e; omega
        · (have e : @Eq Nat _ _ := e); dsimp only at e; omega
        · (have e : @Eq Nat _ _ := e); dsimp only at e; omega
        · exact hocd p hp e
      refine go (wpAny_call (law_draw_ok (h₀ := s₁.heap) G F.keep hd0 (by k_room) rfl hcell9 (NR.isList (.tail _ (.tail _ (.head _)))) hbd hms (by omega) hml1 hmsS hk0 (by omega) (by decide) (by decide) ?_))
      intro h₁₂ tk₁₂ r tr tk' nd hkp₁₂ hd₁₂ hr0 hr7
      obtain ⟨F₁₂, N₁₂, NQ⟩ := draw_fn F NR hcell9 hd0 (Ne.symm hdL) hrest hkp₁₂ hd₁₂
      clear F NR NQ
      (try dsimp only)
      iterate 2 (first | walk1 | (dsimp only; walk1))
      rename IsRange _ _ _ _ _ _ _ _ => hR₂
      rename Fr _ _ _ _ => F
      rename News _ _ _ _ => N
      rename ∀ (b : Addr) (o : Obj), _ → _ => hup₂
      have hd₁₃ := hup₂ _ _ hd₁₂
      obtain ⟨hsm, hsz⟩ := range7 hr0 hr7
      have hdlt := Heap.lt_size hd₁₃
      refine comp_rangeA (L := s₁.heap.objs.size) _ (fun j ys h => ∃ (k' : Int) (t' : Tok) (n' : Nat) (xs' : List PySem.Str), h.get? d = some (PySem.W.listOf #[.ref b, .int k' t'] n') ∧ 0 ≤ k' ∧ k' ≤ k + 1 + (j : Int) ∧ StrsAre ys xs' ∧ xs'.length = j) rfl hR₂ hsm hsz (by rw [sizeLine_eq]; omega) rfl F N ?_ ?_ ?_ ?_
      · exact ⟨k + 1, tk', nd, [], hd₁₃, by omega, by simp, .nil, rfl⟩
      · rintro j ys h h' ⟨k', t', n', xs', a1, a2, a3, a4, a5⟩ hk
        exact ⟨k', t', n', xs', hk _ _ a1 hdL (.inl hdlt), a2, a3, a4, a5⟩
      · rintro C j v ys h₁₄ tk₁₄ mC own₂ hj ⟨tj, rfl⟩ ⟨k', t', n', xs', a1, a2, a3, a4, a5⟩ FC NC hown₂ hCc
        have hdC : d ≠ C := Ne.symm (hCc d hdlt)
        have NCd : News s₁.heap C h₁₄ ((d, PySem.W.listOf #[Value.ref b, Value.int k' t'] n') :: ((NL, PySem.W.listOf nv.toArray 0) :: (kn, PySem.W.listOf kvs₀.toArray c₃) :: (b, PySem.W.listOf ws.toArray n₂) :: (s₁.heap.objs.size + 1 + 1 + 1, oO) :: (s₁.heap.objs.size + 1 + 1, oN₂) :: (s₁.heap.objs.size + 1, oD₂) :: own ++ own₂)) := fun p hp => by
          rcases List.mem_cons.mp hp with rfl | hp
          · exact ⟨a1, hdC, hd0⟩
          · exact NC p hp
        have hrest₂ : ∀ p ∈ (NL, PySem.W.listOf nv.toArray 0) :: (kn, PySem.W.listOf kvs₀.toArray c₃) :: (b, PySem.W.listOf ws.toArray n₂) :: (s₁.heap.objs.size + 1 + 1 + 1, oO) :: (s₁.heap.objs.size + 1 + 1, oN₂) :: (s₁.heap.objs.size + 1, oD₂) :: own ++ own₂, p.1 ≠ d := by
          intro p hp
          rcases List.mem_append.mp hp with hp | hp
          · exact hrest p hp
          · exact hown₂ p hp d hdlt hdL
        refine asg_name rfl rfl FC NCd ?_
        clear FC NC NCd
        intro h₁₅ FC NC
        k_steps
        refine go (PySem.Calls.call_len_list (NC.isList (.tail _ (.head _))) (by simp; omega) ?_)
        k_steps
        rename Fr _ _ _ _ => FC
        rename News _ _ _ _ => NC
        have hj9 : (j : Int) ≤ 7 := by omega
        refine go (wpAny_call (law_draw_ok (h₀ := s₁.heap) G FC.keep hd0 (by k_room) rfl (NC _ (.head _)).1 (NC.isList (.tail _ (.tail _ (.tail _ (.head _))))) hbd hms (by omega) hml1 hmsS a2 (by omega) (by simp; omega) (by simp; omega) ?_))
        intro h₁₆ tk₁₆ r₂ tr₂ t₂ n₂' hkp₂ hd₂ hr₂ hr₂'
        obtain ⟨FD, ND, _⟩ := draw_fn FC (fun p hp => NC p (.tail _ hp)) (NC _ (.head _)).1 hd0 (Ne.symm hdC) hrest₂ hkp₂ hd₂
        clear FC NC
        (try dsimp only)
        have hr34 : r₂ < 34 := by
          have : nv.toArray.size = 34 := by simpa using hnvl
          omega
        have hr34' : r₂.toNat < nv.length := by omega
        obtain ⟨y, ty, hy1, hy2⟩ := strs_at hnv (i := r₂.toNat) (v := nv[r₂.toNat]) (by simp [hr34'])
        refine tail_any (ND.isList (.head _)).typeIs slot_list_getitem.lookup (wpAny_getItem_list (x := .str y ty) (ND.isList (.head _)) hr₂ (by omega) (by rw [← hy2]; simp [hr34']) ?_) (by with_unfolding_all rfl)
        exact cend FD ND ⟨k' + 1, t₂, n₂', xs' ++ [y], hd₂, by omega, by simp; omega, strs_snoc a4, by simp [a5]⟩
      · intro D h₁₄ tk₁₄ ys c FD ND lD hszD hJ
        obtain ⟨k', t', n', xs', a1, a2, a3, a4, a5⟩ := hJ
        exact ⟨rfl, h₁₄, tk₁₄, D, ys, xs', c, k', t', n', rfl, FD, ND, lD, a1, Nat.lt_trans hdlt hszD, a2, by omega, a4, by omega⟩
    rintro f s' ⟨rfl, h₁₄, tk₁₄, D, ys, ask, c, k', t', n', rfl, FD, ND, lD, a1, hdD, a2, a3, hask, hask7⟩
    have NE : News s₁.heap s₁.heap.objs.size h₁₄ ((D, PySem.W.listOf ys.toArray c) :: (kn, PySem.W.listOf kvs₀.toArray c₃) :: own ++ [(kn, PySem.W.listOf kvs₀.toArray c₃), (d, PySem.W.listOf #[Value.ref b, Value.int k' t'] n'), (b, PySem.W.listOf ws.toArray n₂), (s₁.heap.objs.size + 1 + 1 + 1, oO), (s₁.heap.objs.size + 1 + 1, oN₂), (s₁.heap.objs.size + 1, oD₂)]) := fun p hp => by
      simp only [List.mem_append, List.mem_cons, List.not_mem_nil, or_false, or_assoc] at hp
      rcases hp with hp | hp | hp | hp | hp | hp | hp | hp | hp
      · exact ND p (by simp [hp])
      · exact ND p (by simp [hp])
      · exact ND p (by simp [hp])
      · exact ND p (by simp [hp])
      · rw [hp]; exact ⟨a1, hdL, hd0⟩
      · exact ND p (by simp [hp])
      · exact ND p (by simp [hp])
      · exact ND p (by simp [hp])
      · exact ND p (by simp [hp])
    clear ND F NR
    (try dsimp only)
    k_steps
    rename Fr _ _ _ _ => F
    rename News _ _ _ _ => N
    refine go (wpAny_call (law_is_right_ok (G.up F.keep) (by k_room) (by show 4 + 3 ≤ 800; decide) rfl (N.isList (.head _)) hask (by have := hask.len_eq; omega) (N.isList (.tail _ (.head _))) hkn ?_))
    intro h₁₇ tk₁₇ up₁₇
    have F₁₇ := F.keeps up₁₇
    have N₁₇ := N.grown up₁₇
    clear F N
    (try dsimp only)
    k_steps
    refine go ⟨h₁₇, _, _, [(kn, PySem.W.listOf kvs₀.toArray c₃), (d, PySem.W.listOf #[Value.ref b, Value.int k' t'] n'), (b, PySem.W.listOf ws.toArray n₂), (s₁.heap.objs.size + 1 + 1 + 1, oO), (s₁.heap.objs.size + 1 + 1, oN₂), (s₁.heap.objs.size + 1, oD₂)], rfl, F₁₇, fun p hp => N₁₇ p ?_, ?_, ?_, ⟨k', t', n', oN₂, a2, by omega, rfl, _, hcN₂⟩⟩
    · rcases List.mem_append.mp hp with hp | hp
      · exact List.mem_append_left _ (.tail _ (.tail _ hp))
      · exact List.mem_append_right _ hp
    · intro p hp
      simp only [List.mem_cons, List.not_mem_nil, or_false] at hp
      rcases hp with rfl | rfl | rfl | rfl | rfl | rfl
      · exact hnI _ (.head _)
      · exact hnI (d, PySem.W.listOf #[Value.ref b, Value.int k t] n) (.tail _ (.head _))
      · exact hnI _ (.tail _ (.tail _ (.head _)))
      · exact hnI _ (.tail _ (.tail _ (.tail _ (.head _))))
      · exact hnI (_, o) (.tail _ (.tail _ (.tail _ (.tail _ (.head _)))))
      · exact hnI _ (.tail _ (.tail _ (.tail _ (.tail _ (.tail _ (.head _))))))
    · intro z hz hc
      have hza : z ≠ "asked" := by
        rintro rfl
        simp at hc
      simp only [hza, hz, if_false, hc, Bool.false_eq_true]
  rintro u _ h₂₀ tk₂₀ ⟨k, t, n, oN₃, hk0, hk1, rfl, vN, hoN⟩ F N
  clear hcN F₈ N₈
  (try dsimp only)
  k_steps
  refine go (For_invVF F rfl rfl ?_)
  iterate 1 (first | walk1 | (dsimp only; walk1))
  rename Fr _ _ _ _ => F
  rename News _ _ _ _ => N
  have hknL := (N _ (.head _)).2.1
  have lI2 := fun (p : Addr × Obj) (hp : p ∈ _) => Heap.lt_size (N p hp).1
  refine for_list [] (fun i nx => nx = [(kn, PySem.W.listOf kvs₀.toArray c₃), (d, PySem.W.listOf #[Value.ref b, Value.int k t] n), (b, PySem.W.listOf ws.toArray n₂), (s₁.heap.objs.size + 1 + 1 + 1, oO), (s₁.heap.objs.size + 1 + 1, oN₃), (s₁.heap.objs.size + 1, oD₂)]) rfl F N (N.isList (.head _)) hknL rfl ?_ ?_
  · clear F N
    rintro i v u₂ _ own h₂₁ tk₂₁ hi hv rfl hnI F N
    obtain ⟨y, ty, hy, rfl⟩ := strs_at hkn hv
    (try dsimp only)
    k_steps
    rename Fr _ _ _ _ => F
    rename News _ _ _ _ => N
    have hkm : (kn, PySem.W.listOf kvs₀.toArray c₃) ∈ own ++ [(kn, PySem.W.listOf kvs₀.toArray c₃), (d, PySem.W.listOf #[Value.ref b, Value.int k t] n), (b, PySem.W.listOf ws.toArray n₂), (s₁.heap.objs.size + 1 + 1 + 1, oO), (s₁.heap.objs.size + 1 + 1, oN₃), (s₁.heap.objs.size + 1, oD₂)] := List.mem_append_right _ (.head _)
    refine go (wpAny_call (law_is_right_ok (G.up F.keep) (by k_room) (by show 4 + 3 ≤ 800; decide) rfl (N.isList (.head _)) (.cons y ty .nil) (by simp) (N.isList (.tail _ hkm)) hkn ?_))
    intro h₂₃ tk₂₃ up₂₃
    have F₂₃ := F.keeps up₂₃
    have N₂₃ := N.grown up₂₃
    clear F N
    (try dsimp only)
    k_steps
    exact go ⟨h₂₃, _, _, _, rfl, F₂₃, fun p hp => N₂₃ p (.tail _ hp), hnI, fun z hz hc => by simp [hz], rfl⟩
  rintro u₂ _ h₂₂ tk₂₂ rfl F₂₂ N₂₂
  clear F N lI2
  (try dsimp only)
  k_steps
  refine go (list_copyK F₂₂ N₂₂ (N₂₂.isList (.head _)) ?_ (by rw [sizeLine_eq]; simp; omega))
  intro CP cc h₂₄ F₂₄ N₂₄ lcp
  clear F₂₂ N₂₂
  k_lt lcp
  k_steps
  refine go (wpAny_call (prelude_for_ok (G.up F₂₄.keep) (by k_room) rfl (N₂₄.isList (.head _)) hkn (by omega) ?_))
  intro h₂₅ tk₂₅ ev eus up₂₅ dn₂₅ hpl₂₅ hps
  obtain ⟨c₂₅, hq₂₅⟩ := hpl₂₅
  have NBs : News s₁.heap _ h₂₄ [(kn, PySem.W.listOf kvs₀.toArray c₃), (s₁.heap.objs.size + 1 + 1 + 1, oO)] := fun p hp => N₂₄ p (by
    simp only [List.mem_cons, List.not_mem_nil, or_false] at hp ⊢
    rcases hp with h | h
    · exact .inr (.inl h)
    · exact .inr (.inr (.inr (.inr (.inl h)))))
  have N₂₅ := (news_new (o := PySem.W.listOf eus.toArray c₂₅) F₂₄ NBs up₂₅ dn₂₅ hq₂₅).1
  have F₂₅ := F₂₄.keeps up₂₅
  obtain ⟨pl, NP, hpt, hpr⟩ := pair_led F₂₅ hps
  (try dsimp only at dn₂₅)
  have eev := ne_of_none (NBs _ (.tail _ (.head _))).1 dn₂₅
  dsimp only at eev
  have hplO : ∀ p ∈ pl, p.1 ≠ s₁.heap.objs.size + 1 + 1 + 1 := pl_ne NP hpt (N₂₅ _ (.tail _ (.tail _ (.head _)))).1 (by intro xs n e; rw [hcO] at e; cases e)
  have N₂₆ := news_app N₂₅ NP
  clear F₂₄ N₂₄ NBs N₂₅ NP
  (try dsimp only)
  k_steps
  rename Fr _ _ _ _ => F
  rename News _ _ _ _ => N
  simp only [List.cons_append, List.nil_append] at N
  refine go (list_copyK F N (N.isList (.tail _ (.head _))) ?_ (by rw [sizeLine_eq]; simp; omega))
  intro CQ cq h₂₇ F₂₇ N₂₇ lcq
  clear F N
  k_lt lcq
  k_steps
  refine go (wpAny_call (law_is_right_ok (G.up F₂₇.keep) (by k_room) (by show 4 + 3 ≤ 800; decide) rfl (N₂₇.isList (.head _)) hkn (by omega) (N₂₇.isList (.tail _ (.tail _ (.head _)))) hkn ?_))
  intro h₂₈ tk₂₈ up₂₈
  have F₂₈ := F₂₇.keeps up₂₈
  have N₂₈ := N₂₇.grown up₂₈
  clear F₂₇ N₂₇
  (try dsimp only)
  k_steps
  rename Fr _ _ _ _ => F
  rename News _ _ _ _ => N
  refine go (wpAny_call (prelude_for_ok (xs := []) (vs := []) (G.up F.keep) (by k_room) rfl (N.isList (.head _)) .nil (by simp) ?_))
  intro h₂₉ tk₂₉ d₂₉ us₂₉ up₂₉ dn₂₉ hpl₂₉ hps₂₉
  rw [ps_nil] at hps₂₉
  have hus₂₉ : us₂₉ = [] := by
    have := hps₂₉.len_eq
    simpa using this
  subst hus₂₉
  obtain ⟨c₂₉, hq₂₉⟩ := hpl₂₉
  have N₂₉ := (news_new (o := PySem.W.listOf (List.toArray []) c₂₉) F N up₂₉ dn₂₉ hq₂₉).1
  have F₂₉ := F.keeps up₂₉
  clear F N
  (try dsimp only)
  k_steps
  rename Fr _ _ _ _ => F
  rename News _ _ _ _ => N
  refine go (ne_strs (N.isList (.tail _ (.head _))) (N.isList (.head _)) .nil .nil rfl rfl (by first | units_room | exact Nat.le_of_ble_eq_true rfl) ?_)
  (try dsimp only [decide_true, Bool.not_true])
  have N₃₀ : News s₁.heap s₁.heap.objs.size _ ((ev, PySem.W.listOf eus.toArray c₂₅) :: (kn, PySem.W.listOf kvs₀.toArray c₃) :: (s₁.heap.objs.size + 1 + 1 + 1, oO) :: pl) := fun p hp => N p (.tail _ (.tail _ (.tail _ (.tail _ hp))))
  clear N
  k_steps
  rename Fr _ _ _ _ => F
  rename News _ _ _ _ => N
  refine go (ListComp_gen (by with_unfolding_all rfl) (by decide) rfl (by decide) ?_)
  k_steps
  refine go (wpAny_call (how_many_ok (G.up F.keep) (by k_room) rfl ?_))
  intro h₃₁ tk₃₁ t₃₁ up₃₁
  have F₃₁ := F.keeps up₃₁
  have N₃₁ := N.grown up₃₁
  clear F N
  (try dsimp only)
  iterate 2 (first | walk1 | (dsimp only; walk1))
  rename IsRange _ _ _ _ _ _ _ _ => hR₃
  rename Fr _ _ _ _ => F
  rename News _ _ _ _ => N
  refine comp_srcT (src_range rfl hR₃ (by decide +kernel) (n := 192) (by decide +kernel)) _ (fun i ys h => KvN h ys (primNames.take i)) F N (by rw [sizeLine_eq]; decide) .nil (fun _ _ _ _ q k => q.tup fun b o e t => k b o e (.inr t)) ?_ ?_
  · rintro C i v ys h₅ tk mC own hi ⟨ti, rfl⟩ hJ FC NC hk
    have hy : primNames[i]? = some (primNames[i]'hi) := List.getElem?_eq_getElem _
    generalize primNames[i]'hi = y at hy
    refine asg_name rfl rfl FC NC ?_
    clear FC NC
    intro h₆ FC NC
    refine tests_nil ?_
    simp only [if_true]
    k_steps
    refine go (wpAny_call (name_of_ok (G.up FC.keep) (by k_room) rfl hy ?_))
    intro h₇ tk₇ t₇ up₇
    have F₇ := FC.keeps up₇
    have N₇ := NC.grown up₇
    clear FC NC
    (try dsimp only)
    k_steps
    rename Fr _ _ _ _ => FC
    rename News _ _ _ _ => NC
    refine go (cend2 FC NC (fun p hp => .tail _ hp) ?_)
    rw [take_succ_get hy]
    exact (hJ.tup (hk _ _ _ FC NC fun p hp => .tail _ (List.mem_append_right _ hp))).snoc (NC _ (.head _)).1
  intro Z₂ h₃₂ tk₃₂ zs₂ cz₂ F₃₂ N₃₂ lz₂ hz₂
  rw [take_all (Nat.le_of_eq prim_len)] at hz₂
  obtain ⟨tl, NT, htt, htr⟩ := kv_led F₃₂ hz₂
  have htlO : ∀ p ∈ tl, p.1 ≠ s₁.heap.objs.size + 1 + 1 + 1 := tl_ne NT htt (N₃₂ _ (.tail _ (.tail _ (.tail _ (.head _))))).1 (by intro xs n e; rw [hcO] at e; cases e)
  have N₃₃ := news_app N₃₂ NT
  simp only [List.cons_append] at N₃₃
  clear F N N₃₂ NT lz₂
  (try dsimp only)
  k_steps
  rename Fr _ _ _ _ => F
  rename News _ _ _ _ => N
  refine go (ListComp_gen (by with_unfolding_all rfl) (by decide) rfl (by decide) ?_)
  k_steps
  refine go (wpAny_call (control_names_ok (G.up F.keep) (by k_room) rfl ?_))
  intro h₃₄ tk₃₄ cn ctv up₃₄ dn₃₄ hpl₃₄ hct
  obtain ⟨c₃₄, hq₃₄⟩ := hpl₃₄
  have N₃₄ := (news_new (o := PySem.W.listOf ctv.toArray c₃₄) F N up₃₄ dn₃₄ hq₃₄).1
  have F₃₄ := F.keeps up₃₄
  have hctl : ctv.length = 4 := hct.len_eq
  clear F N
  (try dsimp only)
  k_steps
  rename Fr _ _ _ _ => F
  rename News _ _ _ _ => N
  refine go (kmk_add_lit F N (N.isList (.head _)) (N.isList (.tail _ (.tail _ (.tail _ (.head _))))) rfl ?_ (by rw [sizeLine_eq]; simp; omega))
  intro M h₃₅ F₃₅ N₃₅ lM
  clear F N lM
  have hmv : StrsAre (ctv ++ kvs₀) (ctlNames ++ names) := strsAre_append hct hkn
  have NM : News s₁.heap s₁.heap.objs.size _ ((M, PySem.W.listOf (ctv ++ kvs₀).toArray 0) :: (Z₂, PySem.W.listOf zs₂.toArray cz₂) :: (ev, PySem.W.listOf eus.toArray c₂₅) :: (kn, PySem.W.listOf kvs₀.toArray c₃) :: (s₁.heap.objs.size + 1 + 1 + 1, oO) :: (pl ++ tl)) := fun p hp => by
    rcases List.mem_cons.mp hp with rfl | hp
    · exact N₃₅ _ (.head _)
    · exact N₃₅ p (.tail _ (.tail _ hp))
  clear N₃₅
  k_steps
  rename Fr _ _ _ _ => F
  refine comp_srcT (src_list rfl (NM.isList (.head _))) _ (fun i ys h => KvN h ys ((ctlNames ++ names).take i)) F NM (by rw [sizeLine_eq]; simp; omega) .nil (fun _ _ _ _ q k => q.tup fun b o e t => k b o e (.inr t)) ?_ ?_
  · intro C i v ys h₅ tk mC own hi hv hJ FC NC hk
    obtain ⟨y, t, hy, rfl⟩ := strs_at hmv hv
    refine asg_name rfl rfl FC NC ?_
    clear FC NC
    intro h₆ FC NC
    refine tests_nil ?_
    simp only [if_true]
    k_steps
    rename Fr _ _ _ _ => FC
    rename News _ _ _ _ => NC
    refine go (cend2 FC NC (fun p hp => .tail _ hp) ?_)
    rw [take_succ_get hy]
    exact (hJ.tup (hk _ _ _ FC NC fun p hp => .tail _ (List.mem_append_right _ hp))).snoc (NC _ (.head _)).1
  intro Z₃ h₃₆ tk₃₆ zs₃ cz₃ F₃₆ N₃₆ lz₃ hz₃
  rw [take_all (by rw [List.size_toArray, hmv.len_eq]; exact Nat.le_refl _)] at hz₃
  obtain ⟨tl₃, NT₃, htt₃, htr₃⟩ := kv_led F₃₆ hz₃
  have htlO₃ : ∀ p ∈ tl₃, p.1 ≠ s₁.heap.objs.size + 1 + 1 + 1 := tl_ne NT₃ htt₃ (N₃₆ _ (.tail _ (.tail _ (.tail _ (.tail _ (.tail _ (.head _))))))).1 (by intro xs n e; rw [hcO] at e; cases e)
  have N₃₇ : News s₁.heap s₁.heap.objs.size h₃₆ ((Z₃, PySem.W.listOf zs₃.toArray cz₃) :: (Z₂, PySem.W.listOf zs₂.toArray cz₂) :: (ev, PySem.W.listOf eus.toArray c₂₅) :: (s₁.heap.objs.size + 1 + 1 + 1, oO) :: (pl ++ (tl ++ tl₃))) := fun p hp => by
    simp only [List.mem_cons, List.mem_append] at hp
    rcases hp with h | h | h | h | h | h | h
    · exact N₃₆ p (by simp [h])
    · exact N₃₆ p (by simp [h])
    · exact N₃₆ p (by simp [h])
    · exact N₃₆ p (by simp [h])
    · exact N₃₆ p (by simp [h])
    · exact N₃₆ p (by simp [h])
    · exact NT₃ p h
  clear F NM N₃₆ NT₃ lz₃
  (try dsimp only)
  k_steps
  have hzl₂ := hz₂.len
  have hzl₃ := hz₃.len
  have hpl192 : primNames.length = 192 := prim_len
  have hcn33 : (ctlNames ++ names).length = 33 := rfl
  refine go (kmk_add_lit (zs := zs₂ ++ zs₃) F₃₆ N₃₇ (N₃₇.isList (.tail _ (.head _))) (N₃₇.isList (.head _)) rfl ?_ (by rw [sizeLine_eq]; simp; omega))
  intro P₄ h₃₈ F₃₈ N₃₈ l₃₈
  clear F₃₆ N₃₇ l₃₈
  k_steps
  rename Fr _ _ _ _ => F
  rename News _ _ _ _ => N
  have hkvn := (htr _ F.keep fun p hp => (N p (by simp [hp])).1).app (htr₃ _ F.keep fun p hp => (N p (by simp [hp])).1)
  obtain ⟨kv₄, hkv₄, hke₄⟩ := hkvn
  have hkl₄ : kv₄.length = 225 := by
    have := congrArg List.length hke₄
    rw [List.length_map, List.length_append, hpl192, hcn33] at this
    exact this
  refine go (dict_pairsN rfl F N T.nolimit (N _ (.head _)).1 hkv₄ (by omega) ?_)
  intro D₄ h₃₉ tk₃₉ oD₄ F₃₉ N₃₉ l₃₉ hlo₄ hdd₄
  have lDO : @LT.lt Nat _ (s₁.heap.objs.size + 1 + 1 + 1) D₄ := l₃₉ (s₁.heap.objs.size + 1 + 1 + 1, oO) (by simp)
  have hml₄ := merged_len kv₄
  have hmk₄ : ∀ x, x ∈ (merged [] kv₄).map (·.1) ↔ x ∈ allNames := fun x => by
    rw [merged_keys, hke₄]
    simp [allNames]
  generalize hmg : merged [] kv₄ = kvd at hdd₄ hml₄ hmk₄
  have N₄₀ : News s₁.heap s₁.heap.objs.size h₃₉ ((D₄, oD₄) :: (ev, PySem.W.listOf eus.toArray c₂₅) :: (s₁.heap.objs.size + 1 + 1 + 1, oO) :: pl) := fun p hp => N₃₉ p (by
    simp only [List.mem_cons, List.mem_append] at hp ⊢
    rcases hp with h | h | h | h
    · exact .inl h
    · exact .inr (.inr (.inr (.inr (.inl h))))
    · exact .inr (.inr (.inr (.inr (.inr (.inl h)))))
    · exact .inr (.inr (.inr (.inr (.inr (.inr (.inl h)))))))
  clear F N N₃₉ l₃₉ htr htr₃ htlO htlO₃ htt htt₃ hz₂ hz₃
  (try dsimp only)
  k_steps
  rename Fr _ _ _ _ => F
  rename News _ _ _ _ => N
  rename _ = Data.cell (some (Value.ref D₄)) => hcO₂
  rename Obj => oO₂
  refine go (ListComp_gen (by with_unfolding_all rfl) (by decide) rfl (by decide) ?_)
  k_steps
  have hdT := Heap.dictOf_iff.mpr ⟨oD₄, (N _ (.head _)).1, hdd₄⟩
  refine comp_srcT (src_dict rfl hlo₄ hdT) _ (fun i ys h => KvN h ys (((kvd.map fun p : PySem.Str × Value => p.1).take i).filter fun y => !pct (strL y))) F N (by rw [sizeLine_eq]; omega) .nil (fun _ _ _ _ q k => q.tup fun b o e t => k b o e (.inr t)) ?_ ?_
  · rintro C i v ys h₅ tk mC own hi ⟨y, xv, hy, hvk⟩ hJ FC NC hk
    obtain ⟨t, rfl⟩ := Value.isStrOf_shape hvk
    refine asg_name rfl rfl FC NC ?_
    clear FC NC
    intro h₆ FC NC
    refine tests_one ?_
    iterate 8 (first | walk1 | (dsimp only; walk1))
    have hyn : y ∈ allNames := (hmk₄ y).mp (List.mem_map.mpr ⟨_, List.mem_of_getElem? hy, rfl⟩)
    have hps := pct_slice y
    refine slice_strN_ns FC NC ?_ ?hs ?ht ?hz
    case hs => with_unfolding_all rfl
    case ht => intro _; with_unfolding_all rfl
    case hz => have := all_len y hyn; rw [sizeLine_eq]; omega
    clear FC NC
    intro h₇ t₇ k₇ FC NC
    generalize Txt.slice y none (some 1) = sl at hps
    have hyk : (kvd.map fun p : PySem.Str × Value => p.1)[i]? = some y := by rw [List.getElem?_map, hy]; rfl
    k_steps
    · rename (sl != _) = true => hb
      rename Fr _ _ _ _ => FC
      rename News _ _ _ _ => NC
      have hbp : (!pct (strL y)) = true := by rw [← hps]; exact hb
      refine go (cend2 FC NC (fun p hp => .tail _ hp) ?_)
      rw [filt_t (p := fun y => !pct (strL y)) hyk hbp]
      exact (hJ.tup (hk _ _ _ FC NC fun p hp => .tail _ (List.mem_append_right _ hp))).snoc (NC _ (.head _)).1
    · rename (sl != _) = false => hb
      have hbp : (!pct (strL y)) = false := by rw [← hps]; exact hb
      refine go (cend FC NC ?_)
      rw [filt_f (p := fun y => !pct (strL y)) hyk hbp]
      exact hJ.tup (hk _ _ _ FC NC fun p hp => List.mem_append_right _ hp)
  intro Z₅ h₄₁ tk₄₁ zs₅ cz₅ F₄₁ N₄₁ lz₅ hz₅
  rw [take_all (by rw [List.length_map]; exact Nat.le_refl _)] at hz₅
  clear F N
  k_lt lz₅
  k_steps
  obtain ⟨kv₅, hkv₅, hke₅⟩ := hz₅
  have hkl₅ : kv₅.length ≤ 225 := by
    have := congrArg List.length hke₅
    rw [List.length_map] at this
    rw [this]
    refine Nat.le_trans (List.length_filter_le _ _) ?_
    rw [List.length_map]
    omega
  refine go (dict_pairsN rfl F₄₁ N₄₁ T.nolimit (N₄₁ _ (.head _)).1 hkv₅ (by omega) ?_)
  intro D₅ h₄₂ tk₄₂ oD₅ F₄₂ N₄₂ l₄₂ hlo₅ hdd₅
  have lDO₅ : @LT.lt Nat _ (s₁.heap.objs.size + 1 + 1 + 1) D₅ := l₄₂ (s₁.heap.objs.size + 1 + 1 + 1, oO₂) (by simp)
  have hmk₅ : ∀ x, x ∈ (merged [] kv₅).map (·.1) ↔ outerS x := fun x => by
    rw [merged_keys, hke₅]
    simp only [List.map_nil, List.not_mem_nil, false_or, List.mem_filter, hmk₄, Bool.not_eq_true']
    exact Iff.rfl
  generalize hmg₅ : merged [] kv₅ = kvo at hdd₅ hmk₅
  have N₄₃ : News s₁.heap s₁.heap.objs.size h₄₂ ((D₅, oD₅) :: (ev, PySem.W.listOf eus.toArray c₂₅) :: (s₁.heap.objs.size + 1 + 1 + 1, oO₂) :: pl) := fun p hp => N₄₂ p (by
    simp only [List.mem_cons] at hp ⊢
    rcases hp with h | h | h | h
    · exact .inl h
    · exact .inr (.inr (.inr (.inl h)))
    · exact .inr (.inr (.inr (.inr (.inl h))))
    · exact .inr (.inr (.inr (.inr (.inr h)))))
  clear F₄₁ N₄₁ N₄₂ l₄₂ lz₅
  (try dsimp only)
  k_steps
  rename Fr _ _ _ _ => F
  rename News _ _ _ _ => N
  rename _ = Data.cell (some (Value.ref D₅)) => hcO₃
  rename Obj => oO₃
  refine go (ListComp_gen (by with_unfolding_all rfl) (by decide) rfl (by decide) ?_)
  k_steps
  have hel : eus.length ≤ 29 := by
    have := (hpr _ F.keep fun p hp => (N p (.tail _ (.tail _ (.tail _ hp)))).1).len_eq
    have := ps_len names
    omega
  refine comp_src (src_list rfl (N.isList (.tail _ (.head _)))) _ (fun i ys _ => LSm.BoolsAre ys (List.replicate i true)) F N (by rw [sizeLine_eq]; simp; omega) .nil (fun _ _ _ _ q _ => q) ?_ ?_
  · intro C i v ys h₃ tk mC own hi hv hJ FC NC
    have hps₅ := hpr _ FC.keep fun p hp => (NC p (List.mem_append_left _ (.tail _ (.tail _ (.tail _ hp))))).1
    obtain ⟨ba, p, t, u, hp, rfl, hb⟩ := pair_at hps₅ hv
    have hpm : p ∈ psOf names tab := List.mem_of_getElem? hp
    have hp2 := (ps_mem hpm).2.2
    refine asg_pair rfl ⟨_, hb, rfl, _, rfl⟩ rfl rfl rfl FC NC ?_
    clear FC NC
    intro h₄ tk₄ FC NC
    refine tests_nil ?_
    simp only [if_true]
    k_steps
    refine go (wpAny_call (law_is_inner_ok (G.up FC.keep) (by k_room) (by show 4 + 3 ≤ 900; decide) rfl (by rw [hp2]; exact (tx_len names _).2) (by rw [hp2]; exact (tx_len names _).1) (Heap.dictOf_iff.mpr ⟨oD₅, (NC _ (.head _)).1, hdd₅⟩) hlo₅ ?_ ?_))
    · intro z hz
      cases hq : (valueAt kvo z).isSome with
      | false => rfl
      | true => exact absurd ((hmk₅ z).mp (valueAt_mem.mp hq)) (ps_inn hpm z hz)
    intro h₅ tk₅ up₅
    have F₅ := FC.keeps up₅
    have N₅ := NC.grown up₅
    clear FC NC
    (try dsimp only)
    k_steps
    exact go (cend F₅ N₅ (bools_rep hJ))
  intro Z₆ h₄₄ tk₄₄ zs₆ cz₆ F₄₄ N₄₄ lz₆ hz₆
  clear F N
  k_steps
  rename Fr _ _ _ _ => F
  rename News _ _ _ _ => N
  refine go (LSm.all_bools F N rfl (N.isList (.head _)) hz₆ ?_)
  rw [all_rep]
  intro h₄₅ tk₄₅ F₄₅ N₄₅
  clear F N
  k_steps)

end Mine

theorem PySem.Challenge.cw_pq1020_01_holds : PySem.Challenge.rw_pq1020_01.Holds :=
  Mine.main
