import PyProof.Rows.All
import Wide.All
import OpenK.AllK
import Wide.FinOn
import PySem.Challenge.RW_np0075_01
open PySem PySem.W PyProof.Rows
set_option Elab.async false
set_option compiler.extract_closed false
namespace Mine
section
variable {w : World} {n₀ : Nat} {ann : Option Value}
def topRunG (okf : Thread → Bool) (stf : SharedT → Thread → Option (SharedT × Thread)) : Nat → SharedT → Thread → Option SharedT
  | 0, _, _ => none
  | n + 1, s, t => match through t with
    | true => some s
    | false => match okf t with
      | false => none
      | true => match stf s t with
        | some r => topRunG okf stf n r.1 r.2
        | none => none
theorem topRun_ofG {tb : String → Option Builtin} {p : Program} : ∀ (n : Nat) (s : SharedT) (t : Thread) (s' : SharedT), topRunG (stepOk n₀ ann) (stepT (denote tb) p w) n s t = some s' → topRun tb p w n₀ ann n s.abs t = some s'.abs
  | 0, _, _, _, h => by cases h
  | n + 1, s, t, s', h => by
    unfold topRunG at h
    unfold topRun
    cases he : through t with
    | true => rw [he] at h; cases h; rfl
    | false =>
      rw [he] at h
      cases hk : stepOk n₀ ann t with
      | false => rw [hk] at h; cases h
      | true =>
        rw [hk] at h
        cases hs : stepT (denote tb) p w s t with
        | none => rw [hs] at h; cases h
        | some r => obtain ⟨s₂, t₂⟩ := r; rw [hs] at h; rw [stepT_spec hs]; exact topRun_ofG n _ _ _ h
end
def putAll : List Obj → Nat → BT → BT
  | [], _, t => t
  | o :: os, i, t => putAll os (i + 1) (t.ins i o)
noncomputable def bootT (P : Params) : BT := putAll (boot_heap P).objs.toList 0 .nil
theorem bootT_abs : ∀ P, absHeap (bootT P) 11 (boot_heap P).life = boot_heap P := by intro P; kernel_rfl
noncomputable def S0T (w : World) (os : OsState) : SharedT := ⟨bootT w.params, 11, (boot_heap w.params).life, #[], boot_drawn, boot_toks, os⟩
theorem size0 : ∀ w : World, ((boot_heap w.params).isNs mainGlobals && (#[] : Array GenState).size == 0, (boot_heap w.params).objs.size, (boot_heap w.params).nsMap mainGlobals "__annotations__") = (true, 11, some (.ref 6)) := by intro w; kernel_rfl
theorem left_run {p q : Program} {loose : List Str} {Xt : Shared → Bool} {α : Type} {Yf : Shared → α} {Ya : World → α} {N : Nat} {mods : List Str} (hm : importedModules p.main.body = mods) {run : World → OsState → Option SharedT}
    (opens : ∀ w : World, (fencedOpening treeTable p w N).map (fun s => (s.heap, s.gens, s.drawn, s.toks)) = some (boot_heap w.params, Array.mk [], boot_drawn, boot_toks))
    (hr : ∀ w os, run w os = topRunG (stepOk 11 (some (.ref 6))) (stepT (denote treeTable) p w) N (S0T w os) (topStub p))
    (seen : ∀ w : World, (fun os => (run w os).map fun sT => (staticsOk mods (boot_heap w.params) sT.abs.heap && namesBound p sT.abs.heap && gensDone sT.abs && laidKept (boot_heap w.params) sT.abs.heap,
      openSeen q loose mods Xt true sT.abs)) = fun _ => some (true, openGood q loose))
    (obs : ∀ w : World, (fun os => (run w os).map fun sT => Yf sT.abs) = fun _ => some (Ya w)) : LeftO p q loose Xt Yf Ya N true := fun w => by
  subst hm
  obtain ⟨⟨h, gs, d, k, os⟩, e, e'⟩ := Option.map_eq_some_iff.mp (opens w)
  obtain ⟨rfl, rfl, rfl, rfl⟩ : h = boot_heap w.params ∧ gs = #[] ∧ d = boot_drawn ∧ k = boot_toks := by simpa using e'
  obtain ⟨z1, z2, z3⟩ : _ ∧ _ ∧ _ := by simpa only [Prod.mk.injEq] using size0 w
  obtain ⟨sT, r0, l⟩ := Option.map_eq_some_iff.mp (congrFun (seen w) os)
  obtain ⟨l1, l2⟩ : _ ∧ _ := by simpa only [Prod.mk.injEq] using l
  have l3 : Yf sT.abs = Ya w := by
    have := congrFun (obs w) os
    rw [r0] at this
    exact Option.some.inj this
  rw [hr] at r0
  have r := topRun_ofG _ _ _ _ r0
  have hS : (S0T w os).abs = ⟨boot_heap w.params, #[], boot_drawn, boot_toks, os⟩ := by
    show Shared.mk (absHeap (bootT w.params) 11 (boot_heap w.params).life) _ _ _ _ = _
    rw [bootT_abs]; rfl
  rw [hS] at r
  have t : topFrom treeTable p w N ⟨boot_heap w.params, #[], boot_drawn, boot_toks, os⟩ = some sT.abs := by
    unfold topFrom
    dsimp only
    rw [z1, z2, z3, r]
    show (match staticsOk (importedModules p.main.body) (boot_heap w.params) sT.abs.heap && namesBound p sT.abs.heap && gensDone sT.abs && laidKept (boot_heap w.params) sT.abs.heap with | true => _ | false => _) = _
    rw [l1]
  unfold openEnds
  rw [e]
  show (topFrom treeTable p w N _).map _ = _
  rw [t]
  exact congrArg some (Prod.ext l2 l3)
/-- the part of the text that the walk sees: its defs, classes and plain names -/
def hd.view_39 : Program := PySem.W.view PySem.Challenge.pw_np0075_01 [0,2,3,4,5,6,7,8,9,10,11,12,14,15,16,17,18,19,20,21,22,23,24,25,27,29,30,31,32,33,34,35,36,37,39,40,41,42,43,44,45]
/-- the top's run over a tree, by the library's quick twins -/
noncomputable def run39 (w : World) (os : OsState) : Option SharedT :=
  topRunG (PySem.W.Fast.tw6613529449190102663 11 (some (.ref 6))) (PySem.W.Fast.tw10156331382660048174 (PySem.W.Fast.tw11892475500146522536 PySem.W.Fast.tw14364793385576792824) PySem.Challenge.rw_np0075_01.row.prog w) 3000 (S0T w os) (topStub PySem.Challenge.rw_np0075_01.row.prog)
theorem run_quick (p : Program) (w : World) : topRunG (stepOk 11 (some (.ref 6))) (stepT (denote treeTable) p w) =
    topRunG (PySem.W.Fast.tw6613529449190102663 11 (some (.ref 6))) (PySem.W.Fast.tw10156331382660048174 (PySem.W.Fast.tw11892475500146522536 PySem.W.Fast.tw14364793385576792824) p w) := by
  rw [PySem.W.Fast.te6613529449190102663, PySem.W.Fast.te10156331382660048174, PySem.W.Fast.te11892475500146522536, PySem.W.Fast.te14364793385576792824]
theorem run39_eq (w : World) (os : OsState) : run39 w os = topRunG (stepOk 11 (some (.ref 6))) (stepT (denote treeTable) PySem.Challenge.rw_np0075_01.row.prog w) 3000 (S0T w os) (topStub PySem.Challenge.rw_np0075_01.row.prog) := by
  rw [run_quick]; rfl
section
set_option maxRecDepth 100000
set_option maxHeartbeats 0
theorem opens39 : ∀ w : World, (fencedOpening treeTable PySem.Challenge.rw_np0075_01.row.prog w 3000).map (fun s => (s.heap, s.gens, s.drawn, s.toks)) = some (boot_heap w.params, Array.mk [], boot_drawn, boot_toks) :=
  boot_open (by kernel_rfl) (by decide) (fun s => by kernel_rfl)
theorem mods39 : importedModules PySem.Challenge.rw_np0075_01.row.prog.main.body = [] := by kernel_rfl
abbrev xt39 : Shared → Bool := fun s => xlAt hd.view_39 [] s && recOk (RowW.records (OpenRow.toRowW PySem.Challenge.rw_np0075_01.row)) s
theorem left39 {α : Type} {Yf : Shared → α} {Ya : World → α}
    (seen : ∀ w : World, (fun os => (run39 w os).map fun sT => (staticsOk [] (boot_heap w.params) sT.abs.heap && namesBound PySem.Challenge.rw_np0075_01.row.prog sT.abs.heap && gensDone sT.abs && laidKept (boot_heap w.params) sT.abs.heap,
      openSeen hd.view_39 [] [] xt39 true sT.abs)) = fun _ => some (true, openGood hd.view_39 []))
    (obs : ∀ w : World, (fun os => (run39 w os).map fun sT => Yf sT.abs) = fun _ => some (Ya w)) : LeftO PySem.Challenge.rw_np0075_01.row.prog hd.view_39 [] xt39 Yf Ya 3000 true :=
  left_run mods39 opens39 run39_eq seen obs
/-- a look at one address, over the tree -/
def getT (s : SharedT) (a : Nat) : Option Obj := match Nat.blt a s.n with
  | true => alive ((s.tree.get a).getD default)
  | false => none
theorem getT_abs (s : SharedT) (a : Nat) : s.abs.heap.get? a = getT s a := by
  show (absHeap s.tree s.n s.life).get? a = getT s a
  unfold Heap.get? getT
  rw [absHeap_at]
  by_cases h : a < s.n
  · rw [if_pos h, show Nat.blt a s.n = true from Nat.ble_eq_true_of_le h]
    generalize (s.tree.get a).getD default = o
    obtain ⟨c, d, dt, sl⟩ := o
    cases dt <;> rfl
  · rw [if_neg h, show Nat.blt a s.n = false from Bool.eq_false_iff.mpr fun e => h (Nat.le_of_ble_eq_true e)]
theorem obs39 {K : Params → Frag} {as : List Addr} {e : ∀ P, as = (K P).map (·.1)} (h : ∀ w : World, (fun os => (run39 w os).map fun sT => as.map (getT sT)) = fun _ => some ((K w.params).map fun p => some p.2)) :
    ∀ w : World, (fun os => (run39 w os).map fun sT => (kHook K as e).obs sT.abs) = fun _ => some ((kHook K as e).val w) := fun w => by
  refine Eq.trans (funext fun os => congrArg (fun f => (run39 w os).map f) (funext fun sT => ?_)) (h w)
  exact List.map_congr_left fun a _ => getT_abs sT a
/-- what one state shows, told by three looks -/
theorem three_of {α β γ δ ε ζ η : Type} {o : Option α} {c : α → Bool} {f : α → β × γ × δ × ε × ζ × η} {a : β} {x1 : γ} {x2 : δ} {x3 : ε} {x4 : ζ} {r : η}
    (p : o.map (fun y => (c y, (f y).1)) = some (true, a)) (q : o.map (fun y => ((f y).2.1, (f y).2.2.1, (f y).2.2.2.1, (f y).2.2.2.2.1)) = some (x1, x2, x3, x4)) (t : o.map (fun y => (f y).2.2.2.2.2) = some r) :
    o.map (fun y => (c y, f y)) = some (true, a, x1, x2, x3, x4, r) := by
  cases o with
  | none => cases p
  | some v =>
    have p' := Option.some.inj p
    have q' := Option.some.inj q
    have t' := Option.some.inj t
    simp only [Prod.mk.injEq] at p' q'
    show some (c v, f v) = some _
    rw [p'.1, ← p'.2, ← q'.1, ← q'.2.1, ← q'.2.2.1, ← q'.2.2.2, ← t']
theorem seenA : ∀ w : World, (fun os => (run39 w os).map fun sT => (staticsOk [] (boot_heap w.params) sT.abs.heap && namesBound PySem.Challenge.rw_np0075_01.row.prog sT.abs.heap && gensDone sT.abs && laidKept (boot_heap w.params) sT.abs.heap,
      (openSeen hd.view_39 [] [] xt39 true sT.abs).1)) = fun _ => some (true, expectedOf hd.view_39) := by
  intro w
  rw [PySem.W.Fast.te4187177175401517315]
  kernel_rfl
theorem seenB : ∀ w : World, (fun os => (run39 w os).map fun sT => ((openSeen hd.view_39 [] [] xt39 true sT.abs).2.1, (openSeen hd.view_39 [] [] xt39 true sT.abs).2.2.1, (openSeen hd.view_39 [] [] xt39 true sT.abs).2.2.2.1, (openSeen hd.view_39 [] [] xt39 true sT.abs).2.2.2.2.1)) =
    fun _ => some (bltViewBooted, true, true, pinGoodD (drecsOf hd.view_39)) := by
  intro w
  rw [PySem.W.Fast.te4187177175401517315]
  kernel_rfl
theorem seenC : ∀ w : World, (fun os => (run39 w os).map fun sT => (openSeen hd.view_39 [] [] xt39 true sT.abs).2.2.2.2.2) = fun _ => some (plainGoodE hd.view_39 (looseW hd.view_39 []), plainGoodD hd.view_39 [], wideGood hd.view_39, clsGoodW hd.view_39 []) := by
  intro w
  rw [PySem.W.Fast.te4187177175401517315]
  kernel_rfl
theorem seen39 : ∀ w : World, (fun os => (run39 w os).map fun sT => (staticsOk [] (boot_heap w.params) sT.abs.heap && namesBound PySem.Challenge.rw_np0075_01.row.prog sT.abs.heap && gensDone sT.abs && laidKept (boot_heap w.params) sT.abs.heap,
      openSeen hd.view_39 [] [] xt39 true sT.abs)) = fun _ => some (true, openGood hd.view_39 []) := fun w =>
  funext fun os => three_of (congrFun (seenA w) os) (congrFun (seenB w) os) (congrFun (seenC w) os)
theorem and2 {a b : Bool} (x : a = true) (y : b = true) : (a && b) = true := by rw [x, y]; rfl
theorem looks_1 : (sreFenced PySem.Challenge.rw_np0075_01.row.prog.main && ((moduleNames PySem.Challenge.rw_np0075_01.row.prog.main.body).isEmpty || lookedIntoSs (moduleNames PySem.Challenge.rw_np0075_01.row.prog.main.body) PySem.Challenge.rw_np0075_01.row.prog.main.body)) = true := by kernel_rfl
theorem looks_2 : namesResolve PySem.Challenge.rw_np0075_01.row.prog = true := by rw [PySem.W.Fast.te8377067652309620493]; kernel_rfl
theorem looks_3 : (PySem.Challenge.rw_np0075_01.row.prog.boundNames.all fun n => !worldNames.contains n) = true := by kernel_rfl
theorem looks_4 : noRoadLSs { strict := !(importedModules PySem.Challenge.rw_np0075_01.row.prog.main.body).all cThrough.contains, foot := none, bare := (["vars", "dir", "locals"] : List Str).filter (readsOut PySem.Challenge.rw_np0075_01.row.prog PySem.Challenge.rw_np0075_01.row.prog.main.body) } PySem.Challenge.rw_np0075_01.row.prog.main.body = true := by
  rw [PySem.W.Fast.te8326940854005059898]
  kernel_rfl
theorem looks_5 : (namesMeet PySem.Challenge.rw_np0075_01.row.prog PySem.Challenge.rw_np0075_01.row.prog.main.body fun _ n => attrL n) = true := by
  rw [PySem.W.Fast.te17119622794617984870]
  kernel_rfl
theorem looks_of {p : Program} (a : (sreFenced p.main && ((moduleNames p.main.body).isEmpty || lookedIntoSs (moduleNames p.main.body) p.main.body)) = true) (b : namesResolve p = true) (c : (p.boundNames.all fun n => !worldNames.contains n) = true)
    (d : noRoadLSs { strict := !(importedModules p.main.body).all cThrough.contains, foot := none, bare := (["vars", "dir", "locals"] : List Str).filter (readsOut p p.main.body) } p.main.body = true) (e : (namesMeet p p.main.body fun _ n => attrL n) = true) : looksOpen p = true :=
  and2 (and2 (and2 (and2 a b) c) d) e
theorem looks39 : looksOpen PySem.Challenge.rw_np0075_01.row.prog = true := looks_of looks_1 looks_2 looks_3 looks_4 looks_5
theorem part39 : PySem.Challenge.rw_np0075_01.row.partSaid = true := by
  unfold OpenRow.partSaid
  rw [looks39]
  kernel_rfl
theorem row39 : PySem.Challenge.rw_np0075_01.row.wellSaid = true := by
  unfold OpenRow.wellSaid
  rw [part39]
  kernel_rfl
theorem ws39 : PySem.Challenge.rw_np0075_01.wellSaid = true := by
  unfold OpenLaw.wellSaid
  rw [row39, PySem.W.Fast.te17119622794617984870, PySem.W.Fast.te8179353310426384613, PySem.W.Fast.te10501279942588096481, PySem.W.Fast.te797321630700447069, PySem.W.Fast.te6984425678791042302]
  kernel_rfl
end
local macro_rules | `(tactic| o_law) => `(tactic| refine holds_law ws39 fun said => ?_)
set_option maxRecDepth 100000 in
theorem head39 (H : Hook) {d : DefRec} {kwd : List (Str × PySem.Expr)} (hl : LeftO PySem.Challenge.rw_np0075_01.row.prog hd.view_39 [] xt39 (Hook.obs H) (Hook.val H) 3000 true)
    (hdef : defOf hd.view_39 PySem.Challenge.rw_np0075_01.row.name = some (d, kwd)) (hp : PySem.Challenge.rw_np0075_01.row.prog.theDef PySem.Challenge.rw_np0075_01.row.name = some (d.params, d.body, d.scope)) (hk : kwWritten? d.params.kwonlyargs d.params.kw_defaults = some kwd)
    (k1 : PySem.Challenge.rw_np0075_01.row.wellSaid = true) (hw : PySem.Challenge.rw_np0075_01.row.toRowW.promised) (hc : WalkO hd.view_39 [] (XL hd.view_39 []) (Hook.says H) PySem.Challenge.rw_np0075_01.row.toRowW d kwd fun f vs => PySem.call f vs) : PySem.Challenge.rw_np0075_01.row.Holds :=
  holds_open hl (Hook.of H) (Hook.keeps H) (fun s e => xl_of s (Bool.and_eq_true_iff.mp e).1) XL.keeps hdef hp hk (fun s e => recFacts_of (Bool.and_eq_true_iff.mp e).2) (by rfl) k1 (by decide +kernel) ⟨rfl, rfl, rfl, rfl, rfl, by decide +kernel⟩ hw hc
local macro_rules | `(tactic| o_head $H) => `(tactic| (refine head39 $H (left39 seen39 (obs39 (by intro w; kernel_rfl))) (by rfl) (by rfl) (by rfl) (by first | assumption | decide +kernel) ?hw ?hc))
set_option maxRecDepth 100000 in
set_option maxHeartbeats 8000000 in
open_top hd for PySem.Challenge.rw_np0075_01
open PySem.Spec PySem.Calls
set_option linter.unusedVariables false
theorem fill_all : hd.heap_1 = hd.heap_1 ∧ PySem.Challenge.rw_np0075_01 = PySem.Challenge.rw_np0075_01 := by
  w_top off
  k_fill
  exact ⟨rfl, rfl⟩
local macro_rules | `(tactic| k_room) => `(tactic| ktr_room)
local macro_rules | `(tactic| k_units) => `(tactic| ktr_units)
local macro_rules | `(tactic| walk_at "getMethod ref") => `(tactic| (k_here; (with_reducible show wpAny _ _ (getMethod (Value.ref _) (Str.ofString "get") _) _ _ _); k_dflt (refine kdg_method (knd := PySem.strKind _ _) ‹_› (by k_mem) ‹_› ?_)))
local macro_rules | `(tactic| walk_at "call builtin:dict.get") => `(tactic| (k_here; (with_reducible show wpAny _ _ (call (Value.builtin "dict.get") [Value.ref _, Value.str _ _, Value.none]) _ _ _); k_dflt (refine kdg_get2 (knd := PySem.strKind _ _) ‹_› (by k_mem) ‹_› ‹_› (strKind_is _ _ _ _) _ (by first | assumption | rfl) ?_); (try dsimp only [Option.getD])))
local macro_rules | `(tactic| walk_at "exec While Compare") => `(tactic| (k_here; k_dflt (refine whl_start 100 ?_)))
local macro_rules | `(tactic| walk_at "WhlIf") => `(tactic| (first | (refine WhlIf.yes (by simp only [decide_eq_true_eq]; omega) ?_) | (refine WhlIf.no (by simp only [decide_eq_false_iff_not]; omega) ?_)))
local macro_rules | `(tactic| walk_at "eval Name") => `(tactic| (k_here; k_dflt (refine nameX_L ‹_› (by rfl) ?_ (by rfl) (by rfl))))
local macro_rules | `(tactic| news_mem) => `(tactic| k_mem)
local macro_rules | `(tactic| is_list) => `(tactic| exact News.isList (by k_asm) (by k_mem))
local macro_rules | `(tactic| k_all) => `(tactic| assumption)
local macro_rules | `(tactic| walk_at "leaving ref") => `(tactic| (k_here; k_dflt (first
  | (refine leave_raiseS ‹_› ‹_› ‹_› ‹_› ?_; intro h' t' RS' R' U'; (try dsimp only at RS' U' ⊢))
  | (refine leave_onS ‹_› ‹_› ‹_› ‹_› ?_; intro h' RS' R' U'; (try dsimp only at RS' U' ⊢)))))
local macro_rules | `(tactic| k_mem) => `(tactic| (repeat (first | with_reducible assumption | with_reducible exact List.mem_cons_self | with_reducible refine List.mem_cons_of_mem _ ?_)); done)
local macro_rules | `(tactic| walk_at "swept") => `(tactic| ((try dsimp only); intros; (try dsimp only [Option.getD]); (try k_fold); (try k_sweep)))
local macro_rules | `(tactic| walk_at "storeName") => `(tactic| (k_here; (try ktx_write); k_dflt (refine storeQ ‹_› ‹_› ‹_› (by rfl) ?_ (by rfl) (by rfl)); intro h' tk' F' N'; (try k_sweep)))
local macro_rules | `(tactic| walk_at "sweptX") => `(tactic| (rotate_left 1; intros; (try dsimp only); rotate_left 1; walk_at "swept"))

theorem top_Base : True := by
  w_top off
  trivial
/-- a call of a def from a caller's frame: R says the answer and the ledger behind it, XE the ledger behind an Ended that leaves it -/
def Call (w : World) (dn : Nat) (f : Addr) (vs : List Value) (news : List (Addr × Obj)) (R : Value → List (Addr × Obj) → Prop) (XE : List (Addr × Obj) → Prop) : Prop :=
  ∀ (dp un : Nat) (gd : Option (List Code)) (cn : Str) (cs : Scope) (a : Addr) (ccd : Value) (cl : List (Str × Addr)) (outer : List Env) (A₀ : Around) (base h₀ : Heap) (L : Addr) (m : Str → Option Value) (s : Shared) (Q E : Value → Shared → Prop)
    (mean : ExcName → Option Value) (mg mb : Str → Option Value),
    Below A₀ base outer h₀ → Fr h₀ L s.heap m → (hd.heap_1 w.params).In h₀ → News h₀ L s.heap news → Top hd.view_39 (looseW hd.view_39 []) mean mg mb h₀ → cs.kind = .function →
    dp + dn < recursionLimit → un + 40 * dn < cLine →
    (∀ r h' tk' news', R r news' → Fr h₀ L h' m → News h₀ L h' news' → Q r { s with heap := h', toks := tk' }) →
    (∀ e t h' tk' news' G, XE news' → Fr h₀ L G m → RaisedS base G (envX cn cs L a ccd cl :: outer) e (.ref 189) t [] news' h' → G.UpToSlots h' → E (.ref e) { s with heap := h', toks := tk' }) →
    wpAny (model PySem.Challenge.rw_np0075_01.row.prog w) (ktrTop dp un gd cn cs L a ccd cl outer) (call (.ref f) vs) Q E s

theorem Call.use {w : World} {dn : Nat} {f : Addr} {vs : List Value} {news : List (Addr × Obj)} {R : Value → List (Addr × Obj) → Prop} {XE : List (Addr × Obj) → Prop}
    {dp un : Nat} {gd : Option (List Code)} {cn : Str} {cs : Scope} {a : Addr} {ccd : Value} {cl : List (Str × Addr)} {outer : List Env} {A₀ : Around} {base h₀ : Heap} {L : Addr} {m : Str → Option Value} {s : Shared} {Q E : Value → Shared → Prop}
    {mean : ExcName → Option Value} {mg mb : Str → Option Value}
    (B : Below A₀ base outer h₀) (F : Fr h₀ L s.heap m) (X : (hd.heap_1 w.params).In h₀) (N : News h₀ L s.heap news) (T : Top hd.view_39 (looseW hd.view_39 []) mean mg mb h₀) (hk : cs.kind = .function)
    (C : Call w dn f vs news R XE) (hd : dp + dn < recursionLimit) (hu : un + 40 * dn < cLine)
    (ret : ∀ r h' tk' news', R r news' → Fr h₀ L h' m → News h₀ L h' news' → Q r { s with heap := h', toks := tk' })
    (exc : ∀ e t h' tk' news' G, XE news' → Fr h₀ L G m → RaisedS base G (envX cn cs L a ccd cl :: outer) e (.ref 189) t [] news' h' → G.UpToSlots h' → E (.ref e) { s with heap := h', toks := tk' }) :
    wpAny (model PySem.Challenge.rw_np0075_01.row.prog w) (ktrTop dp un gd cn cs L a ccd cl outer) (call (.ref f) vs) Q E s :=
  C dp un gd cn cs a ccd cl outer A₀ base h₀ L m s Q E mean mg mb B F X N T hk hd hu ret exc

theorem few_cases {ns : List Int} (h : ns.length ≤ 3) : ns = [] ∨ (∃ a, ns = [a]) ∨ (∃ a b, ns = [a, b]) ∨ ∃ a b c, ns = [a, b, c] := by
  rcases ns with _ | ⟨a, _ | ⟨b, _ | ⟨c, _ | ⟨d, r⟩⟩⟩⟩
  · exact .inl rfl
  · exact .inr (.inl ⟨a, rfl⟩)
  · exact .inr (.inr (.inl ⟨a, b, rfl⟩))
  · exact .inr (.inr (.inr ⟨a, b, c, rfl⟩))
  · exact absurd h (by simp only [List.length_cons]; omega)
theorem fin_of {n : Int} {k : Nat} (h1 : 1 ≤ n) (h2 : n ≤ k) : ∃ i : Fin k, n = (i.val : Int) + 1 := ⟨⟨(n - 1).toNat, by omega⟩, by show n = (((n - 1).toNat : Nat) : Int) + 1; omega⟩
/-- marks of the walk: a state that others are told from, a frame written plainly -/
def IsBase (_ : Shared) : Prop := True
def frU (m : Str → Option Value) (x : Str) (v : Value) : Str → Option Value := fun y => if y = x then some v else m y
def fr0 : Str → Option Value := fun _ => none
def fr1 (a : Str) (x : Value) : Str → Option Value := fun z => List.lookup z [(a, x)]
def fr2 (a b : Str) (x y : Value) : Str → Option Value := fun z => List.lookup z [(b, y), (a, x)]
def fr3 (a b c : Str) (x y u : Value) : Str → Option Value := fun z => List.lookup z [(c, u), (b, y), (a, x)]
def fr4 (a b c d : Str) (x y u v : Value) : Str → Option Value := fun z => List.lookup z [(d, v), (c, u), (b, y), (a, x)]
def fr5 (a b c d e : Str) (x y u v p : Value) : Str → Option Value := fun z => List.lookup z [(e, p), (d, v), (c, u), (b, y), (a, x)]
def fr7 (a b c d e f g : Str) (x y u v p q r : Value) : Str → Option Value := fun z => List.lookup z [(g, r), (f, q), (e, p), (d, v), (c, u), (b, y), (a, x)]
def valOf : Flow → Value
  | .ret v => v
  | _ => .none
section
variable {prog : Program} {w : World} {A A₀ : Around} {E : Value → Shared → Prop} {s : Shared} {K : Frag} {L : Addr} {h₀ base : Heap} {m mg mb : Str → Option Value} {news : List (Addr × Obj)} {p : Program} {loose : List Str} {mean : ExcName → Option Value} {Q : Value → Shared → Prop}
/-- a def is entered: the state, the ends and the frame by names of their own -/
theorem code_defQ {env : Env} {outer : List Env} {name qual : Str} {params : Arguments} {body : List Stmt} {scope : Scope} {dV kV doc pm cdv ct oc : Value} {an od : Option Addr} {osl : Array (Option Value)} {f : Addr} {vs : List Value} {binds : List (Str × Value)} {m' : Str → Option Value}
    (B : Below A₀ base outer h₀) (F : Fr h₀ L s.heap m) (X₀ : K.In h₀) (N : News h₀ L s.heap news) (T : Top p loose mean mg mb h₀) (hA : A.frames = some (env :: outer)) (hf : env.frame = some L) (hke : env.scope.kind = .function)
    (ho : K.lookup f = some ⟨oc, od, .func (fnOf name qual params body scope dV kV doc pm an cdv ct), osl⟩) (hcd : codeIn K cdv qual = true) (hroom : A.depth < recursionLimit)
    (hbind : BindsTo s (fnOf name qual params body scope dV kV doc pm an cdv ct) ⟨vs, []⟩ binds) (hloc : ∀ y ∈ binds, scope.names.lookup y.1 = some .local) (em : (fun y => binds.reverse.lookup y) = m')
    (h : ∀ g L' S Q' E', IsBase S → Fr h₀ L g m → Fr g L' S.heap m' → News g L' S.heap news → Below A base (env :: outer) g → K.In g → Top p loose mean mg mb g →
      (∀ fl h' tk' L₂ m₂ n₂, Fr g L₂ h' m₂ → News g L₂ h' n₂ → (Fr h₀ L h' m → News h₀ L h' n₂ → Q (valOf fl) { s with heap := h', toks := tk' }) → Q' fl { S with heap := h', toks := tk' }) →
      (∀ e h' tk', wpAny (model prog w) (A.deeper (envOf qual scope L' f cdv)) (leaving (envOf qual scope L' f cdv) e) (fun _ s'' => E e s'') (fun e' s'' => E e' s'') { s with heap := h', toks := tk' } → E' e { S with heap := h', toks := tk' }) → PassesOwn (model prog w) (A.deeper (envOf qual scope L' f cdv)) (envOf qual scope L' f cdv) E' →
      wpAny (model prog w) (A.deeper (envOf qual scope L' f cdv)) (execs body (envOf qual scope L' f cdv)) Q' E' S)
    (hco : scope.isCoroutine = false) (hgen : scope.isGenerator = false) (hk : scope.kind = .function)
    (hcell : ∀ x ∈ scope.names, x.2 ≠ .cell) : wpAny (model prog w) A (call (.ref f) vs) Q E s := by
  subst em
  refine wpAny_call (code_def B F X₀ N T hA hf hke ho hcd hroom hbind hloc (fun g L' h₁ FG F' N' B' X' T' => ?_) hco hgen hk hcell)
  refine h g L' { s with heap := h₁, toks := s.toks + binds.length } _ _ trivial FG F' N' B' X' T' (fun fl h' tk' L₂ m₂ n₂ f1 n1 k => ⟨L₂, m₂, n₂, f1, n1, fun a b => ?_⟩) (fun e h' tk' x => x) PassesOwn.leaving
  have := k a b
  cases fl <;> exact this
theorem code_defCQ {env : Env} {outer : List Env} {name qual : Str} {params : Arguments} {body : List Stmt} {scope : Scope} {dV kV doc pm cdv ct oc : Value} {an od : Option Addr} {osl : Array (Option Value)} {f : Addr} {vs : List Value} {binds : List (Str × Value)}
    (B : Below A₀ base outer h₀) (F : Fr h₀ L s.heap m) (X₀ : K.In h₀) (N : News h₀ L s.heap news) (T : Top p loose mean mg mb h₀) (hA : A.frames = some (env :: outer)) (hf : env.frame = some L) (hke : env.scope.kind = .function)
    (ho : K.lookup f = some ⟨oc, od, .func (fnOf name qual params body scope dV kV doc pm an cdv ct), osl⟩) (hcd : codeIn K cdv qual = true) (hroom : A.depth < recursionLimit)
    (hbind : BindsTo s (fnOf name qual params body scope dV kV doc pm an cdv ct) ⟨vs, []⟩ binds) (hkind : (binds.all fun y => scope.names.lookup y.1 == some .local || scope.names.lookup y.1 == some .cell) = true)
    (hnd : ((cellsFrom 0 scope.names []).map (·.1)).Nodup)
    (h : ∀ g L' S Q' E' cells, IsBase S → Fr h₀ L g m → Fr g L' S.heap (bindL (envOfC qual scope L' f cdv).kindOf binds fun _ => none) → News g L' S.heap (cells ++ news) →
      CellsAre (bindC (envOfC qual scope L' f cdv).kindOf binds fun _ => none) (cellsFrom (L' + 1) scope.names []) cells → Below A base (env :: outer) g → K.In g → Top p loose mean mg mb g → (∀ p ∈ news, p.1 < L') →
      (∀ fl h' tk' L₂ m₂ n₂, Fr g L₂ h' m₂ → News g L₂ h' n₂ → (Fr h₀ L h' m → News h₀ L h' n₂ → Q (valOf fl) { s with heap := h', toks := tk' }) → Q' fl { S with heap := h', toks := tk' }) →
      (∀ e h' tk', wpAny (model prog w) (A.deeper (envOfC qual scope L' f cdv)) (leaving (envOfC qual scope L' f cdv) e) (fun _ s'' => E e s'') (fun e' s'' => E e' s'') { s with heap := h', toks := tk' } → E' e { S with heap := h', toks := tk' }) → PassesOwn (model prog w) (A.deeper (envOfC qual scope L' f cdv)) (envOfC qual scope L' f cdv) E' →
      wpAny (model prog w) (A.deeper (envOfC qual scope L' f cdv)) (execs body (envOfC qual scope L' f cdv)) Q' E' S)
    (hco : scope.isCoroutine = false) (hgen : scope.isGenerator = false) (hk : scope.kind = .function) : wpAny (model prog w) A (call (.ref f) vs) Q E s := by
  refine wpAny_call (code_defC B F X₀ N T hA hf hke ho hcd hroom hbind hkind hnd (fun g L' h₁ tk cells FG F' N' Y B' X' T' l => ?_) hco hgen hk)
  refine h g L' { s with heap := h₁, toks := tk } _ _ cells trivial FG F' N' Y B' X' T' l (fun fl h' tk' L₂ m₂ n₂ f1 n1 k => ⟨L₂, m₂, n₂, f1, n1, fun a b => ?_⟩) (fun e h' tk' x => x) PassesOwn.leaving
  have := k a b
  cases fl <;> exact this
theorem storeQ {M : Model} {A : Around} {Q : Unit → Shared → Prop} {cn : Str} {cs : Scope} {a : Addr} {ccd : Value} {cl : List (Str × Addr)} {x : Str} {v : Value} {S : Shared} (F : Fr h₀ L s.heap m) (N : News h₀ L s.heap news) (_ : IsBase S) (e : s = { S with heap := s.heap, toks := s.toks })
    (h : ∀ h' tk, Fr h₀ L h' (frU m x v) → News h₀ L h' news → Q () { S with heap := h', toks := tk })
    (hk : cs.kind = .function) (hx : (envX cn cs L a ccd cl).kindOf x = some .local) : wpAny M A (storeName (envX cn cs L a ccd cl) x v) Q E s :=
  storeX_L F N (fun h' F' N' => by have := h h' (s.toks + 1) F' N'; rw [e]; exact this) hk hx
/-- the ends of a piece of a walk by names of their own -/
theorem wpAny_opq {α : Type} {M : Model} {x : Sem α} {Q : α → Shared → Prop} (h : ∀ Q', (∀ v s', Q v s' → Q' v s') → wpAny M A x Q' E s) : wpAny M A x Q E s := h Q fun _ _ x => x
end
/-- a contract's answer, told to whoever asks: K says R without a conjunction to open -/
def KR (R : Value → List (Addr × Obj) → Prop) (K : (Value → List (Addr × Obj) → Prop) → Prop) : Prop := ∀ k : Value → List (Addr × Obj) → Prop, K k → ∀ r n', R r n' → k r n'
theorem Call.useK {w : World} {dn : Nat} {f : Addr} {vs : List Value} {news : List (Addr × Obj)} {R : Value → List (Addr × Obj) → Prop}
    {dp un : Nat} {gd : Option (List Code)} {cn : Str} {cs : Scope} {a : Addr} {ccd : Value} {cl : List (Str × Addr)} {outer : List Env} {A₀ : Around} {base h₀ : Heap} {L : Addr} {m : Str → Option Value} {s : Shared} {Q E : Value → Shared → Prop}
    {mean : ExcName → Option Value} {mg mb : Str → Option Value} {S : Shared} {K : (Value → List (Addr × Obj) → Prop) → Prop}
    (B : Below A₀ base outer h₀ := by k_asm) (F : Fr h₀ L s.heap m := by k_asm) (X : (hd.heap_1 w.params).In h₀ := by k_asm) (N : News h₀ L s.heap news := by k_asm) (T : Top hd.view_39 (looseW hd.view_39 []) mean mg mb h₀ := by k_asm) (hk : cs.kind = .function := by first | exact rfl | assumption) (hS : IsBase S := by assumption)
    (C : Call w dn f vs news R fun _ => False) (hK : KR R K) (hd : dp + dn < recursionLimit := by ktr_room) (hu : un + 40 * dn < cLine := by ktr_units)
    (eS : s = { S with heap := s.heap, toks := s.toks } := by exact rfl) (ret : K (fun r news' => ∀ h' tk', Fr h₀ L h' m → News h₀ L h' news' → Q r { S with heap := h', toks := tk' })) :
    wpAny (model PySem.Challenge.rw_np0075_01.row.prog w) (ktrTop dp un gd cn cs L a ccd cl outer) (call (.ref f) vs) Q E s :=
  Call.use B F X N T hk C hd hu (fun _ h' tk' _ hR F' N' => by have := hK _ ret _ _ hR h' tk' F' N'; rw [eS]; exact this) fun _ _ _ _ _ _ h => h.elim
theorem Call.useS {w : World} {dn : Nat} {f : Addr} {vs : List Value} {news : List (Addr × Obj)} {R : Value → List (Addr × Obj) → Prop}
    {dp un : Nat} {gd : Option (List Code)} {cn : Str} {cs : Scope} {a : Addr} {ccd : Value} {cl : List (Str × Addr)} {outer : List Env} {A₀ : Around} {base h₀ : Heap} {L : Addr} {m : Str → Option Value} {s : Shared} {Q E : Value → Shared → Prop}
    {mean : ExcName → Option Value} {mg mb : Str → Option Value} {S : Shared}
    (B : Below A₀ base outer h₀ := by k_asm) (F : Fr h₀ L s.heap m := by k_asm) (X : (hd.heap_1 w.params).In h₀ := by k_asm) (N : News h₀ L s.heap news := by k_asm) (T : Top hd.view_39 (looseW hd.view_39 []) mean mg mb h₀ := by k_asm) (hk : cs.kind = .function := by first | exact rfl | assumption) (hS : IsBase S := by assumption)
    (C : Call w dn f vs news R fun _ => False) (hd : dp + dn < recursionLimit := by ktr_room) (hu : un + 40 * dn < cLine := by ktr_units) (eS : s = { S with heap := s.heap, toks := s.toks } := by exact rfl)
    (ret : ∀ r news' h' tk', R r news' → Fr h₀ L h' m → News h₀ L h' news' → Q r { S with heap := h', toks := tk' }) :
    wpAny (model PySem.Challenge.rw_np0075_01.row.prog w) (ktrTop dp un gd cn cs L a ccd cl outer) (call (.ref f) vs) Q E s :=
  Call.use B F X N T hk C hd hu (fun r h' tk' n' hR F' N' => by have := ret r n' h' tk' hR F' N'; rw [eS]; exact this) fun _ _ _ _ _ _ h => h.elim
/-- the same for the ledger behind an Ended -/
def KRX (XE : List (Addr × Obj) → Prop) (KX : (List (Addr × Obj) → Prop) → Prop) : Prop := ∀ k : List (Addr × Obj) → Prop, KX k → ∀ n', XE n' → k n'
theorem qx_id {XE : List (Addr × Obj) → Prop} : KRX XE (fun k => ∀ n', XE n' → k n') := fun _ h => h
theorem qx_a {A : Prop} {N : List (Addr × Obj)} : KRX (fun n' => A ∧ n' = N) (fun k => A → k N) := fun _ h _ ⟨a, e⟩ => e ▸ h a
theorem Call.useKX {w : World} {dn : Nat} {f : Addr} {vs : List Value} {news : List (Addr × Obj)} {R : Value → List (Addr × Obj) → Prop} {XE : List (Addr × Obj) → Prop}
    {dp un : Nat} {gd : Option (List Code)} {cn : Str} {cs : Scope} {a : Addr} {ccd : Value} {cl : List (Str × Addr)} {outer : List Env} {A₀ : Around} {base h₀ : Heap} {L : Addr} {m : Str → Option Value} {s : Shared} {Q E : Value → Shared → Prop}
    {mean : ExcName → Option Value} {mg mb : Str → Option Value} {S : Shared} {K : (Value → List (Addr × Obj) → Prop) → Prop} {KX : (List (Addr × Obj) → Prop) → Prop}
    (B : Below A₀ base outer h₀ := by k_asm) (F : Fr h₀ L s.heap m := by k_asm) (X : (hd.heap_1 w.params).In h₀ := by k_asm) (N : News h₀ L s.heap news := by k_asm) (T : Top hd.view_39 (looseW hd.view_39 []) mean mg mb h₀ := by k_asm) (hk : cs.kind = .function := by first | exact rfl | assumption) (hS : IsBase S := by assumption)
    (C : Call w dn f vs news R XE) (hK : KR R K) (hX : KRX XE KX) (hd : dp + dn < recursionLimit := by ktr_room) (hu : un + 40 * dn < cLine := by ktr_units)
    (eS : s = { S with heap := s.heap, toks := s.toks } := by exact rfl) (ret : K (fun r news' => ∀ h' tk', Fr h₀ L h' m → News h₀ L h' news' → Q r { S with heap := h', toks := tk' })) (exc : KX fun news' => ∀ e t h' tk' G, Fr h₀ L G m → RaisedS base G (envX cn cs L a ccd cl :: outer) e (.ref 189) t [] news' h' → G.UpToSlots h' → E (.ref e) { S with heap := h', toks := tk' }) :
    wpAny (model PySem.Challenge.rw_np0075_01.row.prog w) (ktrTop dp un gd cn cs L a ccd cl outer) (call (.ref f) vs) Q E s :=
  Call.use B F X N T hk C hd hu (fun _ h' tk' _ hR F' N' => by have := hK _ ret _ _ hR h' tk' F' N'; rw [eS]; exact this) fun e t h' tk' n' G a b c d => by have := hX _ exc _ a e t h' tk' G b c d; rw [eS]; exact this
section
variable {news : List (Addr × Obj)} {A A' : Prop}
theorem q_str {X : Str} : KR (fun r n' => n' = news ∧ ∃ t, r = .str X t) (fun k => ∀ t, k (.str X t) news) := by rintro k h _ _ ⟨rfl, t, rfl⟩; exact h t
theorem q_int {X : Int} : KR (fun r n' => n' = news ∧ ∃ t, r = .int X t) (fun k => ∀ t, k (.int X t) news) := by rintro k h _ _ ⟨rfl, t, rfl⟩; exact h t
theorem q_val {V : Value} : KR (fun r n' => n' = news ∧ r = V) (fun k => k V news) := by rintro k h _ _ ⟨rfl, rfl⟩; exact h
theorem q_ld {N : Addr → Nat → List (Addr × Obj)} {P : Addr → Nat → Prop} : KR (fun r n' => ∃ D c, n' = N D c ∧ r = .ref D ∧ P D c) (fun k => ∀ D c, P D c → k (.ref D) (N D c)) := by
  rintro k h _ _ ⟨D, c, rfl, rfl, p⟩; exact h D c p
theorem q_ldv {N : Addr → List Value → Nat → List (Addr × Obj)} {P P' : Addr → List Value → Nat → Prop} : KR (fun r n' => ∃ D vs c, n' = N D vs c ∧ r = .ref D ∧ P D vs c ∧ P' D vs c) (fun k => ∀ D vs c, P D vs c → P' D vs c → k (.ref D) (N D vs c)) := by
  rintro k h _ _ ⟨D, vs, c, rfl, rfl, p, p'⟩; exact h D vs c p p'
theorem q_listed {N : Addr → List Value → List Str → Nat → List (Addr × Obj)} {P P1 P2 P3 : Addr → List Value → List Str → Nat → Prop} :
    KR (fun r n' => ∃ D vs ss c, n' = N D vs ss c ∧ r = .ref D ∧ P D vs ss c ∧ P1 D vs ss c ∧ P2 D vs ss c ∧ P3 D vs ss c) (fun k => ∀ D vs ss c, P D vs ss c → P1 D vs ss c → P2 D vs ss c → P3 D vs ss c → k (.ref D) (N D vs ss c)) := by
  rintro k h _ _ ⟨D, vs, ss, c, rfl, rfl, p, p1, p2, p3⟩; exact h D vs ss c p p1 p2 p3
theorem q_step {X : Int} {N : Int → Tok → Tok → List (Addr × Obj)} : KR (fun r n' => r = .none ∧ A ∧ ∃ l k1 k3, l = X ∧ n' = N l k1 k3) (fun k => A → ∀ l k1 k3, l = X → k .none (N l k1 k3)) := by
  rintro k h _ _ ⟨rfl, a, l, k1, k3, e, rfl⟩; exact h a l k1 k3 e
theorem q_none {P : List (Addr × Obj) → Prop} : KR (fun r n' => r = .none ∧ P n') (fun k => ∀ n', P n' → k .none n') := by rintro k h _ n' ⟨rfl, p⟩; exact h n' p
theorem q_draw {N : List Value → List Int → Nat → Int → Tok → List (Addr × Obj)} {P P1 P2 : List Value → List Int → Nat → Int → Tok → Prop} :
    KR (fun r n' => ∃ vs ns c v t, n' = N vs ns c v t ∧ P vs ns c v t ∧ r = .int v t ∧ P1 vs ns c v t ∧ P2 vs ns c v t) (fun k => ∀ vs ns c v t, P vs ns c v t → P1 vs ns c v t → P2 vs ns c v t → k (.int v t) (N vs ns c v t)) := by
  rintro k h _ _ ⟨vs, ns, c, v, t, rfl, p, rfl, p1, p2⟩; exact h vs ns c v t p p1 p2
theorem q_text {N : Addr → List Value → List Int → Nat → List Value → List Int → Nat → List (Addr × Obj)} {P P1 P2 P3 P4 : Addr → List Value → List Int → Nat → List Value → List Int → Nat → Prop} :
    KR (fun r n' => ∃ D a b c d e f, n' = N D a b c d e f ∧ r = .ref D ∧ P D a b c d e f ∧ P1 D a b c d e f ∧ P2 D a b c d e f ∧ P3 D a b c d e f ∧ P4 D a b c d e f)
      (fun k => ∀ D a b c d e f, P D a b c d e f → P1 D a b c d e f → P2 D a b c d e f → P3 D a b c d e f → P4 D a b c d e f → k (.ref D) (N D a b c d e f)) := by
  rintro k h _ _ ⟨D, a, b, c, d, e, f, rfl, rfl, p, p1, p2, p3, p4⟩; exact h D a b c d e f p p1 p2 p3 p4
end
theorem atRef (f : Addr) {M : Model} {A : Around} {vs : List Value} {Q E : Value → Shared → Prop} {s : Shared} (h : wpAny M A (call (.ref f) vs) Q E s) : wpAny M A (call (.ref f) vs) Q E s := h
theorem Call.mono {w : World} {dn : Nat} {f : Addr} {vs : List Value} {news : List (Addr × Obj)} {R R' : Value → List (Addr × Obj) → Prop} {XE XE' : List (Addr × Obj) → Prop} (C : Call w dn f vs news R XE)
    (hR : ∀ r n, R r n → R' r n) (hX : ∀ n, XE n → XE' n) : Call w dn f vs news R' XE' :=
  fun dp un gd cn cs a ccd cl outer A₀ base h₀ L m s Q E mean mg mb B F X N T hk hd hu ret exc =>
    C dp un gd cn cs a ccd cl outer A₀ base h₀ L m s Q E mean mg mb B F X N T hk hd hu (fun r h' tk' n' h => ret r h' tk' n' (hR _ _ h)) fun e t h' tk' n' G h => exc e t h' tk' n' G (hX _ h)

/-- one entry of the tree -/
structure Ent where
  name : Str
  a : Addr
  d : Addr
  c : Addr
  so : Int
  cv : Value
  vs : List Value
  ns : List Int
  n : Nat
  st : Int
  k0 : Tok
  k1 : Tok
  k2 : Tok
  k3 : Tok
  k4 : Tok
  k5 : Tok

def entDict (w : World) (e : Ent) : List DictEntry :=
  [⟨PyData.keyHash w.params (Str.ofString "sort"), .str (Str.ofString "sort") e.k0, .int e.so e.k1⟩,
   ⟨PyData.keyHash w.params (Str.ofString "content"), .str (Str.ofString "content") e.k2, e.cv⟩,
   ⟨PyData.keyHash w.params (Str.ofString "stamp"), .str (Str.ofString "stamp") e.k3, .int e.st e.k4⟩,
   ⟨PyData.keyHash w.params (Str.ofString "is_writable"), .str (Str.ofString "is_writable") e.k5, .bool true⟩]

structure Ent.ok (e : Ent) : Prop where
  kind : (e.so = 0 ∧ e.cv = .none) ∨ (e.so = 1 ∧ e.cv = .ref e.c ∧ IntsAre e.vs e.ns ∧ e.ns.length ≤ 1000)

def Ent.objs (w : World) (e : Ent) : List (Addr × Obj) :=
  (e.a, instObj 209 e.d) :: (e.d, dictOf (entDict w e) 4) :: (if e.so = 1 then [(e.c, listOf e.vs.toArray e.n)] else [])

/-- the tree -/
structure Ft where
  dt : Addr
  de : Addr
  oE : Obj
  clock : Int
  left : Int
  k0 : Tok
  k1 : Tok
  k2 : Tok
  k3 : Tok
  k4 : Tok
  ents : List Ent

def ftDict (w : World) (T : Ft) : List DictEntry :=
  [⟨PyData.keyHash w.params (Str.ofString "clock"), .str (Str.ofString "clock") T.k0, .int T.clock T.k1⟩,
   ⟨PyData.keyHash w.params (Str.ofString "left"), .str (Str.ofString "left") T.k2, .int T.left T.k3⟩,
   ⟨PyData.keyHash w.params (Str.ofString "entries"), .str (Str.ofString "entries") T.k4, .ref T.de⟩]

def Ft.objs (w : World) (ta : Addr) (T : Ft) : List (Addr × Obj) :=
  (ta, instObj 410 T.dt) :: (T.dt, dictOf (ftDict w T) 3) :: (T.de, T.oE) :: T.ents.flatMap (Ent.objs w)

def Ft.kvs (T : Ft) : List (Str × Value) := T.ents.map fun e => (e.name, .ref e.a)

section
variable {A A' : Prop} {N : Ft → List (Addr × Obj)}
theorem qx_w {P P1 : Ft → Prop} : KRX (fun n' => ∃ T, n' = N T ∧ P T ∧ P1 T) (fun k => ∀ T, P T → P1 T → k (N T)) := fun _ h _ ⟨T, e, p, p1⟩ => e ▸ h T p p1
theorem q_w {P P1 P2 : Ft → Prop} : KR (fun r n' => r = .none ∧ A ∧ A' ∧ ∃ T, n' = N T ∧ P T ∧ P1 T ∧ P2 T) (fun k => A → A' → ∀ T, P T → P1 T → P2 T → k .none (N T)) := by
  rintro k h _ _ ⟨rfl, a, a', T, rfl, p, p1, p2⟩; exact h a a' T p p1 p2
theorem q_d {P P1 P2 : Ft → Prop} : KR (fun r n' => r = .none ∧ A ∧ ∃ T, n' = N T ∧ P T ∧ P1 T ∧ P2 T) (fun k => A → ∀ T, P T → P1 T → P2 T → k .none (N T)) := by
  rintro k h _ _ ⟨rfl, a, T, rfl, p, p1, p2⟩; exact h a T p p1 p2
theorem q_tree {P P1 P2 : Addr → Ft → Prop} {N' : Addr → Ft → List (Addr × Obj)} : KR (fun r n' => ∃ a T, r = .ref a ∧ n' = N' a T ∧ P a T ∧ P1 a T ∧ P2 a T) (fun k => ∀ a T, P a T → P1 a T → P2 a T → k (.ref a) (N' a T)) := by
  rintro k h _ _ ⟨a, T, rfl, rfl, p, p1, p2⟩; exact h a T p p1 p2
theorem q_fill {N' : Ft → Ent → List (Addr × Obj)} {P P1 P2 P3 P4 P5 P6 : Ft → Ent → Prop} :
    KR (fun r n' => r = .none ∧ A ∧ ∃ T e, n' = N' T e ∧ P T e ∧ P1 T e ∧ P2 T e ∧ P3 T e ∧ P4 T e ∧ P5 T e ∧ P6 T e) (fun k => A → ∀ T e, P T e → P1 T e → P2 T e → P3 T e → P4 T e → P5 T e → P6 T e → k .none (N' T e)) := by
  rintro k h _ _ ⟨rfl, a, T, e, rfl, p, p1, p2, p3, p4, p5, p6⟩; exact h a T e p p1 p2 p3 p4 p5 p6
end
structure Ft.ok (w : World) (T : Ft) : Prop where
  isd : T.oE.IsDictOf (PySem.strKind PySem.Challenge.rw_np0075_01.row.prog w) T.kvs
  lo : (T.de == sysModules) = false
  all : ∀ e ∈ T.ents, e.ok
  small : T.ents.length ≤ 100

/-- the tree stands in the ledger -/
structure FtIn (w : World) (news : List (Addr × Obj)) (ta : Addr) (T : Ft) : Prop where
  ok : T.ok w
  mem : ∀ p ∈ T.objs w ta, p ∈ news

theorem FtIn.inst {w : World} {news : List (Addr × Obj)} {ta : Addr} {T : Ft} (h : FtIn w news ta T) : (ta, instObj 410 T.dt) ∈ news := h.mem _ (.head _)
theorem FtIn.dict {w : World} {news : List (Addr × Obj)} {ta : Addr} {T : Ft} (h : FtIn w news ta T) : (T.dt, dictOf (ftDict w T) 3) ∈ news := h.mem _ (.tail _ (.head _))
theorem FtIn.ents {w : World} {news : List (Addr × Obj)} {ta : Addr} {T : Ft} (h : FtIn w news ta T) : (T.de, T.oE) ∈ news := h.mem _ (.tail _ (.tail _ (.head _)))
theorem FtIn.ent {w : World} {news : List (Addr × Obj)} {ta : Addr} {T : Ft} (h : FtIn w news ta T) {e : Ent} (he : e ∈ T.ents) : ∀ p ∈ e.objs w, p ∈ news := fun p hp =>
  h.mem _ (.tail _ (.tail _ (.tail _ (List.mem_flatMap.mpr ⟨e, he, hp⟩))))
theorem FtIn.einst {w : World} {news : List (Addr × Obj)} {ta : Addr} {T : Ft} (h : FtIn w news ta T) {e : Ent} (he : e ∈ T.ents) : (e.a, instObj 209 e.d) ∈ news := h.ent he _ (.head _)
theorem FtIn.edict {w : World} {news : List (Addr × Obj)} {ta : Addr} {T : Ft} (h : FtIn w news ta T) {e : Ent} (he : e ∈ T.ents) : (e.d, dictOf (entDict w e) 4) ∈ news := h.ent he _ (.tail _ (.head _))

def Ft.at (T : Ft) (x : Str) : Option Ent := T.ents.find? fun e => e.name = x
theorem valueAt_kvs (T : Ft) (x : Str) : valueAt T.kvs x = (T.at x).map fun e => .ref e.a := by
  unfold valueAt Ft.kvs Ft.at
  induction T.ents with
  | nil => rfl
  | cons e r ih =>
    rw [List.map_cons, List.find?_cons, List.find?_cons]
    by_cases h : e.name = x
    · simp [h]
    · simp only [h, decide_false]
      exact ih
theorem Ft.at_mem {T : Ft} {x : Str} {e : Ent} (h : T.at x = some e) : e ∈ T.ents ∧ e.name = x := ⟨List.mem_of_find?_eq_some h, by simpa using List.find?_some h⟩

theorem top_C1 : True := by
  w_top off
  trivial
def U : List Str := [Str.ofString "/", Str.ofString "/d", Str.ofString "/d/f", Str.ofString "/d/f~", Str.ofString "/d/f.tmp0",
  Str.ofString "/d/f.~1~", Str.ofString "/d/f.~2~", Str.ofString "/d/f.~3~", Str.ofString "/d/f.~4~", Str.ofString "/d/f.~5~", Str.ofString "/d/f.~6~", Str.ofString "/d/f.~7~",
  Str.ofString "/d/f.~8~", Str.ofString "/d/f.~9~", Str.ofString "/d/f.~10~", Str.ofString "/d/f.~11~", Str.ofString "/d/f.~12~", Str.ofString "/d/f.~13~"]
theorem U_len : ∀ x ∈ U, x.length ≤ 100 := by decide +kernel
theorem U_find : ∀ x ∈ U, (Txt.find3 x (Str.ofString "/") 1 = -1 ∧ (x = Str.ofString "/" ∨ x = Str.ofString "/d")) ∨
    (Txt.find3 x (Str.ofString "/") 1 = 2 ∧ Txt.find3 x (Str.ofString "/") (Txt.find3 x (Str.ofString "/") 1 + 1) = -1 ∧ Txt.slice x none (some (Txt.find3 x (Str.ofString "/") 1)) = Str.ofString "/d" ∧ x ≠ Str.ofString "/") := by decide +kernel

theorem Ent.so_is {e : Ent} (h : e.ok) : e.so = 0 ∨ e.so = 1 := h.kind.elim (fun x => .inl x.1) fun x => .inr x.1

/-- what a look into the tree finds -/
theorem FtIn.look {w : World} {news : List (Addr × Obj)} {ta : Addr} {T : Ft} (h : FtIn w news ta T) {x : Str} {v : Option Value} (hv : valueAt T.kvs x = v) :
    v = none ∨ ∃ e, v = some (.ref e.a) ∧ (e.a, instObj 209 e.d) ∈ news ∧ (e.d, dictOf (entDict w e) 4) ∈ news ∧ (e.so = 0 ∨ e.so = 1) := by
  rw [valueAt_kvs] at hv
  subst hv
  cases h1 : T.at x with
  | none => exact .inl rfl
  | some e => exact .inr ⟨e, rfl, h.einst (Ft.at_mem h1).1, h.edict (Ft.at_mem h1).1, Ent.so_is (h.ok.all e (Ft.at_mem h1).1)⟩
theorem FtIn.found {w : World} {news : List (Addr × Obj)} {ta : Addr} {T : Ft} (h : FtIn w news ta T) {x : Str} {e : Ent} (h1 : T.at x = some e) :
    valueAt T.kvs x = some (.ref e.a) ∧ (e.a, instObj 209 e.d) ∈ news ∧ (e.d, dictOf (entDict w e) 4) ∈ news ∧ (e.so = 0 ∨ e.so = 1) :=
  ⟨by rw [valueAt_kvs, h1]; rfl, h.einst (Ft.at_mem h1).1, h.edict (Ft.at_mem h1).1, Ent.so_is (h.ok.all e (Ft.at_mem h1).1)⟩

def Dirs (T : Ft) : Prop := ∃ e, T.at (Str.ofString "/d") = some e

set_option maxRecDepth 100000 in
set_option maxHeartbeats 2000000 in
theorem c_first_link {w : World} {news : List (Addr × Obj)} {ta : Addr} {T : Ft} (x : Str) (tx : Tok) (I : FtIn w news ta T) (hU : x ∈ U) (hD : x = Str.ofString "/" ∨ Dirs T) :
    Call w 1 248 [.ref ta, .str x tx] news (fun r n' => n' = news ∧ ∃ t, r = .str (Str.ofString "") t) (fun _ => False) := by
  intro dp un gd cn cs a ccd cl outer A₀ base h₀ L m s Q E mean mg mb B F X N Tp hk hd hu hret hexc
  obtain ⟨⟨isd, lo, hall, hsm⟩, hmem⟩ := id I
  have hi := I.inst
  have hdi := I.dict
  have hen := I.ents
  have hlen := U_len x hU
  obtain ⟨v, hv⟩ : ∃ v, valueAt T.kvs x = v := ⟨_, rfl⟩
  have hlk := I.look hv
  (refine' code_defQ (m' := fr2 (Str.ofString "self") (Str.ofString "name") _ _) ?k1 ?k2 ?k3 ?k4 ?k5 ?kA ?kF ?kK ?k6 ?k7 ?k8 ?k9 ?kB ?kM ?_ ?c2 ?c3 ?c4 ?c5; (case kA => exact rfl); (case kF => exact rfl); (case kK => first | exact rfl | assumption); (case k1 => k_asm); (case k2 => k_asm); (case k3 => k_asm); (case k4 => k_asm); (case k5 => k_asm); (case k6 => k_is); (case k7 => k_is); (case k8 => ktr_room); (case k9 => exact BindsTo.of_eq rfl); (case c5 => decide); (case kB => exact locs rfl); (case kM => exact rfl); (case c2 => exact rfl); (case c3 => exact rfl); (case c4 => exact rfl); k_whole; intro gq Lq Sq Qo Eo hSq FGq Fq Nq Bq Xq Tq hQo hEo hPo; (try dsimp only))
  rcases U_find x hU with ⟨hf, _⟩ | ⟨hf, hf3, hcut, hne⟩
  · (k_steps; all_goals (try (first | (refine hQo _ _ _ _ _ _ (by k_asm) (by k_asm) ?_; intro kF kN; (try dsimp only [valOf])) | (refine hEo _ _ _ ?_; k_steps))))
    all_goals rcases hlk with rfl | ⟨e, rfl, hei, hed, hso⟩
    all_goals try dsimp only [Option.getD]
    all_goals (k_steps; all_goals (try (first | (refine hQo _ _ _ _ _ _ (by k_asm) (by k_asm) ?_; intro kF kN; (try dsimp only [valOf])) | (refine hEo _ _ _ ?_; k_steps))))
    all_goals first | exact hret _ _ _ _ ⟨rfl, _, rfl⟩ (by k_asm) (by first | k_asm | exact cb_drop (by assumption) (by intro p hp; simp [hp])) | (exfalso; simp only [decide_eq_true_eq] at *; omega)
  · obtain ⟨e1, he1⟩ := hD.resolve_left hne
    rw [← hcut] at he1
    obtain ⟨hv2, hei2, hed2, hso2⟩ := I.found he1
    (k_steps; all_goals (try (first | (refine hQo _ _ _ _ _ _ (by k_asm) (by k_asm) ?_; intro kF kN; (try dsimp only [valOf])) | (refine hEo _ _ _ ?_; k_steps))))
    all_goals rcases hlk with rfl | ⟨e, rfl, hei, hed, hso⟩
    all_goals try dsimp only [Option.getD]
    all_goals (k_steps; all_goals (try (first | (refine hQo _ _ _ _ _ _ (by k_asm) (by k_asm) ?_; intro kF kN; (try dsimp only [valOf])) | (refine hEo _ _ _ ?_; k_steps))))
    all_goals first | exact hret _ _ _ _ ⟨rfl, _, rfl⟩ (by k_asm) (by first | k_asm | exact cb_drop (by assumption) (by intro p hp; simp [hp])) | (exfalso; simp only [decide_eq_true_eq] at *; omega)

theorem FtIn.cons {w : World} {news : List (Addr × Obj)} {ta : Addr} {T : Ft} {p : Addr × Obj} (h : FtIn w news ta T) : FtIn w (p :: news) ta T := ⟨h.ok, fun q hq => .tail _ (h.mem q hq)⟩
theorem FtIn.app {w : World} {news own : List (Addr × Obj)} {ta : Addr} {T : Ft} (h : FtIn w news ta T) : FtIn w (news ++ own) ta T := ⟨h.ok, fun q hq => List.mem_append_left _ (h.mem q hq)⟩
local macro_rules | `(tactic| walk_at "in tree") => `(tactic| (repeat (first | with_reducible assumption | with_reducible apply FtIn.cons | with_reducible apply FtIn.app)))

theorem top_C2 : True := by
  w_top off
  trivial
local macro_rules | `(tactic| walk_at "call ref") => `(tactic| (k_here; (with_reducible refine atRef 248 ?_); k_dflt (refine Call.useK (C := c_first_link _ _ (by walk_at "in tree") ‹_› ‹_›) (hK := q_str) (ret := ?_); walk_at "swept")))

section
local macro_rules | `(tactic| walk_at "pyIter ref") => `(tactic| kf1_first)
set_option maxRecDepth 100000 in
set_option maxHeartbeats 2000000 in
theorem c_true_name {w : World} {news : List (Addr × Obj)} {ta : Addr} {T : Ft} (x : Str) (tx : Tok) (I : FtIn w news ta T) (hU : x ∈ U) (hD : x = Str.ofString "/" ∨ Dirs T) :
    Call w 2 241 [.ref ta, .str x tx] news (fun r n' => n' = news ∧ ∃ t, r = .str x t) (fun _ => False) := by
  intro dp un gd cn cs a ccd cl outer A₀ base h₀ L m s Q E mean mg mb B F X N Tp hk hd hu hret hexc
  obtain ⟨⟨isd, lo, hall, hsm⟩, hmem⟩ := id I
  have hi := I.inst
  have hdi := I.dict
  have hen := I.ents
  have hlen := U_len x hU
  (refine' code_defQ (m' := fr2 (Str.ofString "self") (Str.ofString "name") _ _) ?k1 ?k2 ?k3 ?k4 ?k5 ?kA ?kF ?kK ?k6 ?k7 ?k8 ?k9 ?kB ?kM ?_ ?c2 ?c3 ?c4 ?c5; (case kA => exact rfl); (case kF => exact rfl); (case kK => first | exact rfl | assumption); (case k1 => k_asm); (case k2 => k_asm); (case k3 => k_asm); (case k4 => k_asm); (case k5 => k_asm); (case k6 => k_is); (case k7 => k_is); (case k8 => ktr_room); (case k9 => exact BindsTo.of_eq rfl); (case c5 => decide); (case kB => exact locs rfl); (case kM => exact rfl); (case c2 => exact rfl); (case c3 => exact rfl); (case c4 => exact rfl); k_whole; intro gq Lq Sq Qo Eo hSq FGq Fq Nq Bq Xq Tq hQo hEo hPo; (try dsimp only))
  (k_steps; all_goals (try (first | (refine hQo _ _ _ _ _ _ (by k_asm) (by k_asm) ?_; intro kF kN; (try dsimp only [valOf])) | (refine hEo _ _ _ ?_; k_steps))))
  all_goals first | exact hret _ _ _ _ ⟨rfl, _, rfl⟩ (by k_asm) (by first | k_asm | exact cb_drop (by assumption) (by intro p hp; simp [hp])) | trace_state
end
local macro_rules | `(tactic| walk_at "no such step 1") => `(tactic| fail)
local macro_rules | `(tactic| walk_at "no such step 2") => `(tactic| fail)
local macro_rules | `(tactic| walk_at "call ref") => `(tactic| (k_here; (with_reducible refine atRef 241 ?_); k_dflt (refine Call.useK (C := c_true_name _ _ (by walk_at "in tree") ‹_› ‹_›) (hK := q_str) (ret := ?_); walk_at "swept")))

@[irreducible] def dpart (x : Str) : Str := Txt.slice x none (some (Txt.rfind x (Str.ofString "/") + 1))
@[irreducible] def lpart (x : Str) : Str := Txt.slice x (some (Txt.rfind x (Str.ofString "/") + 1)) none
@[irreducible] def parent (x : Str) : Str := if (dpart x == Str.ofString "/") = true then Str.ofString "/" else Txt.slice (dpart x) none (some (-1))
@[irreducible] def joinp (d s : Str) : Str := if (d == Str.ofString "/") = true then d ++ s else d ++ Str.ofString "/" ++ s
theorem parent_pos {x : Str} (h : (dpart x == Str.ofString "/") = true) : Str.ofString "/" = parent x := by unfold parent; exact (if_pos h).symm
theorem parent_neg {x : Str} (h : (dpart x == Str.ofString "/") = false) : Txt.slice (dpart x) none (some (-1)) = parent x := by unfold parent; exact (if_neg (by rw [h]; exact Bool.false_ne_true)).symm
theorem dpart_is (x : Str) : Txt.slice x none (some (Txt.rfind x (Str.ofString "/") + 1)) = dpart x := by unfold dpart; rfl
theorem lpart_is (x : Str) : Txt.slice x (some (Txt.rfind x (Str.ofString "/") + 1)) none = lpart x := by unfold lpart; rfl
theorem joinp_pos {d s : Str} (h : (d == Str.ofString "/") = true) : d ++ s = joinp d s := by unfold joinp; exact (if_pos h).symm
theorem joinp_neg {d s : Str} (h : (d == Str.ofString "/") = false) : d ++ Str.ofString "/" ++ s = joinp d s := by unfold joinp; exact (if_neg (by rw [h]; exact Bool.false_ne_true)).symm
theorem U_rfind : ∀ x ∈ U, 0 ≤ Txt.rfind x (Str.ofString "/") ∧ (dpart x).length ≤ 100 ∧ (lpart x).length ≤ 100 ∧ (parent x).length ≤ 100 := by decide +kernel
theorem U_parent : ∀ x ∈ U, parent x ∈ U ∧ ((x == Str.ofString "/") = false → joinp (parent x) (lpart x) = x) ∧ (parent x = Str.ofString "/" ∨ parent x = Str.ofString "/d") := by decide +kernel
theorem vstr {a b : Str} {t : Tok} (h : a = b) : Value.str a t = Value.str b t := congrArg (Value.str · t) h

set_option maxRecDepth 100000 in
set_option maxHeartbeats 2000000 in
theorem c_directory_part {w : World} {news : List (Addr × Obj)} (x : Str) (tx : Tok) (hU : x ∈ U) :
    Call w 1 28 [.str x tx] news (fun r n' => n' = news ∧ ∃ t, r = .str (dpart x) t) (fun _ => False) := by
  intro dp un gd cn cs a ccd cl outer A₀ base h₀ L m s Q E mean mg mb B F X N Tp hk hd hu hret hexc
  have hlen := U_len x hU
  have hrf := (U_rfind x hU).1
  (refine' code_defQ (m' := fr1 (Str.ofString "name") _) ?k1 ?k2 ?k3 ?k4 ?k5 ?kA ?kF ?kK ?k6 ?k7 ?k8 ?k9 ?kB ?kM ?_ ?c2 ?c3 ?c4 ?c5; (case kA => exact rfl); (case kF => exact rfl); (case kK => first | exact rfl | assumption); (case k1 => k_asm); (case k2 => k_asm); (case k3 => k_asm); (case k4 => k_asm); (case k5 => k_asm); (case k6 => k_is); (case k7 => k_is); (case k8 => ktr_room); (case k9 => exact BindsTo.of_eq rfl); (case c5 => decide); (case kB => exact locs rfl); (case kM => exact rfl); (case c2 => exact rfl); (case c3 => exact rfl); (case c4 => exact rfl); k_whole; intro gq Lq Sq Qo Eo hSq FGq Fq Nq Bq Xq Tq hQo hEo hPo; (try dsimp only))
  (k_steps; all_goals (try (first | (refine hQo _ _ _ _ _ _ (by k_asm) (by k_asm) ?_; intro kF kN; (try dsimp only [valOf])) | (refine hEo _ _ _ ?_; k_steps))))
  all_goals exact hret _ _ _ _ ⟨rfl, _, vstr (dpart_is x)⟩ (by k_asm) (by first | k_asm | exact cb_drop (by assumption) (by intro p hp; simp [hp]))
local macro_rules | `(tactic| walk_at "call ref") => `(tactic| (k_here; (with_reducible refine atRef 28 ?_); k_dflt (refine Call.useK (C := c_directory_part _ _ ‹_›) (hK := q_str) (ret := ?_); walk_at "swept")))

set_option maxRecDepth 100000 in
set_option maxHeartbeats 2000000 in
theorem c_last_part {w : World} {news : List (Addr × Obj)} (x : Str) (tx : Tok) (hU : x ∈ U) :
    Call w 1 35 [.str x tx] news (fun r n' => n' = news ∧ ∃ t, r = .str (lpart x) t) (fun _ => False) := by
  intro dp un gd cn cs a ccd cl outer A₀ base h₀ L m s Q E mean mg mb B F X N Tp hk hd hu hret hexc
  have hlen := U_len x hU
  have hrf := (U_rfind x hU).1
  (refine' code_defQ (m' := fr1 (Str.ofString "name") _) ?k1 ?k2 ?k3 ?k4 ?k5 ?kA ?kF ?kK ?k6 ?k7 ?k8 ?k9 ?kB ?kM ?_ ?c2 ?c3 ?c4 ?c5; (case kA => exact rfl); (case kF => exact rfl); (case kK => first | exact rfl | assumption); (case k1 => k_asm); (case k2 => k_asm); (case k3 => k_asm); (case k4 => k_asm); (case k5 => k_asm); (case k6 => k_is); (case k7 => k_is); (case k8 => ktr_room); (case k9 => exact BindsTo.of_eq rfl); (case c5 => decide); (case kB => exact locs rfl); (case kM => exact rfl); (case c2 => exact rfl); (case c3 => exact rfl); (case c4 => exact rfl); k_whole; intro gq Lq Sq Qo Eo hSq FGq Fq Nq Bq Xq Tq hQo hEo hPo; (try dsimp only))
  (k_steps; all_goals (try (first | (refine hQo _ _ _ _ _ _ (by k_asm) (by k_asm) ?_; intro kF kN; (try dsimp only [valOf])) | (refine hEo _ _ _ ?_; k_steps))))
  all_goals exact hret _ _ _ _ ⟨rfl, _, vstr (lpart_is x)⟩ (by k_asm) (by first | k_asm | exact cb_drop (by assumption) (by intro p hp; simp [hp]))
local macro_rules | `(tactic| walk_at "call ref") => `(tactic| (k_here; (with_reducible refine atRef 35 ?_); k_dflt (refine Call.useK (C := c_last_part _ _ ‹_›) (hK := q_str) (ret := ?_); walk_at "swept")))

set_option maxRecDepth 100000 in
set_option maxHeartbeats 2000000 in
theorem c_parent_of {w : World} {news : List (Addr × Obj)} (x : Str) (tx : Tok) (hU : x ∈ U) :
    Call w 2 421 [.str x tx] news (fun r n' => n' = news ∧ ∃ t, r = .str (parent x) t) (fun _ => False) := by
  intro dp un gd cn cs a ccd cl outer A₀ base h₀ L m s Q E mean mg mb B F X N Tp hk hd hu hret hexc
  have hlen := (U_rfind x hU).2.1
  (refine' code_defQ (m' := fr1 (Str.ofString "name") _) ?k1 ?k2 ?k3 ?k4 ?k5 ?kA ?kF ?kK ?k6 ?k7 ?k8 ?k9 ?kB ?kM ?_ ?c2 ?c3 ?c4 ?c5; (case kA => exact rfl); (case kF => exact rfl); (case kK => first | exact rfl | assumption); (case k1 => k_asm); (case k2 => k_asm); (case k3 => k_asm); (case k4 => k_asm); (case k5 => k_asm); (case k6 => k_is); (case k7 => k_is); (case k8 => ktr_room); (case k9 => exact BindsTo.of_eq rfl); (case c5 => decide); (case kB => exact locs rfl); (case kM => exact rfl); (case c2 => exact rfl); (case c3 => exact rfl); (case c4 => exact rfl); k_whole; intro gq Lq Sq Qo Eo hSq FGq Fq Nq Bq Xq Tq hQo hEo hPo; (try dsimp only))
  (k_steps; all_goals (try (first | (refine hQo _ _ _ _ _ _ (by k_asm) (by k_asm) ?_; intro kF kN; (try dsimp only [valOf])) | (refine hEo _ _ _ ?_; k_steps))))
  · exact hret _ _ _ _ ⟨rfl, _, vstr (parent_pos (by assumption))⟩ (by k_asm) (by first | k_asm | exact cb_drop (by assumption) (by intro p hp; simp [hp]))
  · exact hret _ _ _ _ ⟨rfl, _, vstr (parent_neg (by assumption))⟩ (by k_asm) (by first | k_asm | exact cb_drop (by assumption) (by intro p hp; simp [hp]))
local macro_rules | `(tactic| walk_at "call ref") => `(tactic| (k_here; (with_reducible refine atRef 421 ?_); k_dflt (refine Call.useK (C := c_parent_of _ _ ‹_›) (hK := q_str) (ret := ?_); walk_at "swept")))

set_option maxRecDepth 100000 in
set_option maxHeartbeats 2000000 in
theorem c_joined {w : World} {news : List (Addr × Obj)} (d s' : Str) (t1 t2 : Tok) (h1 : d.length ≤ 100) (h2 : s'.length ≤ 100) :
    Call w 1 428 [.str d t1, .str s' t2] news (fun r n' => n' = news ∧ ∃ t, r = .str (joinp d s') t) (fun _ => False) := by
  intro dp un gd cn cs a ccd cl outer A₀ base h₀ L m s Q E mean mg mb B F X N Tp hk hd hu hret hexc
  (refine' code_defQ (m' := fr2 (Str.ofString "directory") (Str.ofString "step") _ _) ?k1 ?k2 ?k3 ?k4 ?k5 ?kA ?kF ?kK ?k6 ?k7 ?k8 ?k9 ?kB ?kM ?_ ?c2 ?c3 ?c4 ?c5; (case kA => exact rfl); (case kF => exact rfl); (case kK => first | exact rfl | assumption); (case k1 => k_asm); (case k2 => k_asm); (case k3 => k_asm); (case k4 => k_asm); (case k5 => k_asm); (case k6 => k_is); (case k7 => k_is); (case k8 => ktr_room); (case k9 => exact BindsTo.of_eq rfl); (case c5 => decide); (case kB => exact locs rfl); (case kM => exact rfl); (case c2 => exact rfl); (case c3 => exact rfl); (case c4 => exact rfl); k_whole; intro gq Lq Sq Qo Eo hSq FGq Fq Nq Bq Xq Tq hQo hEo hPo; (try dsimp only))
  (k_steps; all_goals (try (first | (refine hQo _ _ _ _ _ _ (by k_asm) (by k_asm) ?_; intro kF kN; (try dsimp only [valOf])) | (refine hEo _ _ _ ?_; k_steps))))
  · exact hret _ _ _ _ ⟨rfl, _, vstr (joinp_pos (by assumption))⟩ (by k_asm) (by first | k_asm | exact cb_drop (by assumption) (by intro p hp; simp [hp]))
  · exact hret _ _ _ _ ⟨rfl, _, vstr (joinp_neg (by assumption))⟩ (by k_asm) (by first | k_asm | exact cb_drop (by assumption) (by intro p hp; simp [hp]))
local macro_rules | `(tactic| walk_at "call ref") => `(tactic| (k_here; (with_reducible refine atRef 428 ?_); k_dflt (refine Call.useK (C := c_joined _ _ _ _ ‹_› ‹_›) (hK := q_str) (ret := ?_); walk_at "swept")))

set_option maxRecDepth 100000 in
set_option maxHeartbeats 2000000 in
theorem c_parent_true {w : World} {news : List (Addr × Obj)} {ta : Addr} {T : Ft} (x : Str) (tx : Tok) (I : FtIn w news ta T) (hU : x ∈ U) (hD : parent x = Str.ofString "/" ∨ Dirs T) :
    Call w 3 255 [.ref ta, .str x tx] news (fun r n' => n' = news ∧ ∃ t, r = .str x t) (fun _ => False) := by
  intro dp un gd cn cs a ccd cl outer A₀ base h₀ L m s Q E mean mg mb B F X N Tp hk hd hu hret hexc
  obtain ⟨⟨isd, lo, hall, hsm⟩, hmem⟩ := id I
  have hi := I.inst
  have hdi := I.dict
  have hen := I.ents
  have hlen := U_len x hU
  obtain ⟨hU2, hj, _⟩ := U_parent x hU
  obtain ⟨_, _, hl1, hl2⟩ := U_rfind x hU
  (refine' code_defQ (m' := fr2 (Str.ofString "self") (Str.ofString "name") _ _) ?k1 ?k2 ?k3 ?k4 ?k5 ?kA ?kF ?kK ?k6 ?k7 ?k8 ?k9 ?kB ?kM ?_ ?c2 ?c3 ?c4 ?c5; (case kA => exact rfl); (case kF => exact rfl); (case kK => first | exact rfl | assumption); (case k1 => k_asm); (case k2 => k_asm); (case k3 => k_asm); (case k4 => k_asm); (case k5 => k_asm); (case k6 => k_is); (case k7 => k_is); (case k8 => ktr_room); (case k9 => exact BindsTo.of_eq rfl); (case c5 => decide); (case kB => exact locs rfl); (case kM => exact rfl); (case c2 => exact rfl); (case c3 => exact rfl); (case c4 => exact rfl); k_whole; intro gq Lq Sq Qo Eo hSq FGq Fq Nq Bq Xq Tq hQo hEo hPo; (try dsimp only))
  (k_steps; all_goals (try (first | (refine hQo _ _ _ _ _ _ (by k_asm) (by k_asm) ?_; intro kF kN; (try dsimp only [valOf])) | (refine hEo _ _ _ ?_; k_steps))))
  · exact hret _ _ _ _ ⟨rfl, _, rfl⟩ (by k_asm) (by first | k_asm | exact cb_drop (by assumption) (by intro p hp; simp [hp]))
  · exact hret _ _ _ _ ⟨rfl, _, vstr (hj (by assumption))⟩ (by k_asm) (by first | k_asm | exact cb_drop (by assumption) (by intro p hp; simp [hp]))
local macro_rules | `(tactic| walk_at "call ref") => `(tactic| (k_here; (with_reducible refine atRef 255 ?_); k_dflt (refine Call.useK (C := c_parent_true _ _ (by walk_at "in tree") ‹_› ‹_›) (hK := q_str) (ret := ?_); walk_at "swept")))

theorem top_C3 : True := by
  w_top off
  trivial
/-- a plain file's entry, written out -/
def entP (w : World) (c : Addr) (st : Int) (k0 k1 k2 k3 k4 k5 : Tok) : List DictEntry :=
  [⟨PyData.keyHash w.params (Str.ofString "sort"), .str (Str.ofString "sort") k0, .int 1 k1⟩,
   ⟨PyData.keyHash w.params (Str.ofString "content"), .str (Str.ofString "content") k2, .ref c⟩,
   ⟨PyData.keyHash w.params (Str.ofString "stamp"), .str (Str.ofString "stamp") k3, .int st k4⟩,
   ⟨PyData.keyHash w.params (Str.ofString "is_writable"), .str (Str.ofString "is_writable") k5, .bool true⟩]
def entD (w : World) (st : Int) (k0 k1 k2 k3 k4 k5 : Tok) : List DictEntry :=
  [⟨PyData.keyHash w.params (Str.ofString "sort"), .str (Str.ofString "sort") k0, .int 0 k1⟩,
   ⟨PyData.keyHash w.params (Str.ofString "content"), .str (Str.ofString "content") k2, .none⟩,
   ⟨PyData.keyHash w.params (Str.ofString "stamp"), .str (Str.ofString "stamp") k3, .int st k4⟩,
   ⟨PyData.keyHash w.params (Str.ofString "is_writable"), .str (Str.ofString "is_writable") k5, .bool true⟩]
theorem Ent.dictP {w : World} {e : Ent} (h : e.ok) (h1 : e.so = 1) : entDict w e = entP w e.c e.st e.k0 e.k1 e.k2 e.k3 e.k4 e.k5 ∧ IntsAre e.vs e.ns ∧ e.ns.length ≤ 1000 := by
  rcases h.kind with ⟨h0, _⟩ | ⟨_, hc, hi, hl⟩
  · rw [h0] at h1; cases h1
  · exact ⟨by unfold entDict entP; rw [h1, hc], hi, hl⟩
theorem Ent.dictD {w : World} {e : Ent} (h : e.ok) (h1 : e.so = 0) : entDict w e = entD w e.st e.k0 e.k1 e.k2 e.k3 e.k4 e.k5 := by
  rcases h.kind with ⟨h0, hc⟩ | ⟨h0, _⟩
  · unfold entDict entD; rw [h1, hc]
  · rw [h0] at h1; cases h1
theorem FtIn.plain {w : World} {news : List (Addr × Obj)} {ta : Addr} {T : Ft} (h : FtIn w news ta T) {x : Str} {e : Ent} (h1 : T.at x = some e) (hs : e.so = 1) :
    valueAt T.kvs x = some (.ref e.a) ∧ (e.a, instObj 209 e.d) ∈ news ∧ (e.d, dictOf (entP w e.c e.st e.k0 e.k1 e.k2 e.k3 e.k4 e.k5) 4) ∈ news ∧ (e.c, listOf e.vs.toArray e.n) ∈ news ∧ IntsAre e.vs e.ns ∧ e.ns.length ≤ 1000 := by
  obtain ⟨a, b, c, _⟩ := h.found h1
  obtain ⟨d1, d2, d3⟩ := Ent.dictP (w := w) (h.ok.all e (Ft.at_mem h1).1) hs
  rw [d1] at c
  exact ⟨a, b, c, h.ent (Ft.at_mem h1).1 _ (.tail _ (.tail _ (by rw [if_pos hs]; exact .head _))), d2, d3⟩
theorem FtIn.isdir {w : World} {news : List (Addr × Obj)} {ta : Addr} {T : Ft} (h : FtIn w news ta T) {x : Str} {e : Ent} (h1 : T.at x = some e) (hs : e.so = 0) :
    valueAt T.kvs x = some (.ref e.a) ∧ (e.a, instObj 209 e.d) ∈ news ∧ (e.d, dictOf (entD w e.st e.k0 e.k1 e.k2 e.k3 e.k4 e.k5) 4) ∈ news := by
  obtain ⟨a, b, c, _⟩ := h.found h1
  rw [Ent.dictD (w := w) (h.ok.all e (Ft.at_mem h1).1) hs] at c
  exact ⟨a, b, c⟩

set_option maxRecDepth 100000 in
set_option maxHeartbeats 2000000 in
theorem c_entry {w : World} {news : List (Addr × Obj)} {ta : Addr} {T : Ft} {v : Option Value} (x : Str) (tx : Tok) (I : FtIn w news ta T) (hU : x ∈ U) (hD : x = Str.ofString "/" ∨ Dirs T) (hv : valueAt T.kvs x = v) :
    Call w 3 262 [.ref ta, .str x tx] news (fun r n' => n' = news ∧ r = v.getD .none) (fun _ => False) := by
  intro dp un gd cn cs a ccd cl outer A₀ base h₀ L m s Q E mean mg mb B F X N Tp hk hd hu hret hexc
  obtain ⟨⟨isd, lo, hall, hsm⟩, hmem⟩ := id I
  have hi := I.inst
  have hdi := I.dict
  have hen := I.ents
  have hlen := U_len x hU
  (refine' code_defQ (m' := fr2 (Str.ofString "self") (Str.ofString "name") _ _) ?k1 ?k2 ?k3 ?k4 ?k5 ?kA ?kF ?kK ?k6 ?k7 ?k8 ?k9 ?kB ?kM ?_ ?c2 ?c3 ?c4 ?c5; (case kA => exact rfl); (case kF => exact rfl); (case kK => first | exact rfl | assumption); (case k1 => k_asm); (case k2 => k_asm); (case k3 => k_asm); (case k4 => k_asm); (case k5 => k_asm); (case k6 => k_is); (case k7 => k_is); (case k8 => ktr_room); (case k9 => exact BindsTo.of_eq rfl); (case c5 => decide); (case kB => exact locs rfl); (case kM => exact rfl); (case c2 => exact rfl); (case c3 => exact rfl); (case c4 => exact rfl); k_whole; intro gq Lq Sq Qo Eo hSq FGq Fq Nq Bq Xq Tq hQo hEo hPo; (try dsimp only))
  (k_steps; all_goals (try (first | (refine hQo _ _ _ _ _ _ (by k_asm) (by k_asm) ?_; intro kF kN; (try dsimp only [valOf])) | (refine hEo _ _ _ ?_; k_steps))))
  all_goals (rcases I.look hv with rfl | ⟨e, rfl, hei, hed, hso⟩ <;> exact hret _ _ _ _ ⟨rfl, rfl⟩ (by k_asm) (by first | k_asm | exact cb_drop (by assumption) (by intro p hp; simp [hp])))
local macro_rules | `(tactic| walk_at "call ref") => `(tactic| (k_here; (with_reducible refine atRef 262 ?_); k_dflt (refine Call.useK (C := c_entry _ _ (by walk_at "in tree") ‹_› ‹_› ‹_›) (hK := q_val) (ret := ?_); walk_at "swept")))

set_option maxRecDepth 100000 in
set_option maxHeartbeats 2000000 in
theorem c_is_there {w : World} {news : List (Addr × Obj)} {ta : Addr} {T : Ft} {v : Option Value} (x : Str) (tx : Tok) (I : FtIn w news ta T) (hU : x ∈ U) (hD : x = Str.ofString "/" ∨ Dirs T) (hv : valueAt T.kvs x = v) :
    Call w 4 269 [.ref ta, .str x tx] news (fun r n' => n' = news ∧ r = .bool v.isSome) (fun _ => False) := by
  intro dp un gd cn cs a ccd cl outer A₀ base h₀ L m s Q E mean mg mb B F X N Tp hk hd hu hret hexc
  obtain ⟨⟨isd, lo, hall, hsm⟩, hmem⟩ := id I
  have hi := I.inst
  have hdi := I.dict
  have hen := I.ents
  have hlen := U_len x hU
  have hlk := I.look hv
  (refine' code_defQ (m' := fr2 (Str.ofString "self") (Str.ofString "name") _ _) ?k1 ?k2 ?k3 ?k4 ?k5 ?kA ?kF ?kK ?k6 ?k7 ?k8 ?k9 ?kB ?kM ?_ ?c2 ?c3 ?c4 ?c5; (case kA => exact rfl); (case kF => exact rfl); (case kK => first | exact rfl | assumption); (case k1 => k_asm); (case k2 => k_asm); (case k3 => k_asm); (case k4 => k_asm); (case k5 => k_asm); (case k6 => k_is); (case k7 => k_is); (case k8 => ktr_room); (case k9 => exact BindsTo.of_eq rfl); (case c5 => decide); (case kB => exact locs rfl); (case kM => exact rfl); (case c2 => exact rfl); (case c3 => exact rfl); (case c4 => exact rfl); k_whole; intro gq Lq Sq Qo Eo hSq FGq Fq Nq Bq Xq Tq hQo hEo hPo; (try dsimp only))
  (k_steps; all_goals (try (first | (refine hQo _ _ _ _ _ _ (by k_asm) (by k_asm) ?_; intro kF kN; (try dsimp only [valOf])) | (refine hEo _ _ _ ?_; k_steps))))
  all_goals rcases hlk with rfl | ⟨e, rfl, hei, hed, hso⟩
  all_goals try dsimp only [Option.getD]
  all_goals (k_steps; all_goals (try (first | (refine hQo _ _ _ _ _ _ (by k_asm) (by k_asm) ?_; intro kF kN; (try dsimp only [valOf])) | (refine hEo _ _ _ ?_; k_steps))))
  all_goals exact hret _ _ _ _ ⟨rfl, rfl⟩ (by k_asm) (by first | k_asm | exact cb_drop (by assumption) (by intro p hp; simp [hp]))
local macro_rules | `(tactic| walk_at "call ref") => `(tactic| (k_here; (with_reducible refine atRef 269 ?_); k_dflt (refine Call.useK (C := c_is_there _ _ (by walk_at "in tree") ‹_› ‹_› ‹_›) (hK := q_val) (ret := ?_); walk_at "swept")))

/-- an entry is a plain file's -/
def plainAt (T : Ft) (x : Str) : Bool := match T.at x with | some e => decide (e.so = 1) | none => false

set_option maxRecDepth 100000 in
set_option maxHeartbeats 2000000 in
theorem c_is_plain {w : World} {news : List (Addr × Obj)} {ta : Addr} {T : Ft} (x : Str) (tx : Tok) (I : FtIn w news ta T) (hU : x ∈ U) (hD : x = Str.ofString "/" ∨ Dirs T) :
    Call w 4 283 [.ref ta, .str x tx] news (fun r n' => n' = news ∧ r = .bool (plainAt T x)) (fun _ => False) := by
  intro dp un gd cn cs a ccd cl outer A₀ base h₀ L m s Q E mean mg mb B F X N Tp hk hd hu hret hexc
  obtain ⟨⟨isd, lo, hall, hsm⟩, hmem⟩ := id I
  have hi := I.inst
  have hdi := I.dict
  have hen := I.ents
  have hlen := U_len x hU
  cases h1 : T.at x with
  | none =>
    have hv : valueAt T.kvs x = none := by rw [valueAt_kvs, h1]; rfl
    have hp : plainAt T x = false := by unfold plainAt; rw [h1]
    rw [hp] at hret
    (refine' code_defQ (m' := fr2 (Str.ofString "self") (Str.ofString "name") _ _) ?k1 ?k2 ?k3 ?k4 ?k5 ?kA ?kF ?kK ?k6 ?k7 ?k8 ?k9 ?kB ?kM ?_ ?c2 ?c3 ?c4 ?c5; (case kA => exact rfl); (case kF => exact rfl); (case kK => first | exact rfl | assumption); (case k1 => k_asm); (case k2 => k_asm); (case k3 => k_asm); (case k4 => k_asm); (case k5 => k_asm); (case k6 => k_is); (case k7 => k_is); (case k8 => ktr_room); (case k9 => exact BindsTo.of_eq rfl); (case c5 => decide); (case kB => exact locs rfl); (case kM => exact rfl); (case c2 => exact rfl); (case c3 => exact rfl); (case c4 => exact rfl); k_whole; intro gq Lq Sq Qo Eo hSq FGq Fq Nq Bq Xq Tq hQo hEo hPo; (try dsimp only))
    (k_steps; all_goals (try (first | (refine hQo _ _ _ _ _ _ (by k_asm) (by k_asm) ?_; intro kF kN; (try dsimp only [valOf])) | (refine hEo _ _ _ ?_; k_steps))))
    all_goals exact hret _ _ _ _ ⟨rfl, rfl⟩ (by k_asm) (by first | k_asm | exact cb_drop (by assumption) (by intro p hp; simp [hp]))
  | some e =>
    have hp : plainAt T x = decide (e.so = 1) := by unfold plainAt; rw [h1]
    rw [hp] at hret
    obtain ⟨hv, hei, hed, hso⟩ := I.found h1
    (refine' code_defQ (m' := fr2 (Str.ofString "self") (Str.ofString "name") _ _) ?k1 ?k2 ?k3 ?k4 ?k5 ?kA ?kF ?kK ?k6 ?k7 ?k8 ?k9 ?kB ?kM ?_ ?c2 ?c3 ?c4 ?c5; (case kA => exact rfl); (case kF => exact rfl); (case kK => first | exact rfl | assumption); (case k1 => k_asm); (case k2 => k_asm); (case k3 => k_asm); (case k4 => k_asm); (case k5 => k_asm); (case k6 => k_is); (case k7 => k_is); (case k8 => ktr_room); (case k9 => exact BindsTo.of_eq rfl); (case c5 => decide); (case kB => exact locs rfl); (case kM => exact rfl); (case c2 => exact rfl); (case c3 => exact rfl); (case c4 => exact rfl); k_whole; intro gq Lq Sq Qo Eo hSq FGq Fq Nq Bq Xq Tq hQo hEo hPo; (try dsimp only))
    (k_steps; all_goals (try (first | (refine hQo _ _ _ _ _ _ (by k_asm) (by k_asm) ?_; intro kF kN; (try dsimp only [valOf])) | (refine hEo _ _ _ ?_; k_steps))))
    all_goals exact hret _ _ _ _ ⟨rfl, rfl⟩ (by k_asm) (by first | k_asm | exact cb_drop (by assumption) (by intro p hp; simp [hp]))
local macro_rules | `(tactic| walk_at "call ref") => `(tactic| (k_here; (with_reducible refine atRef 283 ?_); k_dflt (refine Call.useK (C := c_is_plain _ _ (by walk_at "in tree") ‹_› ‹_›) (hK := q_val) (ret := ?_); walk_at "swept")))

set_option maxRecDepth 100000 in
set_option maxHeartbeats 2000000 in
theorem c_need_plain {w : World} {news : List (Addr × Obj)} {ta : Addr} {T : Ft} {e : Ent} (x : Str) (tx : Tok) (I : FtIn w news ta T) (hU : x ∈ U) (hD : x = Str.ofString "/" ∨ Dirs T) (h1 : T.at x = some e) (hs : e.so = 1) :
    Call w 4 290 [.ref ta, .str x tx] news (fun r n' => n' = news ∧ r = .ref e.a) (fun _ => False) := by
  intro dp un gd cn cs a ccd cl outer A₀ base h₀ L m s Q E mean mg mb B F X N Tp hk hd hu hret hexc
  obtain ⟨⟨isd, lo, hall, hsm⟩, hmem⟩ := id I
  have hi := I.inst
  have hdi := I.dict
  have hen := I.ents
  have hlen := U_len x hU
  obtain ⟨hv, hei, hed, _⟩ := I.plain h1 hs
  (refine' code_defQ (m' := fr2 (Str.ofString "self") (Str.ofString "name") _ _) ?k1 ?k2 ?k3 ?k4 ?k5 ?kA ?kF ?kK ?k6 ?k7 ?k8 ?k9 ?kB ?kM ?_ ?c2 ?c3 ?c4 ?c5; (case kA => exact rfl); (case kF => exact rfl); (case kK => first | exact rfl | assumption); (case k1 => k_asm); (case k2 => k_asm); (case k3 => k_asm); (case k4 => k_asm); (case k5 => k_asm); (case k6 => k_is); (case k7 => k_is); (case k8 => ktr_room); (case k9 => exact BindsTo.of_eq rfl); (case c5 => decide); (case kB => exact locs rfl); (case kM => exact rfl); (case c2 => exact rfl); (case c3 => exact rfl); (case c4 => exact rfl); k_whole; intro gq Lq Sq Qo Eo hSq FGq Fq Nq Bq Xq Tq hQo hEo hPo; (try dsimp only))
  (k_steps; all_goals (try (first | (refine hQo _ _ _ _ _ _ (by k_asm) (by k_asm) ?_; intro kF kN; (try dsimp only [valOf])) | (refine hEo _ _ _ ?_; k_steps))))
  all_goals exact hret _ _ _ _ ⟨rfl, rfl⟩ (by k_asm) (by first | k_asm | exact cb_drop (by assumption) (by intro p hp; simp [hp]))
local macro_rules | `(tactic| walk_at "call ref") => `(tactic| (k_here; (with_reducible refine atRef 290 ?_); k_dflt (refine Call.useK (C := c_need_plain _ _ (by walk_at "in tree") ‹_› ‹_› ‹_› ‹_›) (hK := q_val) (ret := ?_); walk_at "swept")))

set_option maxRecDepth 100000 in
set_option maxHeartbeats 2000000 in
theorem c_need_directory {w : World} {news : List (Addr × Obj)} {ta : Addr} {T : Ft} {e : Ent} (x : Str) (tx : Tok) (I : FtIn w news ta T) (hU : x ∈ U) (hD : x = Str.ofString "/" ∨ Dirs T) (h1 : T.at x = some e) (hs : e.so = 0) :
    Call w 4 297 [.ref ta, .str x tx] news (fun r n' => n' = news ∧ r = .none) (fun _ => False) := by
  intro dp un gd cn cs a ccd cl outer A₀ base h₀ L m s Q E mean mg mb B F X N Tp hk hd hu hret hexc
  obtain ⟨⟨isd, lo, hall, hsm⟩, hmem⟩ := id I
  have hi := I.inst
  have hdi := I.dict
  have hen := I.ents
  have hlen := U_len x hU
  obtain ⟨hv, hei, hed⟩ := I.isdir h1 hs
  (refine' code_defQ (m' := fr2 (Str.ofString "self") (Str.ofString "name") _ _) ?k1 ?k2 ?k3 ?k4 ?k5 ?kA ?kF ?kK ?k6 ?k7 ?k8 ?k9 ?kB ?kM ?_ ?c2 ?c3 ?c4 ?c5; (case kA => exact rfl); (case kF => exact rfl); (case kK => first | exact rfl | assumption); (case k1 => k_asm); (case k2 => k_asm); (case k3 => k_asm); (case k4 => k_asm); (case k5 => k_asm); (case k6 => k_is); (case k7 => k_is); (case k8 => ktr_room); (case k9 => exact BindsTo.of_eq rfl); (case c5 => decide); (case kB => exact locs rfl); (case kM => exact rfl); (case c2 => exact rfl); (case c3 => exact rfl); (case c4 => exact rfl); k_whole; intro gq Lq Sq Qo Eo hSq FGq Fq Nq Bq Xq Tq hQo hEo hPo; (try dsimp only))
  (k_steps; all_goals (try (first | (refine hQo _ _ _ _ _ _ (by k_asm) (by k_asm) ?_; intro kF kN; (try dsimp only [valOf])) | (refine hEo _ _ _ ?_; k_steps))))
  all_goals exact hret _ _ _ _ ⟨rfl, rfl⟩ (by k_asm) (by first | k_asm | exact cb_drop (by assumption) (by intro p hp; simp [hp]))
local macro_rules | `(tactic| walk_at "call ref") => `(tactic| (k_here; (with_reducible refine atRef 297 ?_); k_dflt (refine Call.useK (C := c_need_directory _ _ (by walk_at "in tree") ‹_› ‹_› ‹_› ‹_›) (hK := q_val) (ret := ?_); walk_at "swept")))

set_option maxRecDepth 100000 in
set_option maxHeartbeats 2000000 in
theorem c_need_room {w : World} {news : List (Addr × Obj)} {ta : Addr} {T : Ft} {e : Ent} (x : Str) (tx : Tok) (I : FtIn w news ta T) (hU : x ∈ U) (hD : parent x = Str.ofString "/" ∨ Dirs T) (h1 : T.at (parent x) = some e) (hs : e.so = 0) :
    Call w 4 339 [.ref ta, .str x tx] news (fun r n' => n' = news ∧ r = .none) (fun _ => False) := by
  intro dp un gd cn cs a ccd cl outer A₀ base h₀ L m s Q E mean mg mb B F X N Tp hk hd hu hret hexc
  obtain ⟨⟨isd, lo, hall, hsm⟩, hmem⟩ := id I
  have hi := I.inst
  have hdi := I.dict
  have hen := I.ents
  obtain ⟨hU2, hj, _⟩ := U_parent x hU
  obtain ⟨hv, hei, hed⟩ := I.isdir h1 hs
  (refine' code_defQ (m' := fr2 (Str.ofString "self") (Str.ofString "name") _ _) ?k1 ?k2 ?k3 ?k4 ?k5 ?kA ?kF ?kK ?k6 ?k7 ?k8 ?k9 ?kB ?kM ?_ ?c2 ?c3 ?c4 ?c5; (case kA => exact rfl); (case kF => exact rfl); (case kK => first | exact rfl | assumption); (case k1 => k_asm); (case k2 => k_asm); (case k3 => k_asm); (case k4 => k_asm); (case k5 => k_asm); (case k6 => k_is); (case k7 => k_is); (case k8 => ktr_room); (case k9 => exact BindsTo.of_eq rfl); (case c5 => decide); (case kB => exact locs rfl); (case kM => exact rfl); (case c2 => exact rfl); (case c3 => exact rfl); (case c4 => exact rfl); k_whole; intro gq Lq Sq Qo Eo hSq FGq Fq Nq Bq Xq Tq hQo hEo hPo; (try dsimp only))
  (k_steps; all_goals (try (first | (refine hQo _ _ _ _ _ _ (by k_asm) (by k_asm) ?_; intro kF kN; (try dsimp only [valOf])) | (refine hEo _ _ _ ?_; k_steps))))
  all_goals exact hret _ _ _ _ ⟨rfl, rfl⟩ (by k_asm) (by first | k_asm | exact cb_drop (by assumption) (by intro p hp; simp [hp]))
local macro_rules | `(tactic| walk_at "call ref") => `(tactic| (k_here; (with_reducible refine atRef 339 ?_); k_dflt (refine Call.useK (C := c_need_room _ _ (by walk_at "in tree") ‹_› ‹_› ‹_› ‹_›) (hK := q_val) (ret := ?_); walk_at "swept")))

set_option maxRecDepth 100000 in
set_option maxHeartbeats 2000000 in
theorem c_link_text {w : World} {news : List (Addr × Obj)} {ta : Addr} {T : Ft} (x : Str) (tx : Tok) (I : FtIn w news ta T) (hU : x ∈ U) (hD : parent x = Str.ofString "/" ∨ Dirs T) :
    Call w 4 325 [.ref ta, .str x tx] news (fun r n' => n' = news ∧ r = .none) (fun _ => False) := by
  intro dp un gd cn cs a ccd cl outer A₀ base h₀ L m s Q E mean mg mb B F X N Tp hk hd hu hret hexc
  obtain ⟨⟨isd, lo, hall, hsm⟩, hmem⟩ := id I
  have hi := I.inst
  have hdi := I.dict
  have hen := I.ents
  obtain ⟨v, hv⟩ : ∃ v, valueAt T.kvs x = v := ⟨_, rfl⟩
  have hlk := I.look hv
  (refine' code_defQ (m' := fr2 (Str.ofString "self") (Str.ofString "name") _ _) ?k1 ?k2 ?k3 ?k4 ?k5 ?kA ?kF ?kK ?k6 ?k7 ?k8 ?k9 ?kB ?kM ?_ ?c2 ?c3 ?c4 ?c5; (case kA => exact rfl); (case kF => exact rfl); (case kK => first | exact rfl | assumption); (case k1 => k_asm); (case k2 => k_asm); (case k3 => k_asm); (case k4 => k_asm); (case k5 => k_asm); (case k6 => k_is); (case k7 => k_is); (case k8 => ktr_room); (case k9 => exact BindsTo.of_eq rfl); (case c5 => decide); (case kB => exact locs rfl); (case kM => exact rfl); (case c2 => exact rfl); (case c3 => exact rfl); (case c4 => exact rfl); k_whole; intro gq Lq Sq Qo Eo hSq FGq Fq Nq Bq Xq Tq hQo hEo hPo; (try dsimp only))
  (k_steps; all_goals (try (first | (refine hQo _ _ _ _ _ _ (by k_asm) (by k_asm) ?_; intro kF kN; (try dsimp only [valOf])) | (refine hEo _ _ _ ?_; k_steps))))
  all_goals rcases hlk with rfl | ⟨e, rfl, hei, hed, hso⟩
  all_goals try dsimp only [Option.getD]
  all_goals (k_steps; all_goals (try (first | (refine hQo _ _ _ _ _ _ (by k_asm) (by k_asm) ?_; intro kF kN; (try dsimp only [valOf])) | (refine hEo _ _ _ ?_; k_steps))))
  all_goals first | exact hret _ _ _ _ ⟨rfl, rfl⟩ (by k_asm) (by first | k_asm | exact cb_drop (by assumption) (by intro p hp; simp [hp])) | (exfalso; simp only [decide_eq_true_eq] at *; omega)
local macro_rules | `(tactic| walk_at "call ref") => `(tactic| (k_here; (with_reducible refine atRef 325 ?_); k_dflt (refine Call.useK (C := c_link_text _ _ (by walk_at "in tree") ‹_› ‹_›) (hK := q_val) (ret := ?_); walk_at "swept")))

set_option maxRecDepth 100000 in
set_option maxHeartbeats 2000000 in
theorem c_read {w : World} {news : List (Addr × Obj)} {ta : Addr} {T : Ft} {e : Ent} (x : Str) (tx : Tok) (I : FtIn w news ta T) (hU : x ∈ U) (hD : x = Str.ofString "/" ∨ Dirs T) (h1 : T.at x = some e) (hs : e.so = 1) :
    Call w 5 304 [.ref ta, .str x tx] news (fun r n' => ∃ D c, n' = (D, listOf e.vs.toArray c) :: news ∧ r = .ref D ∧ ∀ q ∈ news, q.1 < D) (fun _ => False) := by
  intro dp un gd cn cs a ccd cl outer A₀ base h₀ L m s Q E mean mg mb B F X N Tp hk hd hu hret hexc
  obtain ⟨⟨isd, lo, hall, hsm⟩, hmem⟩ := id I
  have hi := I.inst
  have hdi := I.dict
  have hen := I.ents
  have hlen := U_len x hU
  obtain ⟨hv, hei, hed, hel, hin, hln⟩ := I.plain h1 hs
  (refine' code_defQ (m' := fr2 (Str.ofString "self") (Str.ofString "name") _ _) ?k1 ?k2 ?k3 ?k4 ?k5 ?kA ?kF ?kK ?k6 ?k7 ?k8 ?k9 ?kB ?kM ?_ ?c2 ?c3 ?c4 ?c5; (case kA => exact rfl); (case kF => exact rfl); (case kK => first | exact rfl | assumption); (case k1 => k_asm); (case k2 => k_asm); (case k3 => k_asm); (case k4 => k_asm); (case k5 => k_asm); (case k6 => k_is); (case k7 => k_is); (case k8 => ktr_room); (case k9 => exact BindsTo.of_eq rfl); (case c5 => decide); (case kB => exact locs rfl); (case kM => exact rfl); (case c2 => exact rfl); (case c3 => exact rfl); (case c4 => exact rfl); k_whole; intro gq Lq Sq Qo Eo hSq FGq Fq Nq Bq Xq Tq hQo hEo hPo; (try dsimp only))
  (k_steps; all_goals (try (first | (refine hQo _ _ _ _ _ _ (by k_asm) (by k_asm) ?_; intro kF kN; (try dsimp only [valOf])) | (refine hEo _ _ _ ?_; k_steps))))
  all_goals exact hret _ _ _ _ ⟨_, _, rfl, rfl, by assumption⟩ (by k_asm) (by first | k_asm | exact cb_drop (by assumption) (by intro p hp; simp [hp]))

theorem top_C4 : True := by
  w_top off
  trivial
local macro_rules | `(tactic| walk_at "call ref") => `(tactic| (k_here; (with_reducible refine atRef 304 ?_); k_dflt (refine Call.useK (C := c_read _ _ (by walk_at "in tree") ‹_› ‹_› ‹_› ‹_›) (hK := q_ld) (ret := ?_); walk_at "swept")))

/-- the tree is the call's own: it stands in the ledger, all addresses apart -/
structure Own (w : World) (ta : Addr) (T : Ft) (rest : List (Addr × Obj)) : Prop where
  ok : T.ok w
  nd : ((T.objs w ta ++ rest).map (·.1)).Nodup

theorem Own.inn {w : World} {ta : Addr} {T : Ft} {rest : List (Addr × Obj)} (O : Own w ta T rest) : FtIn w (T.objs w ta ++ rest) ta T := ⟨O.ok, fun _ h => List.mem_append_left _ h⟩

/-- what stands behind the tree's own two objects -/
def Ft.tail (w : World) (T : Ft) (rest : List (Addr × Obj)) : List (Addr × Obj) := (T.de, T.oE) :: (T.ents.flatMap (Ent.objs w) ++ rest)
theorem Ft.split (w : World) (ta : Addr) (T : Ft) (rest : List (Addr × Obj)) : T.objs w ta ++ rest = (ta, instObj 410 T.dt) :: (T.dt, dictOf (ftDict w T) 3) :: T.tail w rest := rfl
theorem Own.apart {w : World} {ta : Addr} {T : Ft} {rest : List (Addr × Obj)} (O : Own w ta T rest) : @Ne Nat ta T.dt ∧ (∀ p ∈ T.tail w rest, p.1 ≠ ta) ∧ (∀ p ∈ T.tail w rest, p.1 ≠ T.dt) := by
  have h := O.nd
  rw [Ft.split, List.map_cons, List.map_cons, List.nodup_cons, List.nodup_cons] at h
  obtain ⟨h1, h2, h3⟩ := h
  rw [List.mem_cons, not_or] at h1
  exact ⟨h1.1, fun p hp e => h1.2 (List.mem_map.mpr ⟨p, hp, e⟩), fun p hp e => h2 (List.mem_map.mpr ⟨p, hp, e⟩)⟩

/-- the tree with another clock and other steps -/
def Ft.ticked (T : Ft) (c l : Int) (k1 k3 : Tok) : Ft := { T with clock := c, left := l, k1 := k1, k3 := k3 }
theorem Own.ticked {w : World} {ta : Addr} {T : Ft} {rest : List (Addr × Obj)} (O : Own w ta T rest) (c l : Int) (k1 k3 : Tok) : Own w ta (T.ticked c l k1 k3) rest := ⟨⟨O.ok.isd, O.ok.lo, O.ok.all, O.ok.small⟩, O.nd⟩

def stepL (l : Int) : Int := if 0 < l then l - 1 else l
theorem stepL_pos {l : Int} (h : 0 < l) : stepL l = l - 1 := if_pos h
theorem stepL_neg {l : Int} (h : l < 0) : stepL l = l := if_neg (Int.not_lt.mpr (Int.le_of_lt h))

/-- the tree's own dict, written out -/
def selfDict (w : World) (clock left : Int) (de : Addr) (k0 k1 k2 k3 k4 : Tok) : List DictEntry :=
  [⟨PyData.keyHash w.params (Str.ofString "clock"), .str (Str.ofString "clock") k0, .int clock k1⟩,
   ⟨PyData.keyHash w.params (Str.ofString "left"), .str (Str.ofString "left") k2, .int left k3⟩,
   ⟨PyData.keyHash w.params (Str.ofString "entries"), .str (Str.ofString "entries") k4, .ref de⟩]
set_option maxRecDepth 100000 in
set_option maxHeartbeats 2000000 in
theorem c_step0 {w : World} {R : List (Addr × Obj)} {ta dt de : Addr} {clock left : Int} {k0 k1 k2 k3 k4 : Tok} (hne : @Ne Nat ta dt) (ha1 : ∀ p ∈ R, p.1 ≠ ta) (ha2 : ∀ p ∈ R, p.1 ≠ dt) :
    Call w 2 234 [.ref ta] ((ta, instObj 410 dt) :: (dt, dictOf (selfDict w clock left de k0 k1 k2 k3 k4) 3) :: R)
      (fun r n' => r = .none ∧ left ≠ 0 ∧ ∃ l k1' k3', l = stepL left ∧ n' = (ta, instObj 410 dt) :: (dt, dictOf (selfDict w (clock + 1) l de k0 k1' k2 k3' k4) 3) :: R)
      (fun n' => left = 0 ∧ n' = (ta, instObj 410 dt) :: (dt, dictOf (selfDict w clock left de k0 k1 k2 k3 k4) 3) :: R) := by
  intro dp un gd cn cs a ccd cl outer A₀ base h₀ L m s Q E mean mg mb B F X N Tp hk hd hu hret hexc
  (refine' code_defQ (m' := fr1 (Str.ofString "self") _) ?k1 ?k2 ?k3 ?k4 ?k5 ?kA ?kF ?kK ?k6 ?k7 ?k8 ?k9 ?kB ?kM ?_ ?c2 ?c3 ?c4 ?c5; (case kA => exact rfl); (case kF => exact rfl); (case kK => first | exact rfl | assumption); (case k1 => k_asm); (case k2 => k_asm); (case k3 => k_asm); (case k4 => k_asm); (case k5 => k_asm); (case k6 => k_is); (case k7 => k_is); (case k8 => ktr_room); (case k9 => exact BindsTo.of_eq rfl); (case c5 => decide); (case kB => exact locs rfl); (case kM => exact rfl); (case c2 => exact rfl); (case c3 => exact rfl); (case c4 => exact rfl); k_whole; intro gq Lq Sq Qo Eo hSq FGq Fq Nq Bq Xq Tq hQo hEo hPo; (try dsimp only))
  (k_steps; all_goals (try (first | (refine hQo _ _ _ _ _ _ (by k_asm) (by k_asm) ?_; intro kF kN; (try dsimp only [valOf])) | (refine hEo _ _ _ ?_; k_steps))))
  · exact hexc _ _ _ _ _ _ ⟨by simp only [decide_eq_true_eq, decide_eq_false_iff_not] at *; omega, rfl⟩ (by assumption) (by assumption) (by assumption)
  · exact hret _ _ _ _ ⟨rfl, by simp only [decide_eq_true_eq, decide_eq_false_iff_not] at *; omega, left - 1, _, _, by (unfold stepL; simp only [decide_eq_true_eq, decide_eq_false_iff_not] at *; split <;> omega), rfl⟩ (by k_asm) (by k_asm)
  · exact hret _ _ _ _ ⟨rfl, by simp only [decide_eq_true_eq, decide_eq_false_iff_not] at *; omega, left, _, _, by (unfold stepL; simp only [decide_eq_true_eq, decide_eq_false_iff_not] at *; split <;> omega), rfl⟩ (by k_asm) (by k_asm)
theorem c_step {w : World} {rest : List (Addr × Obj)} {ta : Addr} {T : Ft} (O : Own w ta T rest) :
    Call w 2 234 [.ref ta] (T.objs w ta ++ rest)
      (fun r n' => r = .none ∧ T.left ≠ 0 ∧ ∃ l k1 k3, l = stepL T.left ∧ n' = (T.ticked (T.clock + 1) l k1 k3).objs w ta ++ rest)
      (fun n' => T.left = 0 ∧ n' = T.objs w ta ++ rest) :=
  have ⟨hne, ha1, ha2⟩ := O.apart
  (c_step0 hne ha1 ha2).mono (fun _ _ ⟨a, b, l, k1, k3, c, d⟩ => ⟨a, b, l, k1, k3, c, d⟩) fun _ h => h
local macro_rules | `(tactic| walk_at "call ref") => `(tactic| (k_here; (with_reducible refine atRef 234 ?_); k_dflt (refine Call.useKX (C := c_step ‹_›) (hK := q_step) (hX := qx_a) (ret := ?_) (exc := ?_); walk_at "sweptX")))

def Ent.cobj (e : Ent) : List (Addr × Obj) := if e.so = 1 then [(e.c, listOf e.vs.toArray e.n)] else []
/-- what stands behind the tree's own two objects and one entry's -/
def Ft.rest (w : World) (T : Ft) (cs : List (Addr × Obj)) (pre post : List Ent) (rest : List (Addr × Obj)) : List (Addr × Obj) :=
  (T.de, T.oE) :: (cs ++ (pre.flatMap (Ent.objs w) ++ (post.flatMap (Ent.objs w) ++ rest)))
theorem perm_view {α : Type} (a b c x y : α) (cs P S R : List α) : (a :: b :: c :: (P ++ ((x :: y :: cs) ++ S)) ++ R).Perm (x :: y :: a :: b :: c :: (cs ++ (P ++ (S ++ R)))) := by
  have h1 : (P ++ ((x :: y :: cs) ++ S) ++ R).Perm (x :: y :: (cs ++ (P ++ (S ++ R)))) := by
    simp only [List.append_assoc, List.cons_append]
    refine List.perm_middle.trans (.cons _ (List.perm_middle.trans (.cons _ ?_)))
    exact List.perm_append_comm_assoc _ _ _
  have h2 : ∀ (z : α) (l : List α), (z :: x :: y :: l).Perm (x :: y :: z :: l) := fun z l => (List.Perm.swap _ _ _).trans (.cons _ (List.Perm.swap _ _ _))
  show (a :: b :: c :: (P ++ ((x :: y :: cs) ++ S) ++ R)).Perm _
  exact ((((h1.cons c).trans (h2 c _)).cons b).trans (h2 b _) |>.cons a).trans (h2 a _)
theorem Ft.perm (w : World) (ta : Addr) {T : Ft} {pre post : List Ent} {e : Ent} (he : T.ents = pre ++ e :: post) (rest : List (Addr × Obj)) :
    (T.objs w ta ++ rest).Perm ((e.a, instObj 209 e.d) :: (e.d, dictOf (entDict w e) 4) :: (ta, instObj 410 T.dt) :: (T.dt, dictOf (ftDict w T) 3) :: T.rest w e.cobj pre post rest) := by
  unfold Ft.objs Ft.rest
  rw [he, List.flatMap_append, List.flatMap_cons]
  exact perm_view _ _ _ _ _ _ _ _ _
structure Apart (ta : Addr) (T : Ft) (e : Ent) (R : List (Addr × Obj)) : Prop where
  h1 : @Ne Nat e.a e.d
  h2 : @Ne Nat e.a ta
  h3 : @Ne Nat e.a T.dt
  h4 : @Ne Nat e.d ta
  h5 : @Ne Nat e.d T.dt
  h6 : @Ne Nat ta T.dt
  r1 : ∀ p ∈ R, p.1 ≠ e.a
  r2 : ∀ p ∈ R, p.1 ≠ e.d
  r3 : ∀ p ∈ R, p.1 ≠ ta
  r4 : ∀ p ∈ R, p.1 ≠ T.dt
theorem apart_of {ta : Addr} {T : Ft} {e : Ent} {o1 o2 o3 o4 : Obj} {R : List (Addr × Obj)} (h : (((e.a, o1) :: (e.d, o2) :: (ta, o3) :: (T.dt, o4) :: R).map (·.1)).Nodup) : Apart ta T e R := by
  simp only [List.map_cons, List.nodup_cons, List.mem_cons, not_or] at h
  obtain ⟨⟨a1, a2, a3, a4⟩, ⟨b1, b2, b3⟩, ⟨c1, c2⟩, d1, _⟩ := h
  exact ⟨a1, a2, a3, b1, b2, c1, fun p hp q => a4 (List.mem_map.mpr ⟨p, hp, q⟩), fun p hp q => b3 (List.mem_map.mpr ⟨p, hp, q⟩), fun p hp q => c2 (List.mem_map.mpr ⟨p, hp, q⟩), fun p hp q => d1 (List.mem_map.mpr ⟨p, hp, q⟩)⟩
theorem Own.view {w : World} {ta : Addr} {T : Ft} {rest : List (Addr × Obj)} {pre post : List Ent} {e : Ent} (O : Own w ta T rest) (he : T.ents = pre ++ e :: post) : Apart ta T e (T.rest w e.cobj pre post rest) :=
  apart_of ((Ft.perm w ta he rest).map (·.1) |>.nodup_iff.mp O.nd)
theorem nodup_swap {l1 cs X : List Nat} {c : Nat} (h : (l1 ++ (cs ++ X)).Nodup) (hc : c ∉ l1 ++ X) : (l1 ++ ([c] ++ X)).Nodup := by
  have p : (l1 ++ ([c] ++ X)).Perm (c :: (l1 ++ X)) := List.perm_middle
  exact p.nodup_iff.mpr (List.nodup_cons.mpr ⟨hc, h.sublist (List.Sublist.append_left (List.sublist_append_right _ _) _)⟩)
/-- one entry's content is another list now -/
theorem Own.put {w : World} {ta : Addr} {T T' : Ft} {rest : List (Addr × Obj)} {pre post : List Ent} {e e' : Ent} (O : Own w ta T rest) (he : T.ents = pre ++ e :: post) (he' : T'.ents = pre ++ e' :: post)
    (hdt : T'.dt = T.dt) (hde : T'.de = T.de) (hoE : T'.oE = T.oE) (hn : e'.name = e.name) (ha : e'.a = e.a) (hd : e'.d = e.d) (hs : e'.so = 1) (hok : e'.ok) (hf : ∀ p ∈ T.objs w ta ++ rest, p.1 < e'.c) : Own w ta T' rest := by
  refine ⟨⟨?_, by rw [hde]; exact O.ok.lo, ?_, ?_⟩, ?_⟩
  · have h : T'.kvs = T.kvs := by unfold Ft.kvs; rw [he, he']; simp only [List.map_append, List.map_cons, hn, ha]
    rw [h, hoE]; exact O.ok.isd
  · intro x hx
    rw [he'] at hx
    rcases List.mem_append.mp hx with h | h
    · exact O.ok.all x (by rw [he]; exact List.mem_append_left _ h)
    · rcases List.mem_cons.mp h with rfl | h
      · exact hok
      · exact O.ok.all x (by rw [he]; exact List.mem_append_right _ (.tail _ h))
  · rw [he']; have := O.ok.small; rw [he] at this; simpa using this
  · have h := (Ft.perm w ta he rest).map (·.1) |>.nodup_iff.mp O.nd
    have hlt : ∀ p ∈ ((e.a, instObj 209 e.d) :: (e.d, dictOf (entDict w e) 4) :: (ta, instObj 410 T.dt) :: (T.dt, dictOf (ftDict w T) 3) :: T.rest w e.cobj pre post rest), p.1 ≠ e'.c :=
      fun p hp => Nat.ne_of_lt (hf p ((Ft.perm w ta he rest).mem_iff.mpr hp))
    refine (Ft.perm w ta he' rest).map (·.1) |>.nodup_iff.mpr ?_
    have hc' : e'.cobj = [(e'.c, listOf e'.vs.toArray e'.n)] := if_pos hs
    unfold Ft.rest at h hlt ⊢
    rw [hc', ha, hd, hdt, hde]
    rw [List.map_cons, List.map_cons, List.map_cons, List.map_cons, List.map_cons, List.map_append] at h ⊢
    refine nodup_swap (l1 := [e.a, e.d, ta, T.dt, T.de]) h fun hm => ?_
    rcases List.mem_append.mp hm with hm | hm
    · simp only [List.mem_cons, List.not_mem_nil, or_false] at hm
      rcases hm with q | q | q | q | q
      · exact hlt _ (.head _) q.symm
      · exact hlt _ (.tail _ (.head _)) q.symm
      · exact hlt _ (.tail _ (.tail _ (.head _))) q.symm
      · exact hlt _ (.tail _ (.tail _ (.tail _ (.head _)))) q.symm
      · exact hlt _ (.tail _ (.tail _ (.tail _ (.tail _ (.head _))))) q.symm
    · obtain ⟨p, hp, q⟩ := List.mem_map.mp hm
      exact hlt p (.tail _ (.tail _ (.tail _ (.tail _ (.tail _ (List.mem_append_right _ hp)))))) q

/-- the ledger with one plain file's entry in front -/
theorem Own.opened {w : World} {ta D L : Addr} {o : Obj} {h₀ h : Heap} {T : Ft} {rest : List (Addr × Obj)} {pre post : List Ent} {e : Ent} (N : News h₀ L h ((D, o) :: (T.objs w ta ++ rest))) (l : ∀ q ∈ T.objs w ta ++ rest, q.1 < D)
    (O : Own w ta T rest) (he : T.ents = pre ++ e :: post) (h1 : e.so = 1) :
    ∃ R, R = T.rest w e.cobj pre post rest ∧ Apart ta T e R ∧
      News h₀ L h ((e.a, instObj 209 e.d) :: (e.d, dictOf (entP w e.c e.st e.k0 e.k1 e.k2 e.k3 e.k4 e.k5) 4) :: (ta, instObj 410 T.dt) :: (T.dt, dictOf (ftDict w T) 3) :: (D, o) :: R) ∧
      @LT.lt Nat _ e.a D ∧ @LT.lt Nat _ e.d D ∧ @LT.lt Nat _ ta D ∧ @LT.lt Nat _ T.dt D ∧ ∀ p ∈ R, p.1 ≠ D := by
  have P := Ft.perm w ta he rest
  have hd := (Ent.dictP (w := w) (O.ok.all e (by rw [he]; exact List.mem_append_right _ (.head _))) h1).1
  rw [hd] at P
  have m : ∀ p ∈ ((e.a, instObj 209 e.d) :: (e.d, dictOf (entP w e.c e.st e.k0 e.k1 e.k2 e.k3 e.k4 e.k5) 4) :: (ta, instObj 410 T.dt) :: (T.dt, dictOf (ftDict w T) 3) :: T.rest w e.cobj pre post rest), p ∈ T.objs w ta ++ rest := fun p hp => P.mem_iff.mpr hp
  refine ⟨_, rfl, O.view he, fun p hp => ?_, l _ (m _ (.head _)), l _ (m _ (.tail _ (.head _))), l _ (m _ (.tail _ (.tail _ (.head _)))), l _ (m _ (.tail _ (.tail _ (.tail _ (.head _))))), fun p hp => Nat.ne_of_lt (l _ (m _ (.tail _ (.tail _ (.tail _ (.tail _ hp))))))⟩
  rcases List.mem_cons.mp hp with rfl | hp
  · exact N _ (.tail _ (m _ (.head _)))
  rcases List.mem_cons.mp hp with rfl | hp
  · exact N _ (.tail _ (m _ (.tail _ (.head _))))
  rcases List.mem_cons.mp hp with rfl | hp
  · exact N _ (.tail _ (m _ (.tail _ (.tail _ (.head _)))))
  rcases List.mem_cons.mp hp with rfl | hp
  · exact N _ (.tail _ (m _ (.tail _ (.tail _ (.tail _ (.head _))))))
  rcases List.mem_cons.mp hp with rfl | hp
  · exact N _ (.head _)
  · exact N _ (.tail _ (m _ (.tail _ (.tail _ (.tail _ (.tail _ hp))))))
/-- the tree with another list of entries -/
def Ft.withEnts (T : Ft) (es : List Ent) : Ft := { T with ents := es }
theorem Own.closed {w : World} {ta D L : Addr} {h₀ h : Heap} {T : Ft} {rest R : List (Addr × Obj)} {pre post : List Ent} {e : Ent} {cvs : List Value} {cns : List Int} {c : Nat} {st : Int} {k0 k1 k2 k3 k4 k5 : Tok}
    (N : News h₀ L h ((e.a, instObj 209 e.d) :: (e.d, dictOf (entP w D st k0 k1 k2 k3 k4 k5) 4) :: (ta, instObj 410 T.dt) :: (T.dt, dictOf (ftDict w T) 3) :: (D, listOf cvs.toArray c) :: R))
    (l : ∀ q ∈ T.objs w ta ++ rest, q.1 < D)
    (O : Own w ta T rest) (he : T.ents = pre ++ e :: post) (hR : R = T.rest w e.cobj pre post rest) (hi : IntsAre cvs cns) (hl : cns.length ≤ 1000) :
    ∃ T' e', News h₀ L h (T'.objs w ta ++ rest) ∧ Own w ta T' rest ∧ T'.left = T.left ∧ T'.ents = pre ++ e' :: post ∧ e'.name = e.name ∧ e'.so = 1 ∧ e'.vs = cvs ∧ e'.ns = cns := by
  refine ⟨T.withEnts (pre ++ ⟨e.name, e.a, e.d, D, 1, .ref D, cvs, cns, c, st, k0, k1, k2, k3, k4, k5⟩ :: post), ⟨e.name, e.a, e.d, D, 1, .ref D, cvs, cns, c, st, k0, k1, k2, k3, k4, k5⟩, fun p hp => ?_, ?_, rfl, rfl, rfl, rfl, rfl, rfl⟩
  · have hp' := (Ft.perm w ta (T := T.withEnts (pre ++ ⟨e.name, e.a, e.d, D, 1, .ref D, cvs, cns, c, st, k0, k1, k2, k3, k4, k5⟩ :: post)) rfl rest).mem_iff.mp hp
    subst hR
    rcases List.mem_cons.mp hp' with rfl | hp
    · exact N _ (.head _)
    rcases List.mem_cons.mp hp with rfl | hp
    · exact N _ (.tail _ (.head _))
    rcases List.mem_cons.mp hp with rfl | hp
    · exact N _ (.tail _ (.tail _ (.head _)))
    rcases List.mem_cons.mp hp with rfl | hp
    · exact N _ (.tail _ (.tail _ (.tail _ (.head _))))
    rcases List.mem_cons.mp hp with rfl | hp
    · exact N _ (.tail _ (.tail _ (.tail _ (.tail _ (.tail _ (.head _))))))
    rcases List.mem_cons.mp hp with rfl | hp
    · exact N _ (.tail _ (.tail _ (.tail _ (.tail _ (.head _)))))
    · exact N _ (.tail _ (.tail _ (.tail _ (.tail _ (.tail _ (.tail _ (List.mem_append_right _ hp)))))))
  · exact O.put he rfl rfl rfl rfl rfl rfl rfl rfl ⟨.inr ⟨rfl, rfl, hi, hl⟩⟩ l

set_option maxRecDepth 100000 in
set_option maxHeartbeats 2000000 in
theorem c_fill {w : World} {rest : List (Addr × Obj)} {ta cl ea : Addr} {T : Ft} {pre post : List Ent} {e : Ent} {cvs : List Value} {cns : List Int} {cn' : Nat} (O : Own w ta T rest)
    (he : T.ents = pre ++ e :: post) (h1 : e.so = 1) (hc : (cl, listOf cvs.toArray cn') ∈ rest) (hi : IntsAre cvs cns) (hl : cns.length ≤ 1000) (hea : e.a = ea) :
    Call w 4 353 [.ref ta, .ref ea, .ref cl] (T.objs w ta ++ rest)
      (fun r n' => r = .none ∧ T.left ≠ 0 ∧ ∃ T' e', n' = T'.objs w ta ++ rest ∧ Own w ta T' rest ∧ T'.left = stepL T.left ∧ T'.ents = pre ++ e' :: post ∧ e'.name = e.name ∧ e'.so = 1 ∧ e'.vs = cvs ∧ e'.ns = cns)
      (fun n' => T.left = 0 ∧ n' = T.objs w ta ++ rest) := by
  subst hea
  intro dp un gd cn cs a ccd cl outer A₀ base h₀ L m s Q E mean mg mb B F X N Tp hk hd hu hret hexc
  (refine' code_defQ (m' := fr3 (Str.ofString "self") (Str.ofString "entry") (Str.ofString "codes") _ _ _) ?k1 ?k2 ?k3 ?k4 ?k5 ?kA ?kF ?kK ?k6 ?k7 ?k8 ?k9 ?kB ?kM ?_ ?c2 ?c3 ?c4 ?c5; (case kA => exact rfl); (case kF => exact rfl); (case kK => first | exact rfl | assumption); (case k1 => k_asm); (case k2 => k_asm); (case k3 => k_asm); (case k4 => k_asm); (case k5 => k_asm); (case k6 => k_is); (case k7 => k_is); (case k8 => ktr_room); (case k9 => exact BindsTo.of_eq rfl); (case c5 => decide); (case kB => exact locs rfl); (case kM => exact rfl); (case c2 => exact rfl); (case c3 => exact rfl); (case c4 => exact rfl); k_whole; intro gq Lq Sq Qo Eo hSq FGq Fq Nq Bq Xq Tq hQo hEo hPo; (try dsimp only))
  (k_steps; all_goals (try (first | (refine hQo _ _ _ _ _ _ (by k_asm) (by k_asm) ?_; intro kF kN; (try dsimp only [valOf])) | (refine hEo _ _ _ ?_; k_steps))))
  · obtain ⟨R, hR, ⟨a1, a2, a3, a4, a5, a6, r1, r2, r3, r4⟩, N2, d1, d2, d3, d4, d5⟩ := Own.opened (by assumption) (by assumption) (O.ticked _ _ _ _) (by exact he) h1
    (k_steps; all_goals (try (first | (refine hQo _ _ _ _ _ _ (by k_asm) (by k_asm) ?_; intro kF kN; (try dsimp only [valOf])) | (refine hEo _ _ _ ?_; k_steps))))
    obtain ⟨T', e', N4, O', q1, q2, q3, q4, q5, q6⟩ := Own.closed (by assumption) (by assumption) (O.ticked _ _ _ _) (by exact he) hR hi hl
    exact hret _ _ _ _ ⟨rfl, by assumption, T', e', rfl, O', by rw [q1]; assumption, q2, q3, q4, q5, q6⟩ (by k_asm) N4
  · exact hexc _ _ _ _ _ _ ⟨by assumption, rfl⟩ (by assumption) (by assumption) (by assumption)
local macro_rules | `(tactic| walk_at "call ref") => `(tactic| (k_here; (with_reducible refine atRef 353 ?_); k_dflt (refine Call.useKX (C := c_fill ‹_› ‹_› ‹_› ‹_› ‹_› ‹_› ‹_›) (hK := q_fill) (hX := qx_a) (ret := ?_) (exc := ?_); walk_at "sweptX")))

theorem top_C5 : True := by
  w_top off
  trivial
local macro_rules | `(tactic| walk_at "call ref") => `(tactic| (k_here; (with_reducible refine atRef 234 ?_); k_dflt (refine Call.useKX (C := c_step0 (by k_ne) (by k_all) (by k_all)) (hK := q_step) (hX := qx_a) (ret := ?_) (exc := ?_); walk_at "sweptX")))
/-- the tree as a list of names and contents (none: a directory) -/
def Ent.abs (e : Ent) : Str × Option (List Int) := (e.name, if e.so = 1 then some e.ns else none)
def Ft.abs (T : Ft) : List (Str × Option (List Int)) := T.ents.map Ent.abs
def alook : List (Str × Option (List Int)) → Str → Option (Option (List Int))
  | [], _ => none
  | (y, c) :: r, x => if y = x then some c else alook r x
def aput : List (Str × Option (List Int)) → Str → Option (List Int) → List (Str × Option (List Int))
  | [], x, c => [(x, c)]
  | (y, d) :: r, x, c => if y = x then (x, c) :: r else (y, d) :: aput r x c
theorem alook_abs (T : Ft) (x : Str) : alook T.abs x = (T.at x).map fun e => if e.so = 1 then some e.ns else none := by
  unfold Ft.abs Ft.at
  induction T.ents with
  | nil => rfl
  | cons e r ih =>
    rw [List.map_cons, List.find?_cons]
    unfold Ent.abs
    by_cases h : e.name = x
    · simp [alook, h]
    · simp only [alook, h, if_false, decide_false]
      exact ih
theorem at_of_file {T : Ft} {x : Str} {ns : List Int} (h : alook T.abs x = some (some ns)) : ∃ e, T.at x = some e ∧ e.so = 1 ∧ e.ns = ns := by
  rw [alook_abs] at h
  cases h1 : T.at x with
  | none => rw [h1] at h; cases h
  | some e =>
    rw [h1] at h
    by_cases h2 : e.so = 1
    · simp only [Option.map_some, h2, if_true, Option.some.injEq] at h
      exact ⟨e, rfl, h2, h⟩
    · simp only [Option.map_some, h2, if_false] at h
      cases h
theorem at_of_none {T : Ft} {x : Str} (h : alook T.abs x = none) : T.at x = none := by
  rw [alook_abs] at h
  cases h1 : T.at x with
  | none => rfl
  | some e => rw [h1] at h; cases h
theorem at_of_dir {T : Ft} {x : Str} (h : alook T.abs x = some none) (hok : ∀ e ∈ T.ents, e.ok) : ∃ e, T.at x = some e ∧ e.so = 0 := by
  rw [alook_abs] at h
  cases h1 : T.at x with
  | none => rw [h1] at h; cases h
  | some e =>
    rw [h1] at h
    by_cases h2 : e.so = 1
    · simp only [Option.map_some, h2, if_true] at h
      cases h
    · exact ⟨e, rfl, (Ent.so_is (hok e (Ft.at_mem h1).1)).resolve_right h2⟩
theorem aput_mid {pre post : List (Str × Option (List Int))} {x : Str} {c c' : Option (List Int)} (h : ∀ p ∈ pre, p.1 ≠ x) : aput (pre ++ (x, c) :: post) x c' = pre ++ (x, c') :: post := by
  induction pre with
  | nil => simp [aput]
  | cons p r ih =>
    obtain ⟨y, d⟩ := p
    have hy : y ≠ x := h (y, d) (.head _)
    simp only [List.cons_append, aput, hy, if_false]
    rw [ih fun p hp => h p (.tail _ hp)]
theorem aput_new {A : List (Str × Option (List Int))} {x : Str} {c : Option (List Int)} (h : alook A x = none) : aput A x c = A ++ [(x, c)] := by
  induction A with
  | nil => rfl
  | cons p r ih =>
    obtain ⟨y, d⟩ := p
    by_cases hy : y = x
    · simp [alook, hy] at h
    · simp only [alook, hy, if_false] at h
      simp only [aput, hy, if_false, List.cons_append]
      rw [ih h]
theorem at_split {T : Ft} {x : Str} {e : Ent} (h : T.at x = some e) : ∃ pre post, T.ents = pre ++ e :: post ∧ e.name = x ∧ ∀ p ∈ pre, p.name ≠ x := by
  obtain ⟨h1, pre, post, h2, h3⟩ := List.find?_eq_some_iff_append.mp h
  exact ⟨pre, post, h2, by simpa using h1, fun p hp => by simpa using h3 p hp⟩
/-- one entry's new content, told -/
theorem abs_put {T T' : Ft} {pre post : List Ent} {e e' : Ent} {x : Str} {cns : List Int} (he : T.ents = pre ++ e :: post) (he' : T'.ents = pre ++ e' :: post) (hx : e.name = x) (hp : ∀ p ∈ pre, p.name ≠ x)
    (hn : e'.name = e.name) (hs : e'.so = 1) (hc : e'.ns = cns) : T'.abs = aput T.abs x (some cns) := by
  unfold Ft.abs
  rw [he, he', List.map_append, List.map_cons, List.map_append, List.map_cons]
  have h1 : e.abs = (x, e.abs.2) := by unfold Ent.abs; rw [hx]
  have h2 : e'.abs = (x, some cns) := by unfold Ent.abs; rw [hn, hx, if_pos hs, hc]
  rw [h1, h2, aput_mid]
  intro p hp'
  obtain ⟨q, hq, rfl⟩ := List.mem_map.mp hp'
  exact hp q hq

theorem Own.closed' {w : World} {ta D L : Addr} {h₀ h : Heap} {T : Ft} {rest R : List (Addr × Obj)} {pre post : List Ent} {e : Ent} {cvs : List Value} {cns : List Int} {c : Nat} {st clock left : Int} {k0 k1 k2 k3 k4 k5 t0 t1 t2 t3 t4 : Tok}
    (N : News h₀ L h ((e.a, instObj 209 e.d) :: (e.d, dictOf (entP w D st k0 k1 k2 k3 k4 k5) 4) :: (ta, instObj 410 T.dt) :: (T.dt, dictOf (selfDict w clock left T.de t0 t1 t2 t3 t4) 3) :: (D, listOf cvs.toArray c) :: R))
    (l : ∀ q ∈ T.objs w ta ++ rest, q.1 < D)
    (O : Own w ta T rest) (he : T.ents = pre ++ e :: post) (hR : R = T.rest w e.cobj pre post rest) (hi : IntsAre cvs cns) (hl : cns.length ≤ 1000) :
    ∃ T' e', News h₀ L h (T'.objs w ta ++ rest) ∧ Own w ta T' rest ∧ T'.left = left ∧ T'.ents = pre ++ e' :: post ∧ e'.name = e.name ∧ e'.so = 1 ∧ e'.vs = cvs ∧ e'.ns = cns ∧ e'.a = e.a := by
  refine ⟨⟨T.dt, T.de, T.oE, clock, left, t0, t1, t2, t3, t4, (pre ++ ⟨e.name, e.a, e.d, D, 1, .ref D, cvs, cns, c, st, k0, k1, k2, k3, k4, k5⟩ :: post)⟩, ⟨e.name, e.a, e.d, D, 1, .ref D, cvs, cns, c, st, k0, k1, k2, k3, k4, k5⟩, fun p hp => ?_, ?_, rfl, rfl, rfl, rfl, rfl, rfl, rfl⟩
  · have hp' := (Ft.perm w ta (T := ⟨T.dt, T.de, T.oE, clock, left, t0, t1, t2, t3, t4, (pre ++ ⟨e.name, e.a, e.d, D, 1, .ref D, cvs, cns, c, st, k0, k1, k2, k3, k4, k5⟩ :: post)⟩) rfl rest).mem_iff.mp hp
    subst hR
    rcases List.mem_cons.mp hp' with rfl | hp
    · exact N _ (.head _)
    rcases List.mem_cons.mp hp with rfl | hp
    · exact N _ (.tail _ (.head _))
    rcases List.mem_cons.mp hp with rfl | hp
    · exact N _ (.tail _ (.tail _ (.head _)))
    rcases List.mem_cons.mp hp with rfl | hp
    · exact N _ (.tail _ (.tail _ (.tail _ (.head _))))
    rcases List.mem_cons.mp hp with rfl | hp
    · exact N _ (.tail _ (.tail _ (.tail _ (.tail _ (.tail _ (.head _))))))
    rcases List.mem_cons.mp hp with rfl | hp
    · exact N _ (.tail _ (.tail _ (.tail _ (.tail _ (.head _)))))
    · exact N _ (.tail _ (.tail _ (.tail _ (.tail _ (.tail _ (.tail _ (List.mem_append_right _ hp)))))))
  · exact O.put he rfl rfl rfl rfl rfl rfl rfl rfl ⟨.inr ⟨rfl, rfl, hi, hl⟩⟩ l

theorem RaisedS.drop {base G h : Heap} {l : List Env} {e t : Addr} {cls : Value} {vs : List Value} {news news' : List (Addr × Obj)} (R : RaisedS base G l e cls t vs news h) (k : ∀ q ∈ news', q ∈ news) : RaisedS base G l e cls t vs news' h := by
  obtain ⟨⟨B, st, sg, hl, x1, x3⟩, x2⟩ := R
  exact ⟨⟨B, st, sg, fun q hq => hl q (k q hq), x1, x3⟩, x2⟩
theorem allLt_to {d : Addr} {l : List (Addr × Obj)} (h : AllLt d l) : ∀ p ∈ l, @LT.lt Nat _ p.1 d := by
  induction l with
  | nil => intro p hp; cases hp
  | cons x r ih =>
    intro p hp
    rcases List.mem_cons.mp hp with e | hp
    · rw [e]; exact h.1
    · exact ih h.2 p hp
theorem mem5 {α : Type} {a b c d e : α} {R : List α} : ∀ p ∈ (d :: e :: b :: c :: a :: R), p ∈ (a :: b :: c :: d :: e :: R) := fun p hp => by
  simp only [List.mem_cons] at hp ⊢
  rcases hp with h | h | h | h | h | h
  · exact .inr (.inr (.inr (.inl h)))
  · exact .inr (.inr (.inr (.inr (.inl h))))
  · exact .inr (.inl h)
  · exact .inr (.inr (.inl h))
  · exact .inl h
  · exact .inr (.inr (.inr (.inr (.inr h))))
/-- the ledger with one plain file's entry in front, at a method's start -/
theorem Own.open0 {w : World} {ta L : Addr} {h₀ h : Heap} {T : Ft} {rest : List (Addr × Obj)} {pre post : List Ent} {e : Ent}
    (N : News h₀ L h (T.objs w ta ++ rest)) (O : Own w ta T rest) (he : T.ents = pre ++ e :: post) (h1 : e.so = 1) :
    ∃ R n, R = T.rest w e.cobj pre post rest ∧ Apart ta T e R ∧
      n = ((ta, instObj 410 T.dt) :: (T.dt, dictOf (selfDict w T.clock T.left T.de T.k0 T.k1 T.k2 T.k3 T.k4) 3) :: (e.a, instObj 209 e.d) :: (e.d, dictOf (entP w e.c e.st e.k0 e.k1 e.k2 e.k3 e.k4 e.k5) 4) :: R) ∧
      News h₀ L h n ∧ FtIn w n ta T ∧ (T.de, T.oE) ∈ R ∧ (∀ q ∈ n, q ∈ T.objs w ta ++ rest) ∧ (∀ q ∈ T.objs w ta ++ rest, q ∈ n) := by
  have P := Ft.perm w ta he rest
  have hd := (Ent.dictP (w := w) (O.ok.all e (by rw [he]; exact List.mem_append_right _ (.head _))) h1).1
  rw [hd] at P
  have P2 : ((ta, instObj 410 T.dt) :: (T.dt, dictOf (ftDict w T) 3) :: (e.a, instObj 209 e.d) :: (e.d, dictOf (entP w e.c e.st e.k0 e.k1 e.k2 e.k3 e.k4 e.k5) 4) :: T.rest w e.cobj pre post rest).Perm (T.objs w ta ++ rest) := by
    refine .trans ?_ P.symm
    exact (((List.Perm.swap _ _ _).cons _).trans (List.Perm.swap _ _ _)).trans ((((List.Perm.swap _ _ _).cons _).trans (List.Perm.swap _ _ _)).cons _)
  exact ⟨_, _, rfl, O.view he, rfl, fun p hp => N p (P2.mem_iff.mp hp), ⟨O.ok, fun p hp => P2.mem_iff.mpr (List.mem_append_left _ hp)⟩, .head _, fun q hq => P2.mem_iff.mp hq, fun q hq => P2.mem_iff.mpr hq⟩

set_option maxRecDepth 100000 in
set_option maxHeartbeats 2000000 in
theorem c_write_old {w : World} {rest : List (Addr × Obj)} {ta cl : Addr} {T : Ft} {x : Str} {tx : Tok} {ns : List Int} {cvs : List Value} {cns : List Int} {cn' : Nat} (O : Own w ta T rest)
    (hU : x ∈ U) (hD : x = Str.ofString "/" ∨ Dirs T) (hx : alook T.abs x = some (some ns)) (hc : (cl, listOf cvs.toArray cn') ∈ rest) (hi : IntsAre cvs cns) (hl : cns.length ≤ 1000) :
    Call w 6 346 [.ref ta, .str x tx, .ref cl] (T.objs w ta ++ rest)
      (fun r n' => r = .none ∧ T.left ≠ 0 ∧ stepL T.left ≠ 0 ∧ ∃ T', n' = T'.objs w ta ++ rest ∧ Own w ta T' rest ∧ T'.left = stepL (stepL T.left) ∧ T'.abs = aput T.abs x (some cns))
      (fun n' => ∃ T', n' = T'.objs w ta ++ rest ∧ Own w ta T' rest ∧ ((T.left = 0 ∧ T'.abs = T.abs) ∨ (T.left ≠ 0 ∧ stepL T.left = 0 ∧ T'.abs = aput T.abs x (some [])))) := by
  intro dp un gd cn cs a ccd cl outer A₀ base h₀ L m s Q E mean mg mb B F X N Tp hk hd hu hret hexc
  have hlen := U_len x hU
  obtain ⟨e, h1, hs, hns⟩ := at_of_file hx
  obtain ⟨pre, post, he, hnm, hpre⟩ := at_split h1
  have hv : valueAt T.kvs x = some (.ref e.a) := by rw [valueAt_kvs, h1]; rfl
  have isd := O.ok.isd
  have lo := O.ok.lo
  obtain ⟨R, n, hR, ⟨a1, a2, a3, a4, a5, a6, r1, r2, r3, r4⟩, hn, N0, I0, hen, hsub, hsub2⟩ := Own.open0 N O he hs
  subst hn
  clear N
  (refine' code_defQ (m' := fr3 (Str.ofString "self") (Str.ofString "name") (Str.ofString "codes") _ _ _) ?k1 ?k2 ?k3 ?k4 ?k5 ?kA ?kF ?kK ?k6 ?k7 ?k8 ?k9 ?kB ?kM ?_ ?c2 ?c3 ?c4 ?c5; (case kA => exact rfl); (case kF => exact rfl); (case kK => first | exact rfl | assumption); (case k1 => k_asm); (case k2 => k_asm); (case k3 => k_asm); (case k4 => k_asm); (case k5 => k_asm); (case k6 => k_is); (case k7 => k_is); (case k8 => ktr_room); (case k9 => exact BindsTo.of_eq rfl); (case c5 => decide); (case kB => exact locs rfl); (case kM => exact rfl); (case c2 => exact rfl); (case c3 => exact rfl); (case c4 => exact rfl); k_whole; intro gq Lq Sq Qo Eo hSq FGq Fq Nq Bq Xq Tq hQo hEo hPo; (try dsimp only))
  (repeat' ((fail_if_success (with_reducible show wpAny _ _ (call (Value.ref 353) _) _ _ _)); first | (k_unfold; (try dsimp only)) | (k_end; wrow_close) | walk1 | (dsimp only; walk1) | (leave1; walk_say "STEP leave1"; try dsimp only) | fail "no step")); all_goals (try (first | (refine hQo _ _ _ _ _ _ (by k_asm) (by k_asm) ?_; intro kF kN; (try dsimp only [valOf])) | (refine hEo _ _ _ ?_; (k_steps; all_goals (try (first | (refine hQo _ _ _ _ _ _ (by k_asm) (by k_asm) ?_; intro kF kN; (try dsimp only [valOf])) | (refine hEo _ _ _ ?_; k_steps)))))))
  · have hlt := fun q hq => allLt_to (l := (ta, instObj 410 T.dt) :: (T.dt, dictOf (selfDict w T.clock T.left T.de T.k0 T.k1 T.k2 T.k3 T.k4) 3) :: (e.a, instObj 209 e.d) :: (e.d, dictOf (entP w e.c e.st e.k0 e.k1 e.k2 e.k3 e.k4 e.k5) 4) :: R) ‹ta < _ ∧ _› q (hsub2 q hq)
    obtain ⟨T', e', N4, O', q1, q2, q3, q4, q5, q6, q7⟩ := Own.closed' (cvs := []) (cns := []) (cb_drop (by assumption) (fun p hp => by (repeat (rcases List.mem_cons.mp hp with rfl | hp; · (repeat (first | exact List.mem_cons_self | refine List.mem_cons_of_mem _ ?_)))); (repeat (first | exact hp | refine List.mem_cons_of_mem _ ?_)))) hlt O he hR .nil (by decide)
    (k_steps; all_goals (try (first | (refine hQo _ _ _ _ _ _ (by k_asm) (by k_asm) ?_; intro kF kN; (try dsimp only [valOf])) | (refine hEo _ _ _ ?_; k_steps))))
    · exact hret _ _ _ _ ⟨rfl, by assumption, by (rw [← (by assumption : _ = stepL T.left)]; rw [← q1]; assumption), _, rfl, by assumption, by (rw [← (by assumption : _ = stepL T.left), ← q1]; assumption), abs_put he (by assumption) hnm hpre ((by assumption : _ = e'.name).trans q3) (by assumption) (by assumption)⟩ (by k_asm) (by k_asm)
    · exact hexc _ _ _ _ _ _ ⟨T', rfl, O', .inr ⟨by assumption, by (rw [← (by assumption : _ = stepL T.left), ← q1]; assumption), abs_put he q2 hnm hpre q3 q4 q6⟩⟩ (by assumption) (by assumption) (by assumption)
  · exact hexc _ _ _ _ _ _ ⟨T, rfl, O, .inl ⟨by assumption, rfl⟩⟩ (by assumption) (RaisedS.drop (by assumption) hsub2) (by assumption)

theorem top_C6 : True := by
  w_top off
  trivial
theorem valueAt_stored_new {kvs : List (Str × Value)} {k : Str} {v : Value} (h : valueAt kvs k = none) : valueAt (stored kvs k v) k = some v := by
  rw [stored_absent h]
  unfold valueAt at h ⊢
  rw [List.find?_append]
  rw [Option.map_eq_none_iff] at h
  rw [h]
  simp
/-- one more entry -/
theorem Own.add {w : World} {ta : Addr} {T T' : Ft} {rest : List (Addr × Obj)} {e : Ent} (O : Own w ta T rest) (he : T'.ents = T.ents ++ [e]) (hdt : T'.dt = T.dt) (hde : T'.de = T.de)
    (isd : T'.oE.IsDictOf (PySem.strKind PySem.Challenge.rw_np0075_01.row.prog w) T'.kvs) (hok : e.ok) (hsm : T.ents.length ≤ 99)
    (hnd : ((e.objs w).map (·.1)).Nodup) (hf : ∀ q ∈ T.objs w ta ++ rest, ∀ p ∈ e.objs w, p.1 ≠ q.1) : Own w ta T' rest := by
  refine ⟨⟨isd, by rw [hde]; exact O.ok.lo, fun x hx => ?_, by rw [he]; simpa using hsm⟩, ?_⟩
  · rw [he] at hx
    rcases List.mem_append.mp hx with h | h
    · exact O.ok.all x h
    · rw [List.mem_singleton.mp h]; exact hok
  · have hp : ((T'.objs w ta ++ rest).map (·.1)).Perm ((e.objs w).map (·.1) ++ (T.objs w ta ++ rest).map (·.1)) := by
      unfold Ft.objs
      rw [he, List.flatMap_append, hdt, hde]
      simp only [List.flatMap_cons, List.flatMap_nil, List.append_nil, List.map_append, List.map_cons, List.cons_append]
      refine .trans ?_ (List.perm_middle (l₁ := (e.objs w).map (·.1))).symm
      refine .cons _ (.trans ?_ (List.perm_middle (l₁ := (e.objs w).map (·.1))).symm)
      refine .cons _ (.trans ?_ (List.perm_middle (l₁ := (e.objs w).map (·.1))).symm)
      refine .cons _ ?_
      rw [List.append_assoc]
      exact List.perm_append_comm_assoc _ _ _
    refine hp.nodup_iff.mpr (List.nodup_append.mpr ⟨hnd, O.nd, fun a ha b hb => ?_⟩)
    obtain ⟨p, hp, rfl⟩ := List.mem_map.mp ha
    obtain ⟨q, hq, rfl⟩ := List.mem_map.mp hb
    exact hf q hq p hp
theorem abs_new {T T' : Ft} {e : Ent} {x : Str} {c : Option (List Int)} (he : T'.ents = T.ents ++ [e]) (h1 : T.at x = none) (hn : e.abs = (x, c)) : T'.abs = aput T.abs x c := by
  rw [aput_new (by rw [alook_abs, h1]; rfl)]
  unfold Ft.abs
  rw [he, List.map_append, List.map_cons, hn]
  rfl
/-- the ledger behind a new plain file's entry, folded -/
theorem Own.newly {w : World} {ta x' d' D L : Addr} {h₀ h : Heap} {T : Ft} {x : Str} {oE : Obj} {rest R : List (Addr × Obj)} {cvs : List Value} {cns : List Int} {c : Nat} {st clock left : Int} {k0 k1 k2 k3 k4 k5 t0 t1 t2 t3 t4 : Tok}
    (N : News h₀ L h ((x', instObj 209 d') :: (d', dictOf (entP w D st k0 k1 k2 k3 k4 k5) 4) :: (ta, instObj 410 T.dt) :: (T.dt, dictOf (selfDict w clock left T.de t0 t1 t2 t3 t4) 3) :: (D, listOf cvs.toArray c) :: (T.de, oE) :: R))
    (isd : oE.IsDictOf (PySem.strKind PySem.Challenge.rw_np0075_01.row.prog w) (stored T.kvs x (.ref x'))) (hv : valueAt T.kvs x = none)
    (l : ∀ q ∈ T.objs w ta ++ rest, q.1 < D) (l1 : @LT.lt Nat _ D d') (l2 : @LT.lt Nat _ d' x')
    (O : Own w ta T rest) (hR : R = T.ents.flatMap (Ent.objs w) ++ rest) (hi : IntsAre cvs cns) (hl : cns.length ≤ 1000) (hsm : T.ents.length ≤ 99) :
    ∃ T' e', News h₀ L h (T'.objs w ta ++ rest) ∧ Own w ta T' rest ∧ T'.left = left ∧ T'.ents = T.ents ++ [e'] ∧ e'.name = x ∧ e'.so = 1 ∧ e'.vs = cvs ∧ e'.ns = cns ∧ e'.a = x' := by
  refine ⟨⟨T.dt, T.de, oE, clock, left, t0, t1, t2, t3, t4, T.ents ++ [⟨x, x', d', D, 1, .ref D, cvs, cns, c, st, k0, k1, k2, k3, k4, k5⟩]⟩, ⟨x, x', d', D, 1, .ref D, cvs, cns, c, st, k0, k1, k2, k3, k4, k5⟩, fun p hp => N p ?_, ?_, rfl, rfl, rfl, rfl, rfl, rfl, rfl⟩
  · subst hR
    rcases List.mem_append.mp hp with hp | hp
    · rcases List.mem_cons.mp hp with hp | hp
      · exact hp ▸ .tail _ (.tail _ (.head _))
      rcases List.mem_cons.mp hp with hp | hp
      · exact hp ▸ .tail _ (.tail _ (.tail _ (.head _)))
      rcases List.mem_cons.mp hp with hp | hp
      · exact hp ▸ .tail _ (.tail _ (.tail _ (.tail _ (.tail _ (.head _)))))
      rw [List.flatMap_append] at hp
      rcases List.mem_append.mp hp with hp | hp
      · exact .tail _ (.tail _ (.tail _ (.tail _ (.tail _ (.tail _ (List.mem_append_left _ hp))))))
      rw [List.flatMap_cons, List.flatMap_nil, List.append_nil] at hp
      rcases List.mem_cons.mp hp with hp | hp
      · exact hp ▸ .head _
      rcases List.mem_cons.mp hp with hp | hp
      · exact hp ▸ .tail _ (.head _)
      rw [if_pos rfl] at hp
      exact List.mem_singleton.mp hp ▸ .tail _ (.tail _ (.tail _ (.tail _ (.head _))))
    · exact .tail _ (.tail _ (.tail _ (.tail _ (.tail _ (.tail _ (List.mem_append_right _ hp))))))
  · refine O.add rfl rfl rfl ?_ ⟨.inr ⟨rfl, rfl, hi, hl⟩⟩ hsm ?_ fun q hq p hp => ?_
    · rw [stored_absent hv] at isd
      unfold Ft.kvs at isd ⊢
      rw [List.map_append]
      exact isd
    · unfold Ent.objs
      rw [if_pos rfl]
      simp only [List.map_cons, List.map_nil, List.nodup_cons, List.mem_cons, List.not_mem_nil, or_false, not_or, not_false_eq_true, List.nodup_nil, and_true]
      exact ⟨⟨Nat.ne_of_gt l2, Nat.ne_of_gt (Nat.lt_trans l1 l2)⟩, Nat.ne_of_gt l1⟩
    · have h := l q hq
      unfold Ent.objs at hp
      rw [if_pos rfl] at hp
      rcases List.mem_cons.mp hp with hp | hp
      · rw [hp]; exact Nat.ne_of_gt (Nat.lt_trans h (Nat.lt_trans l1 l2))
      rcases List.mem_cons.mp hp with hp | hp
      · rw [hp]; exact Nat.ne_of_gt (Nat.lt_trans h l1)
      · rw [List.mem_singleton.mp hp]; exact Nat.ne_of_gt h
theorem abs_newP {T T' : Ft} {e : Ent} {x : Str} {cns : List Int} (he : T'.ents = T.ents ++ [e]) (h1 : T.at x = none) (hn : e.name = x) (hs : e.so = 1) (hc : e.ns = cns) : T'.abs = aput T.abs x (some cns) :=
  abs_new he h1 (by unfold Ent.abs; rw [hn, if_pos hs, hc])
theorem lt_ne {a b : Nat} (h : a < b) : b ≠ a := Nat.ne_of_gt h

set_option maxRecDepth 100000 in
set_option maxHeartbeats 2000000 in
theorem c_write_new {w : World} {rest : List (Addr × Obj)} {ta cl : Addr} {T : Ft} {x : Str} {tx : Tok} {cvs : List Value} {cns : List Int} {cn' : Nat} {ep : Ent} (O : Own w ta T rest)
    (hU : x ∈ U) (hD : Dirs T) (hx : T.at x = none) (hpar : T.at (parent x) = some ep) (hps : ep.so = 0) (hsm : T.ents.length ≤ 99) (hc : (cl, listOf cvs.toArray cn') ∈ rest) (hi : IntsAre cvs cns) (hl : cns.length ≤ 1000) :
    Call w 6 346 [.ref ta, .str x tx, .ref cl] (T.objs w ta ++ rest)
      (fun r n' => r = .none ∧ T.left ≠ 0 ∧ stepL T.left ≠ 0 ∧ ∃ T', n' = T'.objs w ta ++ rest ∧ Own w ta T' rest ∧ T'.left = stepL (stepL T.left) ∧ T'.abs = aput T.abs x (some cns))
      (fun n' => ∃ T', n' = T'.objs w ta ++ rest ∧ Own w ta T' rest ∧ ((T.left = 0 ∧ T'.abs = T.abs) ∨ (T.left ≠ 0 ∧ stepL T.left = 0 ∧ T'.abs = aput T.abs x (some [])))) := by
  intro dp un gd cn cs a ccd cl outer A₀ base h₀ L m s Q E mean mg mb B F X N Tp hk hd hu hret hexc
  have hlen := U_len x hU
  have hD' : x = Str.ofString "/" ∨ Dirs T := .inr hD
  have hDp : parent x = Str.ofString "/" ∨ Dirs T := .inr hD
  have hv : valueAt T.kvs x = none := by rw [valueAt_kvs, hx]; rfl
  have isd := O.ok.isd
  have lo := O.ok.lo
  have hsz : T.kvs.length ≤ sizeLine := by
    rw [sizeLine_eq]; unfold Ft.kvs; rw [List.length_map]; have := O.ok.small; omega
  obtain ⟨R, hR⟩ : ∃ R, R = T.ents.flatMap (Ent.objs w) ++ rest := ⟨_, rfl⟩
  have hsplit : T.objs w ta ++ rest = (ta, instObj 410 T.dt) :: (T.dt, dictOf (selfDict w T.clock T.left T.de T.k0 T.k1 T.k2 T.k3 T.k4) 3) :: (T.de, T.oE) :: R := by rw [hR]; rfl
  have I := O.inn
  have nd := O.nd
  have hsub := fun q (hq : q ∈ T.objs w ta ++ rest) => hq
  rw [hsplit] at N I nd
  simp only [List.map_cons, List.nodup_cons, List.mem_cons, not_or] at nd
  obtain ⟨⟨a1, a2, a3⟩, ⟨a4, a5⟩, a6, _⟩ := nd
  have r1 : ∀ p ∈ R, p.1 ≠ ta := fun p hp q => a3 (List.mem_map.mpr ⟨p, hp, q⟩)
  have r2 : ∀ p ∈ R, p.1 ≠ T.dt := fun p hp q => a5 (List.mem_map.mpr ⟨p, hp, q⟩)
  have r3 : ∀ p ∈ R, p.1 ≠ T.de := fun p hp q => a6 (List.mem_map.mpr ⟨p, hp, q⟩)
  clear a3 a5 a6
  change @Ne Nat ta T.dt at a1
  change @Ne Nat ta T.de at a2
  change @Ne Nat T.dt T.de at a4
  (refine' code_defQ (m' := fr3 (Str.ofString "self") (Str.ofString "name") (Str.ofString "codes") _ _ _) ?k1 ?k2 ?k3 ?k4 ?k5 ?kA ?kF ?kK ?k6 ?k7 ?k8 ?k9 ?kB ?kM ?_ ?c2 ?c3 ?c4 ?c5; (case kA => exact rfl); (case kF => exact rfl); (case kK => first | exact rfl | assumption); (case k1 => k_asm); (case k2 => k_asm); (case k3 => k_asm); (case k4 => k_asm); (case k5 => k_asm); (case k6 => k_is); (case k7 => k_is); (case k8 => ktr_room); (case k9 => exact BindsTo.of_eq rfl); (case c5 => decide); (case kB => exact locs rfl); (case kM => exact rfl); (case c2 => exact rfl); (case c3 => exact rfl); (case c4 => exact rfl); k_whole; intro gq Lq Sq Qo Eo hSq FGq Fq Nq Bq Xq Tq hQo hEo hPo; (try dsimp only))
  (repeat' ((fail_if_success (with_reducible show wpAny _ _ (call (Value.ref 353) _) _ _ _)); first | (k_here; (with_reducible show wpAny _ _ (setItem (Value.ref _) (Value.str _ _) (Value.ref _)) _ _ _); k_dflt (refine kda_set (knd := PySem.strKind _ _) (by k_asm) (by k_asm) (by k_updF) (by k_asm) (strKind_is _ _ _ _) (by assumption) ?_); intro h' o' F' N' hd'; (try dsimp only at N')) | (k_here; (with_reducible show wpAny _ _ (getItem (Value.ref _) (Value.str _ _)) _ _ _); k_dflt (refine kdt_getItem (knd := PySem.strKind _ _) (by k_asm) (by k_mem) (by k_asm) (strKind_is _ _ _ _) (by first | assumption | exact valueAt_stored_new (by assumption)) ?_)) | (k_unfold; (try dsimp only)) | (k_end; wrow_close) | walk1 | (dsimp only; walk1) | (leave1; walk_say "STEP leave1"; try dsimp only) | fail "no step")); all_goals (try (first | (refine hQo _ _ _ _ _ _ (by k_asm) (by k_asm) ?_; intro kF kN; (try dsimp only [valOf])) | (refine hEo _ _ _ ?_; (repeat' (first | (k_here; (with_reducible show wpAny _ _ (setItem (Value.ref _) (Value.str _ _) (Value.ref _)) _ _ _); k_dflt (refine kda_set (knd := PySem.strKind _ _) (by k_asm) (by k_asm) (by k_updF) (by k_asm) (strKind_is _ _ _ _) (by assumption) ?_); intro h' o' F' N' hd'; (try dsimp only at N')) | (k_here; (with_reducible show wpAny _ _ (getItem (Value.ref _) (Value.str _ _)) _ _ _); k_dflt (refine kdt_getItem (knd := PySem.strKind _ _) (by k_asm) (by k_mem) (by k_asm) (strKind_is _ _ _ _) (by first | assumption | exact valueAt_stored_new (by assumption)) ?_)) | (k_unfold; (try dsimp only)) | (k_end; kc_close) | walk1 | (dsimp only; walk1) | (leave1; walk_say "STEP leave1"; (try dsimp only)) | fail "no step")))))
  · have l := fun q hq => allLt_to (l := (ta, instObj 410 T.dt) :: (T.dt, dictOf (selfDict w T.clock T.left T.de T.k0 T.k1 T.k2 T.k3 T.k4) 3) :: (T.de, T.oE) :: R) ‹ta < _ ∧ T.dt < _ ∧ _› q (hsplit ▸ hsub q hq)
    have l1 := (‹_ < _ ∧ ta < _ ∧ _›).1
    obtain ⟨T', e', N4, O', q1, q2, q3, q4, q5, q6, q7⟩ := Own.newly (cvs := []) (cns := []) (cb_drop (by assumption) (fun p hp => by (repeat (rcases List.mem_cons.mp hp with rfl | hp; · (repeat (first | exact List.mem_cons_self | refine List.mem_cons_of_mem _ ?_)))); (repeat (first | exact hp | refine List.mem_cons_of_mem _ ?_)))) (by assumption) hv l l1 (by assumption) O hR .nil (by decide) hsm
    ((repeat' (first | (k_here; (with_reducible show wpAny _ _ (setItem (Value.ref _) (Value.str _ _) (Value.ref _)) _ _ _); k_dflt (refine kda_set (knd := PySem.strKind _ _) (by k_asm) (by k_asm) (by k_updF) (by k_asm) (strKind_is _ _ _ _) (by assumption) ?_); intro h' o' F' N' hd'; (try dsimp only at N')) | (k_here; (with_reducible show wpAny _ _ (getItem (Value.ref _) (Value.str _ _)) _ _ _); k_dflt (refine kdt_getItem (knd := PySem.strKind _ _) (by k_asm) (by k_mem) (by k_asm) (strKind_is _ _ _ _) (by first | assumption | exact valueAt_stored_new (by assumption)) ?_)) | (k_unfold; (try dsimp only)) | (k_end; kc_close) | walk1 | (dsimp only; walk1) | (leave1; walk_say "STEP leave1"; (try dsimp only)) | fail "no step")); all_goals (try (first | (refine hQo _ _ _ _ _ _ (by k_asm) (by k_asm) ?_; intro kF kN; (try dsimp only [valOf])) | (refine hEo _ _ _ ?_; (repeat' (first | (k_here; (with_reducible show wpAny _ _ (setItem (Value.ref _) (Value.str _ _) (Value.ref _)) _ _ _); k_dflt (refine kda_set (knd := PySem.strKind _ _) (by k_asm) (by k_asm) (by k_updF) (by k_asm) (strKind_is _ _ _ _) (by assumption) ?_); intro h' o' F' N' hd'; (try dsimp only at N')) | (k_here; (with_reducible show wpAny _ _ (getItem (Value.ref _) (Value.str _ _)) _ _ _); k_dflt (refine kdt_getItem (knd := PySem.strKind _ _) (by k_asm) (by k_mem) (by k_asm) (strKind_is _ _ _ _) (by first | assumption | exact valueAt_stored_new (by assumption)) ?_)) | (k_unfold; (try dsimp only)) | (k_end; kc_close) | walk1 | (dsimp only; walk1) | (leave1; walk_say "STEP leave1"; (try dsimp only)) | fail "no step"))))))
    · exact hret _ _ _ _ ⟨rfl, by assumption, by (rw [← (by assumption : _ = stepL T.left)]; rw [← q1]; assumption), _, rfl, by assumption, by (rw [← (by assumption : _ = stepL T.left), ← q1]; assumption), abs_newP (by assumption) hx ((by assumption : _ = e'.name).trans q3) (by assumption) (by assumption)⟩ (by k_asm) (by k_asm)
    · exact hexc _ _ _ _ _ _ ⟨T', rfl, O', .inr ⟨by assumption, by (rw [← (by assumption : _ = stepL T.left), ← q1]; assumption), abs_newP q2 hx q3 q4 q6⟩⟩ (by assumption) (by assumption) (by assumption)
  · exact hexc _ _ _ _ _ _ ⟨T, rfl, O, .inl ⟨by assumption, rfl⟩⟩ (by assumption) (RaisedS.drop (by assumption) (fun q hq => hsplit ▸ hq)) (by assumption)

theorem top_C7 : True := by
  w_top off
  trivial
/-- the names of files -/
def Fs : List Str := [Str.ofString "/d/f", Str.ofString "/d/f~", Str.ofString "/d/f.tmp0",
  Str.ofString "/d/f.~1~", Str.ofString "/d/f.~2~", Str.ofString "/d/f.~3~", Str.ofString "/d/f.~4~", Str.ofString "/d/f.~5~", Str.ofString "/d/f.~6~", Str.ofString "/d/f.~7~",
  Str.ofString "/d/f.~8~", Str.ofString "/d/f.~9~", Str.ofString "/d/f.~10~", Str.ofString "/d/f.~11~", Str.ofString "/d/f.~12~", Str.ofString "/d/f.~13~"]
abbrev Abs := List (Str × Option (List Int))
abbrev Files := Str → Option (List Int)
def upd (g : Files) (x : Str) (c : Option (List Int)) : Files := fun y => if y = x then c else g y
def adel (A : Abs) (x : Str) : Abs := A.filter fun p => decide (p.1 ≠ x)
structure Has (A : Abs) (g : Files) : Prop where
  nm : ∀ p ∈ A, p.1 ∈ U
  nd : (A.map (·.1)).Nodup
  root : alook A (Str.ofString "/") = some none
  dir : alook A (Str.ofString "/d") = some none
  fil : ∀ x ∈ Fs, alook A x = (g x).map some
theorem Fs_U : ∀ x ∈ Fs, x ∈ U ∧ (x == Str.ofString "/") = false ∧ x ≠ Str.ofString "/" ∧ x ≠ Str.ofString "/d" ∧ parent x = Str.ofString "/d" := by decide +kernel
theorem alook_aput (A : Abs) (x : Str) (c : Option (List Int)) (y : Str) : alook (aput A x c) y = if y = x then some c else alook A y := by
  induction A with
  | nil =>
    by_cases h : y = x
    · simp [aput, alook, h]
    · have h' : ¬ x = y := fun e => h e.symm
      simp [aput, alook, h, h']
  | cons p r ih =>
    obtain ⟨z, d⟩ := p
    by_cases hz : z = x
    · subst hz
      by_cases h : y = z
      · simp [aput, alook, h]
      · have h' : ¬ z = y := fun e => h e.symm
        simp [aput, alook, h, h']
    · by_cases h : z = y
      · subst h
        simp [aput, alook, hz]
      · simp only [aput, alook, hz, h, if_false]
        exact ih
theorem mem_aput {A : Abs} {x : Str} {c : Option (List Int)} {p : Str × Option (List Int)} (h : p ∈ aput A x c) : p = (x, c) ∨ p ∈ A := by
  induction A with
  | nil => exact .inl (List.mem_singleton.mp h)
  | cons q r ih =>
    obtain ⟨z, d⟩ := q
    by_cases hz : z = x
    · simp only [aput, hz, if_true] at h
      rcases List.mem_cons.mp h with h | h
      · exact .inl h
      · exact .inr (.tail _ h)
    · simp only [aput, hz, if_false] at h
      rcases List.mem_cons.mp h with h | h
      · exact .inr (h ▸ .head _)
      · exact (ih h).imp id (.tail _)
theorem nodup_aput {A : Abs} {x : Str} {c : Option (List Int)} (h : (A.map (·.1)).Nodup) : ((aput A x c).map (·.1)).Nodup := by
  induction A with
  | nil => simp [aput]
  | cons q r ih =>
    obtain ⟨z, d⟩ := q
    rw [List.map_cons, List.nodup_cons] at h
    by_cases hz : z = x
    · simp only [aput, hz, if_true, List.map_cons, List.nodup_cons]
      exact ⟨hz ▸ h.1, h.2⟩
    · simp only [aput, hz, if_false, List.map_cons, List.nodup_cons]
      refine ⟨fun hm => ?_, ih h.2⟩
      obtain ⟨p, hp, e⟩ := List.mem_map.mp hm
      rcases mem_aput hp with rfl | hp
      · exact hz e.symm
      · exact h.1 (e ▸ List.mem_map.mpr ⟨p, hp, rfl⟩)
theorem alook_adel (A : Abs) (x y : Str) : alook (adel A x) y = if y = x then none else alook A y := by
  unfold adel
  induction A with
  | nil => simp [alook]
  | cons p r ih =>
    obtain ⟨z, d⟩ := p
    by_cases hz : z = x
    · subst hz
      simp only [List.filter_cons, ne_eq, not_true_eq_false, decide_false, Bool.false_eq_true, if_false]
      rw [show (List.filter (fun p => decide (¬ p.1 = z)) r) = List.filter (fun p => decide (p.1 ≠ z)) r from rfl, ih]
      by_cases h : y = z
      · simp [h]
      · have h' : ¬ z = y := fun e => h e.symm
        simp [alook, h, h']
    · have hd : decide (z ≠ x) = true := by simp [hz]
      simp only [List.filter_cons, hd, if_true, alook]
      rw [ih]
      by_cases h : z = y
      · subst h
        simp [hz]
      · simp only [h, if_false]
theorem Has.put {A : Abs} {g : Files} (h : Has A g) {x : Str} (hx : x ∈ Fs) (c : List Int) : Has (aput A x (some c)) (upd g x (some c)) := by
  obtain ⟨hU, _, h1, h2, _⟩ := Fs_U x hx
  refine ⟨fun p hp => ?_, nodup_aput h.nd, ?_, ?_, fun y hy => ?_⟩
  · rcases mem_aput hp with rfl | hp
    · exact hU
    · exact h.nm p hp
  · rw [alook_aput, if_neg (fun e => h1 e.symm)]; exact h.root
  · rw [alook_aput, if_neg (fun e => h2 e.symm)]; exact h.dir
  · rw [alook_aput]
    unfold upd
    by_cases e : y = x
    · rw [if_pos e, if_pos e]; rfl
    · rw [if_neg e, if_neg e]; exact h.fil y hy
theorem Has.del {A : Abs} {g : Files} (h : Has A g) {x : Str} (hx : x ∈ Fs) : Has (adel A x) (upd g x none) := by
  obtain ⟨hU, _, h1, h2, _⟩ := Fs_U x hx
  refine ⟨fun p hp => h.nm p (List.mem_filter.mp hp).1, (h.nd.sublist (List.filter_sublist.map _)), ?_, ?_, fun y hy => ?_⟩
  · rw [alook_adel, if_neg (fun e => h1 e.symm)]; exact h.root
  · rw [alook_adel, if_neg (fun e => h2 e.symm)]; exact h.dir
  · rw [alook_adel]
    unfold upd
    by_cases e : y = x
    · rw [if_pos e, if_pos e]; rfl
    · rw [if_neg e, if_neg e]; exact h.fil y hy
theorem nodup_len {α : Type} [DecidableEq α] {l u : List α} (h : l.Nodup) (hs : ∀ x ∈ l, x ∈ u) : l.length ≤ u.length := by
  induction l generalizing u with
  | nil => exact Nat.zero_le _
  | cons a r ih =>
    rw [List.nodup_cons] at h
    have ha : a ∈ u := hs a (.head _)
    have h2 := ih (u := u.erase a) h.2 fun x hx => (List.mem_erase_of_ne (fun (e : x = a) => h.1 (by rw [← e]; exact hx))).mpr (hs x (.tail _ hx))
    rw [List.length_erase_of_mem ha] at h2
    have := List.length_pos_of_mem ha
    rw [List.length_cons]
    omega
theorem Has.small {T : Ft} {g : Files} (h : Has T.abs g) : T.ents.length ≤ 99 := by
  have h1 := nodup_len h.nd (u := U) fun x hx => by
    obtain ⟨p, hp, rfl⟩ := List.mem_map.mp hx
    exact h.nm p hp
  unfold Ft.abs at h1
  simp only [List.length_map] at h1
  exact Nat.le_trans h1 (by decide)
theorem Has.dirs {T : Ft} {g : Files} (h : Has T.abs g) (hok : ∀ e ∈ T.ents, e.ok) : Dirs T := by
  obtain ⟨e, h1, _⟩ := at_of_dir h.dir hok
  exact ⟨e, h1⟩
theorem Has.par {T : Ft} {g : Files} (h : Has T.abs g) (hok : ∀ e ∈ T.ents, e.ok) {x : Str} (hx : x ∈ Fs) : ∃ e, T.at (parent x) = some e ∧ e.so = 0 := by
  rw [(Fs_U x hx).2.2.2.2]
  exact at_of_dir h.dir hok
theorem Has.file {T : Ft} {g : Files} (h : Has T.abs g) {x : Str} (hx : x ∈ Fs) {ns : List Int} (hg : g x = some ns) : ∃ e, T.at x = some e ∧ e.so = 1 ∧ e.ns = ns :=
  at_of_file (by rw [h.fil x hx, hg]; rfl)
theorem Has.none {T : Ft} {g : Files} (h : Has T.abs g) {x : Str} (hx : x ∈ Fs) (hg : g x = none) : T.at x = none :=
  at_of_none (by rw [h.fil x hx, hg]; rfl)

theorem c_write {w : World} {rest : List (Addr × Obj)} {ta cl : Addr} {T : Ft} {g : Files} {x : Str} {tx : Tok} {cvs : List Value} {cns : List Int} {cn' : Nat} (O : Own w ta T rest)
    (H : Has T.abs g) (hx : x ∈ Fs) (hc : (cl, listOf cvs.toArray cn') ∈ rest) (hi : IntsAre cvs cns) (hl : cns.length ≤ 1000) :
    Call w 6 346 [.ref ta, .str x tx, .ref cl] (T.objs w ta ++ rest)
      (fun r n' => r = .none ∧ T.left ≠ 0 ∧ stepL T.left ≠ 0 ∧ ∃ T', n' = T'.objs w ta ++ rest ∧ Own w ta T' rest ∧ T'.left = stepL (stepL T.left) ∧ Has T'.abs (upd g x (some cns)))
      (fun n' => ∃ T', n' = T'.objs w ta ++ rest ∧ Own w ta T' rest ∧ ((T.left = 0 ∧ Has T'.abs g) ∨ (T.left ≠ 0 ∧ stepL T.left = 0 ∧ Has T'.abs (upd g x (some []))))) := by
  have hU := (Fs_U x hx).1
  have hR : ∀ (r : Value) (n' : List (Addr × Obj)), (r = .none ∧ T.left ≠ 0 ∧ stepL T.left ≠ 0 ∧ ∃ T', n' = T'.objs w ta ++ rest ∧ Own w ta T' rest ∧ T'.left = stepL (stepL T.left) ∧ T'.abs = aput T.abs x (some cns)) →
      (r = .none ∧ T.left ≠ 0 ∧ stepL T.left ≠ 0 ∧ ∃ T', n' = T'.objs w ta ++ rest ∧ Own w ta T' rest ∧ T'.left = stepL (stepL T.left) ∧ Has T'.abs (upd g x (some cns))) := by
    rintro r n' ⟨a, b, c, T', d, e, f, h⟩
    exact ⟨a, b, c, T', d, e, f, h ▸ H.put hx cns⟩
  have hX : ∀ (n' : List (Addr × Obj)), (∃ T', n' = T'.objs w ta ++ rest ∧ Own w ta T' rest ∧ ((T.left = 0 ∧ T'.abs = T.abs) ∨ (T.left ≠ 0 ∧ stepL T.left = 0 ∧ T'.abs = aput T.abs x (some [])))) →
      ∃ T', n' = T'.objs w ta ++ rest ∧ Own w ta T' rest ∧ ((T.left = 0 ∧ Has T'.abs g) ∨ (T.left ≠ 0 ∧ stepL T.left = 0 ∧ Has T'.abs (upd g x (some [])))) := by
    rintro n' ⟨T', d, e, f⟩
    exact ⟨T', d, e, f.imp (fun ⟨a, b⟩ => ⟨a, b ▸ H⟩) fun ⟨a, b, c⟩ => ⟨a, b, c ▸ H.put hx []⟩⟩
  cases hg : g x with
  | none =>
    obtain ⟨ep, hp, hps⟩ := H.par O.ok.all hx
    exact (c_write_new O hU (H.dirs O.ok.all) (H.none hx hg) hp hps H.small hc hi hl).mono hR hX
  | some ns => exact (c_write_old O hU (.inr (H.dirs O.ok.all)) (by rw [H.fil x hx, hg]; rfl) hc hi hl).mono hR hX
local macro_rules | `(tactic| walk_at "call ref") => `(tactic| (k_here; (with_reducible refine atRef 346 ?_); k_dflt (refine Call.useKX (C := c_write ‹_› ‹_› ‹_› ‹_› ‹_› ‹_›) (hK := q_w) (hX := qx_w) (ret := ?_) (exc := ?_); walk_at "sweptX")))

theorem top_C8 : True := by
  w_top off
  trivial
theorem without_mid {pre post : List (Str × Value)} {x : Str} {v : Value} (h : ((pre ++ (x, v) :: post).map (·.1)).Nodup) : without (pre ++ (x, v) :: post) x = pre ++ post := by
  have h0 : ((x, v) :: (pre ++ post)).map (·.1) |>.Nodup := (List.perm_middle.map _).nodup_iff.mp h
  rw [List.map_cons, List.nodup_cons] at h0
  unfold without
  rw [List.filter_append, List.filter_cons]
  simp only [ne_eq, not_true_eq_false, decide_false, Bool.false_eq_true, if_false]
  rw [← List.filter_append]
  exact without_of_not_mem _ x h0.1
/-- one entry less -/
theorem Own.less {w : World} {ta : Addr} {T T' : Ft} {rest : List (Addr × Obj)} {pre post : List Ent} {e : Ent} (O : Own w ta T rest) (he : T.ents = pre ++ e :: post) (he' : T'.ents = pre ++ post) (hdt : T'.dt = T.dt) (hde : T'.de = T.de)
    (isd : T'.oE.IsDictOf (PySem.strKind PySem.Challenge.rw_np0075_01.row.prog w) (without T.kvs e.name)) : Own w ta T' (e.objs w ++ rest) := by
  refine ⟨⟨?_, by rw [hde]; exact O.ok.lo, fun x hx => O.ok.all x ?_, ?_⟩, ?_⟩
  · have hk : T.kvs = pre.map (fun e => (e.name, .ref e.a)) ++ (e.name, .ref e.a) :: post.map (fun e => (e.name, .ref e.a)) := by unfold Ft.kvs; rw [he, List.map_append, List.map_cons]
    have hk' : T'.kvs = pre.map (fun e => (e.name, .ref e.a)) ++ post.map (fun e => (e.name, .ref e.a)) := by unfold Ft.kvs; rw [he', List.map_append]
    have hn : (T.kvs.map (·.1)).Nodup := by obtain ⟨_, _, _, _, _, _, h⟩ := O.ok.isd; exact h
    rw [hk'] ; rw [hk] at isd hn
    rw [without_mid hn] at isd
    exact isd
  · rw [he'] at hx; rw [he]
    rcases List.mem_append.mp hx with h | h
    · exact List.mem_append_left _ h
    · exact List.mem_append_right _ (.tail _ h)
  · have := O.ok.small
    rw [he] at this; rw [he']
    simp only [List.length_append, List.length_cons] at this ⊢
    omega
  · have hp : ((T'.objs w ta ++ (e.objs w ++ rest)).map (·.1)).Perm ((T.objs w ta ++ rest).map (·.1)) := by
      unfold Ft.objs
      rw [he, he', hdt, hde, List.flatMap_append, List.flatMap_append, List.flatMap_cons]
      simp only [List.map_append, List.map_cons, List.cons_append]
      refine .cons _ (.cons _ (.cons _ ?_))
      rw [List.append_assoc, List.append_assoc, List.append_assoc]
      refine .append_left _ ?_
      exact List.perm_append_comm_assoc _ _ _
    exact hp.nodup_iff.mpr O.nd
theorem abs_less {T T' : Ft} {pre post : List Ent} {e : Ent} (he : T.ents = pre ++ e :: post) (he' : T'.ents = pre ++ post) (hn : (T.abs.map (·.1)).Nodup) : T'.abs = adel T.abs e.name := by
  have h0 : T.abs = pre.map Ent.abs ++ e.abs :: post.map Ent.abs := by unfold Ft.abs; rw [he, List.map_append, List.map_cons]
  have h1 : T'.abs = pre.map Ent.abs ++ post.map Ent.abs := by unfold Ft.abs; rw [he', List.map_append]
  rw [h0] at hn ⊢
  rw [h1]
  have h2 : ((e.abs :: (pre.map Ent.abs ++ post.map Ent.abs)).map (·.1)).Nodup := (List.perm_middle.map _).nodup_iff.mp hn
  rw [List.map_cons, List.nodup_cons] at h2
  unfold adel
  rw [List.filter_append, List.filter_cons]
  have h3 : decide (e.abs.1 ≠ e.name) = false := by simp [Ent.abs]
  rw [h3, if_neg Bool.false_ne_true, ← List.filter_append]
  refine (List.filter_eq_self.mpr fun p hp => ?_).symm
  simp only [ne_eq, decide_eq_true_eq]
  exact fun q => h2.1 (List.mem_map.mpr ⟨p, hp, q⟩)
/-- the ledger behind a dropped entry, folded -/
theorem Own.dropped {w : World} {ta L : Addr} {h₀ h : Heap} {T : Ft} {oE : Obj} {rest R : List (Addr × Obj)} {pre post : List Ent} {e : Ent} {clock left : Int} {t0 t1 t2 t3 t4 : Tok}
    (N : News h₀ L h ((ta, instObj 410 T.dt) :: (T.dt, dictOf (selfDict w clock left T.de t0 t1 t2 t3 t4) 3) :: (T.de, oE) :: R))
    (isd : oE.IsDictOf (PySem.strKind PySem.Challenge.rw_np0075_01.row.prog w) (without T.kvs e.name)) (he : T.ents = pre ++ e :: post)
    (O : Own w ta T rest) (hR : R = T.ents.flatMap (Ent.objs w) ++ rest) :
    ∃ T', News h₀ L h (T'.objs w ta ++ (e.objs w ++ rest)) ∧ Own w ta T' (e.objs w ++ rest) ∧ T'.left = left ∧ T'.ents = pre ++ post := by
  refine ⟨⟨T.dt, T.de, oE, clock, left, t0, t1, t2, t3, t4, pre ++ post⟩, fun p hp => N p ?_, O.less he rfl rfl rfl isd, rfl, rfl⟩
  subst hR
  rw [he]
  rcases List.mem_append.mp hp with hp | hp
  · rcases List.mem_cons.mp hp with hp | hp
    · exact hp ▸ .head _
    rcases List.mem_cons.mp hp with hp | hp
    · exact hp ▸ .tail _ (.head _)
    rcases List.mem_cons.mp hp with hp | hp
    · exact hp ▸ .tail _ (.tail _ (.head _))
    rw [List.flatMap_append] at hp ⊢
    refine .tail _ (.tail _ (.tail _ (List.mem_append_left _ ?_)))
    rw [List.flatMap_cons]
    rcases List.mem_append.mp hp with hp | hp
    · exact List.mem_append_left _ hp
    · exact List.mem_append_right _ (List.mem_append_right _ hp)
  · refine .tail _ (.tail _ (.tail _ ?_))
    rcases List.mem_append.mp hp with hp | hp
    · rw [List.flatMap_append, List.flatMap_cons]
      exact List.mem_append_left _ (List.mem_append_right _ (List.mem_append_left _ hp))
    · exact List.mem_append_right _ hp
theorem mem_more {α : Type} {a b c : List α} {p : α} (h : p ∈ a ++ c) : p ∈ a ++ (b ++ c) := by
  rcases List.mem_append.mp h with h | h
  · exact List.mem_append_left _ h
  · exact List.mem_append_right _ (List.mem_append_right _ h)
theorem Own.sub {w : World} {ta : Addr} {T : Ft} {rest more : List (Addr × Obj)} (O : Own w ta T (more ++ rest)) : Own w ta T rest := by
  refine ⟨O.ok, O.nd.sublist ?_⟩
  rw [List.map_append, List.map_append, List.map_append]
  exact List.Sublist.append_left (List.sublist_append_right _ _) _
/-- the ledger with the tree's own dict told -/
theorem Own.three {w : World} {ta : Addr} {T : Ft} {rest : List (Addr × Obj)} (O : Own w ta T rest) : ∃ R, R = T.ents.flatMap (Ent.objs w) ++ rest ∧
    T.objs w ta ++ rest = (ta, instObj 410 T.dt) :: (T.dt, dictOf (selfDict w T.clock T.left T.de T.k0 T.k1 T.k2 T.k3 T.k4) 3) :: (T.de, T.oE) :: R ∧
    @Ne Nat ta T.dt ∧ @Ne Nat ta T.de ∧ @Ne Nat T.dt T.de ∧ (∀ p ∈ R, p.1 ≠ ta) ∧ (∀ p ∈ R, p.1 ≠ T.dt) ∧ (∀ p ∈ R, p.1 ≠ T.de) := by
  obtain ⟨R, hR⟩ : ∃ R, R = T.ents.flatMap (Ent.objs w) ++ rest := ⟨_, rfl⟩
  have hsplit : T.objs w ta ++ rest = (ta, instObj 410 T.dt) :: (T.dt, dictOf (selfDict w T.clock T.left T.de T.k0 T.k1 T.k2 T.k3 T.k4) 3) :: (T.de, T.oE) :: R := by rw [hR]; rfl
  have nd := O.nd
  rw [hsplit] at nd
  simp only [List.map_cons, List.nodup_cons, List.mem_cons, not_or] at nd
  obtain ⟨⟨a1, a2, a3⟩, ⟨a4, a5⟩, a6, _⟩ := nd
  exact ⟨R, hR, hsplit, a1, a2, a4, fun p hp q => a3 (List.mem_map.mpr ⟨p, hp, q⟩), fun p hp q => a5 (List.mem_map.mpr ⟨p, hp, q⟩), fun p hp q => a6 (List.mem_map.mpr ⟨p, hp, q⟩)⟩

set_option maxRecDepth 100000 in
set_option maxHeartbeats 2000000 in
theorem c_delete0 {w : World} {rest : List (Addr × Obj)} {ta : Addr} {T : Ft} {g : Files} {x : Str} {tx : Tok} {ns : List Int} (O : Own w ta T rest)
    (H : Has T.abs g) (hx : x ∈ Fs) (hg : g x = some ns) :
    Call w 5 381 [.ref ta, .str x tx] (T.objs w ta ++ rest)
      (fun r n' => r = .none ∧ T.left ≠ 0 ∧ ∃ T', n' = T'.objs w ta ++ rest ∧ Own w ta T' rest ∧ T'.left = stepL T.left ∧ Has T'.abs (upd g x none))
      (fun n' => T.left = 0 ∧ n' = T.objs w ta ++ rest) := by
  intro dp un gd cn cs a ccd cl outer A₀ base h₀ L m s Q E mean mg mb B F X N Tp hk hd hu hret hexc
  obtain ⟨hU, hnr, _, _, hpd⟩ := Fs_U x hx
  have hlen := U_len x hU
  have hD := H.dirs O.ok.all
  have hDp : parent x = Str.ofString "/" ∨ Dirs T := .inr hD
  have hD' : x = Str.ofString "/" ∨ Dirs T := .inr hD
  obtain ⟨ep, hpar, hps⟩ := H.par O.ok.all hx
  obtain ⟨e, h1, hs, hns⟩ := H.file hx hg
  obtain ⟨pre, post, he, hnm, hpre⟩ := at_split h1
  have hv : valueAt T.kvs x = some (Value.ref e.a) := by rw [valueAt_kvs, h1]; rfl
  have isd := O.ok.isd
  have lo := O.ok.lo
  have hsz : T.kvs.length ≤ sizeLine := by
    rw [sizeLine_eq]; unfold Ft.kvs; rw [List.length_map]; have := O.ok.small; omega
  obtain ⟨R, hR, hsplit, a1, a2, a4, r1, r2, r3⟩ := O.three
  have I := O.inn
  obtain ⟨_, hei, hed, _, _, _⟩ := I.plain h1 hs
  rw [hsplit] at N I hei hed
  (refine' code_defQ (m' := fr2 (Str.ofString "self") (Str.ofString "name") _ _) ?k1 ?k2 ?k3 ?k4 ?k5 ?kA ?kF ?kK ?k6 ?k7 ?k8 ?k9 ?kB ?kM ?_ ?c2 ?c3 ?c4 ?c5; (case kA => exact rfl); (case kF => exact rfl); (case kK => first | exact rfl | assumption); (case k1 => k_asm); (case k2 => k_asm); (case k3 => k_asm); (case k4 => k_asm); (case k5 => k_asm); (case k6 => k_is); (case k7 => k_is); (case k8 => ktr_room); (case k9 => exact BindsTo.of_eq rfl); (case c5 => decide); (case kB => exact locs rfl); (case kM => exact rfl); (case c2 => exact rfl); (case c3 => exact rfl); (case c4 => exact rfl); k_whole; intro gq Lq Sq Qo Eo hSq FGq Fq Nq Bq Xq Tq hQo hEo hPo; (try dsimp only))
  ((repeat' (first | (k_here; (with_reducible show wpAny _ _ (getMethod (Value.ref _) (Str.ofString "pop") _) _ _ _); k_dflt (refine kob_method (knd := PySem.strKind _ _) PySem.F.slot_dict_pop PySem.F.type_dict_pop (by k_asm) (by k_mem) (by k_asm) ?_)) | (k_here; (with_reducible show wpAny _ _ (call (Value.builtin "dict.pop") [Value.ref _, Value.str _ _]) _ _ _); k_dflt (refine kob_pop (knd := PySem.strKind _ _) (more := []) (by k_asm) (by k_asm) (by k_updF) (by k_asm) (strKind_is _ _ _ _) (.inl rfl) (by rfl) (PySem.F.args_dict_pop_2 _ _) (by assumption) (by assumption) ?_); intro h' o' F' N' hd'; (try dsimp only at N')) | (k_unfold; (try dsimp only)) | (k_end; kc_close) | walk1 | (dsimp only; walk1) | (leave1; walk_say "STEP leave1"; (try dsimp only)) | fail "no step")); all_goals (try (first | (refine hQo _ _ _ _ _ _ (by k_asm) (by k_asm) ?_; intro kF kN; (try dsimp only [valOf])) | (refine hEo _ _ _ ?_; (repeat' (first | (k_here; (with_reducible show wpAny _ _ (getMethod (Value.ref _) (Str.ofString "pop") _) _ _ _); k_dflt (refine kob_method (knd := PySem.strKind _ _) PySem.F.slot_dict_pop PySem.F.type_dict_pop (by k_asm) (by k_mem) (by k_asm) ?_)) | (k_here; (with_reducible show wpAny _ _ (call (Value.builtin "dict.pop") [Value.ref _, Value.str _ _]) _ _ _); k_dflt (refine kob_pop (knd := PySem.strKind _ _) (more := []) (by k_asm) (by k_asm) (by k_updF) (by k_asm) (strKind_is _ _ _ _) (.inl rfl) (by rfl) (PySem.F.args_dict_pop_2 _ _) (by assumption) (by assumption) ?_); intro h' o' F' N' hd'; (try dsimp only at N')) | (k_unfold; (try dsimp only)) | (k_end; kc_close) | walk1 | (dsimp only; walk1) | (leave1; walk_say "STEP leave1"; (try dsimp only)) | fail "no step"))))))
  · obtain ⟨T', N4, O4, q1, q2⟩ := Own.dropped (by assumption) (by rw [hnm]; assumption) he O hR
    exact hret _ _ _ _ ⟨rfl, by assumption, T', rfl, O4.sub, q1.trans (by assumption), by rw [abs_less he q2 H.nd, hnm]; exact H.del hx⟩ (by k_asm) (cb_drop N4 (fun p hp => mem_more hp))
  · exact hexc _ _ _ _ _ _ ⟨by assumption, rfl⟩ (by assumption) (RaisedS.drop (by assumption) (fun q hq => hsplit ▸ hq)) (by assumption)
theorem c_delete {w : World} {rest : List (Addr × Obj)} {ta : Addr} {T : Ft} {g : Files} {x : Str} {tx : Tok} {ns : List Int} (O : Own w ta T rest)
    (H : Has T.abs g) (hx : x ∈ Fs) (hg : g x = some ns) :
    Call w 5 381 [.ref ta, .str x tx] (T.objs w ta ++ rest)
      (fun r n' => r = .none ∧ T.left ≠ 0 ∧ ∃ T', n' = T'.objs w ta ++ rest ∧ Own w ta T' rest ∧ T'.left = stepL T.left ∧ Has T'.abs (upd g x none))
      (fun n' => ∃ T', n' = T'.objs w ta ++ rest ∧ Own w ta T' rest ∧ T.left = 0 ∧ Has T'.abs g) :=
  (c_delete0 O H hx hg).mono (fun _ _ h => h) fun _ ⟨a, b⟩ => ⟨T, b, O, a, H⟩

theorem top_D1 : True := by
  w_top off
  trivial
theorem Own.fresh {w : World} {ta D : Addr} {o : Obj} {T : Ft} {rest : List (Addr × Obj)} (O : Own w ta T rest) (l : ∀ q ∈ T.objs w ta ++ rest, q.1 < D) : Own w ta T ((D, o) :: rest) := by
  refine ⟨O.ok, ?_⟩
  have hp : ((T.objs w ta ++ (D, o) :: rest).map (·.1)).Perm (((D, o) :: (T.objs w ta ++ rest)).map (·.1)) := List.perm_middle.map _
  refine hp.nodup_iff.mpr ?_
  rw [List.map_cons, List.nodup_cons]
  refine ⟨fun hm => ?_, O.nd⟩
  obtain ⟨p, hp, e⟩ := List.mem_map.mp hm
  exact Nat.ne_of_lt (l p hp) e
theorem mem_mid {α : Type} {a c : List α} {x p : α} (h : p ∈ a ++ x :: c) : p ∈ x :: (a ++ c) := List.perm_middle.mem_iff.mp h
theorem Own.tl {w : World} {ta : Addr} {T : Ft} {rest : List (Addr × Obj)} {p : Addr × Obj} (O : Own w ta T (p :: rest)) : Own w ta T rest := Own.sub (more := [p]) O
theorem mem_less {α : Type} {a c : List α} {x p : α} (h : p ∈ a ++ c) : p ∈ a ++ x :: c := mem_more (b := [x]) h
theorem Own.carry {w : World} {ta D L : Addr} {h₀ h : Heap} {o : Obj} {T : Ft} {rest : List (Addr × Obj)} (O : Own w ta T rest) (N : News h₀ L h ((D, o) :: (T.objs w ta ++ rest))) (l : ∀ q ∈ T.objs w ta ++ rest, q.1 < D) :
    Own w ta T ((D, o) :: rest) ∧ News h₀ L h (T.objs w ta ++ (D, o) :: rest) ∧ (D, o) ∈ (D, o) :: rest := ⟨O.fresh l, cb_drop N fun _ hp => mem_mid hp, .head _⟩
set_option maxRecDepth 100000 in
set_option maxHeartbeats 2000000 in
theorem c_copy {w : World} {rest : List (Addr × Obj)} {ta : Addr} {T : Ft} {g : Files} {x y : Str} {tx ty : Tok} {ns : List Int} (O : Own w ta T rest)
    (H : Has T.abs g) (hx : x ∈ Fs) (hy : y ∈ Fs) (hg : g x = some ns) :
    Call w 7 400 [.ref ta, .str x tx, .str y ty, .bool true] (T.objs w ta ++ rest)
      (fun r n' => r = .none ∧ T.left ≠ 0 ∧ stepL T.left ≠ 0 ∧ ∃ T', n' = T'.objs w ta ++ rest ∧ Own w ta T' rest ∧ T'.left = stepL (stepL T.left) ∧ Has T'.abs (upd g y (some ns)))
      (fun n' => ∃ T', n' = T'.objs w ta ++ rest ∧ Own w ta T' rest ∧ ((T.left = 0 ∧ Has T'.abs g) ∨ (T.left ≠ 0 ∧ stepL T.left = 0 ∧ Has T'.abs (upd g y (some []))))) := by
  intro dp un gd cn cs a ccd cl outer A₀ base h₀ L m s Q E mean mg mb B F X N Tp hk hd hu hret hexc
  have hU := (Fs_U x hx).1
  have hUy := (Fs_U y hy).1
  have hlen := U_len x hU
  have hleny := U_len y hUy
  have hD := H.dirs O.ok.all
  have hDx : x = Str.ofString "/" ∨ Dirs T := .inr hD
  have hDy : y = Str.ofString "/" ∨ Dirs T := .inr hD
  obtain ⟨e, h1, hs, hns⟩ := H.file hx hg
  obtain ⟨v, hv⟩ : ∃ v, valueAt T.kvs y = v := ⟨_, rfl⟩
  have I := O.inn
  obtain ⟨_, _, _, _, hin, hln⟩ := I.plain h1 hs
  rw [hns] at hin hln
  (refine' code_defQ (m' := fr4 (Str.ofString "self") (Str.ofString "old") (Str.ofString "new") (Str.ofString "is_over") _ _ _ _) ?k1 ?k2 ?k3 ?k4 ?k5 ?kA ?kF ?kK ?k6 ?k7 ?k8 ?k9 ?kB ?kM ?_ ?c2 ?c3 ?c4 ?c5; (case kA => exact rfl); (case kF => exact rfl); (case kK => first | exact rfl | assumption); (case k1 => k_asm); (case k2 => k_asm); (case k3 => k_asm); (case k4 => k_asm); (case k5 => k_asm); (case k6 => k_is); (case k7 => k_is); (case k8 => ktr_room); (case k9 => exact BindsTo.of_eq rfl); (case c5 => decide); (case kB => exact locs rfl); (case kM => exact rfl); (case c2 => exact rfl); (case c3 => exact rfl); (case c4 => exact rfl); k_whole; intro gq Lq Sq Qo Eo hSq FGq Fq Nq Bq Xq Tq hQo hEo hPo; (try dsimp only))
  cases v <;>
    ((repeat' ((fail_if_success (with_reducible show wpAny _ _ (call (Value.ref 346) _) _ _ _)); first | (k_unfold; (try dsimp only)) | (k_end; wrow_close) | walk1 | (dsimp only; walk1) | (leave1; walk_say "STEP leave1"; try dsimp only) | fail "no step")); all_goals (try (first | (refine hQo _ _ _ _ _ _ (by k_asm) (by k_asm) ?_; intro kF kN; (try dsimp only [valOf])) | (refine hEo _ _ _ ?_; (k_steps; all_goals (try (first | (refine hQo _ _ _ _ _ _ (by k_asm) (by k_asm) ?_; intro kF kN; (try dsimp only [valOf])) | (refine hEo _ _ _ ?_; k_steps)))))))) <;>
    (obtain ⟨O2, N2, hc2⟩ := O.carry (by assumption) (by assumption)
     (k_steps; all_goals (try (first | (refine hQo _ _ _ _ _ _ (by k_asm) (by k_asm) ?_; intro kF kN; (try dsimp only [valOf])) | (refine hEo _ _ _ ?_; k_steps))))
     · exact hret _ _ _ _ ⟨rfl, by assumption, by assumption, _, rfl, (by assumption : Own w ta _ (_ :: _)).tl, by assumption, by assumption⟩ (by k_asm) (cb_drop (by assumption) (fun p hp => mem_less hp))
     · exact hexc _ _ _ _ _ _ ⟨_, rfl, (by assumption : Own w ta _ (_ :: _)).tl, by assumption⟩ (by assumption) (RaisedS.drop (by assumption) (fun p hp => mem_less hp)) (by assumption))

theorem top_D1b : True := by
  w_top off
  trivial
theorem valueAt_str {T : Ft} {x : Str} (h : T.at x = none) : (valueAt T.kvs x).isSome = false := by rw [valueAt_kvs, h]; rfl
theorem Own.newdir {w : World} {ta x' d' L : Addr} {h₀ h : Heap} {T : Ft} {x : Str} {oE : Obj} {rest R : List (Addr × Obj)} {st clock left : Int} {k0 k1 k2 k3 k4 k5 t0 t1 t2 t3 t4 : Tok}
    (N : News h₀ L h ((x', instObj 209 d') :: (d', dictOf (entD w st k0 k1 k2 k3 k4 k5) 4) :: (ta, instObj 410 T.dt) :: (T.dt, dictOf (selfDict w clock left T.de t0 t1 t2 t3 t4) 3) :: (T.de, oE) :: R))
    (isd : oE.IsDictOf (PySem.strKind PySem.Challenge.rw_np0075_01.row.prog w) (stored T.kvs x (.ref x'))) (hv : valueAt T.kvs x = none)
    (l : ∀ q ∈ T.objs w ta ++ rest, q.1 < d') (l2 : @LT.lt Nat _ d' x')
    (O : Own w ta T rest) (hR : R = T.ents.flatMap (Ent.objs w) ++ rest) (hsm : T.ents.length ≤ 99) :
    ∃ T' e', News h₀ L h (T'.objs w ta ++ rest) ∧ Own w ta T' rest ∧ T'.left = left ∧ T'.ents = T.ents ++ [e'] ∧ e'.name = x ∧ e'.so = 0 := by
  refine ⟨⟨T.dt, T.de, oE, clock, left, t0, t1, t2, t3, t4, T.ents ++ [⟨x, x', d', d', 0, .none, [], [], 0, st, k0, k1, k2, k3, k4, k5⟩]⟩, ⟨x, x', d', d', 0, .none, [], [], 0, st, k0, k1, k2, k3, k4, k5⟩, fun p hp => N p ?_, ?_, rfl, rfl, rfl, rfl⟩
  · subst hR
    rcases List.mem_append.mp hp with hp | hp
    · rcases List.mem_cons.mp hp with hp | hp
      · exact hp ▸ .tail _ (.tail _ (.head _))
      rcases List.mem_cons.mp hp with hp | hp
      · exact hp ▸ .tail _ (.tail _ (.tail _ (.head _)))
      rcases List.mem_cons.mp hp with hp | hp
      · exact hp ▸ .tail _ (.tail _ (.tail _ (.tail _ (.head _))))
      rw [List.flatMap_append] at hp
      rcases List.mem_append.mp hp with hp | hp
      · exact .tail _ (.tail _ (.tail _ (.tail _ (.tail _ (List.mem_append_left _ hp)))))
      rw [List.flatMap_cons, List.flatMap_nil, List.append_nil] at hp
      rcases List.mem_cons.mp hp with hp | hp
      · exact hp ▸ .head _
      rcases List.mem_cons.mp hp with hp | hp
      · exact hp ▸ .tail _ (.head _)
      rw [if_neg (show ¬ (0 : Int) = 1 by decide)] at hp
      cases hp
    · exact .tail _ (.tail _ (.tail _ (.tail _ (.tail _ (List.mem_append_right _ hp)))))
  · refine O.add rfl rfl rfl ?_ ⟨.inl ⟨rfl, rfl⟩⟩ hsm ?_ fun q hq p hp => ?_
    · rw [stored_absent hv] at isd
      unfold Ft.kvs at isd ⊢
      rw [List.map_append]
      exact isd
    · unfold Ent.objs
      rw [if_neg (show ¬ (0 : Int) = 1 by decide)]
      simp only [List.map_cons, List.map_nil, List.nodup_cons, List.mem_cons, List.not_mem_nil, or_false, not_or, not_false_eq_true, List.nodup_nil, and_true]
      exact Nat.ne_of_gt l2
    · have h := l q hq
      unfold Ent.objs at hp
      rw [if_neg (show ¬ (0 : Int) = 1 by decide)] at hp
      rcases List.mem_cons.mp hp with hp | hp
      · rw [hp]; exact Nat.ne_of_gt (Nat.lt_trans h l2)
      · rw [List.mem_singleton.mp hp]; exact Nat.ne_of_gt h
theorem has_root {T T' : Ft} {e0 e' : Ent} (he : T.ents = [e0]) (he' : T'.ents = T.ents ++ [e']) (h0 : e0.name = Str.ofString "/") (s0 : e0.so = 0) (h1 : e'.name = Str.ofString "/d") (s1 : e'.so = 0) : Has T'.abs (fun _ => none) := by
  have h : T'.abs = [(Str.ofString "/", none), (Str.ofString "/d", none)] := by
    unfold Ft.abs Ent.abs
    rw [he', he]
    simp only [List.cons_append, List.nil_append, List.map_cons, List.map_nil, h0, s0, h1, s1]
    rfl
  rw [h]
  refine ⟨by decide +kernel, by decide +kernel, by decide +kernel, by decide +kernel, fun x hx => ?_⟩
  obtain ⟨_, _, h1, h2, _⟩ := Fs_U x hx
  have h1' : ¬ Str.ofString "/" = x := fun e => h1 e.symm
  have h2' : ¬ Str.ofString "/d" = x := fun e => h2 e.symm
  simp only [alook, h1', h2', if_false, Option.map_none]
set_option maxRecDepth 100000 in
set_option maxHeartbeats 2000000 in
theorem c_mkdir {w : World} {rest : List (Addr × Obj)} {ta : Addr} {T : Ft} {e0 : Ent} {tx : Tok} (O : Own w ta T rest)
    (he : T.ents = [e0]) (hn0 : e0.name = Str.ofString "/") (hs0 : e0.so = 0) :
    Call w 5 367 [.ref ta, .str (Str.ofString "/d") tx] (T.objs w ta ++ rest)
      (fun r n' => r = .none ∧ T.left ≠ 0 ∧ ∃ T', n' = T'.objs w ta ++ rest ∧ Own w ta T' rest ∧ T'.left = stepL T.left ∧ Has T'.abs (fun _ => none))
      (fun n' => T.left = 0 ∧ n' = T.objs w ta ++ rest) := by
  intro dp un gd cn cs a ccd cl outer A₀ base h₀ L m s Q E mean mg mb B F X N Tp hk hd hu hret hexc
  have hU : Str.ofString "/d" ∈ U := by decide +kernel
  have hp : parent (Str.ofString "/d") = Str.ofString "/" := by decide +kernel
  have hDp : parent (Str.ofString "/d") = Str.ofString "/" ∨ Dirs T := .inl hp
  have h0 : T.at (parent (Str.ofString "/d")) = some e0 := by rw [hp]; unfold Ft.at; rw [he]; simp [hn0]
  have h1 : T.at (Str.ofString "/d") = none := by
    unfold Ft.at; rw [he, List.find?_cons, hn0]
    rfl
  have hv := valueAt_str h1
  have isd := O.ok.isd
  have lo := O.ok.lo
  have hsz : T.kvs.length ≤ sizeLine := by
    rw [sizeLine_eq]; unfold Ft.kvs; rw [List.length_map]; have := O.ok.small; omega
  obtain ⟨R, hR, hsplit, a1, a2, a4, r1, r2, r3⟩ := O.three
  have I := O.inn
  rw [hsplit] at N I
  (refine' code_defQ (m' := fr2 (Str.ofString "self") (Str.ofString "name") _ _) ?k1 ?k2 ?k3 ?k4 ?k5 ?kA ?kF ?kK ?k6 ?k7 ?k8 ?k9 ?kB ?kM ?_ ?c2 ?c3 ?c4 ?c5; (case kA => exact rfl); (case kF => exact rfl); (case kK => first | exact rfl | assumption); (case k1 => k_asm); (case k2 => k_asm); (case k3 => k_asm); (case k4 => k_asm); (case k5 => k_asm); (case k6 => k_is); (case k7 => k_is); (case k8 => ktr_room); (case k9 => exact BindsTo.of_eq rfl); (case c5 => decide); (case kB => exact locs rfl); (case kM => exact rfl); (case c2 => exact rfl); (case c3 => exact rfl); (case c4 => exact rfl); k_whole; intro gq Lq Sq Qo Eo hSq FGq Fq Nq Bq Xq Tq hQo hEo hPo; (try dsimp only))
  ((repeat' (first | (k_here; (with_reducible show wpAny _ _ (setItem (Value.ref _) (Value.str _ _) (Value.ref _)) _ _ _); k_dflt (refine kda_set (knd := PySem.strKind _ _) (by k_asm) (by k_asm) (by k_updF) (by k_asm) (strKind_is _ _ _ _) (by assumption) ?_); intro h' o' F' N' hd'; (try dsimp only at N')) | (k_here; (with_reducible show wpAny _ _ (compareOp CmpOp.In (Value.str _ _) (Value.ref _)) _ _ _); k_dflt (refine kda_in (knd := PySem.strKind _ _) (by k_asm) (by k_mem) (by k_asm) (by k_asm) (strKind_is _ _ _ _) false (by assumption) ?_)) | (k_unfold; (try dsimp only)) | (k_end; kc_close) | walk1 | (dsimp only; walk1) | (leave1; walk_say "STEP leave1"; (try dsimp only)) | fail "no step")); all_goals (try (first | (refine hQo _ _ _ _ _ _ (by k_asm) (by k_asm) ?_; intro kF kN; (try dsimp only [valOf])) | (refine hEo _ _ _ ?_; (repeat' (first | (k_here; (with_reducible show wpAny _ _ (setItem (Value.ref _) (Value.str _ _) (Value.ref _)) _ _ _); k_dflt (refine kda_set (knd := PySem.strKind _ _) (by k_asm) (by k_asm) (by k_updF) (by k_asm) (strKind_is _ _ _ _) (by assumption) ?_); intro h' o' F' N' hd'; (try dsimp only at N')) | (k_here; (with_reducible show wpAny _ _ (compareOp CmpOp.In (Value.str _ _) (Value.ref _)) _ _ _); k_dflt (refine kda_in (knd := PySem.strKind _ _) (by k_asm) (by k_mem) (by k_asm) (by k_asm) (strKind_is _ _ _ _) false (by assumption) ?_)) | (k_unfold; (try dsimp only)) | (k_end; kc_close) | walk1 | (dsimp only; walk1) | (leave1; walk_say "STEP leave1"; (try dsimp only)) | fail "no step"))))))
  · have l := fun q hq => allLt_to (l := (ta, instObj 410 T.dt) :: (T.dt, dictOf (selfDict w T.clock T.left T.de T.k0 T.k1 T.k2 T.k3 T.k4) 3) :: (T.de, T.oE) :: R) ‹ta < _ ∧ T.dt < _ ∧ _› q (hsplit ▸ hq)
    obtain ⟨T', e', N4, O', q1, q2, q3, q4⟩ := Own.newdir (cb_drop (by assumption) (fun p hp => by (repeat (rcases List.mem_cons.mp hp with rfl | hp; · (repeat (first | exact List.mem_cons_self | refine List.mem_cons_of_mem _ ?_)))); (repeat (first | exact hp | refine List.mem_cons_of_mem _ ?_)))) (by assumption) (by rw [valueAt_kvs, h1]; rfl) l (by assumption) O hR (by rw [he]; exact Nat.le_of_ble_eq_true rfl)
    exact hret _ _ _ _ ⟨rfl, by assumption, T', rfl, O', q1.trans (by assumption), has_root he q2 hn0 hs0 q3 q4⟩ (by k_asm) N4
  · exact hexc _ _ _ _ _ _ ⟨by assumption, rfl⟩ (by assumption) (RaisedS.drop (by assumption) (fun q hq => hsplit ▸ hq)) (by assumption)
local macro_rules | `(tactic| walk_at "call ref") => `(tactic| (k_here; (with_reducible refine atRef 367 ?_); k_dflt (refine Call.useKX (C := c_mkdir ‹_› ‹_› ‹_› ‹_›) (hK := q_d) (hX := qx_a) (ret := ?_) (exc := ?_); walk_at "sweptX")))

theorem top_D2 : True := by
  w_top off
  trivial
section
variable {prog : Program} {w : World} {A : Around} {E : Value → Shared → Prop} {s : Shared} {h₀ : Heap} {L : Addr} {m : Str → Option Value} {env : Env}
/-- a comprehension with one test walks a dict's keys -/
def KeysT (prog : Program) (w : World) (A : Around) (h₀ : Heap) (L : Addr) (m : Str → Option Value) (env : Env) (ct elt : PySem.Expr) (x : Str) (scope : Scope) (cl : List (Str × Addr)) (Fin : Shared → List Value → List (Addr × Obj) → Prop) (xv : Value) (s₁ : Shared) : Prop :=
  ∃ (d : Addr) (od : Obj) (kvs : List (Str × Value)) (news : List (Addr × Obj)), xv = .ref d ∧ A.handled = none ∧ Fr h₀ L s₁.heap m ∧ News h₀ L s₁.heap news ∧ (d, od) ∈ news ∧ od.IsDictOf (PySem.strKind prog w) kvs ∧ (d == sysModules) = false ∧ kvs.length ≤ sizeLine ∧
    ∀ s₂ : Shared, (∃ h, s₂ = { s₁ with heap := h }) → LCt.CompRestT prog w A h₀ L m env ct elt x scope cl s₂ (fun nw => (d, od) ∈ nw) (fun i v => ∃ k y, kvs[i]? = some (k, y) ∧ (PySem.strKind prog w).is k v = true) (Fin s₂) kvs.length 0 [] news
theorem Assign_keysT {ct elt iter : PySem.Expr} {x y : Str} {px py : Pos} {scope : Scope} {cl : List (Str × Addr)} {pos spos : Pos} {Q : Flow → Shared → Prop} (_F₀ : Fr h₀ L s.heap m) (hLe : env.locals = L)
    (hsw : swapsWith (.ListComp elt [⟨.Name x px, iter, [ct], 0⟩] scope pos) (some (.Name y py)) spos.line env = pure true)
    (hclos : closureFor scope env = pure cl) (hcell : ∀ z ∈ scope.names, z.2 ≠ .cell) (hkind : scope.kind = .function)
    (hnames : ∀ z ∈ scope.names, z.2 = .local → scope.names.lookup z.1 = some .local) (hx : scope.names.lookup x = some .local)
    (hy : env.kindOf y = some .local) (hp : (env.scope.kind == .class || (env.scope.kind == .module && env.locals != env.globals)) = false)
    (h : wpAny (model prog w) A (eval iter env) (KeysT prog w A h₀ L m env ct elt x scope cl (fun s₂ => LCg.FinA h₀ L m s₂ y Q)) E s)
    (hs : ∀ x, foldedSetIterable iter env x = pure x := by intro _; rfl) :
    wpAny (model prog w) A (exec (.Assign [.Name y py] (.ListComp elt [⟨.Name x px, iter, [ct], 0⟩] scope pos) spos) env) Q E s := by
  subst hLe
  rw [exec_Assign_Name_used _ _ _ _ hsw]
  refine wpAny_bind (wpAny_standAt (wpAny_bind ?_))
  show wpAny _ A (do let _ ← comprehension (.ListComp elt [⟨.Name x px, iter, [ct], 0⟩] scope pos) scope env _ (newList []) false (eval iter env) (some (assign (.Name y py) env))) _ _ s
  refine wpAny_bind (wpAny_mono (wpAny_comprehension_free (use := some (assign (.Name y py) env)) (Q := fun _ s' => Q .next s') rfl hs hclos hkind hnames
    (wpAny_mono h (fun xv s₁ h₁ => ?_) fun _ _ e => e)) (fun _ s' hq => wpAny_pure (wpAny_pure hq)) fun _ _ e => e)
  obtain ⟨d, od, kvs, news, rfl, hh, F, N, hm, hdo, lo, hsz, R⟩ := h₁
  obtain ⟨ep, hep⟩ : ∃ ep, ∀ h' : Heap, h'.get? d = some od → h'.DictAt (PySem.strKind prog w) d kvs ep := by
    obtain ⟨es, ep, r⟩ := hdo
    exact ⟨ep, fun h' e => ⟨od, es, e, r⟩⟩
  have hlt : d < s₁.heap.objs.size := Heap.lt_size (N _ hm).1
  refine wpAny_pyIter_dict lo (hep _ (N _ hm).1) ?_
  have up : ∀ b o, s₁.heap.get? b = some o → (s₁.heap.push { cls := .type "dict_keyiterator", data := .fields #[.ref d, .int 0 0, .int kvs.length 0, .int ep 0] }).get? b = some o := fun b o e => Heap.get?_push_of_some _ e
  refine LCt.block_T (Walks.dictKeys (knd := PySem.strKind prog w) hh s₁.heap.objs.size d (Nat.ne_of_lt hlt) kvs ep) hsz (fun i h st => by obtain ⟨o, e, _⟩ := st.1; exact ⟨o, e⟩)
    (fun i h h' o nw st e e' _ N' S => ⟨by obtain ⟨o', q, r⟩ := st.1; rw [e] at q; cases q; exact ⟨o, e', r⟩, hep _ (N' _ S).1⟩) hcell hkind hx ⟨⟨_, Heap.get?_push_size _ rfl, rfl, rfl⟩, (hep _ (N _ hm).1).push _⟩ (fun b hb => ?_)
    (F.keeps up) (N.grown up) (Nat.ne_of_lt F.ns.lt) (next_is_new F) (fun p hp => Nat.ne_of_lt (Heap.lt_size (N p hp).1)) hm (R _ ⟨_, rfl⟩) ?_
  · show b < (s₁.heap.push _).objs.size
    rw [Heap.size_push]
    rcases List.mem_cons.mp hb with rfl | hb
    · exact Nat.lt_succ_self _
    · rw [List.mem_singleton.mp hb]; exact Nat.lt_succ_of_lt hlt
  · intro D C h' tk m' ys news' F' N' o1 hn hC₀ hD₀ hCL hDL hCD offC fin
    show wpAny _ A (assign (.Name y py) env (.ref D)) _ _ _
    refine wpAny_assign_Name (wpAny_storeName_local hy F'.ns (fun h₂ hn₂ hs₂ => ?_) hp)
    have hL₀ : h₀.get? env.locals = none := Heap.get?_none_of_le F'.above
    have F₂ : Fr h₀ env.locals h₂ (fun z => if z = y then some (.ref D) else m z) := ⟨hn₂, fun b o e => hs₂.extBut b o (fun q => by rw [q, hL₀] at e; cases e) (F'.keep b o e), F'.above⟩
    refine ⟨m', hn.sameBut hs₂ hCL, fun h'' hs'' => fin D h'' _ (F₂.change hs'' hCL hC₀) (fun p hp => ?_) o1⟩
    have z : h₂.get? p.1 = some p.2 := hs₂.extBut _ _ (N' p hp).2.1 (N' p hp).1
    refine ⟨hs''.extBut _ _ ?_ z, (N' p hp).2⟩
    rcases List.mem_cons.mp hp with rfl | hp
    · exact Ne.symm hCD
    · exact offC p hp
theorem calm {M : Model} {x : Sem Flow} {Q : Flow → Shared → Prop} (h : wpAny M A x (fun fl s' => fl = Flow.next ∧ ∃ tk, s' = { s with toks := tk }) E s) (k : ∀ tk, Q .next { s with toks := tk }) : wpAny M A x Q E s :=
  wpAny_mono h (fun _ _ ⟨a, tk, b⟩ => by subst a; subst b; exact k tk) fun _ _ h => h
end
section
variable {M : Model} {A : Around} {E : Value → Shared → Prop} {s' : Shared} {base g g₂ : Heap} {outer : List Env} {L e t : Addr} {m : Str → Option Value} {env : Env} {Q : Unit → Shared → Prop} {news : List (Addr × Obj)} {cls : Value} {vs : List Value}
theorem leave_onE (hf : env.frame = some L) (K : Below A base outer g) (F : Fr g L g₂ m) (R : RaisedS base g₂ (env :: outer) e cls t vs news s'.heap) (hsm : g₂.UpToSlots s'.heap)
    (hQ : ∀ h', RaisedS base g outer e cls t vs news h' → g.UpToSlots h' → Q () { s' with heap := h' }) :
    wpAny M (A.deeper env) (leaving env (.ref e)) Q E s' := by
  obtain ⟨⟨B, hB, hBG, hl, hfl, hnew⟩, htup⟩ := R
  refine wpAny_leaves_onW (Around.frames_deeper K.stack) hf hfl fun h' x1 x2 => hQ h' ⟨⟨B, hB, fun b o q nm => hBG b o (F.keep b o q) (fun hm => ?_), fun q hq => ⟨(hl q hq).1, kts_none F.keep (hl q hq).2.1, (hl q hq).2.2⟩, x1, hnew⟩, htup.of_slots x2⟩
    ((Heap.UpToSlots.of_keeps F.keep).trans (hsm.trans x2))
  obtain ⟨env', he, hf'⟩ := List.mem_filterMap.mp hm
  rcases List.mem_cons.mp he with rfl | he
  · have e' : b = L := (Option.some.inj (hf.symm.trans hf')).symm
    rw [e', kts_self F] at q
    cases q
  · exact nm (List.mem_filterMap.mpr ⟨env', he, hf'⟩)
end
section
variable {prog : Program} {w : World} {A : Around} {s : Shared} {h₀ : Heap} {L : Addr} {m : Str → Option Value} {env : Env}
theorem compRest_ind {ct elt : PySem.Expr} {x : Str} {scope : Scope} {cl : List (Str × Addr)} {S : List (Addr × Obj) → Prop} {P : Nat → Value → Prop} {Fin : List Value → List (Addr × Obj) → Prop} {n : Nat} {news : List (Addr × Obj)} (Inv : Nat → List Value → Prop)
    (hstep : ∀ i ys v I oI C oC D m₂ h tk (E' : Value → Shared → Prop), i < n → Inv i ys → P i v → LCg.NsObj oC m₂ → m₂ x = some v → Fr h₀ L h m → News h₀ L h ((I, oI) :: (C, oC) :: (D, LCg.lst ys) :: news) → LCg.Off3 I C D news → ((@Ne Nat I C) ∧ (@Ne Nat I D) ∧ (@Ne Nat C D)) →
      wpAny (model prog w) A (isTrue ct (compEnvC scope cl C env) (eval ct (compEnvC scope cl C env))) (fun ok s' => if ok = true then
        wpAny (model prog w) A (eval elt (compEnvC scope cl C env)) (LCg.CompEnd h₀ L m { s with heap := h, toks := tk } I oI C oC D (LCg.lst ys) S (fun y news' => news' = news ∧ Inv (i + 1) (ys ++ [y]))) E' s'
        else LCg.CompEnd h₀ L m { s with heap := h, toks := tk } I oI C oC D (LCg.lst ys) S (fun _ news' => news' = news ∧ Inv (i + 1) ys) Value.none s') E' { s with heap := h, toks := tk })
    (hfin : ∀ ys, Inv n ys → Fin ys news) : ∀ k i ys, i + k = n → Inv i ys → LCt.CompRestT prog w A h₀ L m env ct elt x scope cl s S P Fin k i ys news := by
  intro k
  induction k with
  | zero =>
    intro i ys e hI
    have e' : i = n := e
    subst e'
    exact LCt.CompRestT.zero (hfin ys hI)
  | succ k ih =>
    intro i ys e hI
    refine LCt.CompRestT.succ fun v I oI C oC D m₂ h tk E' hp ho hm F N off ne => wpAny_mono (hstep i ys v I oI C oC D m₂ h tk E' (by omega) hI hp ho hm F N off ne) (fun ok s' hq => ?_) fun _ _ e => e
    cases ok with
    | true =>
      simp only [if_true] at hq ⊢
      refine wpAny_mono hq (fun y s₅ h₅ => ?_) fun _ _ e => e
      obtain ⟨h', tk', news', e1, F', N', off', hS', rfl, hI'⟩ := h₅
      exact ⟨h', tk', news', e1, F', N', off', hS', ih (i + 1) _ (by omega) hI'⟩
    | false =>
      simp only [Bool.false_eq_true, if_false] at hq ⊢
      obtain ⟨h', tk', news', e1, F', N', off', hS', rfl, hI'⟩ := hq
      exact ⟨h', tk', news', e1, F', N', off', hS', ih (i + 1) _ (by omega) hI'⟩
end

theorem top_D2b : True := by
  w_top off
  trivial
def Ent.as (e : Ent) (y : Str) : Ent := { e with name := y }
theorem without_at {T : Ft} {T1 : Ft} {pre post : List Ent} {e : Ent} (he : T.ents = pre ++ e :: post) (he1 : T1.ents = pre ++ post) (hn : (T.kvs.map (·.1)).Nodup) : without T.kvs e.name = T1.kvs := by
  have hk : T.kvs = pre.map (fun e => (e.name, .ref e.a)) ++ (e.name, .ref e.a) :: post.map (fun e => (e.name, .ref e.a)) := by unfold Ft.kvs; rw [he, List.map_append, List.map_cons]
  have hk' : T1.kvs = pre.map (fun e => (e.name, .ref e.a)) ++ post.map (fun e => (e.name, .ref e.a)) := by unfold Ft.kvs; rw [he1, List.map_append]
  rw [hk] at hn ⊢
  rw [hk', without_mid hn]
theorem stored_mid {pre post : List (Str × Value)} {y : Str} {v v' : Value} (h : ((pre ++ (y, v) :: post).map (·.1)).Nodup) : stored (pre ++ (y, v) :: post) y v' = pre ++ (y, v') :: post := by
  have h0 : ((y, v) :: (pre ++ post)).map (·.1) |>.Nodup := (List.perm_middle.map _).nodup_iff.mp h
  rw [List.map_cons, List.nodup_cons] at h0
  have hp : y ∉ pre.map (·.1) := fun hm => h0.1 (by rw [List.map_append]; exact List.mem_append_left _ hm)
  have hq : y ∉ post.map (·.1) := fun hm => h0.1 (by rw [List.map_append]; exact List.mem_append_right _ hm)
  unfold stored
  have ha : (pre ++ (y, v) :: post).any (fun kv => decide (kv.1 = y)) = true := by simp
  rw [if_pos ha, List.map_append, List.map_cons, map_store_of_not_mem _ _ _ hp, map_store_of_not_mem _ _ _ hq, if_pos rfl]
theorem Ent.as_objs (w : World) (e : Ent) (y : Str) : (e.as y).objs w = e.objs w := rfl
theorem Own.moved {w : World} {ta L : Addr} {h₀ h : Heap} {T : Ft} {g : Files} {x y : Str} {o1 o2 : Obj} {rest R : List (Addr × Obj)} {pre post : List Ent} {e : Ent} {ns : List Int} {clock left : Int} {t0 t1 t2 t3 t4 : Tok}
    (N : News h₀ L h ((ta, instObj 410 T.dt) :: (T.dt, dictOf (selfDict w clock left T.de t0 t1 t2 t3 t4) 3) :: (T.de, o2) :: R))
    (isd1 : o1.IsDictOf (PySem.strKind PySem.Challenge.rw_np0075_01.row.prog w) (without T.kvs x)) (isd2 : o2.IsDictOf (PySem.strKind PySem.Challenge.rw_np0075_01.row.prog w) (stored (without T.kvs x) y (.ref e.a)))
    (he : T.ents = pre ++ e :: post) (hnm : e.name = x) (hs : e.so = 1) (hns : e.ns = ns)
    (O : Own w ta T rest) (hR : R = T.ents.flatMap (Ent.objs w) ++ rest) (H : Has T.abs g) (hx : x ∈ Fs) (hy : y ∈ Fs) (hxy : (x == y) = false) :
    ∃ T', News h₀ L h (T'.objs w ta ++ rest) ∧ Own w ta T' rest ∧ T'.left = left ∧ Has T'.abs (upd (upd g x none) y (some ns)) := by
  subst hnm
  have hnd : (T.kvs.map (·.1)).Nodup := by obtain ⟨_, _, _, _, _, _, h⟩ := O.ok.isd; exact h
  have hok : e.ok := O.ok.all e (by rw [he]; exact List.mem_append_right _ (.head _))
  obtain ⟨T1, hT1⟩ : ∃ T1 : Ft, T1 = ⟨T.dt, T.de, o1, clock, left, t0, t1, t2, t3, t4, pre ++ post⟩ := ⟨_, rfl⟩
  have he1 : T1.ents = pre ++ post := by rw [hT1]
  have O1 : Own w ta T1 (e.objs w ++ rest) := O.less he he1 (by rw [hT1]) (by rw [hT1]) (by rw [hT1]; exact isd1)
  have hk1 := without_at he he1 hnd
  have ha1 : T1.abs = adel T.abs e.name := abs_less he he1 H.nd
  have H1 : Has T1.abs (upd g e.name none) := ha1 ▸ H.del hx
  have hnd1 : (T1.kvs.map (·.1)).Nodup := by obtain ⟨_, _, _, _, _, _, h⟩ := O1.ok.isd; exact h
  rw [hk1] at isd2
  cases h1 : T1.at y with
  | none =>
    have hv : valueAt T1.kvs y = Option.none := by rw [valueAt_kvs, h1]; rfl
    rw [stored_absent hv] at isd2
    refine ⟨⟨T.dt, T.de, o2, clock, left, t0, t1, t2, t3, t4, (pre ++ post) ++ [e.as y]⟩, fun p hp => N p ?_, ⟨⟨?_, O.ok.lo, fun z hz => ?_, ?_⟩, ?_⟩, rfl, ?_⟩
    · subst hR
      rw [he]
      rcases List.mem_append.mp hp with hp | hp
      · rcases List.mem_cons.mp hp with hp | hp
        · exact hp ▸ .head _
        rcases List.mem_cons.mp hp with hp | hp
        · exact hp ▸ .tail _ (.head _)
        rcases List.mem_cons.mp hp with hp | hp
        · exact hp ▸ .tail _ (.tail _ (.head _))
        refine .tail _ (.tail _ (.tail _ (List.mem_append_left _ ?_)))
        simp only [List.flatMap_append, List.flatMap_cons, List.flatMap_nil, List.append_nil, List.mem_append, Ent.as_objs] at hp ⊢
        rcases hp with (hp | hp) | hp
        · exact .inl hp
        · exact .inr (.inr hp)
        · exact .inr (.inl hp)
      · exact .tail _ (.tail _ (.tail _ (List.mem_append_right _ hp)))
    · unfold Ft.kvs at isd2 ⊢
      rw [he1] at isd2
      rw [List.map_append]
      exact isd2
    · rcases List.mem_append.mp hz with hz | hz
      · exact O1.ok.all z (he1 ▸ hz)
      · rw [List.mem_singleton.mp hz]; exact ⟨hok.kind⟩
    · have := O.ok.small
      rw [he] at this
      simp only [List.length_append, List.length_cons, List.length_nil] at this ⊢
      omega
    · have nd := O1.nd
      have hp : ((Ft.objs w ta ⟨T.dt, T.de, o2, clock, left, t0, t1, t2, t3, t4, (pre ++ post) ++ [e.as y]⟩ ++ rest).map (·.1)).Perm ((T1.objs w ta ++ (e.objs w ++ rest)).map (·.1)) := by
        rw [hT1]
        unfold Ft.objs
        simp only [List.flatMap_append, List.flatMap_cons, List.flatMap_nil, List.append_nil, List.map_append, List.map_cons, List.cons_append, List.append_assoc, Ent.as_objs]
        exact .refl _
      exact hp.nodup_iff.mpr nd
    · have h2 : Ft.abs ⟨T.dt, T.de, o2, clock, left, t0, t1, t2, t3, t4, (pre ++ post) ++ [e.as y]⟩ = aput T1.abs y (some ns) := abs_newP (e := e.as y) (by rw [he1]) h1 rfl hs hns
      rw [h2]
      exact H1.put hy ns
  | some e2 =>
    obtain ⟨pre2, post2, he2, hn2, hp2⟩ := at_split h1
    have hk2 : T1.kvs = pre2.map (fun e => (e.name, .ref e.a)) ++ (y, .ref e2.a) :: post2.map (fun e => (e.name, .ref e.a)) := by unfold Ft.kvs; rw [he2, List.map_append, List.map_cons, hn2]
    rw [hk2] at hnd1
    rw [hk2, stored_mid hnd1] at isd2
    have hpp : pre ++ post = pre2 ++ e2 :: post2 := he1.symm.trans he2
    refine ⟨⟨T.dt, T.de, o2, clock, left, t0, t1, t2, t3, t4, pre2 ++ e.as y :: post2⟩, fun p hp => N p ?_, ⟨⟨?_, O.ok.lo, fun z hz => ?_, ?_⟩, ?_⟩, rfl, ?_⟩
    · subst hR
      rw [he]
      rcases List.mem_append.mp hp with hp | hp
      · rcases List.mem_cons.mp hp with hp | hp
        · exact hp ▸ .head _
        rcases List.mem_cons.mp hp with hp | hp
        · exact hp ▸ .tail _ (.head _)
        rcases List.mem_cons.mp hp with hp | hp
        · exact hp ▸ .tail _ (.tail _ (.head _))
        refine .tail _ (.tail _ (.tail _ (List.mem_append_left _ ?_)))
        have hq : ∀ q, q ∈ (pre ++ post).flatMap (Ent.objs w) → q ∈ (pre ++ e :: post).flatMap (Ent.objs w) := fun q hq => by
          simp only [List.flatMap_append, List.flatMap_cons, List.mem_append] at hq ⊢
          rcases hq with hq | hq
          · exact .inl hq
          · exact .inr (.inr hq)
        rw [hpp] at hq
        simp only [List.flatMap_append, List.flatMap_cons, List.mem_append, Ent.as_objs] at hp
        rcases hp with hp | hp | hp
        · exact hq p (by rw [List.flatMap_append]; exact List.mem_append_left _ hp)
        · rw [List.flatMap_append, List.flatMap_cons]; exact List.mem_append_right _ (List.mem_append_left _ hp)
        · exact hq p (by rw [List.flatMap_append, List.flatMap_cons]; exact List.mem_append_right _ (List.mem_append_right _ hp))
      · exact .tail _ (.tail _ (.tail _ (List.mem_append_right _ hp)))
    · unfold Ft.kvs
      rw [List.map_append, List.map_cons]
      exact isd2
    · rcases List.mem_append.mp hz with hz | hz
      · exact O1.ok.all z (he2 ▸ List.mem_append_left _ hz)
      rcases List.mem_cons.mp hz with hz | hz
      · rw [hz]; exact ⟨hok.kind⟩
      · exact O1.ok.all z (he2 ▸ List.mem_append_right _ (.tail _ hz))
    · have := O1.ok.small
      rw [he2] at this
      simpa using this
    · have nd := O1.nd
      have hs1 : (((Ft.objs w ta ⟨T.dt, T.de, o1, clock, left, t0, t1, t2, t3, t4, pre2 ++ post2⟩) ++ (e.objs w ++ rest)).map (·.1)).Sublist ((T1.objs w ta ++ (e.objs w ++ rest)).map (·.1)) := by
        rw [hT1, hpp]
        unfold Ft.objs
        simp only [List.flatMap_append, List.flatMap_cons, List.map_append, List.map_cons, List.cons_append, List.append_assoc]
        refine .cons_cons _ (.cons_cons _ (.cons_cons _ (List.Sublist.append_left ?_ _)))
        exact List.sublist_append_right _ _
      have hp : ((Ft.objs w ta ⟨T.dt, T.de, o2, clock, left, t0, t1, t2, t3, t4, pre2 ++ e.as y :: post2⟩ ++ rest).map (·.1)).Perm (((Ft.objs w ta ⟨T.dt, T.de, o1, clock, left, t0, t1, t2, t3, t4, pre2 ++ post2⟩) ++ (e.objs w ++ rest)).map (·.1)) := by
        unfold Ft.objs
        simp only [List.flatMap_append, List.flatMap_cons, List.map_append, List.map_cons, List.cons_append, List.append_assoc, Ent.as_objs]
        refine .cons _ (.cons _ (.cons _ (.append_left _ ?_)))
        exact List.perm_append_comm_assoc _ _ _
      exact hp.nodup_iff.mpr (nd.sublist hs1)
    · have h2 : Ft.abs ⟨T.dt, T.de, o2, clock, left, t0, t1, t2, t3, t4, pre2 ++ e.as y :: post2⟩ = aput T1.abs y (some ns) := abs_put he2 rfl hn2 hp2 hn2.symm hs hns
      rw [h2]
      exact H1.put hy ns
theorem slice_all : ∀ x ∈ Fs, ∀ y ∈ Fs, y ++ Txt.slice x (some (x.length : Int)) none = y := by decide +kernel
theorem allLt_mono {a b : Addr} {l : List (Addr × Obj)} (h : AllLt a l) (hab : @LT.lt Nat _ a b) : AllLt b l := by
  induction l with
  | nil => trivial
  | cons p r ih => exact ⟨Nat.lt_trans h.1 hab, ih h.2⟩

theorem top_D3 : True := by
  w_top off
  trivial
theorem Own.dirOf {w : World} {ta : Addr} {T : Ft} {rest : List (Addr × Obj)} (O : Own w ta T rest) {g : Files} (H : Has T.abs g) {y : Str} (hy : y ∈ Fs) {v : Option Value} (hv : valueAt T.kvs y = v) :
    v = none ∨ ∃ e, v = some (.ref e.a) ∧ T.at y = some e ∧ (e.a, instObj 209 e.d) ∈ T.objs w ta ++ rest ∧ (e.d, dictOf (entP w e.c e.st e.k0 e.k1 e.k2 e.k3 e.k4 e.k5) 4) ∈ T.objs w ta ++ rest := by
  cases hg : g y with
  | none => exact .inl (by rw [← hv, valueAt_kvs, H.none hy hg]; rfl)
  | some ns =>
    obtain ⟨e, h1, hs, hns⟩ := H.file hy hg
    obtain ⟨a, b, c, _⟩ := O.inn.plain h1 hs
    exact .inr ⟨e, by rw [← hv, a], h1, b, c⟩
theorem news_pqc {h₀ h : Heap} {L : Addr} {a b c p q : Addr × Obj} {R : List (Addr × Obj)} (N : News h₀ L h (a :: b :: c :: p :: q :: R)) : News h₀ L h (p :: q :: c :: R) := (cb_drop (by assumption) (fun p hp => by (repeat (rcases List.mem_cons.mp hp with rfl | hp; · (repeat (first | exact List.mem_cons_self | refine List.mem_cons_of_mem _ ?_)))); (repeat (first | exact hp | refine List.mem_cons_of_mem _ ?_))))
/-- the names found so far of those that are this name -/
def One (x : Str) (kvs : List (Str × Value)) (i : Nat) (ys : List Value) : Prop := (x ∉ (kvs.take i).map (·.1) ∧ ys = []) ∨ (x ∈ (kvs.take i).map (·.1) ∧ ∃ t, ys = [.str x t])
theorem One.zero (x : Str) (kvs : List (Str × Value)) : One x kvs 0 [] := .inl ⟨by simp, rfl⟩
theorem One.hit {x : Str} {kvs : List (Str × Value)} {i : Nat} {ys : List Value} {v : Value} {t : Tok} (h : One x kvs i ys) (hn : (kvs.map (·.1)).Nodup) (hk : kvs[i]? = some (x, v)) : One x kvs (i + 1) (ys ++ [.str x t]) := by
  have e : kvs.take (i + 1) = kvs.take i ++ [(x, v)] := by rw [List.take_add_one, hk]; rfl
  have hx : x ∉ (kvs.take i).map (·.1) := by
    have h1 : ((kvs.take (i + 1)).map (·.1)).Nodup := hn.sublist ((List.take_sublist _ _).map _)
    rw [e, List.map_append, List.nodup_append] at h1
    exact fun hm => h1.2.2 x hm x (List.mem_singleton.mpr rfl) rfl
  rcases h with ⟨_, rfl⟩ | ⟨h, _⟩
  · exact .inr ⟨by rw [e, List.map_append]; exact List.mem_append_right _ (List.mem_singleton.mpr rfl), t, rfl⟩
  · exact absurd h hx
theorem One.miss {x k : Str} {kvs : List (Str × Value)} {i : Nat} {ys : List Value} {v : Value} (h : One x kvs i ys) (hk : kvs[i]? = some (k, v)) (hne : (k == x) = false) : One x kvs (i + 1) ys := by
  have e : kvs.take (i + 1) = kvs.take i ++ [(k, v)] := by rw [List.take_add_one, hk]; rfl
  have hm : x ∈ (kvs.take (i + 1)).map (·.1) ↔ x ∈ (kvs.take i).map (·.1) := by
    rw [e, List.map_append, List.mem_append]
    refine ⟨fun h => h.resolve_right fun h => ?_, .inl⟩
    rw [List.map_cons, List.map_nil, List.mem_singleton] at h
    rw [h, beq_self_eq_true] at hne
    cases hne
  unfold One
  rw [hm]
  exact h
theorem One.end {x : Str} {kvs : List (Str × Value)} {ys : List Value} {v : Value} (h : One x kvs kvs.length ys) (hv : valueAt kvs x = some v) : ∃ t, ys = [.str x t] := by
  rcases h with ⟨h, _⟩ | ⟨_, h⟩
  · rw [List.take_length] at h
    rw [valueAt_none_of_not_mem h] at hv
    cases hv
  · exact h
theorem Ft.key_mem (T : Ft) {g : Files} (H : Has T.abs g) {i : Nat} {k : Str} {v : Value} (h : T.kvs[i]? = some (k, v)) : k ∈ U := by
  have h1 := List.mem_of_getElem? h
  unfold Ft.kvs at h1
  obtain ⟨e, he, q⟩ := List.mem_map.mp h1
  cases q
  exact H.nm e.abs (List.mem_map.mpr ⟨e, he, rfl⟩)
theorem mem_cell {α : Type} {a b c p : α} {R : List α} (h : p ∈ a :: b :: R) : p ∈ a :: b :: c :: R := by
  rcases List.mem_cons.mp h with rfl | h
  · exact .head _
  rcases List.mem_cons.mp h with rfl | h
  · exact .tail _ (.head _)
  · exact .tail _ (.tail _ (.tail _ h))
theorem news_d3 {h₀ h : Heap} {L : Addr} {i a b : Addr × Obj} {R : List (Addr × Obj)} (N : News h₀ L h ([i] ++ a :: b :: R)) : News h₀ L h (i :: a :: R) := (cb_drop (by assumption) (fun p hp => by (repeat (rcases List.mem_cons.mp hp with rfl | hp; · (repeat (first | exact List.mem_cons_self | refine List.mem_cons_of_mem _ ?_)))); (repeat (first | exact hp | refine List.mem_cons_of_mem _ ?_))))
theorem off_i {I4 X D3 ta dt c de : Addr} {lo o3 o4 o5 o6 o7 lo' o4' o5' o6' o7' oi : Obj} {R : List (Addr × Obj)} (h : ∀ p ∈ (X, lo) :: (D3, o3) :: (ta, o4) :: (dt, o5) :: (c, o6) :: (de, o7) :: R, p.1 < I4) :
    ∀ p ∈ (X, lo') :: (ta, o4') :: (dt, o5') :: (c, o6') :: (de, o7') :: R, ∀ q ∈ [(I4, oi)], p.1 ≠ q.1 := by
  intro p hp q hq
  rw [List.mem_singleton.mp hq]
  refine Nat.ne_of_lt ?_
  rcases List.mem_cons.mp hp with rfl | hp
  · exact h (X, lo) (.head _)
  rcases List.mem_cons.mp hp with rfl | hp
  · exact h (ta, o4) (.tail _ (.tail _ (.head _)))
  rcases List.mem_cons.mp hp with rfl | hp
  · exact h (dt, o5) (.tail _ (.tail _ (.tail _ (.head _))))
  rcases List.mem_cons.mp hp with rfl | hp
  · exact h (c, o6) (.tail _ (.tail _ (.tail _ (.tail _ (.head _)))))
  rcases List.mem_cons.mp hp with rfl | hp
  · exact h (de, o7) (.tail _ (.tail _ (.tail _ (.tail _ (.tail _ (.head _))))))
  · exact h p (.tail _ (.tail _ (.tail _ (.tail _ (.tail _ (.tail _ hp))))))
theorem U_sub : ∀ x ∈ Fs, ∀ k ∈ U, (Txt.slice k none (some ((x.length : Int) + 1)) == x ++ Str.ofString "/") = false := by decide +kernel
set_option maxRecDepth 100000 in
set_option maxHeartbeats 2000000 in
theorem c_rename0 {w : World} {rest : List (Addr × Obj)} {ta : Addr} {T : Ft} {g : Files} {x y : Str} {tx ty : Tok} {ns : List Int} (O : Own w ta T rest)
    (H : Has T.abs g) (hx : x ∈ Fs) (hy : y ∈ Fs) (hxy : (x == y) = false) (hg : g x = some ns) :
    Call w 5 393 [.ref ta, .str x tx, .str y ty, .bool true] (T.objs w ta ++ rest)
      (fun r n' => r = .none ∧ T.left ≠ 0 ∧ ∃ T', n' = T'.objs w ta ++ rest ∧ Own w ta T' rest ∧ T'.left = stepL T.left ∧ Has T'.abs (upd (upd g x none) y (some ns)))
      (fun n' => T.left = 0 ∧ n' = T.objs w ta ++ rest) := by
  intro dp un gd cn cs a ccd cl outer A₀ base h₀ L m s Q E mean mg mb B F X N Tp hk hd hu hret hexc
  obtain ⟨hU, hnr, _, _, hpd⟩ := Fs_U x hx
  obtain ⟨hUy, hnry, _, _, hpdy⟩ := Fs_U y hy
  have hlen := U_len x hU
  have hleny := U_len y hUy
  have hD := H.dirs O.ok.all
  have hDx : x = Str.ofString "/" ∨ Dirs T := .inr hD
  have hDy : y = Str.ofString "/" ∨ Dirs T := .inr hD
  have hDpx : parent x = Str.ofString "/" ∨ Dirs T := .inr hD
  have hDpy : parent y = Str.ofString "/" ∨ Dirs T := .inr hD
  obtain ⟨ep, hpar, hps⟩ := H.par O.ok.all hx
  have hpary : T.at (parent y) = some ep := by rw [hpdy, ← hpd]; exact hpar
  obtain ⟨e, h1, hs, hns⟩ := H.file hx hg
  obtain ⟨pre, post, he, hnm, hpre⟩ := at_split h1
  have hv : valueAt T.kvs x = some (Value.ref e.a) := by rw [valueAt_kvs, h1]; rfl
  obtain ⟨vy, hvy⟩ : ∃ v, valueAt T.kvs y = v := ⟨_, rfl⟩
  have hlk := O.dirOf H hy hvy
  have isd := O.ok.isd
  have lo := O.ok.lo
  have hnd : (T.kvs.map (·.1)).Nodup := by obtain ⟨_, _, _, _, _, _, h⟩ := O.ok.isd; exact h
  have hsz : T.kvs.length ≤ sizeLine := by
    rw [sizeLine_eq]; unfold Ft.kvs; rw [List.length_map]; have := O.ok.small; omega
  obtain ⟨R, hR, hsplit, a1, a2, a4, r1, r2, r3⟩ := O.three
  have I := O.inn
  obtain ⟨_, hei, hed, _, _, _⟩ := I.plain h1 hs
  rw [hsplit] at N I hei hed hlk
  (refine' code_defCQ ?k1 ?k2 ?k3 ?k4 ?k5 ?kA ?kF ?kK ?k6 ?k7 ?k8 ?k9 ?kB ?kD ?_ ?c2 ?c3 ?c4; (case kA => exact rfl); (case kF => exact rfl); (case kK => first | exact rfl | assumption); (case k1 => k_asm); (case k2 => k_asm); (case k3 => k_asm); (case k4 => k_asm); (case k5 => k_asm); (case k6 => k_is); (case k7 => k_is); (case k8 => ktr_room); (case k9 => exact BindsTo.of_eq rfl); (case kB => exact rfl); (case kD => decide +kernel); (case c2 => exact rfl); (case c3 => exact rfl); (case c4 => exact rfl); k_whole; intro g' L' Sq Qo Eo cells' hSq FG' F' N' Y' B' X' T' l1 hQo hEo hPo; (try k_lt l1); k_cells Y'; (try simp only [List.cons_append, List.nil_append] at N'); (try dsimp only))
  have c1 : @Ne Nat ta (L' + 1) := Nat.ne_of_lt (Nat.lt_succ_of_lt l1.1)
  have c2 : @Ne Nat T.dt (L' + 1) := Nat.ne_of_lt (Nat.lt_succ_of_lt l1.2.1)
  have c3 : @Ne Nat T.de (L' + 1) := Nat.ne_of_lt (Nat.lt_succ_of_lt l1.2.2.1)
  have c4 : ∀ p ∈ R, p.1 ≠ L' + 1 := fun p hp => Nat.ne_of_lt (Nat.lt_succ_of_lt (allLt_to l1.2.2.2 p hp))
  (repeat' ((fail_if_success (with_reducible show wpAny _ _ (exec (Stmt.If (PySem.Expr.BoolOp _ _ _) _ _ _) _) _ _ _)); first | (k_here; (with_reducible show wpAny _ _ (getMethod (Value.ref _) (Str.ofString "pop") _) _ _ _); k_dflt (refine kob_method (knd := PySem.strKind _ _) PySem.F.slot_dict_pop PySem.F.type_dict_pop (by k_asm) (by k_mem) (by k_asm) ?_)) | (k_here; (with_reducible show wpAny _ _ (call (Value.builtin "dict.pop") [Value.ref _, Value.str _ _]) _ _ _); k_dflt (refine kob_pop (knd := PySem.strKind _ _) (more := []) (by k_asm) (by k_asm) (by k_updF) (by k_asm) (strKind_is _ _ _ _) (.inl rfl) (by rfl) (PySem.F.args_dict_pop_2 _ _) (by assumption) (by assumption) ?_); intro h' o' F' N' hd'; (try dsimp only at N')) | (k_here; (with_reducible show wpAny _ _ (exec (Stmt.Assign [_] (PySem.Expr.ListComp _ _ _ _) _) _) _ _ _); k_dflt (refine Assign_keysT (by k_asm) (by rfl) (by with_unfolding_all rfl) (by with_unfolding_all rfl) (by decide) (by rfl) (by decide) (by rfl) (by rfl) (by rfl) ?_)) | (k_here; (with_reducible show wpAny _ _ (setItem (Value.ref _) (Value.str _ _) (Value.ref _)) _ _ _); k_dflt (refine kda_set (knd := PySem.strKind _ _) (by k_asm) (by k_asm) (by k_updF) (by k_asm) (strKind_is _ _ _ _) (by assumption) ?_); intro h' o' F' N' hd'; (try dsimp only at N')) | (k_here; (with_reducible show wpAny _ _ (leaving _ _) _ _ _); k_dflt (refine leave_onE (L := _) rfl (by assumption) (by assumption) (by assumption) (by assumption) ?_; intro h' RS' U'; (try dsimp only at RS' U' ⊢))) | (k_unfold; (try dsimp only)) | (k_end; wrow_close) | walk1 | (dsimp only; walk1) | (leave1; walk_say "STEP leave1"; try dsimp only) | fail "no step")); all_goals (try (first | (refine hQo _ _ _ _ _ _ (by k_asm) (by k_asm) ?_; intro kF kN; (try dsimp only [valOf])) | (refine hEo _ _ _ ?_; (repeat' (first | (k_here; (with_reducible show wpAny _ _ (getMethod (Value.ref _) (Str.ofString "pop") _) _ _ _); k_dflt (refine kob_method (knd := PySem.strKind _ _) PySem.F.slot_dict_pop PySem.F.type_dict_pop (by k_asm) (by k_mem) (by k_asm) ?_)) | (k_here; (with_reducible show wpAny _ _ (call (Value.builtin "dict.pop") [Value.ref _, Value.str _ _]) _ _ _); k_dflt (refine kob_pop (knd := PySem.strKind _ _) (more := []) (by k_asm) (by k_asm) (by k_updF) (by k_asm) (strKind_is _ _ _ _) (.inl rfl) (by rfl) (PySem.F.args_dict_pop_2 _ _) (by assumption) (by assumption) ?_); intro h' o' F' N' hd'; (try dsimp only at N')) | (k_here; (with_reducible show wpAny _ _ (exec (Stmt.Assign [_] (PySem.Expr.ListComp _ _ _ _) _) _) _ _ _); k_dflt (refine Assign_keysT (by k_asm) (by rfl) (by with_unfolding_all rfl) (by with_unfolding_all rfl) (by decide) (by rfl) (by decide) (by rfl) (by rfl) (by rfl) ?_)) | (k_here; (with_reducible show wpAny _ _ (setItem (Value.ref _) (Value.str _ _) (Value.ref _)) _ _ _); k_dflt (refine kda_set (knd := PySem.strKind _ _) (by k_asm) (by k_asm) (by k_updF) (by k_asm) (strKind_is _ _ _ _) (by assumption) ?_); intro h' o' F' N' hd'; (try dsimp only at N')) | (k_here; (with_reducible show wpAny _ _ (leaving _ _) _ _ _); k_dflt (refine leave_onE (L := _) rfl (by assumption) (by assumption) (by assumption) (by assumption) ?_; intro h' RS' U'; (try dsimp only at RS' U' ⊢))) | (k_unfold; (try dsimp only)) | (k_end; kc_close) | walk1 | (dsimp only; walk1) | (leave1; walk_say "STEP leave1"; (try dsimp only)) | fail "no step")))))
  refine calm ?_ ?_
  · rcases hlk with rfl | ⟨e2, rfl, h2, hei2, hed2⟩ <;> (try dsimp only [Option.getD]) <;> ((repeat' (first | (k_here; (with_reducible show wpAny _ _ (getMethod (Value.ref _) (Str.ofString "pop") _) _ _ _); k_dflt (refine kob_method (knd := PySem.strKind _ _) PySem.F.slot_dict_pop PySem.F.type_dict_pop (by k_asm) (by k_mem) (by k_asm) ?_)) | (k_here; (with_reducible show wpAny _ _ (call (Value.builtin "dict.pop") [Value.ref _, Value.str _ _]) _ _ _); k_dflt (refine kob_pop (knd := PySem.strKind _ _) (more := []) (by k_asm) (by k_asm) (by k_updF) (by k_asm) (strKind_is _ _ _ _) (.inl rfl) (by rfl) (PySem.F.args_dict_pop_2 _ _) (by assumption) (by assumption) ?_); intro h' o' F' N' hd'; (try dsimp only at N')) | (k_here; (with_reducible show wpAny _ _ (exec (Stmt.Assign [_] (PySem.Expr.ListComp _ _ _ _) _) _) _ _ _); k_dflt (refine Assign_keysT (by k_asm) (by rfl) (by with_unfolding_all rfl) (by with_unfolding_all rfl) (by decide) (by rfl) (by decide) (by rfl) (by rfl) (by rfl) ?_)) | (k_here; (with_reducible show wpAny _ _ (setItem (Value.ref _) (Value.str _ _) (Value.ref _)) _ _ _); k_dflt (refine kda_set (knd := PySem.strKind _ _) (by k_asm) (by k_asm) (by k_updF) (by k_asm) (strKind_is _ _ _ _) (by assumption) ?_); intro h' o' F' N' hd'; (try dsimp only at N')) | (k_here; (with_reducible show wpAny _ _ (leaving _ _) _ _ _); k_dflt (refine leave_onE (L := _) rfl (by assumption) (by assumption) (by assumption) (by assumption) ?_; intro h' RS' U'; (try dsimp only at RS' U' ⊢))) | (k_unfold; (try dsimp only)) | (k_end; kc_close) | walk1 | (dsimp only; walk1) | (leave1; walk_say "STEP leave1"; (try dsimp only)) | fail "no step")); all_goals (try (first | (refine hQo _ _ _ _ _ _ (by k_asm) (by k_asm) ?_; intro kF kN; (try dsimp only [valOf])) | (refine hEo _ _ _ ?_; (repeat' (first | (k_here; (with_reducible show wpAny _ _ (getMethod (Value.ref _) (Str.ofString "pop") _) _ _ _); k_dflt (refine kob_method (knd := PySem.strKind _ _) PySem.F.slot_dict_pop PySem.F.type_dict_pop (by k_asm) (by k_mem) (by k_asm) ?_)) | (k_here; (with_reducible show wpAny _ _ (call (Value.builtin "dict.pop") [Value.ref _, Value.str _ _]) _ _ _); k_dflt (refine kob_pop (knd := PySem.strKind _ _) (more := []) (by k_asm) (by k_asm) (by k_updF) (by k_asm) (strKind_is _ _ _ _) (.inl rfl) (by rfl) (PySem.F.args_dict_pop_2 _ _) (by assumption) (by assumption) ?_); intro h' o' F' N' hd'; (try dsimp only at N')) | (k_here; (with_reducible show wpAny _ _ (exec (Stmt.Assign [_] (PySem.Expr.ListComp _ _ _ _) _) _) _ _ _); k_dflt (refine Assign_keysT (by k_asm) (by rfl) (by with_unfolding_all rfl) (by with_unfolding_all rfl) (by decide) (by rfl) (by decide) (by rfl) (by rfl) (by rfl) ?_)) | (k_here; (with_reducible show wpAny _ _ (setItem (Value.ref _) (Value.str _ _) (Value.ref _)) _ _ _); k_dflt (refine kda_set (knd := PySem.strKind _ _) (by k_asm) (by k_asm) (by k_updF) (by k_asm) (strKind_is _ _ _ _) (by assumption) ?_); intro h' o' F' N' hd'; (try dsimp only at N')) | (k_here; (with_reducible show wpAny _ _ (leaving _ _) _ _ _); k_dflt (refine leave_onE (L := _) rfl (by assumption) (by assumption) (by assumption) (by assumption) ?_; intro h' RS' U'; (try dsimp only at RS' U' ⊢))) | (k_unfold; (try dsimp only)) | (k_end; kc_close) | walk1 | (dsimp only; walk1) | (leave1; walk_say "STEP leave1"; (try dsimp only)) | fail "no step")))))) <;> exact ⟨rfl, _, rfl⟩
  intro tk
  dsimp only
  (repeat' ((fail_if_success (with_reducible show wpAny _ _ (exec (Stmt.If (PySem.Expr.BoolOp _ _ _) _ _ _) _) _ _ _)); first | (k_here; (with_reducible show wpAny _ _ (getMethod (Value.ref _) (Str.ofString "pop") _) _ _ _); k_dflt (refine kob_method (knd := PySem.strKind _ _) PySem.F.slot_dict_pop PySem.F.type_dict_pop (by k_asm) (by k_mem) (by k_asm) ?_)) | (k_here; (with_reducible show wpAny _ _ (call (Value.builtin "dict.pop") [Value.ref _, Value.str _ _]) _ _ _); k_dflt (refine kob_pop (knd := PySem.strKind _ _) (more := []) (by k_asm) (by k_asm) (by k_updF) (by k_asm) (strKind_is _ _ _ _) (.inl rfl) (by rfl) (PySem.F.args_dict_pop_2 _ _) (by assumption) (by assumption) ?_); intro h' o' F' N' hd'; (try dsimp only at N')) | (k_here; (with_reducible show wpAny _ _ (exec (Stmt.Assign [_] (PySem.Expr.ListComp _ _ _ _) _) _) _ _ _); k_dflt (refine Assign_keysT (by k_asm) (by rfl) (by with_unfolding_all rfl) (by with_unfolding_all rfl) (by decide) (by rfl) (by decide) (by rfl) (by rfl) (by rfl) ?_)) | (k_here; (with_reducible show wpAny _ _ (setItem (Value.ref _) (Value.str _ _) (Value.ref _)) _ _ _); k_dflt (refine kda_set (knd := PySem.strKind _ _) (by k_asm) (by k_asm) (by k_updF) (by k_asm) (strKind_is _ _ _ _) (by assumption) ?_); intro h' o' F' N' hd'; (try dsimp only at N')) | (k_here; (with_reducible show wpAny _ _ (leaving _ _) _ _ _); k_dflt (refine leave_onE (L := _) rfl (by assumption) (by assumption) (by assumption) (by assumption) ?_; intro h' RS' U'; (try dsimp only at RS' U' ⊢))) | (k_unfold; (try dsimp only)) | (k_end; wrow_close) | walk1 | (dsimp only; walk1) | (leave1; walk_say "STEP leave1"; try dsimp only) | fail "no step")); all_goals (try (first | (refine hQo _ _ _ _ _ _ (by k_asm) (by k_asm) ?_; intro kF kN; (try dsimp only [valOf])) | (refine hEo _ _ _ ?_; (repeat' (first | (k_here; (with_reducible show wpAny _ _ (getMethod (Value.ref _) (Str.ofString "pop") _) _ _ _); k_dflt (refine kob_method (knd := PySem.strKind _ _) PySem.F.slot_dict_pop PySem.F.type_dict_pop (by k_asm) (by k_mem) (by k_asm) ?_)) | (k_here; (with_reducible show wpAny _ _ (call (Value.builtin "dict.pop") [Value.ref _, Value.str _ _]) _ _ _); k_dflt (refine kob_pop (knd := PySem.strKind _ _) (more := []) (by k_asm) (by k_asm) (by k_updF) (by k_asm) (strKind_is _ _ _ _) (.inl rfl) (by rfl) (PySem.F.args_dict_pop_2 _ _) (by assumption) (by assumption) ?_); intro h' o' F' N' hd'; (try dsimp only at N')) | (k_here; (with_reducible show wpAny _ _ (exec (Stmt.Assign [_] (PySem.Expr.ListComp _ _ _ _) _) _) _ _ _); k_dflt (refine Assign_keysT (by k_asm) (by rfl) (by with_unfolding_all rfl) (by with_unfolding_all rfl) (by decide) (by rfl) (by decide) (by rfl) (by rfl) (by rfl) ?_)) | (k_here; (with_reducible show wpAny _ _ (setItem (Value.ref _) (Value.str _ _) (Value.ref _)) _ _ _); k_dflt (refine kda_set (knd := PySem.strKind _ _) (by k_asm) (by k_asm) (by k_updF) (by k_asm) (strKind_is _ _ _ _) (by assumption) ?_); intro h' o' F' N' hd'; (try dsimp only at N')) | (k_here; (with_reducible show wpAny _ _ (leaving _ _) _ _ _); k_dflt (refine leave_onE (L := _) rfl (by assumption) (by assumption) (by assumption) (by assumption) ?_; intro h' RS' U'; (try dsimp only at RS' U' ⊢))) | (k_unfold; (try dsimp only)) | (k_end; kc_close) | walk1 | (dsimp only; walk1) | (leave1; walk_say "STEP leave1"; (try dsimp only)) | fail "no step")))))
  refine calm ?_ ?_
  · rcases hlk with rfl | ⟨e2, rfl, h2, hei2, hed2⟩ <;> (try dsimp only [Option.getD]) <;> ((repeat' (first | (k_here; (with_reducible show wpAny _ _ (getMethod (Value.ref _) (Str.ofString "pop") _) _ _ _); k_dflt (refine kob_method (knd := PySem.strKind _ _) PySem.F.slot_dict_pop PySem.F.type_dict_pop (by k_asm) (by k_mem) (by k_asm) ?_)) | (k_here; (with_reducible show wpAny _ _ (call (Value.builtin "dict.pop") [Value.ref _, Value.str _ _]) _ _ _); k_dflt (refine kob_pop (knd := PySem.strKind _ _) (more := []) (by k_asm) (by k_asm) (by k_updF) (by k_asm) (strKind_is _ _ _ _) (.inl rfl) (by rfl) (PySem.F.args_dict_pop_2 _ _) (by assumption) (by assumption) ?_); intro h' o' F' N' hd'; (try dsimp only at N')) | (k_here; (with_reducible show wpAny _ _ (exec (Stmt.Assign [_] (PySem.Expr.ListComp _ _ _ _) _) _) _ _ _); k_dflt (refine Assign_keysT (by k_asm) (by rfl) (by with_unfolding_all rfl) (by with_unfolding_all rfl) (by decide) (by rfl) (by decide) (by rfl) (by rfl) (by rfl) ?_)) | (k_here; (with_reducible show wpAny _ _ (setItem (Value.ref _) (Value.str _ _) (Value.ref _)) _ _ _); k_dflt (refine kda_set (knd := PySem.strKind _ _) (by k_asm) (by k_asm) (by k_updF) (by k_asm) (strKind_is _ _ _ _) (by assumption) ?_); intro h' o' F' N' hd'; (try dsimp only at N')) | (k_here; (with_reducible show wpAny _ _ (leaving _ _) _ _ _); k_dflt (refine leave_onE (L := _) rfl (by assumption) (by assumption) (by assumption) (by assumption) ?_; intro h' RS' U'; (try dsimp only at RS' U' ⊢))) | (k_unfold; (try dsimp only)) | (k_end; kc_close) | walk1 | (dsimp only; walk1) | (leave1; walk_say "STEP leave1"; (try dsimp only)) | fail "no step")); all_goals (try (first | (refine hQo _ _ _ _ _ _ (by k_asm) (by k_asm) ?_; intro kF kN; (try dsimp only [valOf])) | (refine hEo _ _ _ ?_; (repeat' (first | (k_here; (with_reducible show wpAny _ _ (getMethod (Value.ref _) (Str.ofString "pop") _) _ _ _); k_dflt (refine kob_method (knd := PySem.strKind _ _) PySem.F.slot_dict_pop PySem.F.type_dict_pop (by k_asm) (by k_mem) (by k_asm) ?_)) | (k_here; (with_reducible show wpAny _ _ (call (Value.builtin "dict.pop") [Value.ref _, Value.str _ _]) _ _ _); k_dflt (refine kob_pop (knd := PySem.strKind _ _) (more := []) (by k_asm) (by k_asm) (by k_updF) (by k_asm) (strKind_is _ _ _ _) (.inl rfl) (by rfl) (PySem.F.args_dict_pop_2 _ _) (by assumption) (by assumption) ?_); intro h' o' F' N' hd'; (try dsimp only at N')) | (k_here; (with_reducible show wpAny _ _ (exec (Stmt.Assign [_] (PySem.Expr.ListComp _ _ _ _) _) _) _ _ _); k_dflt (refine Assign_keysT (by k_asm) (by rfl) (by with_unfolding_all rfl) (by with_unfolding_all rfl) (by decide) (by rfl) (by decide) (by rfl) (by rfl) (by rfl) ?_)) | (k_here; (with_reducible show wpAny _ _ (setItem (Value.ref _) (Value.str _ _) (Value.ref _)) _ _ _); k_dflt (refine kda_set (knd := PySem.strKind _ _) (by k_asm) (by k_asm) (by k_updF) (by k_asm) (strKind_is _ _ _ _) (by assumption) ?_); intro h' o' F' N' hd'; (try dsimp only at N')) | (k_here; (with_reducible show wpAny _ _ (leaving _ _) _ _ _); k_dflt (refine leave_onE (L := _) rfl (by assumption) (by assumption) (by assumption) (by assumption) ?_; intro h' RS' U'; (try dsimp only at RS' U' ⊢))) | (k_unfold; (try dsimp only)) | (k_end; kc_close) | walk1 | (dsimp only; walk1) | (leave1; walk_say "STEP leave1"; (try dsimp only)) | fail "no step")))))) <;> exact ⟨rfl, _, rfl⟩
  intro tk2
  dsimp only
  (repeat' ((fail_if_success (with_reducible show wpAny _ _ (call (Value.ref 234) _) _ _ _)); first | (k_here; (with_reducible show wpAny _ _ (getMethod (Value.ref _) (Str.ofString "pop") _) _ _ _); k_dflt (refine kob_method (knd := PySem.strKind _ _) PySem.F.slot_dict_pop PySem.F.type_dict_pop (by k_asm) (by k_mem) (by k_asm) ?_)) | (k_here; (with_reducible show wpAny _ _ (call (Value.builtin "dict.pop") [Value.ref _, Value.str _ _]) _ _ _); k_dflt (refine kob_pop (knd := PySem.strKind _ _) (more := []) (by k_asm) (by k_asm) (by k_updF) (by k_asm) (strKind_is _ _ _ _) (.inl rfl) (by rfl) (PySem.F.args_dict_pop_2 _ _) (by assumption) (by assumption) ?_); intro h' o' F' N' hd'; (try dsimp only at N')) | (k_here; (with_reducible show wpAny _ _ (exec (Stmt.Assign [_] (PySem.Expr.ListComp _ _ _ _) _) _) _ _ _); k_dflt (refine Assign_keysT (by k_asm) (by rfl) (by with_unfolding_all rfl) (by with_unfolding_all rfl) (by decide) (by rfl) (by decide) (by rfl) (by rfl) (by rfl) ?_)) | (k_here; (with_reducible show wpAny _ _ (setItem (Value.ref _) (Value.str _ _) (Value.ref _)) _ _ _); k_dflt (refine kda_set (knd := PySem.strKind _ _) (by k_asm) (by k_asm) (by k_updF) (by k_asm) (strKind_is _ _ _ _) (by assumption) ?_); intro h' o' F' N' hd'; (try dsimp only at N')) | (k_here; (with_reducible show wpAny _ _ (leaving _ _) _ _ _); k_dflt (refine leave_onE (L := _) rfl (by assumption) (by assumption) (by assumption) (by assumption) ?_; intro h' RS' U'; (try dsimp only at RS' U' ⊢))) | (k_unfold; (try dsimp only)) | (k_end; wrow_close) | walk1 | (dsimp only; walk1) | (leave1; walk_say "STEP leave1"; try dsimp only) | fail "no step")); all_goals (try (first | (refine hQo _ _ _ _ _ _ (by k_asm) (by k_asm) ?_; intro kF kN; (try dsimp only [valOf])) | (refine hEo _ _ _ ?_; (repeat' (first | (k_here; (with_reducible show wpAny _ _ (getMethod (Value.ref _) (Str.ofString "pop") _) _ _ _); k_dflt (refine kob_method (knd := PySem.strKind _ _) PySem.F.slot_dict_pop PySem.F.type_dict_pop (by k_asm) (by k_mem) (by k_asm) ?_)) | (k_here; (with_reducible show wpAny _ _ (call (Value.builtin "dict.pop") [Value.ref _, Value.str _ _]) _ _ _); k_dflt (refine kob_pop (knd := PySem.strKind _ _) (more := []) (by k_asm) (by k_asm) (by k_updF) (by k_asm) (strKind_is _ _ _ _) (.inl rfl) (by rfl) (PySem.F.args_dict_pop_2 _ _) (by assumption) (by assumption) ?_); intro h' o' F' N' hd'; (try dsimp only at N')) | (k_here; (with_reducible show wpAny _ _ (exec (Stmt.Assign [_] (PySem.Expr.ListComp _ _ _ _) _) _) _ _ _); k_dflt (refine Assign_keysT (by k_asm) (by rfl) (by with_unfolding_all rfl) (by with_unfolding_all rfl) (by decide) (by rfl) (by decide) (by rfl) (by rfl) (by rfl) ?_)) | (k_here; (with_reducible show wpAny _ _ (setItem (Value.ref _) (Value.str _ _) (Value.ref _)) _ _ _); k_dflt (refine kda_set (knd := PySem.strKind _ _) (by k_asm) (by k_asm) (by k_updF) (by k_asm) (strKind_is _ _ _ _) (by assumption) ?_); intro h' o' F' N' hd'; (try dsimp only at N')) | (k_here; (with_reducible show wpAny _ _ (leaving _ _) _ _ _); k_dflt (refine leave_onE (L := _) rfl (by assumption) (by assumption) (by assumption) (by assumption) ?_; intro h' RS' U'; (try dsimp only at RS' U' ⊢))) | (k_unfold; (try dsimp only)) | (k_end; kc_close) | walk1 | (dsimp only; walk1) | (leave1; walk_say "STEP leave1"; (try dsimp only)) | fail "no step")))))
  have N2 := news_pqc (by assumption)
  (repeat' ((fail_if_success (with_reducible show wpAny _ _ (exec (Stmt.Assign _ (PySem.Expr.ListComp _ _ _ _) _) _) _ _ _)); first | (k_here; (with_reducible show wpAny _ _ (getMethod (Value.ref _) (Str.ofString "pop") _) _ _ _); k_dflt (refine kob_method (knd := PySem.strKind _ _) PySem.F.slot_dict_pop PySem.F.type_dict_pop (by k_asm) (by k_mem) (by k_asm) ?_)) | (k_here; (with_reducible show wpAny _ _ (call (Value.builtin "dict.pop") [Value.ref _, Value.str _ _]) _ _ _); k_dflt (refine kob_pop (knd := PySem.strKind _ _) (more := []) (by k_asm) (by k_asm) (by k_updF) (by k_asm) (strKind_is _ _ _ _) (.inl rfl) (by rfl) (PySem.F.args_dict_pop_2 _ _) (by assumption) (by assumption) ?_); intro h' o' F' N' hd'; (try dsimp only at N')) | (k_here; (with_reducible show wpAny _ _ (exec (Stmt.Assign [_] (PySem.Expr.ListComp _ _ _ _) _) _) _ _ _); k_dflt (refine Assign_keysT (by k_asm) (by rfl) (by with_unfolding_all rfl) (by with_unfolding_all rfl) (by decide) (by rfl) (by decide) (by rfl) (by rfl) (by rfl) ?_)) | (k_here; (with_reducible show wpAny _ _ (setItem (Value.ref _) (Value.str _ _) (Value.ref _)) _ _ _); k_dflt (refine kda_set (knd := PySem.strKind _ _) (by k_asm) (by k_asm) (by k_updF) (by k_asm) (strKind_is _ _ _ _) (by assumption) ?_); intro h' o' F' N' hd'; (try dsimp only at N')) | (k_here; (with_reducible show wpAny _ _ (leaving _ _) _ _ _); k_dflt (refine leave_onE (L := _) rfl (by assumption) (by assumption) (by assumption) (by assumption) ?_; intro h' RS' U'; (try dsimp only at RS' U' ⊢))) | (k_unfold; (try dsimp only)) | (k_end; wrow_close) | walk1 | (dsimp only; walk1) | (leave1; walk_say "STEP leave1"; try dsimp only) | fail "no step")); all_goals (try (first | (refine hQo _ _ _ _ _ _ (by k_asm) (by k_asm) ?_; intro kF kN; (try dsimp only [valOf])) | (refine hEo _ _ _ ?_; (repeat' (first | (k_here; (with_reducible show wpAny _ _ (getMethod (Value.ref _) (Str.ofString "pop") _) _ _ _); k_dflt (refine kob_method (knd := PySem.strKind _ _) PySem.F.slot_dict_pop PySem.F.type_dict_pop (by k_asm) (by k_mem) (by k_asm) ?_)) | (k_here; (with_reducible show wpAny _ _ (call (Value.builtin "dict.pop") [Value.ref _, Value.str _ _]) _ _ _); k_dflt (refine kob_pop (knd := PySem.strKind _ _) (more := []) (by k_asm) (by k_asm) (by k_updF) (by k_asm) (strKind_is _ _ _ _) (.inl rfl) (by rfl) (PySem.F.args_dict_pop_2 _ _) (by assumption) (by assumption) ?_); intro h' o' F' N' hd'; (try dsimp only at N')) | (k_here; (with_reducible show wpAny _ _ (exec (Stmt.Assign [_] (PySem.Expr.ListComp _ _ _ _) _) _) _ _ _); k_dflt (refine Assign_keysT (by k_asm) (by rfl) (by with_unfolding_all rfl) (by with_unfolding_all rfl) (by decide) (by rfl) (by decide) (by rfl) (by rfl) (by rfl) ?_)) | (k_here; (with_reducible show wpAny _ _ (setItem (Value.ref _) (Value.str _ _) (Value.ref _)) _ _ _); k_dflt (refine kda_set (knd := PySem.strKind _ _) (by k_asm) (by k_asm) (by k_updF) (by k_asm) (strKind_is _ _ _ _) (by assumption) ?_); intro h' o' F' N' hd'; (try dsimp only at N')) | (k_here; (with_reducible show wpAny _ _ (leaving _ _) _ _ _); k_dflt (refine leave_onE (L := _) rfl (by assumption) (by assumption) (by assumption) (by assumption) ?_; intro h' RS' U'; (try dsimp only at RS' U' ⊢))) | (k_unfold; (try dsimp only)) | (k_end; kc_close) | walk1 | (dsimp only; walk1) | (leave1; walk_say "STEP leave1"; (try dsimp only)) | fail "no step")))))
  · ((repeat' (first | (k_here; (with_reducible show wpAny _ _ (getMethod (Value.ref _) (Str.ofString "pop") _) _ _ _); k_dflt (refine kob_method (knd := PySem.strKind _ _) PySem.F.slot_dict_pop PySem.F.type_dict_pop (by k_asm) (by k_mem) (by k_asm) ?_)) | (k_here; (with_reducible show wpAny _ _ (call (Value.builtin "dict.pop") [Value.ref _, Value.str _ _]) _ _ _); k_dflt (refine kob_pop (knd := PySem.strKind _ _) (more := []) (by k_asm) (by k_asm) (by k_updF) (by k_asm) (strKind_is _ _ _ _) (.inl rfl) (by rfl) (PySem.F.args_dict_pop_2 _ _) (by assumption) (by assumption) ?_); intro h' o' F' N' hd'; (try dsimp only at N')) | (k_here; (with_reducible show wpAny _ _ (exec (Stmt.Assign [_] (PySem.Expr.ListComp _ _ _ _) _) _) _ _ _); k_dflt (refine Assign_keysT (by k_asm) (by rfl) (by with_unfolding_all rfl) (by with_unfolding_all rfl) (by decide) (by rfl) (by decide) (by rfl) (by rfl) (by rfl) ?_)) | (k_here; (with_reducible show wpAny _ _ (setItem (Value.ref _) (Value.str _ _) (Value.ref _)) _ _ _); k_dflt (refine kda_set (knd := PySem.strKind _ _) (by k_asm) (by k_asm) (by k_updF) (by k_asm) (strKind_is _ _ _ _) (by assumption) ?_); intro h' o' F' N' hd'; (try dsimp only at N')) | (k_here; (with_reducible show wpAny _ _ (leaving _ _) _ _ _); k_dflt (refine leave_onE (L := _) rfl (by assumption) (by assumption) (by assumption) (by assumption) ?_; intro h' RS' U'; (try dsimp only at RS' U' ⊢))) | (k_unfold; (try dsimp only)) | (k_end; kc_close) | walk1 | (dsimp only; walk1) | (leave1; walk_say "STEP leave1"; (try dsimp only)) | fail "no step")); all_goals (try (first | (refine hQo _ _ _ _ _ _ (by k_asm) (by k_asm) ?_; intro kF kN; (try dsimp only [valOf])) | (refine hEo _ _ _ ?_; (repeat' (first | (k_here; (with_reducible show wpAny _ _ (getMethod (Value.ref _) (Str.ofString "pop") _) _ _ _); k_dflt (refine kob_method (knd := PySem.strKind _ _) PySem.F.slot_dict_pop PySem.F.type_dict_pop (by k_asm) (by k_mem) (by k_asm) ?_)) | (k_here; (with_reducible show wpAny _ _ (call (Value.builtin "dict.pop") [Value.ref _, Value.str _ _]) _ _ _); k_dflt (refine kob_pop (knd := PySem.strKind _ _) (more := []) (by k_asm) (by k_asm) (by k_updF) (by k_asm) (strKind_is _ _ _ _) (.inl rfl) (by rfl) (PySem.F.args_dict_pop_2 _ _) (by assumption) (by assumption) ?_); intro h' o' F' N' hd'; (try dsimp only at N')) | (k_here; (with_reducible show wpAny _ _ (exec (Stmt.Assign [_] (PySem.Expr.ListComp _ _ _ _) _) _) _ _ _); k_dflt (refine Assign_keysT (by k_asm) (by rfl) (by with_unfolding_all rfl) (by with_unfolding_all rfl) (by decide) (by rfl) (by decide) (by rfl) (by rfl) (by rfl) ?_)) | (k_here; (with_reducible show wpAny _ _ (setItem (Value.ref _) (Value.str _ _) (Value.ref _)) _ _ _); k_dflt (refine kda_set (knd := PySem.strKind _ _) (by k_asm) (by k_asm) (by k_updF) (by k_asm) (strKind_is _ _ _ _) (by assumption) ?_); intro h' o' F' N' hd'; (try dsimp only at N')) | (k_here; (with_reducible show wpAny _ _ (leaving _ _) _ _ _); k_dflt (refine leave_onE (L := _) rfl (by assumption) (by assumption) (by assumption) (by assumption) ?_; intro h' RS' U'; (try dsimp only at RS' U' ⊢))) | (k_unfold; (try dsimp only)) | (k_end; kc_close) | walk1 | (dsimp only; walk1) | (leave1; walk_say "STEP leave1"; (try dsimp only)) | fail "no step"))))))
    refine ⟨T.de, T.oE, T.kvs, _, rfl, rfl, by k_asm, by k_asm, by k_mem, isd, lo, hsz, fun s₂ ⟨h2, e2⟩ => ?_⟩
    subst e2
    refine compRest_ind (One x T.kvs) ?_ ?_ _ 0 [] (Nat.zero_add _) (One.zero _ _)
    · intro i ys v I' oI C' oC D'' m₂ hh tk3 E' hi' hI' hP hNs hm₂ F₂ N₂ off hne
      obtain ⟨k, vv, hk1, hk2⟩ := hP
      obtain ⟨tv, rfl⟩ := Value.isStrOf_shape hk2
      have hkU : k ∈ U := T.key_mem H hk1
      have hlk := U_len k hkU
      have hsl := U_sub x hx k hkU
      cases hkx : (k == x)
      · ((repeat' (first | (k_here; (with_reducible show wpAny _ _ (getMethod (Value.ref _) (Str.ofString "pop") _) _ _ _); k_dflt (refine kob_method (knd := PySem.strKind _ _) PySem.F.slot_dict_pop PySem.F.type_dict_pop (by k_asm) (by k_mem) (by k_asm) ?_)) | (k_here; (with_reducible show wpAny _ _ (call (Value.builtin "dict.pop") [Value.ref _, Value.str _ _]) _ _ _); k_dflt (refine kob_pop (knd := PySem.strKind _ _) (more := []) (by k_asm) (by k_asm) (by k_updF) (by k_asm) (strKind_is _ _ _ _) (.inl rfl) (by rfl) (PySem.F.args_dict_pop_2 _ _) (by assumption) (by assumption) ?_); intro h' o' F' N' hd'; (try dsimp only at N')) | (k_here; (with_reducible show wpAny _ _ (exec (Stmt.Assign [_] (PySem.Expr.ListComp _ _ _ _) _) _) _ _ _); k_dflt (refine Assign_keysT (by k_asm) (by rfl) (by with_unfolding_all rfl) (by with_unfolding_all rfl) (by decide) (by rfl) (by decide) (by rfl) (by rfl) (by rfl) ?_)) | (k_here; (with_reducible show wpAny _ _ (setItem (Value.ref _) (Value.str _ _) (Value.ref _)) _ _ _); k_dflt (refine kda_set (knd := PySem.strKind _ _) (by k_asm) (by k_asm) (by k_updF) (by k_asm) (strKind_is _ _ _ _) (by assumption) ?_); intro h' o' F' N' hd'; (try dsimp only at N')) | (k_here; (with_reducible show wpAny _ _ (leaving _ _) _ _ _); k_dflt (refine leave_onE (L := _) rfl (by assumption) (by assumption) (by assumption) (by assumption) ?_; intro h' RS' U'; (try dsimp only at RS' U' ⊢))) | (k_unfold; (try dsimp only)) | (k_end; kc_close) | walk1 | (dsimp only; walk1) | (leave1; walk_say "STEP leave1"; (try dsimp only)) | fail "no step")); all_goals (try (first | (refine hQo _ _ _ _ _ _ (by k_asm) (by k_asm) ?_; intro kF kN; (try dsimp only [valOf])) | (refine hEo _ _ _ ?_; (repeat' (first | (k_here; (with_reducible show wpAny _ _ (getMethod (Value.ref _) (Str.ofString "pop") _) _ _ _); k_dflt (refine kob_method (knd := PySem.strKind _ _) PySem.F.slot_dict_pop PySem.F.type_dict_pop (by k_asm) (by k_mem) (by k_asm) ?_)) | (k_here; (with_reducible show wpAny _ _ (call (Value.builtin "dict.pop") [Value.ref _, Value.str _ _]) _ _ _); k_dflt (refine kob_pop (knd := PySem.strKind _ _) (more := []) (by k_asm) (by k_asm) (by k_updF) (by k_asm) (strKind_is _ _ _ _) (.inl rfl) (by rfl) (PySem.F.args_dict_pop_2 _ _) (by assumption) (by assumption) ?_); intro h' o' F' N' hd'; (try dsimp only at N')) | (k_here; (with_reducible show wpAny _ _ (exec (Stmt.Assign [_] (PySem.Expr.ListComp _ _ _ _) _) _) _ _ _); k_dflt (refine Assign_keysT (by k_asm) (by rfl) (by with_unfolding_all rfl) (by with_unfolding_all rfl) (by decide) (by rfl) (by decide) (by rfl) (by rfl) (by rfl) ?_)) | (k_here; (with_reducible show wpAny _ _ (setItem (Value.ref _) (Value.str _ _) (Value.ref _)) _ _ _); k_dflt (refine kda_set (knd := PySem.strKind _ _) (by k_asm) (by k_asm) (by k_updF) (by k_asm) (strKind_is _ _ _ _) (by assumption) ?_); intro h' o' F' N' hd'; (try dsimp only at N')) | (k_here; (with_reducible show wpAny _ _ (leaving _ _) _ _ _); k_dflt (refine leave_onE (L := _) rfl (by assumption) (by assumption) (by assumption) (by assumption) ?_; intro h' RS' U'; (try dsimp only at RS' U' ⊢))) | (k_unfold; (try dsimp only)) | (k_end; kc_close) | walk1 | (dsimp only; walk1) | (leave1; walk_say "STEP leave1"; (try dsimp only)) | fail "no step"))))))
        exact ⟨_, _, _, rfl, by k_asm, by k_asm, off, by k_mem, rfl, hI'.miss hk1 hkx⟩
      · have e3 : k = x := eq_of_beq hkx
        subst e3
        ((repeat' (first | (k_here; (with_reducible show wpAny _ _ (getMethod (Value.ref _) (Str.ofString "pop") _) _ _ _); k_dflt (refine kob_method (knd := PySem.strKind _ _) PySem.F.slot_dict_pop PySem.F.type_dict_pop (by k_asm) (by k_mem) (by k_asm) ?_)) | (k_here; (with_reducible show wpAny _ _ (call (Value.builtin "dict.pop") [Value.ref _, Value.str _ _]) _ _ _); k_dflt (refine kob_pop (knd := PySem.strKind _ _) (more := []) (by k_asm) (by k_asm) (by k_updF) (by k_asm) (strKind_is _ _ _ _) (.inl rfl) (by rfl) (PySem.F.args_dict_pop_2 _ _) (by assumption) (by assumption) ?_); intro h' o' F' N' hd'; (try dsimp only at N')) | (k_here; (with_reducible show wpAny _ _ (exec (Stmt.Assign [_] (PySem.Expr.ListComp _ _ _ _) _) _) _ _ _); k_dflt (refine Assign_keysT (by k_asm) (by rfl) (by with_unfolding_all rfl) (by with_unfolding_all rfl) (by decide) (by rfl) (by decide) (by rfl) (by rfl) (by rfl) ?_)) | (k_here; (with_reducible show wpAny _ _ (setItem (Value.ref _) (Value.str _ _) (Value.ref _)) _ _ _); k_dflt (refine kda_set (knd := PySem.strKind _ _) (by k_asm) (by k_asm) (by k_updF) (by k_asm) (strKind_is _ _ _ _) (by assumption) ?_); intro h' o' F' N' hd'; (try dsimp only at N')) | (k_here; (with_reducible show wpAny _ _ (leaving _ _) _ _ _); k_dflt (refine leave_onE (L := _) rfl (by assumption) (by assumption) (by assumption) (by assumption) ?_; intro h' RS' U'; (try dsimp only at RS' U' ⊢))) | (k_unfold; (try dsimp only)) | (k_end; kc_close) | walk1 | (dsimp only; walk1) | (leave1; walk_say "STEP leave1"; (try dsimp only)) | fail "no step")); all_goals (try (first | (refine hQo _ _ _ _ _ _ (by k_asm) (by k_asm) ?_; intro kF kN; (try dsimp only [valOf])) | (refine hEo _ _ _ ?_; (repeat' (first | (k_here; (with_reducible show wpAny _ _ (getMethod (Value.ref _) (Str.ofString "pop") _) _ _ _); k_dflt (refine kob_method (knd := PySem.strKind _ _) PySem.F.slot_dict_pop PySem.F.type_dict_pop (by k_asm) (by k_mem) (by k_asm) ?_)) | (k_here; (with_reducible show wpAny _ _ (call (Value.builtin "dict.pop") [Value.ref _, Value.str _ _]) _ _ _); k_dflt (refine kob_pop (knd := PySem.strKind _ _) (more := []) (by k_asm) (by k_asm) (by k_updF) (by k_asm) (strKind_is _ _ _ _) (.inl rfl) (by rfl) (PySem.F.args_dict_pop_2 _ _) (by assumption) (by assumption) ?_); intro h' o' F' N' hd'; (try dsimp only at N')) | (k_here; (with_reducible show wpAny _ _ (exec (Stmt.Assign [_] (PySem.Expr.ListComp _ _ _ _) _) _) _ _ _); k_dflt (refine Assign_keysT (by k_asm) (by rfl) (by with_unfolding_all rfl) (by with_unfolding_all rfl) (by decide) (by rfl) (by decide) (by rfl) (by rfl) (by rfl) ?_)) | (k_here; (with_reducible show wpAny _ _ (setItem (Value.ref _) (Value.str _ _) (Value.ref _)) _ _ _); k_dflt (refine kda_set (knd := PySem.strKind _ _) (by k_asm) (by k_asm) (by k_updF) (by k_asm) (strKind_is _ _ _ _) (by assumption) ?_); intro h' o' F' N' hd'; (try dsimp only at N')) | (k_here; (with_reducible show wpAny _ _ (leaving _ _) _ _ _); k_dflt (refine leave_onE (L := _) rfl (by assumption) (by assumption) (by assumption) (by assumption) ?_; intro h' RS' U'; (try dsimp only at RS' U' ⊢))) | (k_unfold; (try dsimp only)) | (k_end; kc_close) | walk1 | (dsimp only; walk1) | (leave1; walk_say "STEP leave1"; (try dsimp only)) | fail "no step"))))))
        exact ⟨_, _, _, rfl, by k_asm, by k_asm, off, by k_mem, rfl, hI'.hit hnd hk1⟩
    · intro ys hI
      obtain ⟨t3, rfl⟩ := hI.end hv
      intro D3 h3 tk3 F3 N3 off3
      (repeat' ((fail_if_success (with_reducible show wpAny _ _ (exec (Stmt.For _ _ _ _ _) _) _ _ _)); first | (k_here; (with_reducible show wpAny _ _ (getMethod (Value.ref _) (Str.ofString "pop") _) _ _ _); k_dflt (refine kob_method (knd := PySem.strKind _ _) PySem.F.slot_dict_pop PySem.F.type_dict_pop (by k_asm) (by k_mem) (by k_asm) ?_)) | (k_here; (with_reducible show wpAny _ _ (call (Value.builtin "dict.pop") [Value.ref _, Value.str _ _]) _ _ _); k_dflt (refine kob_pop (knd := PySem.strKind _ _) (more := []) (by k_asm) (by k_asm) (by k_updF) (by k_asm) (strKind_is _ _ _ _) (.inl rfl) (by rfl) (PySem.F.args_dict_pop_2 _ _) (by assumption) (by assumption) ?_); intro h' o' F' N' hd'; (try dsimp only at N')) | (k_here; (with_reducible show wpAny _ _ (exec (Stmt.Assign [_] (PySem.Expr.ListComp _ _ _ _) _) _) _ _ _); k_dflt (refine Assign_keysT (by k_asm) (by rfl) (by with_unfolding_all rfl) (by with_unfolding_all rfl) (by decide) (by rfl) (by decide) (by rfl) (by rfl) (by rfl) ?_)) | (k_here; (with_reducible show wpAny _ _ (setItem (Value.ref _) (Value.str _ _) (Value.ref _)) _ _ _); k_dflt (refine kda_set (knd := PySem.strKind _ _) (by k_asm) (by k_asm) (by k_updF) (by k_asm) (strKind_is _ _ _ _) (by assumption) ?_); intro h' o' F' N' hd'; (try dsimp only at N')) | (k_here; (with_reducible show wpAny _ _ (leaving _ _) _ _ _); k_dflt (refine leave_onE (L := _) rfl (by assumption) (by assumption) (by assumption) (by assumption) ?_; intro h' RS' U'; (try dsimp only at RS' U' ⊢))) | (k_unfold; (try dsimp only)) | (k_end; wrow_close) | walk1 | (dsimp only; walk1) | (leave1; walk_say "STEP leave1"; try dsimp only) | fail "no step")); all_goals (try (first | (refine hQo _ _ _ _ _ _ (by k_asm) (by k_asm) ?_; intro kF kN; (try dsimp only [valOf])) | (refine hEo _ _ _ ?_; (repeat' (first | (k_here; (with_reducible show wpAny _ _ (getMethod (Value.ref _) (Str.ofString "pop") _) _ _ _); k_dflt (refine kob_method (knd := PySem.strKind _ _) PySem.F.slot_dict_pop PySem.F.type_dict_pop (by k_asm) (by k_mem) (by k_asm) ?_)) | (k_here; (with_reducible show wpAny _ _ (call (Value.builtin "dict.pop") [Value.ref _, Value.str _ _]) _ _ _); k_dflt (refine kob_pop (knd := PySem.strKind _ _) (more := []) (by k_asm) (by k_asm) (by k_updF) (by k_asm) (strKind_is _ _ _ _) (.inl rfl) (by rfl) (PySem.F.args_dict_pop_2 _ _) (by assumption) (by assumption) ?_); intro h' o' F' N' hd'; (try dsimp only at N')) | (k_here; (with_reducible show wpAny _ _ (exec (Stmt.Assign [_] (PySem.Expr.ListComp _ _ _ _) _) _) _ _ _); k_dflt (refine Assign_keysT (by k_asm) (by rfl) (by with_unfolding_all rfl) (by with_unfolding_all rfl) (by decide) (by rfl) (by decide) (by rfl) (by rfl) (by rfl) ?_)) | (k_here; (with_reducible show wpAny _ _ (setItem (Value.ref _) (Value.str _ _) (Value.ref _)) _ _ _); k_dflt (refine kda_set (knd := PySem.strKind _ _) (by k_asm) (by k_asm) (by k_updF) (by k_asm) (strKind_is _ _ _ _) (by assumption) ?_); intro h' o' F' N' hd'; (try dsimp only at N')) | (k_here; (with_reducible show wpAny _ _ (leaving _ _) _ _ _); k_dflt (refine leave_onE (L := _) rfl (by assumption) (by assumption) (by assumption) (by assumption) ?_; intro h' RS' U'; (try dsimp only at RS' U' ⊢))) | (k_unfold; (try dsimp only)) | (k_end; kc_close) | walk1 | (dsimp only; walk1) | (leave1; walk_say "STEP leave1"; (try dsimp only)) | fail "no step")))))
      refine For_turns (by k_asm) ?_
      (repeat' ((fail_if_success (with_reducible show wpAny _ _ (call (Value.builtin _) _) _ _ _)); first | (k_here; (with_reducible show wpAny _ _ (getMethod (Value.ref _) (Str.ofString "pop") _) _ _ _); k_dflt (refine kob_method (knd := PySem.strKind _ _) PySem.F.slot_dict_pop PySem.F.type_dict_pop (by k_asm) (by k_mem) (by k_asm) ?_)) | (k_here; (with_reducible show wpAny _ _ (call (Value.builtin "dict.pop") [Value.ref _, Value.str _ _]) _ _ _); k_dflt (refine kob_pop (knd := PySem.strKind _ _) (more := []) (by k_asm) (by k_asm) (by k_updF) (by k_asm) (strKind_is _ _ _ _) (.inl rfl) (by rfl) (PySem.F.args_dict_pop_2 _ _) (by assumption) (by assumption) ?_); intro h' o' F' N' hd'; (try dsimp only at N')) | (k_here; (with_reducible show wpAny _ _ (exec (Stmt.Assign [_] (PySem.Expr.ListComp _ _ _ _) _) _) _ _ _); k_dflt (refine Assign_keysT (by k_asm) (by rfl) (by with_unfolding_all rfl) (by with_unfolding_all rfl) (by decide) (by rfl) (by decide) (by rfl) (by rfl) (by rfl) ?_)) | (k_here; (with_reducible show wpAny _ _ (setItem (Value.ref _) (Value.str _ _) (Value.ref _)) _ _ _); k_dflt (refine kda_set (knd := PySem.strKind _ _) (by k_asm) (by k_asm) (by k_updF) (by k_asm) (strKind_is _ _ _ _) (by assumption) ?_); intro h' o' F' N' hd'; (try dsimp only at N')) | (k_here; (with_reducible show wpAny _ _ (leaving _ _) _ _ _); k_dflt (refine leave_onE (L := _) rfl (by assumption) (by assumption) (by assumption) (by assumption) ?_; intro h' RS' U'; (try dsimp only at RS' U' ⊢))) | (k_unfold; (try dsimp only)) | (k_end; wrow_close) | walk1 | (dsimp only; walk1) | (leave1; walk_say "STEP leave1"; try dsimp only) | fail "no step")); all_goals (try (first | (refine hQo _ _ _ _ _ _ (by k_asm) (by k_asm) ?_; intro kF kN; (try dsimp only [valOf])) | (refine hEo _ _ _ ?_; (repeat' (first | (k_here; (with_reducible show wpAny _ _ (getMethod (Value.ref _) (Str.ofString "pop") _) _ _ _); k_dflt (refine kob_method (knd := PySem.strKind _ _) PySem.F.slot_dict_pop PySem.F.type_dict_pop (by k_asm) (by k_mem) (by k_asm) ?_)) | (k_here; (with_reducible show wpAny _ _ (call (Value.builtin "dict.pop") [Value.ref _, Value.str _ _]) _ _ _); k_dflt (refine kob_pop (knd := PySem.strKind _ _) (more := []) (by k_asm) (by k_asm) (by k_updF) (by k_asm) (strKind_is _ _ _ _) (.inl rfl) (by rfl) (PySem.F.args_dict_pop_2 _ _) (by assumption) (by assumption) ?_); intro h' o' F' N' hd'; (try dsimp only at N')) | (k_here; (with_reducible show wpAny _ _ (exec (Stmt.Assign [_] (PySem.Expr.ListComp _ _ _ _) _) _) _ _ _); k_dflt (refine Assign_keysT (by k_asm) (by rfl) (by with_unfolding_all rfl) (by with_unfolding_all rfl) (by decide) (by rfl) (by decide) (by rfl) (by rfl) (by rfl) ?_)) | (k_here; (with_reducible show wpAny _ _ (setItem (Value.ref _) (Value.str _ _) (Value.ref _)) _ _ _); k_dflt (refine kda_set (knd := PySem.strKind _ _) (by k_asm) (by k_asm) (by k_updF) (by k_asm) (strKind_is _ _ _ _) (by assumption) ?_); intro h' o' F' N' hd'; (try dsimp only at N')) | (k_here; (with_reducible show wpAny _ _ (leaving _ _) _ _ _); k_dflt (refine leave_onE (L := _) rfl (by assumption) (by assumption) (by assumption) (by assumption) ?_; intro h' RS' U'; (try dsimp only at RS' U' ⊢))) | (k_unfold; (try dsimp only)) | (k_end; kc_close) | walk1 | (dsimp only; walk1) | (leave1; walk_say "STEP leave1"; (try dsimp only)) | fail "no step")))))
      refine sorted_N_str F3 N3 (vs := [.str x t3]) (ss := [x]) ⟨_, (N3 _ (.head _)).1, rfl, _, rfl⟩ (.cons x t3 .nil) (Nat.le_of_ble_eq_true rfl) ?_
      intro h4 vs4 ss4 e4 F4 N4 S4 P4 so4
      have es : ss4 = [x] := List.perm_singleton.mp P4
      subst es
      obtain ⟨t4, rfl⟩ : ∃ t4, vs4 = [.str x t4] := by
        cases S4 with | cons _ t4 S5 => cases S5; exact ⟨t4, rfl⟩
      have hX : @LT.lt Nat _ T.de (h3.objs.size + 1) := Nat.lt_succ_of_lt (Heap.lt_size (N3 (T.de, T.oE) (.tail _ (.tail _ (.tail _ (.tail _ (.head _)))))).1)
      refine iter_listTurns (vs := [.str x t4]) rfl F4 N4 (.head _) rfl rfl (fun I4 hI4 => ?_)
      refine ItemsRest.val (fun h5 tk5 F5 => AllObj.cons fun oi hoi => AllObj.nil fun N5 => ?_)
      have N6 := news_d3 N5
      have hI5 : @LT.lt Nat _ T.de I4 := hI4 (T.de, T.oE) (.tail _ (.tail _ (.tail _ (.tail _ (.tail _ (.head _))))))
      have hsz2 : (without T.kvs x).length ≤ sizeLine := Nat.le_trans (List.length_filter_le _ _) hsz
      clear N5 I hei hed hlk
      ((repeat' (first | (k_here; (with_reducible show wpAny _ _ (getMethod (Value.ref _) (Str.ofString "pop") _) _ _ _); k_dflt (refine kob_method (knd := PySem.strKind _ _) PySem.F.slot_dict_pop PySem.F.type_dict_pop (by k_asm) (by k_mem) (by k_asm) ?_)) | (k_here; (with_reducible show wpAny _ _ (call (Value.builtin "dict.pop") [Value.ref _, Value.str _ _]) _ _ _); k_dflt (refine kob_pop (knd := PySem.strKind _ _) (more := []) (by k_asm) (by k_asm) (by k_updF) (by k_asm) (strKind_is _ _ _ _) (.inl rfl) (by rfl) (PySem.F.args_dict_pop_2 _ _) (by assumption) (by assumption) ?_); intro h' o' F' N' hd'; (try dsimp only at N')) | (k_here; (with_reducible show wpAny _ _ (exec (Stmt.Assign [_] (PySem.Expr.ListComp _ _ _ _) _) _) _ _ _); k_dflt (refine Assign_keysT (by k_asm) (by rfl) (by with_unfolding_all rfl) (by with_unfolding_all rfl) (by decide) (by rfl) (by decide) (by rfl) (by rfl) (by rfl) ?_)) | (k_here; (with_reducible show wpAny _ _ (setItem (Value.ref _) (Value.str _ _) (Value.ref _)) _ _ _); k_dflt (refine kda_set (knd := PySem.strKind _ _) (by k_asm) (by k_asm) (by k_updF) (by k_asm) (strKind_is _ _ _ _) (by assumption) ?_); intro h' o' F' N' hd'; (try dsimp only at N')) | (k_here; (with_reducible show wpAny _ _ (leaving _ _) _ _ _); k_dflt (refine leave_onE (L := _) rfl (by assumption) (by assumption) (by assumption) (by assumption) ?_; intro h' RS' U'; (try dsimp only at RS' U' ⊢))) | (k_unfold; (try dsimp only)) | (k_end; kc_close) | walk1 | (dsimp only; walk1) | (leave1; walk_say "STEP leave1"; (try dsimp only)) | fail "no step")); all_goals (try (first | (refine hQo _ _ _ _ _ _ (by k_asm) (by k_asm) ?_; intro kF kN; (try dsimp only [valOf])) | (refine hEo _ _ _ ?_; (repeat' (first | (k_here; (with_reducible show wpAny _ _ (getMethod (Value.ref _) (Str.ofString "pop") _) _ _ _); k_dflt (refine kob_method (knd := PySem.strKind _ _) PySem.F.slot_dict_pop PySem.F.type_dict_pop (by k_asm) (by k_mem) (by k_asm) ?_)) | (k_here; (with_reducible show wpAny _ _ (call (Value.builtin "dict.pop") [Value.ref _, Value.str _ _]) _ _ _); k_dflt (refine kob_pop (knd := PySem.strKind _ _) (more := []) (by k_asm) (by k_asm) (by k_updF) (by k_asm) (strKind_is _ _ _ _) (.inl rfl) (by rfl) (PySem.F.args_dict_pop_2 _ _) (by assumption) (by assumption) ?_); intro h' o' F' N' hd'; (try dsimp only at N')) | (k_here; (with_reducible show wpAny _ _ (exec (Stmt.Assign [_] (PySem.Expr.ListComp _ _ _ _) _) _) _ _ _); k_dflt (refine Assign_keysT (by k_asm) (by rfl) (by with_unfolding_all rfl) (by with_unfolding_all rfl) (by decide) (by rfl) (by decide) (by rfl) (by rfl) (by rfl) ?_)) | (k_here; (with_reducible show wpAny _ _ (setItem (Value.ref _) (Value.str _ _) (Value.ref _)) _ _ _); k_dflt (refine kda_set (knd := PySem.strKind _ _) (by k_asm) (by k_asm) (by k_updF) (by k_asm) (strKind_is _ _ _ _) (by assumption) ?_); intro h' o' F' N' hd'; (try dsimp only at N')) | (k_here; (with_reducible show wpAny _ _ (leaving _ _) _ _ _); k_dflt (refine leave_onE (L := _) rfl (by assumption) (by assumption) (by assumption) (by assumption) ?_; intro h' RS' U'; (try dsimp only at RS' U' ⊢))) | (k_unfold; (try dsimp only)) | (k_end; kc_close) | walk1 | (dsimp only; walk1) | (leave1; walk_say "STEP leave1"; (try dsimp only)) | fail "no step"))))))
      refine ⟨_, _, _, _, rfl, by k_asm, by k_asm, off_i hI4, ⟨.head _, trivial⟩, ItemsRest.zero fun h6 tk6 F6 N7 => ?_⟩
      ((repeat' (first | (k_here; (with_reducible show wpAny _ _ (getMethod (Value.ref _) (Str.ofString "pop") _) _ _ _); k_dflt (refine kob_method (knd := PySem.strKind _ _) PySem.F.slot_dict_pop PySem.F.type_dict_pop (by k_asm) (by k_mem) (by k_asm) ?_)) | (k_here; (with_reducible show wpAny _ _ (call (Value.builtin "dict.pop") [Value.ref _, Value.str _ _]) _ _ _); k_dflt (refine kob_pop (knd := PySem.strKind _ _) (more := []) (by k_asm) (by k_asm) (by k_updF) (by k_asm) (strKind_is _ _ _ _) (.inl rfl) (by rfl) (PySem.F.args_dict_pop_2 _ _) (by assumption) (by assumption) ?_); intro h' o' F' N' hd'; (try dsimp only at N')) | (k_here; (with_reducible show wpAny _ _ (exec (Stmt.Assign [_] (PySem.Expr.ListComp _ _ _ _) _) _) _ _ _); k_dflt (refine Assign_keysT (by k_asm) (by rfl) (by with_unfolding_all rfl) (by with_unfolding_all rfl) (by decide) (by rfl) (by decide) (by rfl) (by rfl) (by rfl) ?_)) | (k_here; (with_reducible show wpAny _ _ (setItem (Value.ref _) (Value.str _ _) (Value.ref _)) _ _ _); k_dflt (refine kda_set (knd := PySem.strKind _ _) (by k_asm) (by k_asm) (by k_updF) (by k_asm) (strKind_is _ _ _ _) (by assumption) ?_); intro h' o' F' N' hd'; (try dsimp only at N')) | (k_here; (with_reducible show wpAny _ _ (leaving _ _) _ _ _); k_dflt (refine leave_onE (L := _) rfl (by assumption) (by assumption) (by assumption) (by assumption) ?_; intro h' RS' U'; (try dsimp only at RS' U' ⊢))) | (k_unfold; (try dsimp only)) | (k_end; kc_close) | walk1 | (dsimp only; walk1) | (leave1; walk_say "STEP leave1"; (try dsimp only)) | fail "no step")); all_goals (try (first | (refine hQo _ _ _ _ _ _ (by k_asm) (by k_asm) ?_; intro kF kN; (try dsimp only [valOf])) | (refine hEo _ _ _ ?_; (repeat' (first | (k_here; (with_reducible show wpAny _ _ (getMethod (Value.ref _) (Str.ofString "pop") _) _ _ _); k_dflt (refine kob_method (knd := PySem.strKind _ _) PySem.F.slot_dict_pop PySem.F.type_dict_pop (by k_asm) (by k_mem) (by k_asm) ?_)) | (k_here; (with_reducible show wpAny _ _ (call (Value.builtin "dict.pop") [Value.ref _, Value.str _ _]) _ _ _); k_dflt (refine kob_pop (knd := PySem.strKind _ _) (more := []) (by k_asm) (by k_asm) (by k_updF) (by k_asm) (strKind_is _ _ _ _) (.inl rfl) (by rfl) (PySem.F.args_dict_pop_2 _ _) (by assumption) (by assumption) ?_); intro h' o' F' N' hd'; (try dsimp only at N')) | (k_here; (with_reducible show wpAny _ _ (exec (Stmt.Assign [_] (PySem.Expr.ListComp _ _ _ _) _) _) _ _ _); k_dflt (refine Assign_keysT (by k_asm) (by rfl) (by with_unfolding_all rfl) (by with_unfolding_all rfl) (by decide) (by rfl) (by decide) (by rfl) (by rfl) (by rfl) ?_)) | (k_here; (with_reducible show wpAny _ _ (setItem (Value.ref _) (Value.str _ _) (Value.ref _)) _ _ _); k_dflt (refine kda_set (knd := PySem.strKind _ _) (by k_asm) (by k_asm) (by k_updF) (by k_asm) (strKind_is _ _ _ _) (by assumption) ?_); intro h' o' F' N' hd'; (try dsimp only at N')) | (k_here; (with_reducible show wpAny _ _ (leaving _ _) _ _ _); k_dflt (refine leave_onE (L := _) rfl (by assumption) (by assumption) (by assumption) (by assumption) ?_; intro h' RS' U'; (try dsimp only at RS' U' ⊢))) | (k_unfold; (try dsimp only)) | (k_end; kc_close) | walk1 | (dsimp only; walk1) | (leave1; walk_say "STEP leave1"; (try dsimp only)) | fail "no step"))))))
      have hsa := slice_all x hx y hy
      obtain ⟨T', N8, O', q1, H'⟩ := Own.moved (cb_drop (by assumption) (fun p hp => by (repeat (rcases List.mem_cons.mp hp with rfl | hp; · (repeat (first | exact List.mem_cons_self | refine List.mem_cons_of_mem _ ?_)))); (repeat (first | exact hp | refine List.mem_cons_of_mem _ ?_)))) (by assumption) (by rw [← hsa]; assumption) he hnm hs hns O hR H hx hy hxy
      exact hret _ _ _ _ ⟨rfl, by assumption, T', rfl, O', q1.trans (by assumption), H'⟩ (by k_asm) N8
  · exact hexc _ _ _ _ _ _ ⟨by assumption, rfl⟩ (by assumption) (RaisedS.drop (by assumption) (fun q hq => mem_cell (hsplit ▸ hq))) (by assumption)
theorem c_rename {w : World} {rest : List (Addr × Obj)} {ta : Addr} {T : Ft} {g : Files} {x y : Str} {tx ty : Tok} {ns : List Int} (O : Own w ta T rest)
    (H : Has T.abs g) (hx : x ∈ Fs) (hy : y ∈ Fs) (hxy : (x == y) = false) (hg : g x = some ns) :
    Call w 5 393 [.ref ta, .str x tx, .str y ty, .bool true] (T.objs w ta ++ rest)
      (fun r n' => r = .none ∧ T.left ≠ 0 ∧ ∃ T', n' = T'.objs w ta ++ rest ∧ Own w ta T' rest ∧ T'.left = stepL T.left ∧ Has T'.abs (upd (upd g x none) y (some ns)))
      (fun n' => ∃ T', n' = T'.objs w ta ++ rest ∧ Own w ta T' rest ∧ T.left = 0 ∧ Has T'.abs g) :=
  (c_rename0 O H hx hy hxy hg).mono (fun _ _ h => h) fun _ ⟨a, b⟩ => ⟨T, b, O, a, H⟩

theorem top_E1 : True := by
  w_top off
  trivial
section
variable {prog : Program} {w : World} {A : Around} {E : Value → Shared → Prop} {s : Shared} {env : Env} {h₀ : Heap} {target : PySem.Expr} {body : List Stmt} {Q : Flow → Shared → Prop}
theorem iter_keys {d : Addr} {od : Obj} {kvs : List (Str × Value)} {m₀ : Str → Option Value} {news : List (Addr × Obj)}
    (hh : A.handled = none) (F : Fr h₀ env.locals s.heap m₀) (N : News h₀ env.locals s.heap news) (hm : (d, od) ∈ news) (hdo : od.IsDictOf (PySem.strKind prog w) kvs) (lo : (d == sysModules) = false)
    (rest₀ : ∀ I : Addr, (∀ p ∈ news, p.1 < I) → ItemsRest prog w A E h₀ env target body Q s [(I, "dict_keyiterator")] [(d, od)] (kvs.map fun p => Itm.tok (Value.str p.1)) m₀ news) :
    wpAny (model prog w) A (pyIter (.ref d)) (fun it s₂ => TurnsAt prog w A h₀ env target body Q E it s₂) E s := by
  have hax := N _ hm
  obtain ⟨ep, hep⟩ : ∃ ep, ∀ h' : Heap, h'.get? d = some od → h'.DictAt (PySem.strKind prog w) d kvs ep := by
    obtain ⟨es, ep, r⟩ := hdo
    exact ⟨ep, fun h' e => ⟨od, es, e, r⟩⟩
  have hat := hep _ hax.1
  have hne : d ≠ s.heap.objs.size := Nat.ne_of_lt hat.lt_size
  refine wpAny_pyIter_dict lo hat ?_
  refine ktu_core (tk0 := s.toks) (keep := [(d, od)]) (KTurns.ofWalks (Walks.dictKeys (knd := PySem.strKind prog w) hh s.heap.objs.size d hne kvs ep) fun i v s Q E st q => letGo_keyiter st.1 q) (by rw [List.length_map]) ?_ ?_ ?_ ?_ ?_ ?_ ?_ ?_ (F.push _) (fun p hp => ⟨Heap.get?_push_of_some _ (N p hp).1, (N p hp).2⟩) (And.intro hm trivial) (rest₀ _ fun p hp => Heap.lt_size (N p hp).1)
  · rintro i v h ⟨k, x, hx, hk⟩
    obtain ⟨t, e⟩ := Value.isStrOf_shape hk
    exact ⟨.tok (Value.str k), by rw [List.getElem?_map, hx]; rfl, t, e⟩
  · rintro i h ⟨⟨oi, g, c, _⟩, _⟩
    exact ⟨[(s.heap.objs.size, oi)], ⟨⟨rfl, c⟩, trivial⟩, fun p hp => by rw [List.mem_singleton.mp hp]; exact g⟩
  · intro b hb
    have hb' : b = s.heap.objs.size := by simpa using hb
    rw [hb']
    exact ⟨List.mem_cons_self .., next_is_new F⟩
  · intro b hb
    simpa using hb
  · intro b hb
    have hb' : b = s.heap.objs.size ∨ b = d := by simpa using hb
    rcases hb' with e | e
    · exact .inl (by simp [e])
    · exact .inr ⟨od, by simp [e]⟩
  · intro hI
    have hb' : env.locals = s.heap.objs.size ∨ env.locals = d := by simpa using hI
    rcases hb' with e | e
    · exact absurd F.ns.lt (e ▸ Nat.lt_irrefl _)
    · exact hax.2.1 e.symm
  · intro p hp hI
    exact absurd (Heap.lt_size (N p hp).1) ((List.mem_singleton.mp hI) ▸ Nat.lt_irrefl _)
  · exact ⟨⟨_, Heap.get?_push_size _ rfl, rfl, rfl⟩, hat.push _⟩
theorem items_ind {I : Addr} {c : String} {keep : List (Addr × Obj)} (xs : List Itm) (Inv : Nat → (Str → Option Value) → List (Addr × Obj) → Prop)
    (hstep : ∀ i a m news v h tk (oi : Obj), xs[i]? = some a → Inv i m news → a.Is v h → Fr h₀ env.locals h m → oi.cls = .type c → News h₀ env.locals h ((I, oi) :: news) →
      wpAny (model prog w) A (assign target env v) (fun _ s₂ => wpAny (model prog w) A (execs body env) (UnrPostW h₀ env.locals { s with heap := h, toks := tk } [(I, oi)] (fun m' n' => SubL keep n' ∧ Inv (i + 1) m' n') Q) E s₂) E { s with heap := h, toks := tk })
    (hend : ∀ m news h tk, Inv xs.length m news → Fr h₀ env.locals h m → News h₀ env.locals h news → Q .next { s with heap := h, toks := tk }) :
    ∀ k i m news, i + k = xs.length → Inv i m news → ItemsRest prog w A E h₀ env target body Q s [(I, c)] keep (xs.drop i) m news := by
  intro k
  induction k with
  | zero =>
    intro i m news e hI
    have e' : i = xs.length := e
    subst e'
    rw [List.drop_length]
    exact ItemsRest.zero fun h tk F N => hend m news h tk hI F N
  | succ k ih =>
    intro i m news e hI
    have hlt : i < xs.length := by omega
    rw [List.drop_eq_getElem_cons hlt]
    intro v h tk ha F
    refine AllObj.cons fun oi hoi => AllObj.nil fun N => wpAny_mono (hstep i _ m news v h tk oi (List.getElem?_eq_getElem hlt) hI ha F hoi N) (fun _ s₂ h2 => wpAny_mono h2 (fun fl s₃ h3 => ?_) fun _ _ e => e) fun _ _ e => e
    cases fl with
    | ret v => exact h3
    | brk => exact h3
    | next =>
      obtain ⟨h', tk', m', n', e1, F', N', off, hs, hI'⟩ := h3
      exact ⟨h', tk', m', n', e1, F', N', off, hs, ih (i + 1) m' n' (by omega) hI'⟩
    | cont =>
      obtain ⟨h', tk', m', n', e1, F', N', off, hs, hI'⟩ := h3
      exact ⟨h', tk', m', n', e1, F', N', off, hs, ih (i + 1) m' n' (by omega) hI'⟩
theorem Fr.norm {h : Heap} {L : Addr} {m m₀ : Str → Option Value} {x : Str} (F : Fr h₀ L h m) (hm : ∀ y, y ≠ x → m y = m₀ y) : Fr h₀ L h (fun y => if y = x then m x else m₀ y) := by
  have e : m = (fun y => if y = x then m x else m₀ y) := funext fun y => by
    by_cases h : y = x
    · rw [if_pos h, h]
    · rw [if_neg h, hm y h]
  exact e ▸ F
theorem Fr.norm2 {h : Heap} {L : Addr} {m m₀ : Str → Option Value} {x x2 : Str} (F : Fr h₀ L h m) (hm : ∀ y, y ≠ x → y ≠ x2 → m y = m₀ y) : Fr h₀ L h (fun y => if y = x then m x else if y = x2 then m x2 else m₀ y) := by
  have e : m = (fun y => if y = x then m x else if y = x2 then m x2 else m₀ y) := funext fun y => by
    by_cases h : y = x
    · rw [if_pos h, h]
    · by_cases h2 : y = x2
      · rw [if_neg h, if_pos h2, h2]
      · rw [if_neg h, if_neg h2, hm y h h2]
  exact e ▸ F
theorem Fr.normU {h : Heap} {L : Addr} {m m₀ : Str → Option Value} {x : Str} {v : Value} (F : Fr h₀ L h m) (hv : m x = some v) (hm : ∀ y, y ≠ x → m y = m₀ y) : Fr h₀ L h (frU m₀ x v) := by
  have h := Fr.norm F hm
  rw [hv] at h
  exact h
theorem Fr.normU2 {h : Heap} {L : Addr} {m m₀ : Str → Option Value} {x x2 : Str} {v v2 : Value} (F : Fr h₀ L h m) (hv : m x = some v) (hv2 : m x2 = some v2) (hm : ∀ y, y ≠ x → y ≠ x2 → m y = m₀ y) : Fr h₀ L h (frU (frU m₀ x2 v2) x v) := by
  have h := Fr.norm2 F hm
  rw [hv, hv2] at h
  exact h
/-- a loop that fills a list: P tells the list after so many turns -/
theorem items_acc {I D : Addr} {c : String} {keep nn : List (Addr × Obj)} {m₀ : Str → Option Value} {vs₀ : List Value} {c₀ : Nat} (x x2 : Str) (xs : List Itm) (P : Nat → List Value → Prop) (hI : ∀ p ∈ (D, listOf vs₀.toArray c₀) :: nn, p.1 < I) (hl : ∀ p ∈ nn, p.1 ≠ D)
    (hstep : ∀ i a mx mx2 vs cc v h tk (oi : Obj), @LT.lt Nat _ D I → (∀ p ∈ nn, p.1 ≠ D) → xs[i]? = some a → P i vs → a.Is v h → Fr h₀ env.locals h (fun y => if y = x then mx else if y = x2 then mx2 else m₀ y) → oi.cls = .type c → News h₀ env.locals h ((I, oi) :: (D, listOf vs.toArray cc) :: nn) →
      wpAny (model prog w) A (assign target env v) (fun _ s₂ => wpAny (model prog w) A (execs body env) (UnrPostW h₀ env.locals { s with heap := h, toks := tk } [(I, oi)] (fun m' n' => SubL keep n' ∧ (∀ y, y ≠ x → y ≠ x2 → m' y = m₀ y) ∧ ∃ vs' cc', n' = (D, listOf vs'.toArray cc') :: nn ∧ P (i + 1) vs') Q) E s₂) E { s with heap := h, toks := tk })
    (hend : ∀ mx mx2 vs cc h tk, P xs.length vs → Fr h₀ env.locals h (fun y => if y = x then mx else if y = x2 then mx2 else m₀ y) → News h₀ env.locals h ((D, listOf vs.toArray cc) :: nn) → Q .next { s with heap := h, toks := tk })
    (h0 : P 0 vs₀) : ItemsRest prog w A E h₀ env target body Q s [(I, c)] keep xs m₀ ((D, listOf vs₀.toArray c₀) :: nn) := by
  refine items_ind (c := c) xs (fun i m n => (∀ y, y ≠ x → y ≠ x2 → m y = m₀ y) ∧ ∃ vs cc, n = (D, listOf vs.toArray cc) :: nn ∧ P i vs) ?_ ?_ _ 0 _ _ (Nat.zero_add _) ⟨fun _ _ _ => rfl, vs₀, c₀, rfl, h0⟩
  · rintro i a m n v h tk oi ha ⟨hm, vs, cc, rfl, hP⟩ hav F hoi N
    exact hstep i a _ _ vs cc v h tk oi (hI (D, _) (.head _)) hl ha hP hav (Fr.norm2 F hm) hoi N
  · rintro m n h tk ⟨hm, vs, cc, rfl, hP⟩ F N
    exact hend _ _ vs cc h tk hP (Fr.norm2 F hm) N
end
theorem ne_of_lts {D : Addr} {nn : List (Addr × Obj)} (h : ∀ p ∈ nn, p.1 < D) : ∀ p ∈ nn, p.1 ≠ D := fun p hp => Nat.ne_of_lt (h p hp)
theorem ne_of_two {l D : Addr} {o o' : Obj} {n : List (Addr × Obj)} (h : ∀ q ∈ (l, o) :: n, q.1 < D) (h2 : ∀ p ∈ n, p.1 < l) : ∀ p ∈ (D, o') :: n, p.1 ≠ l := fun p hp => by
  rcases List.mem_cons.mp hp with e | hp
  · rw [e]; exact Nat.ne_of_gt (h (l, o) (.head _))
  · exact Nat.ne_of_lt (h2 p hp)
theorem news_swap {h₀ h : Heap} {L : Addr} {a b : Addr × Obj} {n : List (Addr × Obj)} (N : News h₀ L h (a :: b :: n)) : News h₀ L h (b :: a :: n) := fun p hp => N p (by
  rcases List.mem_cons.mp hp with e | hp
  · rw [e]; exact .tail _ (.head _)
  rcases List.mem_cons.mp hp with e | hp
  · rw [e]; exact .head _
  · exact .tail _ (.tail _ hp))
def leaf (x : Str) : Str := Txt.slice x (some 3) none
def leaves (A : Abs) : List Str := ((A.map (·.1)).filter fun x => decide (x ∈ Fs)).map leaf
theorem U_three : ∀ k ∈ U, k = Str.ofString "/" ∨ k = Str.ofString "/d" ∨ (k ∈ Fs ∧ (k != Str.ofString "/") = true ∧ (Txt.slice k none (some 3) == Str.ofString "/d/") = true ∧ (Builtin.Str.occurrences (Txt.slice k (some 3) none) (Str.ofString "/") 0 (Txt.slice k (some 3) none).length 1).isEmpty = true) := by decide +kernel
def leavesTo (A : Abs) (i : Nat) : List Str := (((A.map (·.1)).take i).filter fun x => decide (x ∈ Fs)).map leaf
theorem leavesTo_hit {A : Abs} {i : Nat} {k : Str} (h : (A.map (·.1))[i]? = some k) (hk : k ∈ Fs) : leavesTo A (i + 1) = leavesTo A i ++ [leaf k] := by
  unfold leavesTo
  rw [List.take_add_one, h, List.filter_append, List.map_append]
  simp [hk]
theorem leavesTo_miss {A : Abs} {i : Nat} {k : Str} (h : (A.map (·.1))[i]? = some k) (hk : k ∉ Fs) : leavesTo A (i + 1) = leavesTo A i := by
  unfold leavesTo
  rw [List.take_add_one, h, List.filter_append, List.map_append]
  simp [hk]
theorem leavesTo_end (A : Abs) : leavesTo A A.length = leaves A := by
  unfold leavesTo leaves
  rw [show A.length = (A.map (·.1)).length by rw [List.length_map], List.take_length]
theorem keys_at {T : Ft} {i : Nat} {a : Itm} (h : (T.kvs.map fun p => Itm.tok (Value.str p.1))[i]? = some a) : ∃ k, a = Itm.tok (Value.str k) ∧ (T.abs.map (·.1))[i]? = some k := by
  have hk : T.kvs.map (·.1) = T.abs.map (·.1) := by unfold Ft.kvs Ft.abs; rw [List.map_map, List.map_map]; rfl
  rw [← hk]
  rw [List.getElem?_map] at h ⊢
  cases h1 : T.kvs[i]? with
  | none => rw [h1] at h; cases h
  | some p => rw [h1] at h; cases h; exact ⟨p.1, rfl, rfl⟩
theorem Has.key {A : Abs} {g : Files} (H : Has A g) {i : Nat} {k : Str} (h : (A.map (·.1))[i]? = some k) : k ∈ U := by
  obtain ⟨p, hp, rfl⟩ := List.mem_map.mp (List.mem_of_getElem? h)
  exact H.nm p hp
theorem kvs_len (T : Ft) : (T.kvs.map fun p => Itm.tok (Value.str p.1)).length = T.abs.length := by unfold Ft.kvs Ft.abs; simp
theorem d_not : Str.ofString "/d" ∉ Fs ∧ Str.ofString "/" ∉ Fs := by decide +kernel
theorem leavesTo_len (A : Abs) (i : Nat) : (leavesTo A i).length ≤ A.length := by
  unfold leavesTo
  rw [List.length_map]
  refine Nat.le_trans (List.length_filter_le _ _) ?_
  rw [List.length_take, List.length_map]
  exact Nat.min_le_right _ _
theorem Has.len {A : Abs} {g : Files} (H : Has A g) : A.length ≤ 18 := by
  have h1 := nodup_len H.nd (u := U) fun x hx => by
    obtain ⟨p, hp, rfl⟩ := List.mem_map.mp hx
    exact H.nm p hp
  simp only [List.length_map] at h1
  exact Nat.le_trans h1 (by decide)
theorem StrsAre.sz {vs : List Value} {ss : List Str} (h : StrsAre vs ss) {n : Nat} (hn : ss.length ≤ n) (h2 : n ≤ 1000) : vs.toArray.size ≤ sizeLine := by
  have e := StrsAre.length h
  rw [sizeLine_eq, List.size_toArray]
  omega
theorem StrsAre.snoc {vs : List Value} {ss : List Str} (h : StrsAre vs ss) (x : Str) (t : Tok) : StrsAre (vs ++ [.str x t]) (ss ++ [x]) := by
  induction h with
  | nil => exact .cons x t .nil
  | cons y u _ ih => exact .cons y u ih
theorem push_list (vs : List Value) (v : Value) : vs.toArray.push v = (vs ++ [v]).toArray := by simp

theorem top_E2 : True := by
  w_top off
  trivial
theorem off_acc {I4 D : Addr} {lo lo' oi : Obj} {nn : List (Addr × Obj)} (h : ∀ p ∈ (D, lo) :: nn, p.1 < I4) : ∀ p ∈ (D, lo') :: nn, ∀ q ∈ [(I4, oi)], p.1 ≠ q.1 := by
  intro p hp q hq
  rw [List.mem_singleton.mp hq]
  refine Nat.ne_of_lt ?_
  rcases List.mem_cons.mp hp with rfl | hp
  · exact h (D, lo) (.head _)
  · exact h p (.tail _ hp)
theorem other_only {x : Str} {v mx mx2 : Option Value} {m₀ : Str → Option Value} : ∀ y, y ≠ x → y ≠ x → (if y = x then v else if y = x then mx else if y = x then mx2 else m₀ y) = m₀ y := fun y h _ => by
  rw [if_neg h, if_neg h, if_neg h]
theorem news_fst {h₀ h : Heap} {L : Addr} {a b : Addr × Obj} {R : List (Addr × Obj)} (N : News h₀ L h (a :: b :: R)) : News h₀ L h (a :: R) := fun p hp => N p (by
  rcases List.mem_cons.mp hp with rfl | hp
  · exact .head _
  · exact .tail _ (.tail _ hp))
set_option maxRecDepth 100000 in
set_option maxHeartbeats 2000000 in
theorem c_listed {w : World} {news : List (Addr × Obj)} {ta : Addr} {T : Ft} {g : Files} {tx : Tok} (I : FtIn w news ta T) (H : Has T.abs g) :
    Call w 5 332 [.ref ta, .str (Str.ofString "/d") tx] news (fun r n' => ∃ D vs ss c, n' = (D, listOf vs.toArray c) :: news ∧ r = .ref D ∧ (∀ q ∈ news, q.1 < D) ∧ StrsAre vs ss ∧ sortedS ss = true ∧ ss.Perm (leaves T.abs)) (fun _ => False) := by
  intro dp un gd cn cs a ccd cl outer A₀ base h₀ L m s Q E mean mg mb B F X N Tp hk hd hu hret hexc
  obtain ⟨⟨isd, lo, hall, hsm⟩, hmem⟩ := id I
  have hi := I.inst
  have hdi := I.dict
  have hen := I.ents
  have hU : Str.ofString "/d" ∈ U := by decide +kernel
  have hD := H.dirs I.ok.all
  have hDx : Str.ofString "/d" = Str.ofString "/" ∨ Dirs T := .inr hD
  obtain ⟨ed, h1, hs⟩ := at_of_dir H.dir I.ok.all
  have lo := I.ok.lo
  have isd := I.ok.isd
  (refine' code_defQ (m' := fr2 (Str.ofString "self") (Str.ofString "name") _ _) ?k1 ?k2 ?k3 ?k4 ?k5 ?kA ?kF ?kK ?k6 ?k7 ?k8 ?k9 ?kB ?kM ?_ ?c2 ?c3 ?c4 ?c5; (case kA => exact rfl); (case kF => exact rfl); (case kK => first | exact rfl | assumption); (case k1 => k_asm); (case k2 => k_asm); (case k3 => k_asm); (case k4 => k_asm); (case k5 => k_asm); (case k6 => k_is); (case k7 => k_is); (case k8 => ktr_room); (case k9 => exact BindsTo.of_eq rfl); (case c5 => decide); (case kB => exact locs rfl); (case kM => exact rfl); (case c2 => exact rfl); (case c3 => exact rfl); (case c4 => exact rfl); k_whole; intro gq Lq Sq Qo Eo hSq FGq Fq Nq Bq Xq Tq hQo hEo hPo; (try dsimp only))
  (repeat' ((fail_if_success (with_reducible show wpAny _ _ (exec (Stmt.For _ _ _ _ _) _) _ _ _)); first | (k_here; (with_reducible show wpAny _ _ (call (Value.builtin _) [Value.ref _, _]) _ _ _); k_dflt (refine append_K (by k_asm) (by k_asm) (by k_upd) ?_ (by assumption)); k_whole; intro h' F' N'; (try simp only [push_list] at N'); (try k_sweep)) | (k_unfold; (try dsimp only)) | (k_end; wrow_close) | walk1 | (dsimp only; walk1) | (leave1; walk_say "STEP leave1"; try dsimp only) | fail "no step")); all_goals (try (first | (refine hQo _ _ _ _ _ _ (by k_asm) (by k_asm) ?_; intro kF kN; (try dsimp only [valOf])) | (refine hEo _ _ _ ?_; (repeat' (first | (k_here; (with_reducible show wpAny _ _ (call (Value.builtin _) [Value.ref _, _]) _ _ _); k_dflt (refine append_K (by k_asm) (by k_asm) (by k_upd) ?_ (by assumption)); k_whole; intro h' F' N'; (try simp only [push_list] at N'); (try k_sweep)) | (k_unfold; (try dsimp only)) | (k_end; kc_close) | walk1 | (dsimp only; walk1) | (leave1; walk_say "STEP leave1"; (try dsimp only)) | fail "no step")))))
  refine For_turns (by k_asm) ?_
  (repeat' ((fail_if_success (with_reducible show wpAny _ _ (pyIter (Value.ref _)) _ _ _)); first | (k_here; (with_reducible show wpAny _ _ (call (Value.builtin _) [Value.ref _, _]) _ _ _); k_dflt (refine append_K (by k_asm) (by k_asm) (by k_upd) ?_ (by assumption)); k_whole; intro h' F' N'; (try simp only [push_list] at N'); (try k_sweep)) | (k_unfold; (try dsimp only)) | (k_end; wrow_close) | walk1 | (dsimp only; walk1) | (leave1; walk_say "STEP leave1"; try dsimp only) | fail "no step")); all_goals (try (first | (refine hQo _ _ _ _ _ _ (by k_asm) (by k_asm) ?_; intro kF kN; (try dsimp only [valOf])) | (refine hEo _ _ _ ?_; (repeat' (first | (k_here; (with_reducible show wpAny _ _ (call (Value.builtin _) [Value.ref _, _]) _ _ _); k_dflt (refine append_K (by k_asm) (by k_asm) (by k_upd) ?_ (by assumption)); k_whole; intro h' F' N'; (try simp only [push_list] at N'); (try k_sweep)) | (k_unfold; (try dsimp only)) | (k_end; kc_close) | walk1 | (dsimp only; walk1) | (leave1; walk_say "STEP leave1"; (try dsimp only)) | fail "no step")))))
  refine iter_keys rfl (by k_asm) (by k_asm) (by k_mem) isd lo (fun I4 hI4 => ?_)
  refine items_acc (vs₀ := []) (Str.ofString "other") (Str.ofString "other") _ (fun i vs => StrsAre vs (leavesTo T.abs i)) hI4 (ne_of_lts (by assumption)) ?_ ?_ .nil
  · intro i a mx mx2 vs cc v h tk3 oi hDI hnD ha hP hav F3 hoi N3
    obtain ⟨k, rfl, hk⟩ := keys_at ha
    obtain ⟨tv, rfl⟩ := hav
    have hkU := H.key hk
    have hlen := U_len k hkU
    have hvs : vs.toArray.size ≤ sizeLine := StrsAre.sz hP (Nat.le_trans (leavesTo_len _ _) H.len) (by decide)
    rcases U_three k hkU with rfl | rfl | ⟨hkF, hk1, hk2, hk3⟩
    · ((repeat' (first | (k_here; (with_reducible show wpAny _ _ (call (Value.builtin _) [Value.ref _, _]) _ _ _); k_dflt (refine append_K (by k_asm) (by k_asm) (by k_upd) ?_ (by assumption)); k_whole; intro h' F' N'; (try simp only [push_list] at N'); (try k_sweep)) | (k_unfold; (try dsimp only)) | (k_end; kc_close) | walk1 | (dsimp only; walk1) | (leave1; walk_say "STEP leave1"; (try dsimp only)) | fail "no step")); all_goals (try (first | (refine hQo _ _ _ _ _ _ (by k_asm) (by k_asm) ?_; intro kF kN; (try dsimp only [valOf])) | (refine hEo _ _ _ ?_; (repeat' (first | (k_here; (with_reducible show wpAny _ _ (call (Value.builtin _) [Value.ref _, _]) _ _ _); k_dflt (refine append_K (by k_asm) (by k_asm) (by k_upd) ?_ (by assumption)); k_whole; intro h' F' N'; (try simp only [push_list] at N'); (try k_sweep)) | (k_unfold; (try dsimp only)) | (k_end; kc_close) | walk1 | (dsimp only; walk1) | (leave1; walk_say "STEP leave1"; (try dsimp only)) | fail "no step"))))))
      exact ⟨_, _, _, _, rfl, by k_asm, by k_asm, off_acc hI4, ⟨by k_mem, trivial⟩, other_only, _, _, rfl, by rw [leavesTo_miss hk d_not.2]; exact hP⟩
    · ((repeat' (first | (k_here; (with_reducible show wpAny _ _ (call (Value.builtin _) [Value.ref _, _]) _ _ _); k_dflt (refine append_K (by k_asm) (by k_asm) (by k_upd) ?_ (by assumption)); k_whole; intro h' F' N'; (try simp only [push_list] at N'); (try k_sweep)) | (k_unfold; (try dsimp only)) | (k_end; kc_close) | walk1 | (dsimp only; walk1) | (leave1; walk_say "STEP leave1"; (try dsimp only)) | fail "no step")); all_goals (try (first | (refine hQo _ _ _ _ _ _ (by k_asm) (by k_asm) ?_; intro kF kN; (try dsimp only [valOf])) | (refine hEo _ _ _ ?_; (repeat' (first | (k_here; (with_reducible show wpAny _ _ (call (Value.builtin _) [Value.ref _, _]) _ _ _); k_dflt (refine append_K (by k_asm) (by k_asm) (by k_upd) ?_ (by assumption)); k_whole; intro h' F' N'; (try simp only [push_list] at N'); (try k_sweep)) | (k_unfold; (try dsimp only)) | (k_end; kc_close) | walk1 | (dsimp only; walk1) | (leave1; walk_say "STEP leave1"; (try dsimp only)) | fail "no step"))))))
      all_goals exact ⟨_, _, _, _, rfl, by k_asm, by k_asm, off_acc hI4, ⟨by k_mem, trivial⟩, other_only, _, _, rfl, by rw [leavesTo_miss hk d_not.1]; exact hP⟩
    · ((repeat' (first | (k_here; (with_reducible show wpAny _ _ (call (Value.builtin _) [Value.ref _, _]) _ _ _); k_dflt (refine append_K (by k_asm) (by k_asm) (by k_upd) ?_ (by assumption)); k_whole; intro h' F' N'; (try simp only [push_list] at N'); (try k_sweep)) | (k_unfold; (try dsimp only)) | (k_end; kc_close) | walk1 | (dsimp only; walk1) | (leave1; walk_say "STEP leave1"; (try dsimp only)) | fail "no step")); all_goals (try (first | (refine hQo _ _ _ _ _ _ (by k_asm) (by k_asm) ?_; intro kF kN; (try dsimp only [valOf])) | (refine hEo _ _ _ ?_; (repeat' (first | (k_here; (with_reducible show wpAny _ _ (call (Value.builtin _) [Value.ref _, _]) _ _ _); k_dflt (refine append_K (by k_asm) (by k_asm) (by k_upd) ?_ (by assumption)); k_whole; intro h' F' N'; (try simp only [push_list] at N'); (try k_sweep)) | (k_unfold; (try dsimp only)) | (k_end; kc_close) | walk1 | (dsimp only; walk1) | (leave1; walk_say "STEP leave1"; (try dsimp only)) | fail "no step"))))))
      exact ⟨_, _, _, _, rfl, by k_asm, by k_asm, off_acc hI4, ⟨by k_mem, trivial⟩, other_only, _, _, rfl, by rw [leavesTo_hit hk hkF]; exact StrsAre.snoc hP _ _⟩
  · intro mx mx2 vs cc h tk3 hP F3 N3
    rw [kvs_len, leavesTo_end] at hP
    (repeat' ((fail_if_success (with_reducible show wpAny _ _ (call (Value.builtin _) _) _ _ _)); first | (k_here; (with_reducible show wpAny _ _ (call (Value.builtin _) [Value.ref _, _]) _ _ _); k_dflt (refine append_K (by k_asm) (by k_asm) (by k_upd) ?_ (by assumption)); k_whole; intro h' F' N'; (try simp only [push_list] at N'); (try k_sweep)) | (k_unfold; (try dsimp only)) | (k_end; wrow_close) | walk1 | (dsimp only; walk1) | (leave1; walk_say "STEP leave1"; try dsimp only) | fail "no step")); all_goals (try (first | (refine hQo _ _ _ _ _ _ (by k_asm) (by k_asm) ?_; intro kF kN; (try dsimp only [valOf])) | (refine hEo _ _ _ ?_; (repeat' (first | (k_here; (with_reducible show wpAny _ _ (call (Value.builtin _) [Value.ref _, _]) _ _ _); k_dflt (refine append_K (by k_asm) (by k_asm) (by k_upd) ?_ (by assumption)); k_whole; intro h' F' N'; (try simp only [push_list] at N'); (try k_sweep)) | (k_unfold; (try dsimp only)) | (k_end; kc_close) | walk1 | (dsimp only; walk1) | (leave1; walk_say "STEP leave1"; (try dsimp only)) | fail "no step")))))
    refine sorted_N_str (by k_asm) (by k_asm) ⟨_, (N3 _ (.head _)).1, rfl, _, rfl⟩ hP ?_ ?_
    · have e := StrsAre.length hP
      have h5 := leavesTo_len T.abs T.abs.length
      have := H.len
      rw [leavesTo_end] at h5
      omega
    intro h4 vs4 ss4 e4 F4 N4 S4 P4 so4
    ((repeat' (first | (k_here; (with_reducible show wpAny _ _ (call (Value.builtin _) [Value.ref _, _]) _ _ _); k_dflt (refine append_K (by k_asm) (by k_asm) (by k_upd) ?_ (by assumption)); k_whole; intro h' F' N'; (try simp only [push_list] at N'); (try k_sweep)) | (k_unfold; (try dsimp only)) | (k_end; kc_close) | walk1 | (dsimp only; walk1) | (leave1; walk_say "STEP leave1"; (try dsimp only)) | fail "no step")); all_goals (try (first | (refine hQo _ _ _ _ _ _ (by k_asm) (by k_asm) ?_; intro kF kN; (try dsimp only [valOf])) | (refine hEo _ _ _ ?_; (repeat' (first | (k_here; (with_reducible show wpAny _ _ (call (Value.builtin _) [Value.ref _, _]) _ _ _); k_dflt (refine append_K (by k_asm) (by k_asm) (by k_upd) ?_ (by assumption)); k_whole; intro h' F' N'; (try simp only [push_list] at N'); (try k_sweep)) | (k_unfold; (try dsimp only)) | (k_end; kc_close) | walk1 | (dsimp only; walk1) | (leave1; walk_say "STEP leave1"; (try dsimp only)) | fail "no step"))))))
    exact hret _ _ _ _ ⟨h.objs.size + 1, vs4, ss4, e4, rfl, rfl, fun q hq => Nat.lt_succ_of_lt (Heap.lt_size (N3 q (.tail _ hq)).1), S4, so4, P4⟩ (by k_asm) (news_fst (by assumption))
local macro_rules | `(tactic| walk_at "call ref") => `(tactic| (k_here; (with_reducible refine atRef 332 ?_); k_dflt (refine Call.useK (C := c_listed (by walk_at "in tree") ‹_›) (hK := q_listed) (ret := ?_); walk_at "swept")))

theorem top_F1 : True := by
  w_top off
  trivial
/-- the name of the backup with this number -/
@[irreducible] def nmn (n : Int) : Str := Fs.getD (n + 2).toNat (Str.ofString "")
theorem nmn_is {n : Int} (h1 : 1 ≤ n) (h2 : n ≤ 13) : Str.ofString "/d/f" ++ Str.ofString ".~" ++ Str.ofString (toString n) ++ Str.ofString "~" = nmn n := by
  obtain ⟨i, rfl⟩ := fin_of (k := 13) h1 h2
  unfold nmn
  revert i
  decide +kernel
set_option maxRecDepth 100000 in
set_option maxHeartbeats 2000000 in
theorem c_numbered_name {w : World} {news : List (Addr × Obj)} {n : Int} (t1 t2 : Tok) (h1 : 1 ≤ n) (h2 : n ≤ 13) :
    Call w 1 84 [.str (Str.ofString "/d/f") t1, .int n t2] news (fun r n' => n' = news ∧ ∃ t, r = .str (nmn n) t) (fun _ => False) := by
  intro dp un gd cn cs a ccd cl outer A₀ base h₀ L m s Q E mean mg mb B F X N Tp hk hd hu hret hexc
  (refine' code_defQ (m' := fr2 (Str.ofString "name") (Str.ofString "number") _ _) ?k1 ?k2 ?k3 ?k4 ?k5 ?kA ?kF ?kK ?k6 ?k7 ?k8 ?k9 ?kB ?kM ?_ ?c2 ?c3 ?c4 ?c5; (case kA => exact rfl); (case kF => exact rfl); (case kK => first | exact rfl | assumption); (case k1 => k_asm); (case k2 => k_asm); (case k3 => k_asm); (case k4 => k_asm); (case k5 => k_asm); (case k6 => k_is); (case k7 => k_is); (case k8 => ktr_room); (case k9 => exact BindsTo.of_eq rfl); (case c5 => decide); (case kB => exact locs rfl); (case kM => exact rfl); (case c2 => exact rfl); (case c3 => exact rfl); (case c4 => exact rfl); k_whole; intro gq Lq Sq Qo Eo hSq FGq Fq Nq Bq Xq Tq hQo hEo hPo; (try dsimp only))
  (k_steps; all_goals (try (first | (refine hQo _ _ _ _ _ _ (by k_asm) (by k_asm) ?_; intro kF kN; (try dsimp only [valOf])) | (refine hEo _ _ _ ?_; k_steps))))
  exact hret _ _ _ _ ⟨rfl, _, vstr (nmn_is h1 h2)⟩ (by k_asm) (by first | k_asm | exact cb_drop (by assumption) (by intro p hp; simp [hp]))
local macro_rules | `(tactic| walk_at "call ref") => `(tactic| (k_here; (with_reducible refine atRef 84 ?_); k_dflt (refine Call.useK (C := c_numbered_name _ _ ‹_› ‹_›) (hK := q_str) (ret := ?_); walk_at "swept")))
section
variable {prog : Program} {w : World} {A : Around} {E : Value → Shared → Prop} {s : Shared} {env : Env} {h₀ : Heap} {target : PySem.Expr} {body : List Stmt} {Q : Flow → Shared → Prop}
theorem letGo_striter {E : Value → Shared → Prop} {target : PySem.Expr} {I : Addr} {x : Str} {t : Tok} {i : Nat} {ty : String} {v : Value} {Q' : Unit → Shared → Prop} {s' : Shared} (hty : ty = "str_ascii_iterator") (hit : s'.heap.IsStrIter I ty x t i) (h : Q' () s') :
    wpAny (model prog w) A (letOwnedTupleGo target (.ref I) v) Q' E s' := by
  subst hty
  obtain ⟨o, ho, hc, hd⟩ := hit
  unfold letOwnedTupleGo
  cases target <;> first
    | exact wpAny_pure h
    | (cases v <;> first
        | exact wpAny_pure h
        | (refine wpAny_bind (wpAny_load ho ?_)
           rw [hc, hd]
           exact wpAny_pure h))
theorem iter_str {x : Str} {t : Tok} {m₀ : Str → Option Value} {news : List (Addr × Obj)} (ha : x.cps.all (· < 128) = true)
    (hh : A.handled = none) (F : Fr h₀ env.locals s.heap m₀) (N : News h₀ env.locals s.heap news)
    (rest₀ : ∀ I : Addr, (∀ p ∈ news, p.1 < I) → ItemsRest prog w A E h₀ env target body Q s [(I, "str_ascii_iterator")] [] (x.cps.toList.map fun c => Itm.tok (Value.str ⟨#[c]⟩)) m₀ news) :
    wpAny (model prog w) A (pyIter (.str x t)) (fun it s₂ => TurnsAt prog w A h₀ env target body Q E it s₂) E s := by
  refine wpAny_pyIter_ascii ha ?_
  refine ktu_core (tk0 := s.toks) (keep := []) (KTurns.ofWalks (Walks.strAscii hh s.heap.objs.size x t) fun i v s Q E st q => letGo_striter rfl st q) (by simp) ?_ ?_ ?_ ?_ ?_ ?_ ?_ ?_ (F.push _) (fun p hp => ⟨Heap.get?_push_of_some _ (N p hp).1, (N p hp).2⟩) trivial (rest₀ _ fun p hp => Heap.lt_size (N p hp).1)
  · rintro i v h ⟨c, u, hx, hv⟩
    exact ⟨.tok (Value.str ⟨#[c]⟩), by rw [List.getElem?_map, Array.getElem?_toList, hx]; rfl, u, hv⟩
  · rintro i h ⟨oi, g, c, _⟩
    exact ⟨[(s.heap.objs.size, oi)], ⟨⟨rfl, c⟩, trivial⟩, fun p hp => by rw [List.mem_singleton.mp hp]; exact g⟩
  · intro b hb
    have hb' : b = s.heap.objs.size := by simpa using hb
    rw [hb']
    exact ⟨List.mem_cons_self .., next_is_new F⟩
  · intro b hb
    simpa using hb
  · intro b hb
    exact .inl (by simpa using hb)
  · intro hI
    have hb' : env.locals = s.heap.objs.size := by simpa using hI
    exact absurd F.ns.lt (hb' ▸ Nat.lt_irrefl _)
  · intro p hp hI
    exact absurd (Heap.lt_size (N p hp).1) ((List.mem_singleton.mp hI) ▸ Nat.lt_irrefl _)
  · exact ⟨_, Heap.get?_push_size _ rfl, rfl, rfl⟩
end
def numF (x : Str) : Int := if Fs.idxOf x < 3 then 0 else (Fs.idxOf x : Int) - 2
def figs (k : Str) : Str := Txt.slice (leaf k) (some ((3 : Nat) : Int)) (some ((leaf k).length - 1))
theorem leaf_facts : ∀ k ∈ Fs, (leaf k).length ≤ 100 ∧ (((Txt.slice (leaf k) none (some ((3 : Nat) : Int)) != Str.ofString "f.~") = true ∧ numF k = 0) ∨
    ((Txt.slice (leaf k) none (some ((3 : Nat) : Int)) != Str.ofString "f.~") = false ∧ (Txt.slice (leaf k) (some (-1)) none != Str.ofString "~") = false ∧ (figs k == Str.ofString "") = false ∧ (1 ≤ (figs k).length ∧ (figs k).length ≤ 2) ∧
      (Txt.item (figs k) 0 == Str.ofString "0") = false ∧ (figs k).cps.all (· < 128) = true ∧ (figs k).cps.toList.all (fun c => decide (48 ≤ c ∧ c ≤ 57)) = true ∧
      ((figs k).cps.toList.length = 1 ∨ (figs k).cps.toList.length = 2) ∧ numF k = (figs k).cps.toList.foldl (fun (a : Int) (c : Nat) => 10 * a + ((c : Int) - 48)) 0)) := by decide +kernel
theorem dig_facts {c : Nat} (h : 48 ≤ c ∧ c ≤ 57) : (Builtin.Str.occurrences (Str.ofString "0123456789") ⟨#[c]⟩ 0 (Str.ofString "0123456789").length 1).isEmpty = false ∧ Txt.find (Str.ofString "0123456789") ⟨#[c]⟩ = (c : Int) - 48 := by
  obtain ⟨h1, h2⟩ := h
  have h : ∀ i : Fin 10, (Builtin.Str.occurrences (Str.ofString "0123456789") ⟨#[48 + i.val]⟩ 0 (Str.ofString "0123456789").length 1).isEmpty = false ∧ Txt.find (Str.ofString "0123456789") ⟨#[48 + i.val]⟩ = ((48 + i.val : Nat) : Int) - 48 := by decide +kernel
  have h := h ⟨c - 48, Nat.sub_lt_left_of_lt_add h1 (Nat.lt_succ_of_le h2)⟩
  rwa [show 48 + (c - 48) = c from Nat.add_sub_cancel' h1] at h
/-- what else is known of the figures -/
@[irreducible] def FigRest (k fg : Str) : Prop := fg.cps.all (· < 128) = true ∧ fg.cps.toList.all (fun c => decide (48 ≤ c ∧ c ≤ 57)) = true ∧
      (fg.cps.toList.length = 1 ∨ fg.cps.toList.length = 2) ∧ numF k = fg.cps.toList.foldl (fun (a : Int) (c : Nat) => 10 * a + ((c : Int) - 48)) 0
theorem leaf_opaque {k : Str} (hk : k ∈ Fs) : ∃ o, leaf k = o ∧ o.length ≤ 100 ∧ (((Txt.slice o none (some ((3 : Nat) : Int)) != Str.ofString "f.~") = true ∧ numF k = 0) ∨
    ((Txt.slice o none (some ((3 : Nat) : Int)) != Str.ofString "f.~") = false ∧ (Txt.slice o (some (-1)) none != Str.ofString "~") = false ∧ (Txt.slice o (some ((3 : Nat) : Int)) (some (o.length - 1)) == Str.ofString "") = false ∧ (1 ≤ (Txt.slice o (some ((3 : Nat) : Int)) (some (o.length - 1))).length ∧ (Txt.slice o (some ((3 : Nat) : Int)) (some (o.length - 1))).length ≤ 2) ∧
      (Txt.item (Txt.slice o (some ((3 : Nat) : Int)) (some (o.length - 1))) 0 == Str.ofString "0") = false ∧ FigRest k (Txt.slice o (some ((3 : Nat) : Int)) (some (o.length - 1))))) := by
  obtain ⟨hlen, h⟩ := leaf_facts k hk
  refine ⟨_, rfl, hlen, h.imp id fun ⟨f1, f2, f3, f4, f5, f6⟩ => ⟨f1, f2, f3, f4, f5, ?_⟩⟩
  have q : FigRest k (figs k) := by unfold FigRest; exact f6
  unfold figs at q
  exact q
theorem vint {a b : Int} {t : Tok} (h : a = b) : Value.int a t = Value.int b t := congrArg (Value.int · t) h
set_option maxRecDepth 100000 in
set_option maxHeartbeats 2000000 in
theorem c_backup_number {w : World} {news : List (Addr × Obj)} {k o : Str} {t1 t2 : Tok} (hk : k ∈ Fs) (ho : leaf k = o) :
    Call w 1 91 [.str (Str.ofString "f") t1, .str o t2] news (fun r n' => n' = news ∧ ∃ t, r = .int (numF k) t) (fun _ => False) := by
  obtain ⟨o', e, hlen, ⟨f1, f2⟩ | ⟨f1, f2, f3, ⟨f4a, f4⟩, f5, f6⟩⟩ := leaf_opaque hk
  · rw [ho] at e
    subst e
    rw [f2]
    clear hk ho f2
    intro dp un gd cn cs a ccd cl outer A₀ base h₀ L m s Q E mean mg mb B F X N Tp hk hd hu hret hexc
    (refine' code_defQ (m' := fr2 (Str.ofString "name") (Str.ofString "other") _ _) ?k1 ?k2 ?k3 ?k4 ?k5 ?kA ?kF ?kK ?k6 ?k7 ?k8 ?k9 ?kB ?kM ?_ ?c2 ?c3 ?c4 ?c5; (case kA => exact rfl); (case kF => exact rfl); (case kK => first | exact rfl | assumption); (case k1 => k_asm); (case k2 => k_asm); (case k3 => k_asm); (case k4 => k_asm); (case k5 => k_asm); (case k6 => k_is); (case k7 => k_is); (case k8 => ktr_room); (case k9 => exact BindsTo.of_eq rfl); (case c5 => decide); (case kB => exact locs rfl); (case kM => exact rfl); (case c2 => exact rfl); (case c3 => exact rfl); (case c4 => exact rfl); k_whole; intro gq Lq Sq Qo Eo hSq FGq Fq Nq Bq Xq Tq hQo hEo hPo; (try dsimp only))
    (k_steps; all_goals (try (first | (refine hQo _ _ _ _ _ _ (by k_asm) (by k_asm) ?_; intro kF kN; (try dsimp only [valOf])) | (refine hEo _ _ _ ?_; k_steps))))
    exact hret _ _ _ _ ⟨rfl, _, rfl⟩ (by k_asm) (by first | k_asm | exact cb_drop (by assumption) (by intro p hp; simp [hp]))
  · rw [ho] at e
    subst e
    clear hk ho
    intro dp un gd cn cs a ccd cl outer A₀ base h₀ L m s Q E mean mg mb B F X N Tp hk hd hu hret hexc
    (refine' code_defQ (m' := fr2 (Str.ofString "name") (Str.ofString "other") _ _) ?k1 ?k2 ?k3 ?k4 ?k5 ?kA ?kF ?kK ?k6 ?k7 ?k8 ?k9 ?kB ?kM ?_ ?c2 ?c3 ?c4 ?c5; (case kA => exact rfl); (case kF => exact rfl); (case kK => first | exact rfl | assumption); (case k1 => k_asm); (case k2 => k_asm); (case k3 => k_asm); (case k4 => k_asm); (case k5 => k_asm); (case k6 => k_is); (case k7 => k_is); (case k8 => ktr_room); (case k9 => exact BindsTo.of_eq rfl); (case c5 => decide); (case kB => exact locs rfl); (case kM => exact rfl); (case c2 => exact rfl); (case c3 => exact rfl); (case c4 => exact rfl); k_whole; intro gq Lq Sq Qo Eo hSq FGq Fq Nq Bq Xq Tq hQo hEo hPo; (try dsimp only))
    (repeat' ((fail_if_success (with_reducible show wpAny _ _ (exec (Stmt.For _ _ _ _ _) _) _ _ _)); first | (k_unfold; (try dsimp only)) | (k_end; wrow_close) | walk1 | (dsimp only; walk1) | (leave1; walk_say "STEP leave1"; try dsimp only) | fail "no step")); all_goals (try (first | (refine hQo _ _ _ _ _ _ (by k_asm) (by k_asm) ?_; intro kF kN; (try dsimp only [valOf])) | (refine hEo _ _ _ ?_; (k_steps; all_goals (try (first | (refine hQo _ _ _ _ _ _ (by k_asm) (by k_asm) ?_; intro kF kN; (try dsimp only [valOf])) | (refine hEo _ _ _ ?_; k_steps)))))))
    refine For_turns (by k_asm) ?_
    (repeat' ((fail_if_success (with_reducible show wpAny _ _ (pyIter (Value.str _ _)) _ _ _)); first | (k_unfold; (try dsimp only)) | (k_end; wrow_close) | walk1 | (dsimp only; walk1) | (leave1; walk_say "STEP leave1"; try dsimp only) | fail "no step")); all_goals (try (first | (refine hQo _ _ _ _ _ _ (by k_asm) (by k_asm) ?_; intro kF kN; (try dsimp only [valOf])) | (refine hEo _ _ _ ?_; (k_steps; all_goals (try (first | (refine hQo _ _ _ _ _ _ (by k_asm) (by k_asm) ?_; intro kF kN; (try dsimp only [valOf])) | (refine hEo _ _ _ ?_; k_steps)))))))
    unfold FigRest at f6
    obtain ⟨g1, g2, g3, g4⟩ := f6
    refine iter_str g1 rfl (by k_asm) (by k_asm) (fun I4 hI4 => ?_)
    generalize hL : (Txt.slice o (some ((3 : Nat) : Int)) (some (o.length - 1))).cps.toList = Ld at g2 g3 g4 ⊢
    clear g1 hL
    have off : ∀ oi : Obj, ∀ p ∈ news, ∀ q ∈ [(I4, oi)], p.1 ≠ q.1 := fun oi p hp q hq => by rw [List.mem_singleton.mp hq]; exact Nat.ne_of_lt (hI4 p hp)
    rcases g3 with g3 | g3
    · obtain ⟨c1, rfl⟩ := List.length_eq_one_iff.mp g3
      have d1 : 48 ≤ c1 ∧ c1 ≤ 57 := by simpa using g2
      obtain ⟨d1a, d1b⟩ := dig_facts d1
      simp only [List.foldl] at g4
      refine ItemsRest.tok (fun t5 h5 tk5 F5 => AllObj.cons fun oi hoi => AllObj.nil fun N5 => ?_)
      clear g2 g3
      (k_steps; all_goals (try (first | (refine hQo _ _ _ _ _ _ (by k_asm) (by k_asm) ?_; intro kF kN; (try dsimp only [valOf])) | (refine hEo _ _ _ ?_; k_steps))))
      refine ⟨_, _, _, _, rfl, by k_asm, by k_asm, off oi, trivial, ItemsRest.zero fun h6 tk6 F6 N6 => ?_⟩
      (k_steps; all_goals (try (first | (refine hQo _ _ _ _ _ _ (by k_asm) (by k_asm) ?_; intro kF kN; (try dsimp only [valOf])) | (refine hEo _ _ _ ?_; k_steps))))
      exact hret _ _ _ _ ⟨rfl, _, vint (by omega)⟩ (by k_asm) (by first | k_asm | exact cb_drop (by assumption) (by intro p hp; simp [hp]))
    · obtain ⟨c1, c2, rfl⟩ : ∃ c1 c2, Ld = [c1, c2] := by
        match Ld, g3 with
        | [a, b], _ => exact ⟨a, b, rfl⟩
      have d12 : (48 ≤ c1 ∧ c1 ≤ 57) ∧ (48 ≤ c2 ∧ c2 ≤ 57) := by simpa using g2
      obtain ⟨d1a, d1b⟩ := dig_facts d12.1
      obtain ⟨d2a, d2b⟩ := dig_facts d12.2
      simp only [List.foldl] at g4
      refine ItemsRest.tok (fun t5 h5 tk5 F5 => AllObj.cons fun oi hoi => AllObj.nil fun N5 => ?_)
      clear g2 g3
      (k_steps; all_goals (try (first | (refine hQo _ _ _ _ _ _ (by k_asm) (by k_asm) ?_; intro kF kN; (try dsimp only [valOf])) | (refine hEo _ _ _ ?_; k_steps))))
      refine ⟨_, _, _, _, rfl, by k_asm, by k_asm, off oi, trivial, ItemsRest.tok (fun t6 h6 tk6 F6 => AllObj.cons fun oi2 hoi2 => AllObj.nil fun N6 => ?_)⟩
      (k_steps; all_goals (try (first | (refine hQo _ _ _ _ _ _ (by k_asm) (by k_asm) ?_; intro kF kN; (try dsimp only [valOf])) | (refine hEo _ _ _ ?_; k_steps))))
      refine ⟨_, _, _, _, rfl, by k_asm, by k_asm, off oi2, trivial, ItemsRest.zero fun h7 tk7 F7 N7 => ?_⟩
      (k_steps; all_goals (try (first | (refine hQo _ _ _ _ _ _ (by k_asm) (by k_asm) ?_; intro kF kN; (try dsimp only [valOf])) | (refine hEo _ _ _ ?_; k_steps))))
      exact hret _ _ _ _ ⟨rfl, _, vint (by omega)⟩ (by k_asm) (by first | k_asm | exact cb_drop (by assumption) (by intro p hp; simp [hp]))
local macro_rules | `(tactic| walk_at "call ref") => `(tactic| (k_here; (with_reducible refine atRef 91 ?_); k_dflt (refine Call.useK (C := c_backup_number ‹_› ‹_›) (hK := q_int) (ret := ?_); walk_at "swept")))

theorem top_F2 : True := by
  w_top off
  trivial
/-- the numbers of the backups that are there -/
def nums (g : Files) : List Int := ((List.range 13).map fun (i : Nat) => (i : Int) + 1).filter fun n => (g (nmn n)).isSome
theorem nums_mem {g : Files} {n : Int} : n ∈ nums g ↔ (1 ≤ n ∧ n ≤ 13) ∧ (g (nmn n)).isSome = true := by
  unfold nums
  rw [List.mem_filter, List.mem_map]
  refine and_congr_left fun _ => ⟨?_, fun h => ⟨(n - 1).toNat, ?_, ?_⟩⟩
  · rintro ⟨i, hi, rfl⟩
    have := List.mem_range.mp hi
    omega
  · rw [List.mem_range]; omega
  · omega
theorem nums_sorted (g : Files) : (nums g).Pairwise (· < ·) := by
  unfold nums
  refine List.Pairwise.filter _ ?_
  decide +kernel
def numL (o : Str) : Int := numF (Str.ofString "/d/" ++ o)
theorem numL_leaf : ∀ k ∈ Fs, Str.ofString "/d/" ++ leaf k = k := by decide +kernel
theorem numF_nmn {k : Str} (hk : k ∈ Fs) (h : 0 < numF k) : k = nmn (numF k) ∧ 1 ≤ numF k ∧ numF k ≤ 13 := by
  have h1 : ∀ k ∈ Fs, 0 < numF k → k = Fs.getD (numF k + 2).toNat (Str.ofString "") ∧ 1 ≤ numF k ∧ numF k ≤ 13 := by decide +kernel
  unfold nmn
  exact h1 k hk h
theorem nmn_Fs {n : Int} (h1 : 1 ≤ n) (h2 : n ≤ 13) : nmn n ∈ Fs ∧ numF (nmn n) = n := by
  obtain ⟨i, rfl⟩ := fin_of (k := 13) h1 h2
  unfold nmn
  revert i
  decide +kernel
theorem Has.name {A : Abs} {g : Files} (H : Has A g) {x : Str} (hx : x ∈ Fs) : x ∈ A.map (·.1) ↔ (g x).isSome = true := by
  have h := H.fil x hx
  have h1 : ∀ A : Abs, x ∈ A.map (·.1) ↔ (alook A x).isSome = true := by
    intro A
    induction A with
    | nil => simp [alook]
    | cons p r ih =>
      obtain ⟨y, c⟩ := p
      by_cases e : y = x
      · simp [alook, e]
      · have e' : ¬ x = y := fun q => e q.symm
        simp only [List.map_cons, List.mem_cons, alook, e, e', if_false, false_or]
        exact ih
  rw [h1, h]
  cases g x <;> simp
theorem nums_perm {A : Abs} {g : Files} (H : Has A g) {ss : List Str} (P : ss.Perm (leaves A)) : ((ss.map numL).filter fun n => decide (0 < n)).Perm (nums g) := by
  refine ((P.map numL).filter _).trans ?_
  have e : ((leaves A).map numL) = ((A.map (·.1)).filter fun x => decide (x ∈ Fs)).map numF := by
    unfold leaves
    rw [List.map_map]
    refine List.map_congr_left fun k hk => ?_
    have hk' : k ∈ Fs := by simpa using (List.mem_filter.mp hk).2
    show numL (leaf k) = numF k
    unfold numL
    rw [numL_leaf k hk']
  rw [e]
  refine (List.perm_ext_iff_of_nodup ?_ ?_).mpr fun n => ?_
  · rw [List.nodup_iff_pairwise_ne, List.pairwise_filter, List.pairwise_map]
    have hn := (H.nd.filter (p := fun x => decide (x ∈ Fs)))
    refine List.Pairwise.imp_of_mem ?_ hn
    intro a b ha hb hab h1 h2 e
    have ha' : a ∈ Fs := by simpa using (List.mem_filter.mp ha).2
    have hb' : b ∈ Fs := by simpa using (List.mem_filter.mp hb).2
    have h1' := (numF_nmn ha' (by simpa using h1)).1
    have h2' := (numF_nmn hb' (by simpa using h2)).1
    exact hab (by rw [h1', h2', e])
  · exact (nums_sorted g).imp (fun h => Int.ne_of_lt h)
  · rw [List.mem_filter, List.mem_map, nums_mem]
    constructor
    · rintro ⟨⟨k, hk, rfl⟩, hp⟩
      obtain ⟨hk1, hk2⟩ := List.mem_filter.mp hk
      have hk' : k ∈ Fs := by simpa using hk2
      obtain ⟨h1, h2⟩ := numF_nmn hk' (by simpa using hp)
      refine ⟨h2, ?_⟩
      rw [← h1]
      exact (H.name hk').mp hk1
    · rintro ⟨⟨h1, h2⟩, h3⟩
      obtain ⟨a, b⟩ := nmn_Fs h1 h2
      refine ⟨⟨nmn n, List.mem_filter.mpr ⟨(H.name a).mpr h3, by simpa using a⟩, b⟩, ?_⟩
      simp only [decide_eq_true_eq]
      omega
theorem leaves_mem {A : Abs} {ss : List Str} (P : ss.Perm (leaves A)) {i : Nat} {o : Str} (h : ss[i]? = some o) : ∃ k ∈ Fs, leaf k = o := by
  have h1 := P.mem_iff.mp (List.mem_of_getElem? h)
  unfold leaves at h1
  obtain ⟨k, hk, e⟩ := List.mem_map.mp h1
  exact ⟨k, by simpa using (List.mem_filter.mp hk).2, e⟩
def numsTo (ss : List Str) (i : Nat) : List Int := (((ss.take i).map numL).filter fun n => decide (0 < n))
theorem numsTo_hit {ss : List Str} {i : Nat} {k o : Str} (h : ss[i]? = some o) (hk : k ∈ Fs) (e : leaf k = o) (hp : 0 < numF k) : numsTo ss (i + 1) = numsTo ss i ++ [numF k] := by
  unfold numsTo
  rw [List.take_add_one, h, List.map_append, List.filter_append]
  have e2 : numL o = numF k := by unfold numL; rw [← e, numL_leaf k hk]
  simp [e2, hp]
theorem numsTo_miss {ss : List Str} {i : Nat} {k o : Str} (h : ss[i]? = some o) (hk : k ∈ Fs) (e : leaf k = o) (hp : ¬ 0 < numF k) : numsTo ss (i + 1) = numsTo ss i := by
  unfold numsTo
  rw [List.take_add_one, h, List.map_append, List.filter_append]
  have e2 : numL o = numF k := by unfold numL; rw [← e, numL_leaf k hk]
  simp [e2, hp]
theorem numsTo_len (ss : List Str) (i : Nat) : (numsTo ss i).length ≤ ss.length := by
  unfold numsTo
  refine Nat.le_trans (List.length_filter_le _ _) ?_
  rw [List.length_map, List.length_take]
  exact Nat.min_le_right _ _
theorem IntsAre.snoc {vs : List Value} {ns : List Int} (h : IntsAre vs ns) (n : Int) (t : Tok) : IntsAre (vs ++ [.int n t]) (ns ++ [n]) := by
  induction h with
  | nil => exact .cons n t .nil
  | cons y u _ ih => exact .cons y u ih
theorem IntsAre.sz {vs : List Value} {ns : List Int} (h : IntsAre vs ns) {n : Nat} (hn : ns.length ≤ n) (h2 : n ≤ 1000) : vs.toArray.size ≤ sizeLine := by
  have e := IntsAre.length h
  rw [sizeLine_eq, List.size_toArray]
  omega
theorem strs_at {vs : List Value} {ss : List Str} (h : StrsAre vs ss) {i : Nat} {a : Itm} (ha : (vs.map Itm.val)[i]? = some a) : ∃ o t, a = Itm.val (.str o t) ∧ ss[i]? = some o := by
  induction h generalizing i with
  | nil => simp at ha
  | cons y u _ ih =>
    cases i with
    | zero => simp only [List.map_cons, List.getElem?_cons_zero, Option.some.injEq] at ha; exact ⟨y, u, ha.symm, rfl⟩
    | succ i => simp only [List.map_cons, List.getElem?_cons_succ] at ha ⊢; exact ih ha
theorem leaves_len {A : Abs} {g : Files} (H : Has A g) {ss : List Str} (P : ss.Perm (leaves A)) : ss.length ≤ 18 := by
  rw [P.length_eq]
  have h := leavesTo_len A A.length
  rw [leavesTo_end] at h
  exact Nat.le_trans h H.len
theorem c_dp_f {w : World} {news : List (Addr × Obj)} (tx : Tok) : Call w 1 28 [.str (Str.ofString "/d/f") tx] news (fun r n' => n' = news ∧ ∃ t, r = .str (Str.ofString "/d/") t) (fun _ => False) :=
  (c_directory_part _ _ (by decide +kernel)).mono (fun _ _ ⟨a, t, b⟩ => ⟨a, t, b.trans (vstr (by decide +kernel))⟩) fun _ h => h
theorem c_lp_f {w : World} {news : List (Addr × Obj)} (tx : Tok) : Call w 1 35 [.str (Str.ofString "/d/f") tx] news (fun r n' => n' = news ∧ ∃ t, r = .str (Str.ofString "f") t) (fun _ => False) :=
  (c_last_part _ _ (by decide +kernel)).mono (fun _ _ ⟨a, t, b⟩ => ⟨a, t, b.trans (vstr (by decide +kernel))⟩) fun _ h => h

theorem top_F3 : True := by
  w_top off
  trivial
local macro_rules | `(tactic| walk_at "call ref") => `(tactic| (k_here; (with_reducible refine atRef 28 ?_); k_dflt (refine Call.useK (C := c_dp_f _) (hK := q_str) (ret := ?_); walk_at "swept")))
local macro_rules | `(tactic| walk_at "call ref") => `(tactic| (k_here; (with_reducible refine atRef 35 ?_); k_dflt (refine Call.useK (C := c_lp_f _) (hK := q_str) (ret := ?_); walk_at "swept")))
/-- the strs that these values are -/
abbrev ssOf {vs : List Value} {ss : List Str} (_ : StrsAre vs ss) : List Str := ss
theorem two_only {x x2 : Str} {v v2 mx mx2 : Option Value} {m₀ : Str → Option Value} : ∀ y, y ≠ x → y ≠ x2 → (if y = x2 then v2 else if y = x then v else if y = x then mx else if y = x2 then mx2 else m₀ y) = m₀ y := fun y h h2 => by
  rw [if_neg h2, if_neg h, if_neg h, if_neg h2]
theorem nums_done {A : Abs} {g : Files} (H : Has A g) {ss : List Str} (P : ss.Perm (leaves A)) {n : Nat} (hn : n = ss.length) {ns5 : List Int} (p5 : ns5.Perm (numsTo ss n)) (o5 : ns5.Pairwise (· ≤ ·)) : ns5 = nums g := by
  refine ksm_same (p5.trans ?_) o5 ((nums_sorted g).imp fun h => Int.le_of_lt h)
  subst hn
  unfold numsTo
  rw [List.take_length]
  exact nums_perm H P
theorem news_fst2 {h₀ h : Heap} {L : Addr} {a b c : Addr × Obj} {R : List (Addr × Obj)} (N : News h₀ L h (a :: b :: c :: R)) : News h₀ L h (a :: R) := fun p hp => N p (by
  rcases List.mem_cons.mp hp with rfl | hp
  · exact .head _
  · exact .tail _ (.tail _ (.tail _ hp)))
theorem nums_lt {A : Abs} {g : Files} (H : Has A g) {ss : List Str} (P : ss.Perm (leaves A)) {n : Nat} : (numsTo ss n).length < 64 :=
  Nat.lt_of_le_of_lt (Nat.le_trans (numsTo_len ss n) (leaves_len H P)) (by decide)
set_option maxRecDepth 100000 in
set_option maxHeartbeats 2000000 in
theorem c_numbers_there {w : World} {news : List (Addr × Obj)} {ta : Addr} {T : Ft} {g : Files} {tx : Tok} (I : FtIn w news ta T) (H : Has T.abs g) :
    Call w 6 119 [.ref ta, .str (Str.ofString "/d/f") tx] news (fun r n' => ∃ D vs c, n' = (D, listOf vs.toArray c) :: news ∧ r = .ref D ∧ (∀ q ∈ news, q.1 < D) ∧ IntsAre vs (nums g)) (fun _ => False) := by
  intro dp un gd cn cs a ccd cl outer A₀ base h₀ L m s Q E mean mg mb B F X N Tp hk hd hu hret hexc
  have hi := I.inst
  have hdi := I.dict
  (refine' code_defQ (m' := fr2 (Str.ofString "tree") (Str.ofString "name") _ _) ?k1 ?k2 ?k3 ?k4 ?k5 ?kA ?kF ?kK ?k6 ?k7 ?k8 ?k9 ?kB ?kM ?_ ?c2 ?c3 ?c4 ?c5; (case kA => exact rfl); (case kF => exact rfl); (case kK => first | exact rfl | assumption); (case k1 => k_asm); (case k2 => k_asm); (case k3 => k_asm); (case k4 => k_asm); (case k5 => k_asm); (case k6 => k_is); (case k7 => k_is); (case k8 => ktr_room); (case k9 => exact BindsTo.of_eq rfl); (case c5 => decide); (case kB => exact locs rfl); (case kM => exact rfl); (case c2 => exact rfl); (case c3 => exact rfl); (case c4 => exact rfl); k_whole; intro gq Lq Sq Qo Eo hSq FGq Fq Nq Bq Xq Tq hQo hEo hPo; (try dsimp only))
  (repeat' ((fail_if_success (with_reducible show wpAny _ _ (exec (Stmt.For _ _ _ _ _) _) _ _ _)); first | (k_here; (with_reducible show wpAny _ _ (call (Value.builtin _) [Value.ref _, _]) _ _ _); k_dflt (refine append_K (by k_asm) (by k_asm) (by k_upd) ?_ (by assumption)); k_whole; intro h' F' N'; (try simp only [push_list] at N'); (try k_sweep)) | (k_unfold; (try dsimp only)) | (k_end; wrow_close) | walk1 | (dsimp only; walk1) | (leave1; walk_say "STEP leave1"; try dsimp only) | fail "no step")); all_goals (try (first | (refine hQo _ _ _ _ _ _ (by k_asm) (by k_asm) ?_; intro kF kN; (try dsimp only [valOf])) | (refine hEo _ _ _ ?_; (repeat' (first | (k_here; (with_reducible show wpAny _ _ (call (Value.builtin _) [Value.ref _, _]) _ _ _); k_dflt (refine append_K (by k_asm) (by k_asm) (by k_upd) ?_ (by assumption)); k_whole; intro h' F' N'; (try simp only [push_list] at N'); (try k_sweep)) | (k_unfold; (try dsimp only)) | (k_end; kc_close) | walk1 | (dsimp only; walk1) | (leave1; walk_say "STEP leave1"; (try dsimp only)) | fail "no step")))))
  refine For_turns (by k_asm) ?_
  (repeat' ((fail_if_success (with_reducible show wpAny _ _ (pyIter (Value.ref _)) _ _ _)); first | (k_here; (with_reducible show wpAny _ _ (call (Value.builtin _) [Value.ref _, _]) _ _ _); k_dflt (refine append_K (by k_asm) (by k_asm) (by k_upd) ?_ (by assumption)); k_whole; intro h' F' N'; (try simp only [push_list] at N'); (try k_sweep)) | (k_unfold; (try dsimp only)) | (k_end; wrow_close) | walk1 | (dsimp only; walk1) | (leave1; walk_say "STEP leave1"; try dsimp only) | fail "no step")); all_goals (try (first | (refine hQo _ _ _ _ _ _ (by k_asm) (by k_asm) ?_; intro kF kN; (try dsimp only [valOf])) | (refine hEo _ _ _ ?_; (repeat' (first | (k_here; (with_reducible show wpAny _ _ (call (Value.builtin _) [Value.ref _, _]) _ _ _); k_dflt (refine append_K (by k_asm) (by k_asm) (by k_upd) ?_ (by assumption)); k_whole; intro h' F' N'; (try simp only [push_list] at N'); (try k_sweep)) | (k_unfold; (try dsimp only)) | (k_end; kc_close) | walk1 | (dsimp only; walk1) | (leave1; walk_say "STEP leave1"; (try dsimp only)) | fail "no step")))))
  have NS := news_swap (by assumption)
  refine iter_listTurns rfl (by k_asm) NS (by exact .tail _ (.head _)) (by exact rfl) (by exact rfl) (fun I4 hI4 => ?_)
  refine items_acc (vs₀ := []) (Str.ofString "other") (Str.ofString "number") _ (fun i vs => IntsAre vs (numsTo (ssOf ‹StrsAre _ _›) i)) hI4 (ne_of_two (by assumption) (by assumption)) ?_ ?_ .nil
  · intro i a mx mx2 vs cc v h tk3 oi hDI hnD ha hP hav F3 hoi N3
    obtain ⟨o, tv, rfl, ho⟩ := strs_at (by assumption) ha
    have ev : v = Value.str o tv := hav
    subst ev
    obtain ⟨k, hkF, hle⟩ := leaves_mem (by assumption) ho
    have hvs : vs.toArray.size ≤ sizeLine := IntsAre.sz hP (Nat.le_trans (numsTo_len _ _) (leaves_len H (by assumption))) (by decide)
    by_cases hpos : 0 < numF k
    · ((repeat' (first | (k_here; (with_reducible show wpAny _ _ (call (Value.builtin _) [Value.ref _, _]) _ _ _); k_dflt (refine append_K (by k_asm) (by k_asm) (by k_upd) ?_ (by assumption)); k_whole; intro h' F' N'; (try simp only [push_list] at N'); (try k_sweep)) | (k_unfold; (try dsimp only)) | (k_end; kc_close) | walk1 | (dsimp only; walk1) | (leave1; walk_say "STEP leave1"; (try dsimp only)) | fail "no step")); all_goals (try (first | (refine hQo _ _ _ _ _ _ (by k_asm) (by k_asm) ?_; intro kF kN; (try dsimp only [valOf])) | (refine hEo _ _ _ ?_; (repeat' (first | (k_here; (with_reducible show wpAny _ _ (call (Value.builtin _) [Value.ref _, _]) _ _ _); k_dflt (refine append_K (by k_asm) (by k_asm) (by k_upd) ?_ (by assumption)); k_whole; intro h' F' N'; (try simp only [push_list] at N'); (try k_sweep)) | (k_unfold; (try dsimp only)) | (k_end; kc_close) | walk1 | (dsimp only; walk1) | (leave1; walk_say "STEP leave1"; (try dsimp only)) | fail "no step"))))))
      exact ⟨_, _, _, _, rfl, by k_asm, by k_asm, off_acc hI4, ⟨by k_mem, trivial⟩, two_only, _, _, rfl, (numsTo_hit ho hkF hle hpos).symm ▸ IntsAre.snoc hP _ _⟩
    · ((repeat' (first | (k_here; (with_reducible show wpAny _ _ (call (Value.builtin _) [Value.ref _, _]) _ _ _); k_dflt (refine append_K (by k_asm) (by k_asm) (by k_upd) ?_ (by assumption)); k_whole; intro h' F' N'; (try simp only [push_list] at N'); (try k_sweep)) | (k_unfold; (try dsimp only)) | (k_end; kc_close) | walk1 | (dsimp only; walk1) | (leave1; walk_say "STEP leave1"; (try dsimp only)) | fail "no step")); all_goals (try (first | (refine hQo _ _ _ _ _ _ (by k_asm) (by k_asm) ?_; intro kF kN; (try dsimp only [valOf])) | (refine hEo _ _ _ ?_; (repeat' (first | (k_here; (with_reducible show wpAny _ _ (call (Value.builtin _) [Value.ref _, _]) _ _ _); k_dflt (refine append_K (by k_asm) (by k_asm) (by k_upd) ?_ (by assumption)); k_whole; intro h' F' N'; (try simp only [push_list] at N'); (try k_sweep)) | (k_unfold; (try dsimp only)) | (k_end; kc_close) | walk1 | (dsimp only; walk1) | (leave1; walk_say "STEP leave1"; (try dsimp only)) | fail "no step"))))))
      exact ⟨_, _, _, _, rfl, by k_asm, by k_asm, off_acc hI4, ⟨by k_mem, trivial⟩, two_only, _, _, rfl, (numsTo_miss ho hkF hle hpos).symm ▸ hP⟩
  · intro mx mx2 vs cc h tk3 hP F3 N3
    (repeat' ((fail_if_success (with_reducible show wpAny _ _ (call (Value.builtin _) _) _ _ _)); first | (k_here; (with_reducible show wpAny _ _ (call (Value.builtin _) [Value.ref _, _]) _ _ _); k_dflt (refine append_K (by k_asm) (by k_asm) (by k_upd) ?_ (by assumption)); k_whole; intro h' F' N'; (try simp only [push_list] at N'); (try k_sweep)) | (k_unfold; (try dsimp only)) | (k_end; wrow_close) | walk1 | (dsimp only; walk1) | (leave1; walk_say "STEP leave1"; try dsimp only) | fail "no step")); all_goals (try (first | (refine hQo _ _ _ _ _ _ (by k_asm) (by k_asm) ?_; intro kF kN; (try dsimp only [valOf])) | (refine hEo _ _ _ ?_; (repeat' (first | (k_here; (with_reducible show wpAny _ _ (call (Value.builtin _) [Value.ref _, _]) _ _ _); k_dflt (refine append_K (by k_asm) (by k_asm) (by k_upd) ?_ (by assumption)); k_whole; intro h' F' N'; (try simp only [push_list] at N'); (try k_sweep)) | (k_unfold; (try dsimp only)) | (k_end; kc_close) | walk1 | (dsimp only; walk1) | (leave1; walk_say "STEP leave1"; (try dsimp only)) | fail "no step")))))
    refine kso_sorted (by k_asm) (by k_asm) ⟨_, (N3 _ (.head _)).1, rfl, _, rfl⟩ hP (nums_lt H (by assumption)) ?_
    intro D vs5 ns5 c5 h5 F5 N5 l5 i5 e5 p5 o5 b5
    ((repeat' (first | (k_here; (with_reducible show wpAny _ _ (call (Value.builtin _) [Value.ref _, _]) _ _ _); k_dflt (refine append_K (by k_asm) (by k_asm) (by k_upd) ?_ (by assumption)); k_whole; intro h' F' N'; (try simp only [push_list] at N'); (try k_sweep)) | (k_unfold; (try dsimp only)) | (k_end; kc_close) | walk1 | (dsimp only; walk1) | (leave1; walk_say "STEP leave1"; (try dsimp only)) | fail "no step")); all_goals (try (first | (refine hQo _ _ _ _ _ _ (by k_asm) (by k_asm) ?_; intro kF kN; (try dsimp only [valOf])) | (refine hEo _ _ _ ?_; (repeat' (first | (k_here; (with_reducible show wpAny _ _ (call (Value.builtin _) [Value.ref _, _]) _ _ _); k_dflt (refine append_K (by k_asm) (by k_asm) (by k_upd) ?_ (by assumption)); k_whole; intro h' F' N'; (try simp only [push_list] at N'); (try k_sweep)) | (k_unfold; (try dsimp only)) | (k_end; kc_close) | walk1 | (dsimp only; walk1) | (leave1; walk_say "STEP leave1"; (try dsimp only)) | fail "no step"))))))
    have hns := nums_done H (by assumption) (by rw [List.length_map]; exact StrsAre.length (by assumption)) p5 o5
    subst hns
    exact hret _ _ _ _ ⟨D, vs5, c5, rfl, rfl, fun q hq => l5 q (.tail _ (.tail _ hq)), i5⟩ (by k_asm) (news_fst2 (by assumption))
local macro_rules | `(tactic| walk_at "call ref") => `(tactic| (k_here; (with_reducible refine atRef 119 ?_); k_dflt (refine Call.useK (C := c_numbers_there (by walk_at "in tree") ‹_›) (hK := q_ldv) (ret := ?_); walk_at "swept")))

theorem top_F4 : True := by
  w_top off
  trivial
/-- the manner -/
structure Man where
  md : Addr
  way : Int
  copying : Bool
  oldest : Int
  newest : Int
  precious : Bool
  k0 : Tok
  k1 : Tok
  k2 : Tok
  k3 : Tok
  k4 : Tok
  k5 : Tok
  k6 : Tok
  k7 : Tok
  k8 : Tok
def manDict (w : World) (M : Man) : List DictEntry :=
  [⟨PyData.keyHash w.params (Str.ofString "wants_newline"), .str (Str.ofString "wants_newline") M.k0, .bool false⟩,
   ⟨PyData.keyHash w.params (Str.ofString "backups"), .str (Str.ofString "backups") M.k1, .int M.way M.k2⟩,
   ⟨PyData.keyHash w.params (Str.ofString "is_copying"), .str (Str.ofString "is_copying") M.k3, .bool M.copying⟩,
   ⟨PyData.keyHash w.params (Str.ofString "oldest"), .str (Str.ofString "oldest") M.k4, .int M.oldest M.k5⟩,
   ⟨PyData.keyHash w.params (Str.ofString "newest"), .str (Str.ofString "newest") M.k6, .int M.newest M.k7⟩,
   ⟨PyData.keyHash w.params (Str.ofString "is_precious"), .str (Str.ofString "is_precious") M.k8, .bool M.precious⟩]
structure Man.ok (M : Man) : Prop where
  way : 0 ≤ M.way ∧ M.way ≤ 3
  oldest : 0 ≤ M.oldest ∧ M.oldest ≤ 2
  newest : 0 ≤ M.newest ∧ M.newest ≤ 2
structure ManIn (w : World) (news : List (Addr × Obj)) (ma : Addr) (M : Man) : Prop where
  ok : M.ok
  inst : (ma, instObj 108 M.md) ∈ news
  dict : (M.md, dictOf (manDict w M) 6) ∈ news
theorem ManIn.cons {w : World} {news : List (Addr × Obj)} {ma : Addr} {M : Man} {p : Addr × Obj} (h : ManIn w news ma M) : ManIn w (p :: news) ma M := ⟨h.ok, .tail _ h.inst, .tail _ h.dict⟩
local macro_rules | `(tactic| walk_at "in man") => `(tactic| (repeat (first | with_reducible assumption | with_reducible apply ManIn.cons)))
/-- the numbers a tree may have -/
structure NumsOk (ns : List Int) : Prop where
  few : ns.length ≤ 3
  fit : ∀ n ∈ ns, 1 ≤ n ∧ n ≤ 12
def newNo (ns : List Int) : Int := ns.getLastD 0 + 1
/-- an end of a piece of the walk: the walk takes nothing of it apart -/
theorem CutA.mk {α : Type} {h₀ : Heap} {L : Addr} {m : Str → Option Value} {news all : List (Addr × Obj)} {P : α → Prop} {Qc : α → Shared → Prop} {S : Shared} (K : ∀ v h' tk, P v → Fr h₀ L h' m → News h₀ L h' news → Qc v { S with heap := h', toks := tk })
    {v : α} {h' : Heap} {tk : Nat} (hP : P v) (F : Fr h₀ L h' m) (N : News h₀ L h' all) (sub : ∀ p ∈ news, p ∈ all) : Qc v { S with heap := h', toks := tk } :=
  K v h' tk hP F fun p hp => N p (sub p hp)
theorem cutA {α : Type} {M : Model} {A : Around} {x : Sem α} {Q : α → Shared → Prop} {E : Value → Shared → Prop} {s S : Shared} {h₀ : Heap} {L : Addr} {m : Str → Option Value} {news : List (Addr × Obj)} (P : α → Prop) (_F : Fr h₀ L s.heap m) (_N : News h₀ L s.heap news)
    (h : ∀ Qc : α → Shared → Prop, (∀ v h' tk, P v → Fr h₀ L h' m → News h₀ L h' news → Qc v { S with heap := h', toks := tk }) → wpAny M A x Qc E s) (k : ∀ v h' tk, P v → Fr h₀ L h' m → News h₀ L h' news → Q v { S with heap := h', toks := tk }) (_ : IsBase S := by assumption) : wpAny M A x Q E s := h Q k
section
variable {prog : Program} {w : World} {A : Around} {s : Shared} {h₀ : Heap} {L : Addr} {m : Str → Option Value} {env : Env}
theorem compU_ind {elt : PySem.Expr} {x : Str} {scope : Scope} {cl : List (Str × Addr)} {S : List (Addr × Obj) → Prop} {P : Nat → Value → Prop} {Fin : List Value → List (Addr × Obj) → Prop} {n : Nat} {news : List (Addr × Obj)} (Inv : Nat → List Value → Prop)
    (hstep : ∀ i ys v I oI C oC D m₂ h tk (E' : Value → Shared → Prop), i < n → Inv i ys → P i v → LCg.NsObj oC m₂ → m₂ x = some v → Fr h₀ L h m → News h₀ L h ((I, oI) :: (C, oC) :: (D, LCg.lst ys) :: news) → LCg.Off3 I C D news → ((@Ne Nat I C) ∧ (@Ne Nat I D) ∧ (@Ne Nat C D)) →
      wpAny (model prog w) A (eval elt (compEnvC scope cl C env)) (LCg.CompEnd h₀ L m { s with heap := h, toks := tk } I oI C oC D (LCg.lst ys) S (fun y news' => news' = news ∧ Inv (i + 1) (ys ++ [y]))) E' { s with heap := h, toks := tk })
    (hfin : ∀ ys, Inv n ys → Fin ys news) : ∀ k i ys, i + k = n → Inv i ys → LCg.CompRest prog w A h₀ L m env elt x scope cl s S P Fin k i ys news := by
  intro k
  induction k with
  | zero =>
    intro i ys e hI
    have e' : i = n := e
    subst e'
    exact LCg.CompRest.zero (hfin ys hI)
  | succ k ih =>
    intro i ys e hI
    refine LCg.CompRest.succ fun v I oI C oC D m₂ h tk E' hp ho hm F N off ne => wpAny_mono (hstep i ys v I oI C oC D m₂ h tk E' (by omega) hI hp ho hm F N off ne) (fun y s₅ h₅ => ?_) fun _ _ e => e
    obtain ⟨h', tk', news', e1, F', N', off', hS', rfl, hI'⟩ := h₅
    exact ⟨h', tk', news', e1, F', N', off', hS', ih (i + 1) _ (by omega) hI'⟩
theorem ints_at {vs : List Value} {ns : List Int} (h : IntsAre vs ns) {i : Nat} {v : Value} (hv : vs[i]? = some v) : ∃ n t, v = .int n t ∧ ns[i]? = some n := by
  induction h generalizing i with
  | nil => simp at hv
  | cons y u _ ih =>
    cases i with
    | zero => simp only [List.getElem?_cons_zero, Option.some.injEq] at hv; exact ⟨y, u, hv.symm, rfl⟩
    | succ i => simp only [List.getElem?_cons_succ] at hv ⊢; exact ih hv
/-- a comprehension over a list of ints that gives texts -/
theorem compSrc_ints {elt : PySem.Expr} {x : Str} {scope : Scope} {cl : List (Str × Addr)} {Fin : Shared → List Value → List (Addr × Obj) → Prop} {l : Addr} {vs : List Value} {ns : List Int} {c : Nat} {news : List (Addr × Obj)} (hh : A.handled = none)
    (F : Fr h₀ L s.heap m) (N : News h₀ L s.heap news) (hm : (l, listOf vs.toArray c) ∈ news) (hi : IntsAre vs ns) (hsz : ns.length ≤ 1000) (f : Int → Str) {lo hi' : Int} (hb : ∀ n ∈ ns, lo ≤ n ∧ n ≤ hi')
    (hstep : ∀ n t ys I oI C oC D m₂ h tk (E' : Value → Shared → Prop) g, lo ≤ n → n ≤ hi' → LCg.NsObj oC m₂ → m₂ x = some (.int n t) → Fr h₀ L h m → News h₀ L h ((I, oI) :: (C, oC) :: (D, LCg.lst ys) :: news) → LCg.Off3 I C D news → ((@Ne Nat I C) ∧ (@Ne Nat I D) ∧ (@Ne Nat C D)) →
      wpAny (model prog w) A (eval elt (compEnvC scope cl C env)) (LCg.CompEnd h₀ L m { ({ s with heap := g } : Shared) with heap := h, toks := tk } I oI C oC D (LCg.lst ys) (LCg.SrcAt h₀ l vs.toArray) (fun y news' => news' = news ∧ ∃ t', y = .str (f n) t')) E' { ({ s with heap := g } : Shared) with heap := h, toks := tk })
    (hfin : ∀ g ys, StrsAre ys (ns.map f) → Fin { s with heap := g } ys news) : LCg.CompSrc prog w A h₀ L m env elt x scope cl Fin (.ref l) s := by
  refine LCg.CompSrc.ledger hh F N hm (IntsAre.sz hi hsz (by decide)) fun g => ?_
  have hn : vs.toArray.size = ns.length := by rw [List.size_toArray]; exact IntsAre.length hi
  refine compU_ind (fun i ys => StrsAre ys ((ns.take i).map f)) ?_ ?_ _ 0 [] (Nat.zero_add _) .nil
  · intro i ys v I oI C oC D m₂ h tk E' hlt hI hP hNs hm₂ F₂ N₂ off hne
    obtain ⟨n, t, rfl, hn⟩ := ints_at hi (by simpa using hP)
    refine wpAny_mono (hstep n t ys I oI C oC D m₂ h tk E' g (hb n (List.mem_of_getElem? hn)).1 (hb n (List.mem_of_getElem? hn)).2 hNs hm₂ F₂ N₂ off hne) (fun y s₅ h₅ => ?_) fun _ _ e => e
    obtain ⟨h', tk', news', e1, F', N', off', hS', e2, t', e3⟩ := h₅
    refine ⟨h', tk', news', e1, F', N', off', hS', e2, ?_⟩
    rw [List.take_add_one, hn, List.map_append, e3]
    exact StrsAre.snoc hI _ _
  · intro ys hI
    rw [hn, List.take_length] at hI
    exact hfin g ys hI
end
def tupObj (a b : Value) : Obj := { cls := Value.type "tuple", data := Data.seq #[a, b] }
theorem news_t1 {h₀ h : Heap} {L : Addr} {a b : Addr × Obj} {R : List (Addr × Obj)} (N : News h₀ L h (a :: R)) : News h₀ L h R := fun p hp => N p (.tail _ hp)
theorem lt_of_mem {d : Addr} {R : List (Addr × Obj)} (h : AllLt d R) : ∀ q ∈ R, q.1 < d := allLt_to h
/-- what the plan of a backup is: its name and the names to be deleted -/
def PlanR (news : List (Addr × Obj)) (nm : Str) (ex : List Str) (r : Value) (n' : List (Addr × Obj)) : Prop :=
  ∃ D l t vs c, n' = (D, tupObj (.str nm t) (.ref l)) :: (l, listOf vs.toArray c) :: news ∧ r = .ref D ∧ (∀ q ∈ news, q.1 ≠ l) ∧ (∀ q ∈ news, q.1 < D) ∧ @LT.lt Nat _ l D ∧ StrsAre vs ex
theorem q_plan {news : List (Addr × Obj)} {nm : Str} {ex : List Str} : KR (PlanR news nm ex) (fun k => ∀ D l t vs c, (∀ q ∈ news, q.1 ≠ l) → (∀ q ∈ news, q.1 < D) → @LT.lt Nat _ l D → StrsAre vs ex →
    k (.ref D) ((D, tupObj (.str nm t) (.ref l)) :: (l, listOf vs.toArray c) :: news)) := by
  rintro k h _ _ ⟨D, l, t, vs, c, rfl, rfl, p, p1, p2, p3⟩; exact h D l t vs c p p1 p2 p3
theorem allLt_ne {d : Addr} {R : List (Addr × Obj)} (h : AllLt d R) : ∀ q ∈ R, q.1 ≠ d := fun q hq => Nat.ne_of_lt (allLt_to h q hq)
theorem off1_to {D : Addr} {l : List (Addr × Obj)} (h : LCg.Off1 D l) : ∀ p ∈ l, p.1 ≠ D := by
  induction l with
  | nil => intro p hp; cases hp
  | cons x r ih =>
    intro p hp
    rcases List.mem_cons.mp hp with e | hp
    · rw [e]; exact h.1
    · exact ih h.2 p hp
set_option maxRecDepth 100000 in
set_option maxHeartbeats 2000000 in
theorem c_plan0 {w : World} {news : List (Addr × Obj)} {ta ma : Addr} {M : Man} {tx : Tok} (IM : ManIn w news ma M) (hw : M.way = 0) :
    Call w 7 124 [.ref ta, .str (Str.ofString "/d/f") tx, .ref ma] news (PlanR news (Str.ofString "") []) (fun _ => False) := by
  intro dp un gd cn cs a ccd cl outer A₀ base h₀ L m s Q E mean mg mb B F X N Tp hk hd hu hret hexc
  have hmi := IM.inst
  have hmd := IM.dict
  unfold manDict at hmd
  rw [hw] at hmd
  (refine' code_defCQ ?k1 ?k2 ?k3 ?k4 ?k5 ?kA ?kF ?kK ?k6 ?k7 ?k8 ?k9 ?kB ?kD ?_ ?c2 ?c3 ?c4; (case kA => exact rfl); (case kF => exact rfl); (case kK => first | exact rfl | assumption); (case k1 => k_asm); (case k2 => k_asm); (case k3 => k_asm); (case k4 => k_asm); (case k5 => k_asm); (case k6 => k_is); (case k7 => k_is); (case k8 => ktr_room); (case k9 => exact BindsTo.of_eq rfl); (case kB => exact rfl); (case kD => decide +kernel); (case c2 => exact rfl); (case c3 => exact rfl); (case c4 => exact rfl); k_whole; intro g' L' Sq Qo Eo cells' hSq FG' F' N' Y' B' X' T' l1 hQo hEo hPo; (try k_lt l1); k_cells Y'; (try simp only [List.cons_append, List.nil_append] at N'); (try dsimp only))
  (k_steps; all_goals (try (first | (refine hQo _ _ _ _ _ _ (by k_asm) (by k_asm) ?_; intro kF kN; (try dsimp only [valOf])) | (refine hEo _ _ _ ?_; k_steps))))
  obtain ⟨q1, q2⟩ := ‹L' + 1 < _ ∧ AllLt _ news›
  exact hret _ _ _ _ ⟨_, _, _, [], 0, rfl, rfl, allLt_ne q2, allLt_to (‹_ < _ ∧ L' + 1 < _ ∧ AllLt _ news›).2.2, (‹_ < _ ∧ L' + 1 < _ ∧ AllLt _ news›).1, .nil⟩ (by k_asm) (cb_drop (by assumption) (fun p hp => by (repeat (rcases List.mem_cons.mp hp with rfl | hp; · (repeat (first | exact List.mem_cons_self | refine List.mem_cons_of_mem _ ?_)))); (repeat (first | exact hp | refine List.mem_cons_of_mem _ ?_))))
set_option maxRecDepth 100000 in
set_option maxHeartbeats 2000000 in
theorem c_plan1 {w : World} {news : List (Addr × Obj)} {ta ma : Addr} {T : Ft} {g : Files} {M : Man} {tx : Tok} (I : FtIn w news ta T) (H : Has T.abs g) (IM : ManIn w news ma M) (hw : M.way = 1 ∨ (M.way = 3 ∧ nums g = [])) (hfew : (nums g).length ≤ 3) :
    Call w 7 124 [.ref ta, .str (Str.ofString "/d/f") tx, .ref ma] news (PlanR news (Str.ofString "/d/f~") []) (fun _ => False) := by
  intro dp un gd cn cs a ccd cl outer A₀ base h₀ L m s Q E mean mg mb B F X N Tp hk hd hu hret hexc
  have hi := I.inst
  have hdi := I.dict
  have hmi := IM.inst
  have hmd := IM.dict
  unfold manDict at hmd
  rcases hw with hw | ⟨hw, hnil⟩
  · rw [hw] at hmd
    (refine' code_defCQ ?k1 ?k2 ?k3 ?k4 ?k5 ?kA ?kF ?kK ?k6 ?k7 ?k8 ?k9 ?kB ?kD ?_ ?c2 ?c3 ?c4; (case kA => exact rfl); (case kF => exact rfl); (case kK => first | exact rfl | assumption); (case k1 => k_asm); (case k2 => k_asm); (case k3 => k_asm); (case k4 => k_asm); (case k5 => k_asm); (case k6 => k_is); (case k7 => k_is); (case k8 => ktr_room); (case k9 => exact BindsTo.of_eq rfl); (case kB => exact rfl); (case kD => decide +kernel); (case c2 => exact rfl); (case c3 => exact rfl); (case c4 => exact rfl); k_whole; intro g' L' Sq Qo Eo cells' hSq FG' F' N' Y' B' X' T' l1 hQo hEo hPo; (try k_lt l1); k_cells Y'; (try simp only [List.cons_append, List.nil_append] at N'); (try dsimp only))
    (k_steps; all_goals (try (first | (refine hQo _ _ _ _ _ _ (by k_asm) (by k_asm) ?_; intro kF kN; (try dsimp only [valOf])) | (refine hEo _ _ _ ?_; k_steps))))
    exact hret _ _ _ _ ⟨_, _, _, [], 0, rfl, rfl, allLt_ne (‹_ < _ ∧ L' + 1 < _ ∧ AllLt _ news›).2.2, allLt_to (‹_ < _ ∧ _ < _ ∧ L' + 1 < _ ∧ AllLt _ news›).2.2.2, (‹_ < _ ∧ _ < _ ∧ L' + 1 < _ ∧ AllLt _ news›).1, .nil⟩ (by k_asm) (cb_drop (by assumption) (fun p hp => by (repeat (rcases List.mem_cons.mp hp with rfl | hp; · (repeat (first | exact List.mem_cons_self | refine List.mem_cons_of_mem _ ?_)))); (repeat (first | exact hp | refine List.mem_cons_of_mem _ ?_))))
  · rw [hw] at hmd
    have hdec : decide (nums g = []) = true := decide_eq_true hnil
    (refine' code_defCQ ?k1 ?k2 ?k3 ?k4 ?k5 ?kA ?kF ?kK ?k6 ?k7 ?k8 ?k9 ?kB ?kD ?_ ?c2 ?c3 ?c4; (case kA => exact rfl); (case kF => exact rfl); (case kK => first | exact rfl | assumption); (case k1 => k_asm); (case k2 => k_asm); (case k3 => k_asm); (case k4 => k_asm); (case k5 => k_asm); (case k6 => k_is); (case k7 => k_is); (case k8 => ktr_room); (case k9 => exact BindsTo.of_eq rfl); (case kB => exact rfl); (case kD => decide +kernel); (case c2 => exact rfl); (case c3 => exact rfl); (case c4 => exact rfl); k_whole; intro g' L' Sq Qo Eo cells' hSq FG' F' N' Y' B' X' T' l1 hQo hEo hPo; (try k_lt l1); k_cells Y'; (try simp only [List.cons_append, List.nil_append] at N'); (try dsimp only))
    (k_steps; all_goals (try (first | (refine hQo _ _ _ _ _ _ (by k_asm) (by k_asm) ?_; intro kF kN; (try dsimp only [valOf])) | (refine hEo _ _ _ ?_; k_steps))))
    exact hret _ _ _ _ ⟨_, _, _, [], 0, rfl, rfl, allLt_ne (‹_ < _ ∧ _ < _ ∧ L' + 1 < _ ∧ AllLt _ news›).2.2.2, allLt_to (‹_ < _ ∧ _ < _ ∧ _ < _ ∧ L' + 1 < _ ∧ AllLt _ news›).2.2.2.2, (‹_ < _ ∧ _ < _ ∧ _ < _ ∧ L' + 1 < _ ∧ AllLt _ news›).1, .nil⟩ (by k_asm) (cb_drop (by assumption) (fun p hp => by (repeat (rcases List.mem_cons.mp hp with rfl | hp; · (repeat (first | exact List.mem_cons_self | refine List.mem_cons_of_mem _ ?_)))); (repeat (first | exact hp | refine List.mem_cons_of_mem _ ?_))))

theorem top_F5 : True := by
  w_top off
  trivial
def extraNs (ns : List Int) (o n : Int) : List Int :=
  List.take (min (if ((ns.length + 1 : Nat) : Int) - (if n > 1 then n else 1) > o then ((ns.length + 1 : Nat) : Int) - (if n > 1 then n else 1) else o).toNat (ns ++ [newNo ns]).length - o.toNat) (List.drop o.toNat (ns ++ [newNo ns]))
theorem newNo_fit {ns : List Int} (h : ∀ n ∈ ns, 1 ≤ n ∧ n ≤ 12) : 1 ≤ newNo ns ∧ newNo ns ≤ 13 := by
  unfold newNo
  cases ns with
  | nil => decide
  | cons a r =>
    have h1 := h ((a :: r).getLastD 0) (by rw [List.getLastD_cons]; exact List.getLastD_mem_cons)
    omega
theorem slice_sub {ns : List Int} {a b : Nat} {n : Int} (h : n ∈ (ns.drop a).take b) : n ∈ ns := List.mem_of_mem_drop (List.mem_of_mem_take h)
theorem slice_bnd {ns : List Int} {a b : Nat} (h : ∀ n ∈ ns, 1 ≤ n ∧ n ≤ 13) : ∀ n ∈ (ns.drop a).take b, 1 ≤ n ∧ n ≤ 13 := fun n hn => h n (slice_sub hn)
theorem slice_len {ns : List Int} {no : Int} {a b : Nat} (h : ns.length ≤ 3) : (((ns ++ [no]).drop a).take b).length ≤ 1000 := by
  rw [List.length_take, List.length_drop, List.length_append, List.length_singleton]
  omega
theorem snoc_bnd {ns : List Int} {no : Int} (h : ∀ n ∈ ns, 1 ≤ n ∧ n ≤ 12) (h1 : 1 ≤ no) (h2 : no ≤ 13) : ∀ n ∈ ns ++ [no], 1 ≤ n ∧ n ≤ 13 := fun n hn => by
  rcases List.mem_append.mp hn with hn | hn
  · have := h n hn; omega
  · rw [List.mem_singleton.mp hn]; exact ⟨h1, h2⟩
section
local macro_rules | `(tactic| walk_at "CompSrc") => `(tactic| (k_here; k_dflt (refine compSrc_ints rfl ‹_› ‹_› (by exact .head _) ‹_› (slice_len ‹_›) nmn (slice_bnd ‹_›) ?_ ?_)))
set_option maxRecDepth 100000 in
set_option maxHeartbeats 2000000 in
theorem c_planN {w : World} {news : List (Addr × Obj)} {ta ma : Addr} {T : Ft} {g : Files} {M : Man} {tx : Tok} (I : FtIn w news ta T) (H : Has T.abs g) (IM : ManIn w news ma M) (hN : NumsOk (nums g)) (hw : M.way = 2 ∨ (M.way = 3 ∧ nums g ≠ [])) :
    Call w 7 124 [.ref ta, .str (Str.ofString "/d/f") tx, .ref ma] news (PlanR news (nmn (newNo (nums g))) ((extraNs (nums g) M.oldest M.newest).map nmn)) (fun _ => False) := by
  intro dp un gd cn cs a ccd cl outer A₀ base h₀ L m s Q E mean mg mb B F X N Tp hk hd hu hret hexc
  have hi := I.inst
  have hdi := I.dict
  have hmi := IM.inst
  have hmd := IM.dict
  obtain ⟨hw1, ho1, hn1⟩ := IM.ok
  obtain ⟨hfew, hfit⟩ := hN
  unfold manDict at hmd
  (refine' code_defCQ ?k1 ?k2 ?k3 ?k4 ?k5 ?kA ?kF ?kK ?k6 ?k7 ?k8 ?k9 ?kB ?kD ?_ ?c2 ?c3 ?c4; (case kA => exact rfl); (case kF => exact rfl); (case kK => first | exact rfl | assumption); (case k1 => k_asm); (case k2 => k_asm); (case k3 => k_asm); (case k4 => k_asm); (case k5 => k_asm); (case k6 => k_is); (case k7 => k_is); (case k8 => ktr_room); (case k9 => exact BindsTo.of_eq rfl); (case kB => exact rfl); (case kD => decide +kernel); (case c2 => exact rfl); (case c3 => exact rfl); (case c4 => exact rfl); k_whole; intro g' L' Sq Qo Eo cells' hSq FG' F' N' Y' B' X' T' l1 hQo hEo hPo; (try k_lt l1); k_cells Y'; (try simp only [List.cons_append, List.nil_append] at N'); (try dsimp only))
  (repeat' ((fail_if_success (with_reducible show wpAny _ _ (exec (Stmt.If (PySem.Expr.BoolOp _ _ _) _ _ _) _) _ _ _)); first | (k_unfold; (try dsimp only)) | (k_end; wrow_close) | walk1 | (dsimp only; walk1) | (leave1; walk_say "STEP leave1"; try dsimp only) | fail "no step")); all_goals (try (first | (refine hQo _ _ _ _ _ _ (by k_asm) (by k_asm) ?_; intro kF kN; (try dsimp only [valOf])) | (refine hEo _ _ _ ?_; (k_steps; all_goals (try (first | (refine hQo _ _ _ _ _ _ (by k_asm) (by k_asm) ?_; intro kF kN; (try dsimp only [valOf])) | (refine hEo _ _ _ ?_; k_steps)))))))
  · exfalso; omega
  refine cutA (fun fl => fl = Flow.next) (by k_asm) (by k_asm) (fun Qc hQc => ?_) ?_
  · rcases hw with hw | ⟨hw, hnil⟩
    · rw [hw] at hmd
      (k_steps; all_goals (try (first | (refine hQo _ _ _ _ _ _ (by k_asm) (by k_asm) ?_; intro kF kN; (try dsimp only [valOf])) | (refine hEo _ _ _ ?_; k_steps))))
      exact CutA.mk hQc rfl (by k_asm) (by k_asm) (fun p hp => hp)
    · rw [hw] at hmd
      have hdec : decide (nums g = []) = false := decide_eq_false hnil
      (k_steps; all_goals (try (first | (refine hQo _ _ _ _ _ _ (by k_asm) (by k_asm) ?_; intro kF kN; (try dsimp only [valOf])) | (refine hEo _ _ _ ?_; k_steps))))
      exact CutA.mk hQc rfl (by k_asm) (by k_asm) (fun p hp => .tail _ hp)
  rintro _ h3 tk3 rfl F3 N3
  try dsimp only
  (repeat' ((fail_if_success (with_reducible show wpAny _ _ (eval (PySem.Expr.IfExp _ _ _ _) _) _ _ _)); first | (k_unfold; (try dsimp only)) | (k_end; wrow_close) | walk1 | (dsimp only; walk1) | (leave1; walk_say "STEP leave1"; try dsimp only) | fail "no step")); all_goals (try (first | (refine hQo _ _ _ _ _ _ (by k_asm) (by k_asm) ?_; intro kF kN; (try dsimp only [valOf])) | (refine hEo _ _ _ ?_; (k_steps; all_goals (try (first | (refine hQo _ _ _ _ _ _ (by k_asm) (by k_asm) ?_; intro kF kN; (try dsimp only [valOf])) | (refine hEo _ _ _ ?_; k_steps)))))))
  refine cutA (fun v => ∃ t, v = .int (newNo (nums g)) t) F3 N3 (fun Qc hQc => ?_) ?_
  · generalize nums g = ns at *
    rcases few_cases hfew with rfl | ⟨a, rfl⟩ | ⟨a, b, rfl⟩ | ⟨a, b, c, rfl⟩
    · skip
      have hdec : decide (([] : List Int) = []) = true := rfl
      (k_steps; all_goals (try (first | (refine hQo _ _ _ _ _ _ (by k_asm) (by k_asm) ?_; intro kF kN; (try dsimp only [valOf])) | (refine hEo _ _ _ ?_; k_steps))))
      exact CutA.mk hQc ⟨_, rfl⟩ (by k_asm) (by k_asm) (fun p hp => .tail _ hp)
    · skip
      have hdec : decide ([a] = []) = false := rfl
      (k_steps; all_goals (try (first | (refine hQo _ _ _ _ _ _ (by k_asm) (by k_asm) ?_; intro kF kN; (try dsimp only [valOf])) | (refine hEo _ _ _ ?_; k_steps))))
      exact CutA.mk hQc ⟨_, rfl⟩ (by k_asm) (by k_asm) (fun p hp => .tail _ hp)
    · skip
      have hdec : decide ([a, b] = []) = false := rfl
      (k_steps; all_goals (try (first | (refine hQo _ _ _ _ _ _ (by k_asm) (by k_asm) ?_; intro kF kN; (try dsimp only [valOf])) | (refine hEo _ _ _ ?_; k_steps))))
      exact CutA.mk hQc ⟨_, rfl⟩ (by k_asm) (by k_asm) (fun p hp => .tail _ hp)
    · skip
      have hdec : decide ([a, b, c] = []) = false := rfl
      (k_steps; all_goals (try (first | (refine hQo _ _ _ _ _ _ (by k_asm) (by k_asm) ?_; intro kF kN; (try dsimp only [valOf])) | (refine hEo _ _ _ ?_; k_steps))))
      exact CutA.mk hQc ⟨_, rfl⟩ (by k_asm) (by k_asm) (fun p hp => .tail _ hp)
  rintro _ h4 tk4 ⟨t4, rfl⟩ F4 N4
  try dsimp only
  have hno := newNo_fit hfit
  generalize hnoe : newNo (nums g) = no at hno ⊢
  obtain ⟨hno1, hno2⟩ := hno
  have hbnd := snoc_bnd hfit hno1 hno2
  (k_steps; all_goals (try (first | (refine hQo _ _ _ _ _ _ (by k_asm) (by k_asm) ?_; intro kF kN; (try dsimp only [valOf])) | (refine hEo _ _ _ ?_; k_steps))))
  · exact ⟨_, _, _, rfl, by k_asm, by k_asm, by k_asm, .inr ⟨_, .head _, rfl, _, rfl⟩, rfl, _, rfl⟩
  · subst hnoe
    exact hret _ _ _ _ ⟨_, _, _, _, _, rfl, rfl, off1_to (‹_ ≠ _ ∧ _ ≠ _ ∧ _ ≠ _ ∧ _ ≠ _ ∧ L' + 1 ≠ _ ∧ LCg.Off1 _ news›).2.2.2.2.2, allLt_to (‹_ < _ ∧ _ < _ ∧ _ < _ ∧ _ < _ ∧ _ < _ ∧ L' + 1 < _ ∧ AllLt _ news›).2.2.2.2.2.2, (‹_ < _ ∧ _ < _ ∧ _ < _ ∧ _ < _ ∧ _ < _ ∧ L' + 1 < _ ∧ AllLt _ news›).1, by assumption⟩ (by k_asm) (cb_drop (by assumption) (fun p hp => by (repeat (rcases List.mem_cons.mp hp with rfl | hp; · (repeat (first | exact List.mem_cons_self | refine List.mem_cons_of_mem _ ?_)))); (repeat (first | exact hp | refine List.mem_cons_of_mem _ ?_))))
end
local macro_rules | `(tactic| walk_at "no such step 1") => `(tactic| fail)
local macro_rules | `(tactic| walk_at "no such step 2") => `(tactic| fail)
def wayOf (M : Man) (ns : List Int) : Int := if M.way = 3 then (if ns = [] then 1 else 2) else M.way
@[irreducible] def planName (M : Man) (ns : List Int) : Str := if wayOf M ns = 0 then Str.ofString "" else if wayOf M ns = 1 then Str.ofString "/d/f~" else nmn (newNo ns)
@[irreducible] def planExtra (M : Man) (ns : List Int) : List Str := if wayOf M ns = 2 then (extraNs ns M.oldest M.newest).map nmn else []
theorem c_plan {w : World} {news : List (Addr × Obj)} {ta ma : Addr} {T : Ft} {g : Files} {M : Man} {tx : Tok} (I : FtIn w news ta T) (H : Has T.abs g) (IM : ManIn w news ma M) (hN : NumsOk (nums g)) :
    Call w 7 124 [.ref ta, .str (Str.ofString "/d/f") tx, .ref ma] news (PlanR news (planName M (nums g)) (planExtra M (nums g))) (fun _ => False) := by
  obtain ⟨h0, h3⟩ := IM.ok.way
  by_cases h : M.way = 0
  · have e : wayOf M (nums g) = 0 := by unfold wayOf; rw [if_neg (by omega)]; exact h
    have e1 : planName M (nums g) = Str.ofString "" := by unfold planName; rw [if_pos e]
    have e2 : planExtra M (nums g) = [] := by unfold planExtra; rw [e, if_neg (by decide)]
    rw [e1, e2]
    exact c_plan0 IM h
  by_cases h1 : M.way = 1 ∨ (M.way = 3 ∧ nums g = [])
  · have e : wayOf M (nums g) = 1 := by
      unfold wayOf
      rcases h1 with h1 | ⟨h1, h2⟩
      · rw [if_neg (by omega)]; exact h1
      · rw [if_pos h1, if_pos h2]
    have e1 : planName M (nums g) = Str.ofString "/d/f~" := by unfold planName; rw [e, if_neg (by decide), if_pos rfl]
    have e2 : planExtra M (nums g) = [] := by unfold planExtra; rw [e, if_neg (by decide)]
    rw [e1, e2]
    exact c_plan1 I H IM h1 hN.few
  · have h2 : M.way = 2 ∨ (M.way = 3 ∧ nums g ≠ []) := by
      by_cases h4 : M.way = 3
      · exact .inr ⟨h4, fun q => h1 (.inr ⟨h4, q⟩)⟩
      · exact .inl (by omega)
    have e : wayOf M (nums g) = 2 := by
      unfold wayOf
      rcases h2 with h2 | ⟨h2, h5⟩
      · rw [if_neg (by omega)]; exact h2
      · rw [if_pos h2, if_neg h5]
    have e1 : planName M (nums g) = nmn (newNo (nums g)) := by unfold planName; rw [e, if_neg (by decide), if_neg (by decide)]
    have e2 : planExtra M (nums g) = (extraNs (nums g) M.oldest M.newest).map nmn := by unfold planExtra; rw [e, if_pos rfl]
    rw [e1, e2]
    exact c_planN I H IM hN h2
local macro_rules | `(tactic| walk_at "call ref") => `(tactic| (k_here; (with_reducible refine atRef 124 ?_); k_dflt (refine Call.useK (C := c_plan (by walk_at "in tree") ‹_› (by walk_at "in man") ‹_›) (hK := q_plan) (ret := ?_); walk_at "swept")))

theorem top_G1 : True := by
  w_top off
  trivial
/-- steps done one after the other -/
def run (ops : List (Files → Files)) (g : Files) : Files := ops.foldl (fun g f => f g) g
theorem run_app (a b : List (Files → Files)) (g : Files) : run (a ++ b) g = run b (run a g) := by unfold run; rw [List.foldl_append]
/-- so many steps are left where all of these have been done -/
def Done (l : Int) (k : Nat) (l' : Int) : Prop := (l < 0 ∧ l' = l) ∨ ((k : Int) ≤ l ∧ l' = l - k)
def TR (w : World) (ta : Addr) (T : Ft) (rest : List (Addr × Obj)) (g : Files) (ops : List (Files → Files)) (n' : List (Addr × Obj)) : Prop :=
  ∃ T', n' = T'.objs w ta ++ rest ∧ Own w ta T' rest ∧ Done T.left ops.length T'.left ∧ Has T'.abs (run ops g)
def TX (w : World) (ta : Addr) (T : Ft) (rest : List (Addr × Obj)) (g : Files) (ops : List (Files → Files)) (n' : List (Addr × Obj)) : Prop :=
  ∃ T', n' = T'.objs w ta ++ rest ∧ Own w ta T' rest ∧ 0 ≤ T.left ∧ T.left < ops.length ∧ Has T'.abs (run (ops.take T.left.toNat) g)
theorem q_TR {w : World} {ta : Addr} {T : Ft} {rest : List (Addr × Obj)} {g : Files} {ops : List (Files → Files)} :
    KR (fun _ n' => TR w ta T rest g ops n') (fun k => ∀ r T', Own w ta T' rest → Done T.left ops.length T'.left → Has T'.abs (run ops g) → k r (T'.objs w ta ++ rest)) := by
  rintro k h r _ ⟨T', rfl, O, d, H⟩; exact h r T' O d H
theorem q_VTR {V : Value} {w : World} {ta : Addr} {T : Ft} {rest : List (Addr × Obj)} {g : Files} {ops : List (Files → Files)} :
    KR (fun r n' => r = V ∧ TR w ta T rest g ops n') (fun k => ∀ T', Own w ta T' rest → Done T.left ops.length T'.left → Has T'.abs (run ops g) → k V (T'.objs w ta ++ rest)) := by
  rintro k h r _ ⟨rfl, T', rfl, O, d, H⟩; exact h T' O d H
theorem q_STR {X : Str} {w : World} {ta : Addr} {T : Ft} {rest : List (Addr × Obj)} {g : Files} {ops : List (Files → Files)} :
    KR (fun r n' => (∃ t, r = .str X t) ∧ TR w ta T rest g ops n') (fun k => ∀ t T', Own w ta T' rest → Done T.left ops.length T'.left → Has T'.abs (run ops g) → k (.str X t) (T'.objs w ta ++ rest)) := by
  rintro k h r _ ⟨⟨t, rfl⟩, T', rfl, O, d, H⟩; exact h t T' O d H
theorem Done.zero (l : Int) (h : True) : Done l 0 l := by unfold Done; omega
theorem Done.trans {l l' l'' : Int} {a b : Nat} (h : Done l a l') (h' : Done l' b l'') : Done l (a + b) l'' := by
  rcases h with ⟨h1, rfl⟩ | ⟨h1, rfl⟩
  · rcases h' with ⟨h2, rfl⟩ | ⟨h2, rfl⟩
    · exact .inl ⟨h1, rfl⟩
    · exact absurd h1 (Int.not_lt.mpr (Int.le_trans (Int.natCast_nonneg _) h2))
  · rcases h' with ⟨h2, rfl⟩ | ⟨h2, rfl⟩
    · exact absurd h2 (Int.not_lt.mpr (Int.sub_nonneg_of_le h1))
    · exact .inr ⟨by omega, by omega⟩
theorem TR.trans {w : World} {ta : Addr} {T T1 : Ft} {rest n' : List (Addr × Obj)} {g : Files} {a b : List (Files → Files)} (h : Done T.left a.length T1.left) (h' : TR w ta T1 rest (run a g) b n') : TR w ta T rest g (a ++ b) n' := by
  obtain ⟨T', e, O, d, H⟩ := h'
  exact ⟨T', e, O, by rw [List.length_append]; exact h.trans d, by rw [run_app]; exact H⟩
theorem TX.trans {w : World} {ta : Addr} {T T1 : Ft} {rest n' : List (Addr × Obj)} {g : Files} {a b : List (Files → Files)} (h : Done T.left a.length T1.left) (h' : TX w ta T1 rest (run a g) b n') : TX w ta T rest g (a ++ b) n' := by
  obtain ⟨T', e, O, d1, d2, H⟩ := h'
  obtain ⟨e1, e2⟩ : (a.length : Int) ≤ T.left ∧ T1.left = T.left - a.length := h.resolve_left fun q => by
    rw [q.2] at d1
    exact absurd q.1 (Int.not_lt.mpr d1)
  rw [e2] at d2 H
  refine ⟨T', e, O, Int.le_trans (Int.natCast_nonneg _) e1, by rw [List.length_append]; omega, ?_⟩
  rw [List.take_append, List.take_of_length_le (by omega), run_app]
  rw [show T.left.toNat - a.length = (T.left - a.length).toNat by omega]
  exact H
theorem TX.left {w : World} {ta : Addr} {T : Ft} {rest n' : List (Addr × Obj)} {g : Files} {a : List (Files → Files)} (b : List (Files → Files)) (h' : TX w ta T rest g a n') : TX w ta T rest g (a ++ b) n' := by
  obtain ⟨T', e, O, d1, d2, H⟩ := h'
  refine ⟨T', e, O, d1, by rw [List.length_append]; omega, ?_⟩
  rw [List.take_append_of_le_length (by omega)]
  exact H
def opPut (x : Str) (c : List Int) : Files → Files := fun g => upd g x (some c)
def opDel (x : Str) : Files → Files := fun g => upd g x none
def opMove (x y : Str) : Files → Files := fun g => upd (upd g x none) y (g x)
def opsWrite (x : Str) (c : List Int) : List (Files → Files) := [opPut x [], opPut x c]
theorem upd_upd (g : Files) (x : Str) (a b : Option (List Int)) : upd (upd g x a) x b = upd g x b := by
  unfold upd; funext y; by_cases h : y = x <;> simp [h]
theorem two_done {l l' : Int} (h0 : l ≠ 0) (h1 : stepL l ≠ 0) (e : l' = stepL (stepL l)) : Done l 2 l' := by
  subst e
  rcases Int.lt_or_gt_of_ne h0 with h | h
  · rw [stepL_neg h, stepL_neg h]; exact .inl ⟨h, rfl⟩
  · rw [stepL_pos h] at h1 ⊢
    rw [stepL_pos (show 0 < l - 1 by omega)]
    exact .inr ⟨by omega, by omega⟩
theorem one_done {l l' : Int} (h0 : l ≠ 0) (e : l' = stepL l) : Done l 1 l' := by
  unfold Done stepL at *; subst e; split <;> omega
theorem write_TX {w : World} {ta : Addr} {T : Ft} {rest n' : List (Addr × Obj)} {g : Files} {x : Str} {c : List Int}
    (h : ∃ T', n' = T'.objs w ta ++ rest ∧ Own w ta T' rest ∧ ((T.left = 0 ∧ Has T'.abs g) ∨ (T.left ≠ 0 ∧ stepL T.left = 0 ∧ Has T'.abs (upd g x (some []))))) : TX w ta T rest g (opsWrite x c) n' := by
  obtain ⟨T', e, O, ⟨h0, H⟩ | ⟨h0, h1, H⟩⟩ := h
  · exact ⟨T', e, O, by omega, by rw [h0]; exact (by decide : (0 : Int) < ((2 : Nat) : Int)), by rw [h0]; exact H⟩
  · have h2 : T.left = 1 := by unfold stepL at h1; split at h1 <;> omega
    exact ⟨T', e, O, by omega, by rw [h2]; exact (by decide : (1 : Int) < ((2 : Nat) : Int)), by rw [h2]; exact H⟩
theorem write_TR {w : World} {ta : Addr} {T : Ft} {rest n' : List (Addr × Obj)} {g : Files} {x : Str} {c : List Int} (h0 : T.left ≠ 0) (h1 : stepL T.left ≠ 0)
    (h : ∃ T', n' = T'.objs w ta ++ rest ∧ Own w ta T' rest ∧ T'.left = stepL (stepL T.left) ∧ Has T'.abs (upd g x (some c))) : TR w ta T rest g (opsWrite x c) n' := by
  obtain ⟨T', e, O, q, H⟩ := h
  refine ⟨T', e, O, two_done h0 h1 q, ?_⟩
  have e2 : run (opsWrite x c) g = upd g x (some c) := upd_upd _ _ _ _
  rw [e2]
  exact H
theorem d_write {w : World} {rest : List (Addr × Obj)} {ta cl : Addr} {T : Ft} {g : Files} {x : Str} {tx : Tok} {cvs : List Value} {cns : List Int} {cn' : Nat} (O : Own w ta T rest)
    (H : Has T.abs g) (hx : x ∈ Fs) (hc : (cl, listOf cvs.toArray cn') ∈ rest) (hi : IntsAre cvs cns) (hl : cns.length ≤ 1000) :
    Call w 6 346 [.ref ta, .str x tx, .ref cl] (T.objs w ta ++ rest) (fun r n' => r = .none ∧ TR w ta T rest g (opsWrite x cns) n') (TX w ta T rest g (opsWrite x cns)) :=
  (c_write O H hx hc hi hl).mono (fun _ _ ⟨a, b, c, d⟩ => ⟨a, write_TR b c d⟩) fun _ h => write_TX h
theorem d_copy {w : World} {rest : List (Addr × Obj)} {ta : Addr} {T : Ft} {g : Files} {x y : Str} {tx ty : Tok} {ns : List Int} (O : Own w ta T rest)
    (H : Has T.abs g) (hx : x ∈ Fs) (hy : y ∈ Fs) (hg : g x = some ns) :
    Call w 7 400 [.ref ta, .str x tx, .str y ty, .bool true] (T.objs w ta ++ rest) (fun r n' => r = .none ∧ TR w ta T rest g (opsWrite y ns) n') (TX w ta T rest g (opsWrite y ns)) :=
  (c_copy O H hx hy hg).mono (fun _ _ ⟨a, b, c, d⟩ => ⟨a, write_TR b c d⟩) fun _ h => write_TX h
theorem one_TX {w : World} {ta : Addr} {T : Ft} {rest n' : List (Addr × Obj)} {g : Files} {op : Files → Files} (h : ∃ T', n' = T'.objs w ta ++ rest ∧ Own w ta T' rest ∧ T.left = 0 ∧ Has T'.abs g) : TX w ta T rest g [op] n' := by
  obtain ⟨T', e, O, h0, H⟩ := h
  exact ⟨T', e, O, by omega, by rw [h0]; exact (by decide : (0 : Int) < ((1 : Nat) : Int)), by rw [h0]; exact H⟩
theorem d_delete {w : World} {rest : List (Addr × Obj)} {ta : Addr} {T : Ft} {g : Files} {x : Str} {tx : Tok} {ns : List Int} (O : Own w ta T rest)
    (H : Has T.abs g) (hx : x ∈ Fs) (hg : g x = some ns) :
    Call w 5 381 [.ref ta, .str x tx] (T.objs w ta ++ rest) (fun r n' => r = .none ∧ TR w ta T rest g [opDel x] n') (TX w ta T rest g [opDel x]) :=
  (c_delete O H hx hg).mono (fun _ _ ⟨a, b, T', c, d, e, f⟩ => ⟨a, T', c, d, one_done b e, f⟩) fun _ h => one_TX h
theorem d_rename {w : World} {rest : List (Addr × Obj)} {ta : Addr} {T : Ft} {g : Files} {x y : Str} {tx ty : Tok} {ns : List Int} (O : Own w ta T rest)
    (H : Has T.abs g) (hx : x ∈ Fs) (hy : y ∈ Fs) (hxy : (x == y) = false) (hg : g x = some ns) :
    Call w 5 393 [.ref ta, .str x tx, .str y ty, .bool true] (T.objs w ta ++ rest) (fun r n' => r = .none ∧ TR w ta T rest g [opMove x y] n') (TX w ta T rest g [opMove x y]) :=
  (c_rename O H hx hy hxy hg).mono (fun _ _ ⟨a, b, T', c, d, e, f⟩ => ⟨a, T', c, d, one_done b e, by
    have e2 : run [opMove x y] g = upd (upd g x Option.none) y (some ns) := by show upd (upd g x Option.none) y (g x) = _; rw [hg]
    rw [e2]; exact f⟩) fun _ h => one_TX h
local macro_rules | `(tactic| walk_at "call ref") => `(tactic| (k_here; (with_reducible refine atRef 346 ?_); k_dflt (refine Call.useKX (C := d_write ‹_› ‹_› ‹_› ‹_› ‹_› ‹_›) (hK := q_none) (hX := qx_id) (ret := ?_) (exc := ?_); walk_at "sweptX")))
local macro_rules | `(tactic| walk_at "call ref") => `(tactic| (k_here; (with_reducible refine atRef 400 ?_); k_dflt (refine Call.useKX (C := d_copy ‹_› ‹_› ‹_› ‹_› ‹_›) (hK := q_none) (hX := qx_id) (ret := ?_) (exc := ?_); walk_at "sweptX")))
local macro_rules | `(tactic| walk_at "call ref") => `(tactic| (k_here; (with_reducible refine atRef 381 ?_); k_dflt (refine Call.useKX (C := d_delete ‹_› ‹_› ‹_› ‹_›) (hK := q_none) (hX := qx_id) (ret := ?_) (exc := ?_); walk_at "sweptX")))
local macro_rules | `(tactic| walk_at "call ref") => `(tactic| (k_here; (with_reducible refine atRef 393 ?_); k_dflt (refine Call.useKX (C := d_rename ‹_› ‹_› ‹_› ‹_› ‹_› ‹_›) (hK := q_none) (hX := qx_id) (ret := ?_) (exc := ?_); walk_at "sweptX")))

theorem top_G1b : True := by
  w_top off
  trivial
theorem Own.more {w : World} {ta D : Addr} {o : Obj} {T : Ft} {rest : List (Addr × Obj)} (O : Own w ta T rest) (l : ∀ q ∈ T.objs w ta ++ rest, q.1 ≠ D) : Own w ta T ((D, o) :: rest) := by
  refine ⟨O.ok, ?_⟩
  have hp : ((T.objs w ta ++ (D, o) :: rest).map (·.1)).Perm (((D, o) :: (T.objs w ta ++ rest)).map (·.1)) := List.perm_middle.map _
  refine hp.nodup_iff.mpr ?_
  rw [List.map_cons, List.nodup_cons]
  refine ⟨fun hm => ?_, O.nd⟩
  obtain ⟨p, hp, e⟩ := List.mem_map.mp hm
  exact l p hp e
theorem Own.off {w : World} {ta D : Addr} {o : Obj} {T : Ft} {rest : List (Addr × Obj)} (O : Own w ta T ((D, o) :: rest)) : ∀ q ∈ T.objs w ta ++ rest, q.1 ≠ D := by
  have hp : ((T.objs w ta ++ (D, o) :: rest).map (·.1)).Perm (((D, o) :: (T.objs w ta ++ rest)).map (·.1)) := List.perm_middle.map _
  have h := hp.nodup_iff.mp O.nd
  rw [List.map_cons, List.nodup_cons] at h
  exact fun q hq e => h.1 (List.mem_map.mpr ⟨q, hq, e⟩)
theorem TX.tl {w : World} {ta : Addr} {T : Ft} {rest n' : List (Addr × Obj)} {p : Addr × Obj} {g : Files} {ops : List (Files → Files)} (h : TX w ta T (p :: rest) g ops n') : ∃ n'', TX w ta T rest g ops n'' ∧ ∀ q ∈ n'', q ∈ n' := by
  obtain ⟨T', rfl, O, a, b, c⟩ := h
  exact ⟨_, ⟨T', rfl, O.tl, a, b, c⟩, fun q hq => mem_less hq⟩
theorem TR.tl {w : World} {ta : Addr} {T : Ft} {rest n' : List (Addr × Obj)} {p : Addr × Obj} {g : Files} {ops : List (Files → Files)} (h : TR w ta T (p :: rest) g ops n') : ∃ n'', TR w ta T rest g ops n'' ∧ ∀ q ∈ n'', q ∈ n' := by
  obtain ⟨T', rfl, O, a, b⟩ := h
  exact ⟨_, ⟨T', rfl, O.tl, a, b⟩, fun q hq => mem_less hq⟩
/-- an end of a piece of the walk behind which the tree has gone on -/
theorem CutT.mk {α : Type} {h₀ : Heap} {L : Addr} {m : Str → Option Value} {w : World} {ta : Addr} {T : Ft} {rest : List (Addr × Obj)} {g : Files} {ops : List (Files → Files)} {P : α → Prop} {Qc : α → Shared → Prop} {S : Shared} (K : ∀ v h' tk n', P v → Fr h₀ L h' m → News h₀ L h' n' → TR w ta T rest g ops n' → Qc v { S with heap := h', toks := tk })
    {v : α} {h' : Heap} {tk : Nat} {n' : List (Addr × Obj)} (hP : P v) (F : Fr h₀ L h' m) (N : News h₀ L h' n') (R : TR w ta T rest g ops n') : Qc v { S with heap := h', toks := tk } := K v h' tk n' hP F N R
theorem cutT {α : Type} {M : Model} {A : Around} {x : Sem α} {Q : α → Shared → Prop} {E : Value → Shared → Prop} {s S : Shared} {h₀ : Heap} {L : Addr} {m : Str → Option Value} {w : World} {ta : Addr} {T : Ft} {rest : List (Addr × Obj)} (g : Files) (ops : List (Files → Files)) (P : α → Prop) (_F : Fr h₀ L s.heap m) (_O : Own w ta T rest)
    (h : ∀ Qc : α → Shared → Prop, (∀ v h' tk n', P v → Fr h₀ L h' m → News h₀ L h' n' → TR w ta T rest g ops n' → Qc v { S with heap := h', toks := tk }) → wpAny M A x Qc E s) (k : ∀ v h' tk n', P v → Fr h₀ L h' m → News h₀ L h' n' → TR w ta T rest g ops n' → Q v { S with heap := h', toks := tk }) (_ : IsBase S := by assumption) : wpAny M A x Q E s := h Q k
section
variable {prog : Program} {w : World} {A : Around} {E : Value → Shared → Prop} {s : Shared} {env : Env} {h₀ : Heap} {target : PySem.Expr} {body : List Stmt} {Q : Flow → Shared → Prop}
def TurnT (w : World) (ta : Addr) (T : Ft) (rest : List (Addr × Obj)) (g : Files) (ops : List (Files → Files)) (I : Addr) (n : List (Addr × Obj)) : Prop :=
  ∃ Ti, n = Ti.objs w ta ++ rest ∧ Own w ta Ti rest ∧ Done T.left ops.length Ti.left ∧ Has Ti.abs (run ops g) ∧ ∀ q ∈ n, q.1 ≠ I
def EndT (h₀ : Heap) (L : Addr) (s : Shared) (I : Addr) (oi : Obj) (keep : List (Addr × Obj)) (x : Str) (m₀ : Str → Option Value) (w : World) (ta : Addr) (T : Ft) (rest : List (Addr × Obj)) (g : Files) (ops : List (Files → Files)) (Q : Flow → Shared → Prop) : Flow → Shared → Prop :=
  UnrPostW h₀ L s [(I, oi)] (fun m' n' => SubL keep n' ∧ (∀ y, y ≠ x → m' y = m₀ y) ∧ TurnT w ta T rest g ops I n') Q
theorem EndT.mk {L I ta : Addr} {oi : Obj} {s : Shared} {keep rest : List (Addr × Obj)} {x : Str} {m₀ m' : Str → Option Value} {T T' : Ft} {g : Files} {ops : List (Files → Files)} {h' : Heap} {tk : Nat}
    (O : Own w ta T' ((I, oi) :: rest)) (F : Fr h₀ L h' m') (N : News h₀ L h' (T'.objs w ta ++ (I, oi) :: rest)) (hk : ∀ q ∈ keep, q ∈ rest) (hm : ∀ y, y ≠ x → m' y = m₀ y) (d : Done T.left ops.length T'.left) (H : Has T'.abs (run ops g)) :
    EndT h₀ L s I oi keep x m₀ w ta T rest g ops Q .next { s with heap := h', toks := tk } := by
  refine ⟨h', tk, m', T'.objs w ta ++ rest, rfl, F, cb_drop N fun p hp => List.perm_middle.mem_iff.mpr hp, fun p hp q hq => ?_, ?_, hm, T', rfl, O.tl, d, H, O.off⟩
  · rw [List.mem_singleton.mp hq]; exact O.off p hp
  · clear N hm H d F O
    induction keep with
    | nil => trivial
    | cons p r ih => exact ⟨List.mem_append_right _ (hk p (.head _)), ih fun q hq => hk q (.tail _ hq)⟩
theorem items_tree {I ta : Addr} {c : String} {keep rest n₀ : List (Addr × Obj)} {m₀ : Str → Option Value} {T : Ft} {g : Files} (x : Str) (xs : List Itm) (ops : Nat → List (Files → Files))
    (hstep : ∀ i a mx Ti v h tk (oi : Obj), xs[i]? = some a → Own w ta Ti ((I, oi) :: rest) → Done T.left (ops i).length Ti.left → Has Ti.abs (run (ops i) g) → a.Is v h → Fr h₀ env.locals h (fun y => if y = x then mx else m₀ y) → oi.cls = .type c → News h₀ env.locals h (Ti.objs w ta ++ (I, oi) :: rest) →
      wpAny (model prog w) A (assign target env v) (fun _ s₂ => wpAny (model prog w) A (execs body env) (EndT h₀ env.locals { s with heap := h, toks := tk } I oi keep x m₀ w ta T rest g (ops (i + 1)) Q) E s₂) E { s with heap := h, toks := tk })
    (hend : ∀ mx Ti h tk, Own w ta Ti rest → Done T.left (ops xs.length).length Ti.left → Has Ti.abs (run (ops xs.length) g) → Fr h₀ env.locals h (fun y => if y = x then mx else m₀ y) → News h₀ env.locals h (Ti.objs w ta ++ rest) → Q .next { s with heap := h, toks := tk })
    (h0 : TurnT w ta T rest g (ops 0) I n₀) : ItemsRest prog w A E h₀ env target body Q s [(I, c)] keep xs m₀ n₀ := by
  refine items_ind (c := c) xs (fun i m n => (∀ y, y ≠ x → m y = m₀ y) ∧ TurnT w ta T rest g (ops i) I n) ?_ ?_ _ 0 _ _ (Nat.zero_add _) ⟨fun _ _ => rfl, h0⟩
  · rintro i a m n v h tk oi ha ⟨hm, Ti, rfl, O, d, H, off⟩ hav F hoi N
    exact hstep i a _ Ti v h tk oi ha (O.more off) d H hav (Fr.norm F hm) hoi (cb_drop N fun p hp => mem_mid hp)
  · rintro m n h tk ⟨hm, Ti, rfl, O, d, H, off⟩ F N
    exact hend _ Ti h tk O d H (Fr.norm F hm) N
end

theorem top_G2 : True := by
  w_top off
  trivial
def bkOps (M : Man) (ns : List Int) (old : List Int) : List (Files → Files) := if M.copying = true ∨ M.precious = true then opsWrite (planName M ns) old else [opMove (Str.ofString "/d/f") (planName M ns)]
def delOps (ex : List Str) : List (Files → Files) := ex.map opDel
theorem delOps_step {ex : List Str} {i : Nat} {x : Str} (h : ex[i]? = some x) (ops : List (Files → Files)) : ops ++ delOps (ex.take (i + 1)) = (ops ++ delOps (ex.take i)) ++ [opDel x] := by
  unfold delOps
  rw [List.take_add_one, h, List.map_append, List.append_assoc]
  rfl
theorem delOps_split {ex : List Str} (i : Nat) (ops : List (Files → Files)) : ops ++ delOps ex = (ops ++ delOps (ex.take i)) ++ delOps (ex.drop i) := by
  unfold delOps
  rw [List.append_assoc, ← List.map_append, List.take_append_drop]
theorem own_tl2 {w : World} {ta : Addr} {T : Ft} {rest n' : List (Addr × Obj)} {p q : Addr × Obj} {g : Files} {ops : List (Files → Files)} (h : TX w ta T (p :: q :: rest) g ops n') : ∃ n'', TX w ta T rest g ops n'' ∧ ∀ r ∈ n'', r ∈ n' := by
  obtain ⟨n1, h1, s1⟩ := h.tl
  obtain ⟨n2, h2, s2⟩ := h1.tl
  exact ⟨n2, h2, fun r hr => s1 r (s2 r hr)⟩
theorem news_mv {h₀ h : Heap} {L : Addr} {a b : Addr × Obj} {X R : List (Addr × Obj)} (N : News h₀ L h (a :: b :: (X ++ R))) : News h₀ L h (X ++ b :: R) := fun p hp => N p (.tail _ (List.perm_middle.mem_iff.mp hp))
theorem Own.carry2 {w : World} {ta l L : Addr} {h₀ h : Heap} {a : Addr × Obj} {o : Obj} {T : Ft} {rest : List (Addr × Obj)} (O : Own w ta T rest) (N : News h₀ L h (a :: (l, o) :: (T.objs w ta ++ rest))) (q : ∀ q ∈ T.objs w ta ++ rest, q.1 ≠ l) :
    Own w ta T ((l, o) :: rest) ∧ News h₀ L h (T.objs w ta ++ (l, o) :: rest) ∧ (l, o) ∈ T.objs w ta ++ (l, o) :: rest ∧ ∀ p ∈ T.objs w ta ++ rest, p ∈ T.objs w ta ++ (l, o) :: rest :=
  ⟨O.more q, news_mv N, List.mem_append_right _ (.head _), fun _ hp => mem_less hp⟩
theorem own_only {x : Str} {v mx : Option Value} {m₀ : Str → Option Value} : ∀ y, y ≠ x → (if y = x then v else if y = x then mx else m₀ y) = m₀ y := fun y h => by
  rw [if_neg h, if_neg h]
theorem TX.conv {w : World} {ta : Addr} {T : Ft} {rest n' : List (Addr × Obj)} {g : Files} {a b : List (Files → Files)} (e : a = b) (h : TX w ta T rest g a n') : TX w ta T rest g b n' := e ▸ h
theorem strs_len {vs : List Value} {ss : List Str} (h : StrsAre vs ss) : (vs.map Itm.val).length = ss.length := by rw [List.length_map]; exact StrsAre.length h
set_option maxRecDepth 100000 in
set_option maxHeartbeats 2000000 in
theorem c_make_backup1 {w : World} {rest : List (Addr × Obj)} {ta ma : Addr} {T : Ft} {g : Files} {M : Man} {tx : Tok} {old : List Int} (O : Own w ta T rest) (H : Has T.abs g) (IM : ManIn w rest ma M) (hN : NumsOk (nums g)) (hold : g (Str.ofString "/d/f") = some old)
    (hy : planName M (nums g) ∈ Fs) (hne : (planName M (nums g) == Str.ofString "") = false) (hxy : (Str.ofString "/d/f" == planName M (nums g)) = false)
    (hex : ∀ i x, (planExtra M (nums g))[i]? = some x → x ∈ Fs ∧ ∃ c, run (bkOps M (nums g) old ++ delOps ((planExtra M (nums g)).take i)) g x = some c) :
    Call w 8 131 [.ref ta, .str (Str.ofString "/d/f") tx, .ref ma] (T.objs w ta ++ rest)
      (fun r n' => (∃ t, r = .str (planName M (nums g)) t) ∧ TR w ta T rest g (bkOps M (nums g) old ++ delOps (planExtra M (nums g))) n')
      (TX w ta T rest g (bkOps M (nums g) old ++ delOps (planExtra M (nums g)))) := by
  intro dp un gd cn cs a ccd cl outer A₀ base h₀ L m s Q E mean mg mb B F X N Tp hk hd hu hret hexc
  have I := O.inn
  have IM2 : ManIn w (T.objs w ta ++ rest) ma M := ⟨IM.ok, List.mem_append_right _ IM.inst, List.mem_append_right _ IM.dict⟩
  have hf : Str.ofString "/d/f" ∈ Fs := by decide +kernel
  have hfU : Str.ofString "/d/f" ∈ U := by decide +kernel
  have hD := H.dirs O.ok.all
  have hDp : parent (Str.ofString "/d/f") = Str.ofString "/" ∨ Dirs T := .inr hD
  have hleny := U_len _ (Fs_U _ hy).1
  have hmi := IM2.inst
  have hmd := IM2.dict
  unfold manDict at hmd
  (refine' code_defQ (m' := fr3 (Str.ofString "tree") (Str.ofString "name") (Str.ofString "manner") _ _ _) ?k1 ?k2 ?k3 ?k4 ?k5 ?kA ?kF ?kK ?k6 ?k7 ?k8 ?k9 ?kB ?kM ?_ ?c2 ?c3 ?c4 ?c5; (case kA => exact rfl); (case kF => exact rfl); (case kK => first | exact rfl | assumption); (case k1 => k_asm); (case k2 => k_asm); (case k3 => k_asm); (case k4 => k_asm); (case k5 => k_asm); (case k6 => k_is); (case k7 => k_is); (case k8 => ktr_room); (case k9 => exact BindsTo.of_eq rfl); (case c5 => decide); (case kB => exact locs rfl); (case kM => exact rfl); (case c2 => exact rfl); (case c3 => exact rfl); (case c4 => exact rfl); k_whole; intro gq Lq Sq Qo Eo hSq FGq Fq Nq Bq Xq Tq hQo hEo hPo; (try dsimp only))
  (repeat' ((fail_if_success (with_reducible show wpAny _ _ (exec (Stmt.If (PySem.Expr.BoolOp _ _ _) _ _ _) _) _ _ _)); first | (k_unfold; (try dsimp only)) | (k_end; wrow_close) | walk1 | (dsimp only; walk1) | (leave1; walk_say "STEP leave1"; try dsimp only) | fail "no step")); all_goals (try (first | (refine hQo _ _ _ _ _ _ (by k_asm) (by k_asm) ?_; intro kF kN; (try dsimp only [valOf])) | (refine hEo _ _ _ ?_; (k_steps; all_goals (try (first | (refine hQo _ _ _ _ _ _ (by k_asm) (by k_asm) ?_; intro kF kN; (try dsimp only [valOf])) | (refine hEo _ _ _ ?_; k_steps)))))))
  obtain ⟨O2, N2, hl2, hup⟩ := O.carry2 (by assumption) (by assumption)
  have I2 := O2.inn
  replace hmi := hup _ hmi
  replace hmd := hup _ hmd
  clear hup I IM2
  refine cutT g (bkOps M (nums g) old) (fun fl => fl = Flow.next) (by k_asm) O2 (fun Qc hQc => ?_) ?_
  · by_cases hcp : M.copying = true ∨ M.precious = true
    · have e1 : bkOps M (nums g) old = opsWrite (planName M (nums g)) old := by unfold bkOps; rw [if_pos hcp]
      rw [e1] at hQc
      by_cases hc1 : M.copying = true
      · rw [hc1] at hmd
        (k_steps; all_goals (try (first | (refine hQo _ _ _ _ _ _ (by k_asm) (by k_asm) ?_; intro kF kN; (try dsimp only [valOf])) | (refine hEo _ _ _ ?_; k_steps))))
        · exact CutT.mk hQc rfl (by k_asm) (by k_asm) (by k_asm)
        · obtain ⟨n2, hX2, hs2⟩ := (TX.left (delOps (planExtra M (nums g))) (TX.conv e1.symm (by assumption : TX w ta T _ _ _ _))).tl
          exact hexc _ _ _ _ n2 _ hX2 (by assumption) (RaisedS.drop (by assumption) hs2) (by assumption)
      · have hc2 : M.copying = false := by simpa using hc1
        have hc3 : M.precious = true := hcp.resolve_left hc1
        rw [hc2, hc3] at hmd
        (k_steps; all_goals (try (first | (refine hQo _ _ _ _ _ _ (by k_asm) (by k_asm) ?_; intro kF kN; (try dsimp only [valOf])) | (refine hEo _ _ _ ?_; k_steps))))
        · exact CutT.mk hQc rfl (by k_asm) (by k_asm) (by k_asm)
        · obtain ⟨n2, hX2, hs2⟩ := (TX.left (delOps (planExtra M (nums g))) (TX.conv e1.symm (by assumption : TX w ta T _ _ _ _))).tl
          exact hexc _ _ _ _ n2 _ hX2 (by assumption) (RaisedS.drop (by assumption) hs2) (by assumption)
    · have hc2 : M.copying = false := by cases h : M.copying <;> simp_all
      have hc3 : M.precious = false := by cases h : M.precious <;> simp_all
      have e1 : bkOps M (nums g) old = [opMove (Str.ofString "/d/f") (planName M (nums g))] := by unfold bkOps; rw [if_neg hcp]
      rw [e1] at hQc
      rw [hc2, hc3] at hmd
      (k_steps; all_goals (try (first | (refine hQo _ _ _ _ _ _ (by k_asm) (by k_asm) ?_; intro kF kN; (try dsimp only [valOf])) | (refine hEo _ _ _ ?_; k_steps))))
      · exact CutT.mk hQc rfl (by k_asm) (by k_asm) (by k_asm)
      · obtain ⟨n2, hX2, hs2⟩ := (TX.left (delOps (planExtra M (nums g))) (TX.conv e1.symm (by assumption : TX w ta T _ _ _ _))).tl
        exact hexc _ _ _ _ n2 _ hX2 (by assumption) (RaisedS.drop (by assumption) hs2) (by assumption)
  · rintro _ h3 tk3 n3 rfl F3 N3 ⟨T1, rfl, O3, d3, H3⟩
    try dsimp only
    (repeat' ((fail_if_success (with_reducible show wpAny _ _ (exec (Stmt.For _ _ _ _ _) _) _ _ _)); first | (k_unfold; (try dsimp only)) | (k_end; wrow_close) | walk1 | (dsimp only; walk1) | (leave1; walk_say "STEP leave1"; try dsimp only) | fail "no step")); all_goals (try (first | (refine hQo _ _ _ _ _ _ (by k_asm) (by k_asm) ?_; intro kF kN; (try dsimp only [valOf])) | (refine hEo _ _ _ ?_; (k_steps; all_goals (try (first | (refine hQo _ _ _ _ _ _ (by k_asm) (by k_asm) ?_; intro kF kN; (try dsimp only [valOf])) | (refine hEo _ _ _ ?_; k_steps)))))))
    refine For_turns (by k_asm) ?_
    (repeat' ((fail_if_success (with_reducible show wpAny _ _ (pyIter (Value.ref _)) _ _ _)); first | (k_unfold; (try dsimp only)) | (k_end; wrow_close) | walk1 | (dsimp only; walk1) | (leave1; walk_say "STEP leave1"; try dsimp only) | fail "no step")); all_goals (try (first | (refine hQo _ _ _ _ _ _ (by k_asm) (by k_asm) ?_; intro kF kN; (try dsimp only [valOf])) | (refine hEo _ _ _ ?_; (k_steps; all_goals (try (first | (refine hQo _ _ _ _ _ _ (by k_asm) (by k_asm) ?_; intro kF kN; (try dsimp only [valOf])) | (refine hEo _ _ _ ?_; k_steps)))))))
    refine iter_listTurns rfl (by k_asm) (by k_asm) (by exact List.mem_append_right _ (.head _)) (by exact rfl) (by exact rfl) (fun I4 hI4 => ?_)
    have e0 : bkOps M (nums g) old ++ delOps ((planExtra M (nums g)).take 0) = bkOps M (nums g) old := List.append_nil _
    refine items_tree (T := T) (g := g) (ta := ta) (Str.ofString "own") _ (fun i => bkOps M (nums g) old ++ delOps ((planExtra M (nums g)).take i)) ?_ ?_ ⟨T1, rfl, O3, by rw [e0]; exact d3, by rw [e0]; exact H3, fun q hq => Nat.ne_of_lt (hI4 q hq)⟩
    · intro i a mx Ti v h tk5 oi ha Oi di Hi hav Fi hoi Ni
      obtain ⟨o, tv, rfl, ho⟩ := strs_at (by assumption) ha
      have ev : v = Value.str o tv := hav
      subst ev
      obtain ⟨hoF, c0, hc0⟩ := hex i o ho
      have hleno := U_len _ (Fs_U _ hoF).1
      have Ii := Oi.inn
      have hii := Ii.inst
      have hid := Ii.dict
      (k_steps; all_goals (try (first | (refine hQo _ _ _ _ _ _ (by k_asm) (by k_asm) ?_; intro kF kN; (try dsimp only [valOf])) | (refine hEo _ _ _ ?_; k_steps))))
      · obtain ⟨T5, rfl, O5, d5, H5⟩ := (by assumption : TR w ta Ti _ _ [opDel o] _)
        exact EndT.mk O5 (by k_asm) (by k_asm) (fun q hq => by rw [List.mem_singleton.mp hq]; exact .head _) own_only (by rw [delOps_step ho, List.length_append]; exact di.trans d5) (by rw [delOps_step ho, run_app]; exact H5)
      · have hX3 := TX.left (delOps ((planExtra M (nums g)).drop (i + 1))) (TX.trans di (by assumption))
        rw [← delOps_step ho, ← delOps_split] at hX3
        obtain ⟨n2, hX2, hs2⟩ := own_tl2 hX3
        exact hexc _ _ _ _ n2 _ hX2 (by assumption) (RaisedS.drop (by assumption) hs2) (by assumption)
    · intro mx Ti h tk5 Oi di Hi Fi Ni
      rw [strs_len (by assumption), List.take_length] at di Hi
      (k_steps; all_goals (try (first | (refine hQo _ _ _ _ _ _ (by k_asm) (by k_asm) ?_; intro kF kN; (try dsimp only [valOf])) | (refine hEo _ _ _ ?_; k_steps))))
      exact hret _ _ _ _ ⟨⟨_, rfl⟩, Ti, rfl, Oi.tl, di, Hi⟩ (by k_asm) (cb_drop (by assumption) fun p hp => mem_less hp)

theorem top_G3 : True := by
  w_top off
  trivial
def mkOps (M : Man) (ns : List Int) (old : List Int) : List (Files → Files) := if wayOf M ns = 0 then [] else bkOps M ns old ++ delOps (planExtra M ns)
theorem TR.nil {w : World} {ta : Addr} {T : Ft} {rest : List (Addr × Obj)} {g : Files} (O : Own w ta T rest) (H : Has T.abs g) : TR w ta T rest g [] (T.objs w ta ++ rest) :=
  ⟨T, rfl, O, Done.zero _ trivial, H⟩
theorem news_t2 {h₀ h : Heap} {L : Addr} {a b : Addr × Obj} {R : List (Addr × Obj)} (N : News h₀ L h (a :: b :: R)) : News h₀ L h R := fun p hp => N p (.tail _ (.tail _ hp))
set_option maxRecDepth 100000 in
set_option maxHeartbeats 2000000 in
theorem c_make_backup0 {w : World} {rest : List (Addr × Obj)} {ta ma : Addr} {T : Ft} {g : Files} {M : Man} {tx : Tok} (O : Own w ta T rest) (H : Has T.abs g) (IM : ManIn w rest ma M) (hN : NumsOk (nums g))
    (hne : (planName M (nums g) == Str.ofString "") = true) :
    Call w 8 131 [.ref ta, .str (Str.ofString "/d/f") tx, .ref ma] (T.objs w ta ++ rest) (fun r n' => (∃ t, r = .str (Str.ofString "") t) ∧ n' = T.objs w ta ++ rest) (fun _ => False) := by
  intro dp un gd cn cs a ccd cl outer A₀ base h₀ L m s Q E mean mg mb B F X N Tp hk hd hu hret hexc
  have I := O.inn
  have IM2 : ManIn w (T.objs w ta ++ rest) ma M := ⟨IM.ok, List.mem_append_right _ IM.inst, List.mem_append_right _ IM.dict⟩
  have hmi := IM2.inst
  have hmd := IM2.dict
  (refine' code_defQ (m' := fr3 (Str.ofString "tree") (Str.ofString "name") (Str.ofString "manner") _ _ _) ?k1 ?k2 ?k3 ?k4 ?k5 ?kA ?kF ?kK ?k6 ?k7 ?k8 ?k9 ?kB ?kM ?_ ?c2 ?c3 ?c4 ?c5; (case kA => exact rfl); (case kF => exact rfl); (case kK => first | exact rfl | assumption); (case k1 => k_asm); (case k2 => k_asm); (case k3 => k_asm); (case k4 => k_asm); (case k5 => k_asm); (case k6 => k_is); (case k7 => k_is); (case k8 => ktr_room); (case k9 => exact BindsTo.of_eq rfl); (case c5 => decide); (case kB => exact locs rfl); (case kM => exact rfl); (case c2 => exact rfl); (case c3 => exact rfl); (case c4 => exact rfl); k_whole; intro gq Lq Sq Qo Eo hSq FGq Fq Nq Bq Xq Tq hQo hEo hPo; (try dsimp only))
  (k_steps; all_goals (try (first | (refine hQo _ _ _ _ _ _ (by k_asm) (by k_asm) ?_; intro kF kN; (try dsimp only [valOf])) | (refine hEo _ _ _ ?_; k_steps))))
  exact hret _ _ _ _ ⟨⟨_, rfl⟩, rfl⟩ (by k_asm) (news_t2 (by assumption))
section
local macro_rules | `(tactic| walk_at "pyIter ref") => `(tactic| kf1_first)
set_option maxRecDepth 100000 in
set_option maxHeartbeats 2000000 in
theorem c_spare {w : World} {news : List (Addr × Obj)} {ta : Addr} {T : Ft} {g : Files} {tx : Tok} (I : FtIn w news ta T) (H : Has T.abs g) (hg : g (Str.ofString "/d/f.tmp0") = none) :
    Call w 5 138 [.ref ta, .str (Str.ofString "/d/f") tx] news (fun r n' => n' = news ∧ ∃ t, r = .str (Str.ofString "/d/f.tmp0") t) (fun _ => False) := by
  intro dp un gd cn cs a ccd cl outer A₀ base h₀ L m s Q E mean mg mb B F X N Tp hk hd hu hret hexc
  have hi := I.inst
  have hdi := I.dict
  have hf : Str.ofString "/d/f.tmp0" ∈ Fs := by decide +kernel
  have hU : Str.ofString "/d/f.tmp0" ∈ U := by decide +kernel
  have hDx : Str.ofString "/d/f.tmp0" = Str.ofString "/" ∨ Dirs T := .inr (H.dirs I.ok.all)
  have hv : valueAt T.kvs (Str.ofString "/d/f.tmp0") = none := by rw [valueAt_kvs, H.none hf hg]; rfl
  (refine' code_defQ (m' := fr2 (Str.ofString "tree") (Str.ofString "name") _ _) ?k1 ?k2 ?k3 ?k4 ?k5 ?kA ?kF ?kK ?k6 ?k7 ?k8 ?k9 ?kB ?kM ?_ ?c2 ?c3 ?c4 ?c5; (case kA => exact rfl); (case kF => exact rfl); (case kK => first | exact rfl | assumption); (case k1 => k_asm); (case k2 => k_asm); (case k3 => k_asm); (case k4 => k_asm); (case k5 => k_asm); (case k6 => k_is); (case k7 => k_is); (case k8 => ktr_room); (case k9 => exact BindsTo.of_eq rfl); (case c5 => decide); (case kB => exact locs rfl); (case kM => exact rfl); (case c2 => exact rfl); (case c3 => exact rfl); (case c4 => exact rfl); k_whole; intro gq Lq Sq Qo Eo hSq FGq Fq Nq Bq Xq Tq hQo hEo hPo; (try dsimp only))
  (k_steps; all_goals (try (first | (refine hQo _ _ _ _ _ _ (by k_asm) (by k_asm) ?_; intro kF kN; (try dsimp only [valOf])) | (refine hEo _ _ _ ?_; k_steps))))
  exact hret _ _ _ _ ⟨rfl, _, rfl⟩ (by k_asm) (cb_drop (by assumption) (fun p hp => List.mem_append_left _ hp))
end
local macro_rules | `(tactic| walk_at "no such step 1") => `(tactic| fail)
local macro_rules | `(tactic| walk_at "no such step 2") => `(tactic| fail)
local macro_rules | `(tactic| walk_at "call ref") => `(tactic| (k_here; (with_reducible refine atRef 138 ?_); k_dflt (refine Call.useK (C := c_spare (by walk_at "in tree") ‹_› ‹_›) (hK := q_str) (ret := ?_); walk_at "swept")))
theorem plan_name {M : Man} {ns : List Int} (hok : M.ok) (hN : NumsOk ns) (h : wayOf M ns ≠ 0) : planName M ns ∈ Fs ∧ (planName M ns == Str.ofString "") = false ∧ (Str.ofString "/d/f" == planName M ns) = false := by
  have h1 : planName M ns = Str.ofString "/d/f~" ∨ ∃ n, 1 ≤ n ∧ n ≤ 13 ∧ planName M ns = nmn n := by
    unfold planName
    rw [if_neg h]
    by_cases h2 : wayOf M ns = 1
    · rw [if_pos h2]; exact .inl rfl
    · rw [if_neg h2]
      have := newNo_fit hN.fit
      exact .inr ⟨_, this.1, this.2, rfl⟩
  have hf : ∀ x ∈ Fs, x = Str.ofString "/d/f~" ∨ numF x > 0 → (x == Str.ofString "") = false ∧ (Str.ofString "/d/f" == x) = false := by decide +kernel
  rcases h1 with e | ⟨n, n1, n2, e⟩
  · rw [e]; exact ⟨by decide +kernel, by decide +kernel, by decide +kernel⟩
  · obtain ⟨a, b⟩ := nmn_Fs n1 n2
    rw [e]
    exact ⟨a, hf _ a (.inr (by rw [b]; omega))⟩
theorem plan_name0 {M : Man} {ns : List Int} (h : wayOf M ns = 0) : planName M ns = Str.ofString "" := by unfold planName; rw [if_pos h]
theorem c_make_backup {w : World} {rest : List (Addr × Obj)} {ta ma : Addr} {T : Ft} {g : Files} {M : Man} {tx : Tok} {old : List Int} (O : Own w ta T rest) (H : Has T.abs g) (IM : ManIn w rest ma M) (hN : NumsOk (nums g)) (hold : g (Str.ofString "/d/f") = some old)
    (hex : ∀ i x, (planExtra M (nums g))[i]? = some x → x ∈ Fs ∧ ∃ c, run (bkOps M (nums g) old ++ delOps ((planExtra M (nums g)).take i)) g x = some c) :
    Call w 8 131 [.ref ta, .str (Str.ofString "/d/f") tx, .ref ma] (T.objs w ta ++ rest)
      (fun r n' => (∃ t, r = .str (planName M (nums g)) t) ∧ TR w ta T rest g (mkOps M (nums g) old) n') (TX w ta T rest g (mkOps M (nums g) old)) := by
  by_cases h : wayOf M (nums g) = 0
  · have e1 := plan_name0 h
    have e2 : mkOps M (nums g) old = [] := by unfold mkOps; rw [if_pos h]
    rw [e1, e2]
    refine (c_make_backup0 O H IM hN (by rw [e1]; decide +kernel)).mono (fun r n' ⟨a, b⟩ => ⟨a, ?_⟩) fun _ h => h.elim
    rw [b]; exact TR.nil O H
  · obtain ⟨h1, h2, h3⟩ := plan_name IM.ok hN h
    have e2 : mkOps M (nums g) old = bkOps M (nums g) old ++ delOps (planExtra M (nums g)) := by unfold mkOps; rw [if_neg h]
    rw [e2]
    exact c_make_backup1 O H IM hN hold h1 h2 h3 hex

theorem top_G4 : True := by
  w_top off
  trivial
theorem run_write (x : Str) (c : List Int) (g : Files) : run (opsWrite x c) g = upd g x (some c) := upd_upd _ _ _ _
def precOps (codes : List Int) : List (Files → Files) := opsWrite (Str.ofString "/d/f.tmp0") codes ++ [opMove (Str.ofString "/d/f.tmp0") (Str.ofString "/d/f")]
set_option maxRecDepth 100000 in
set_option maxHeartbeats 2000000 in
theorem c_write_precious {w : World} {rest : List (Addr × Obj)} {ta cl : Addr} {T : Ft} {g : Files} {tx : Tok} {cvs : List Value} {cns : List Int} {cn' : Nat} (O : Own w ta T rest)
    (H : Has T.abs g) (hg : g (Str.ofString "/d/f.tmp0") = none) (hc : (cl, listOf cvs.toArray cn') ∈ rest) (hi : IntsAre cvs cns) (hl : cns.length ≤ 1000) :
    Call w 7 145 [.ref ta, .str (Str.ofString "/d/f") tx, .ref cl] (T.objs w ta ++ rest) (fun r n' => r = .none ∧ TR w ta T rest g (precOps cns) n') (TX w ta T rest g (precOps cns)) := by
  intro dp un gd cn cs a ccd cl outer A₀ base h₀ L m s Q E mean mg mb B F X N Tp hk hd hu hret hexc
  have I := O.inn
  have hii := I.inst
  have hid := I.dict
  have hf : Str.ofString "/d/f.tmp0" ∈ Fs := by decide +kernel
  have hf2 : Str.ofString "/d/f" ∈ Fs := by decide +kernel
  have hxy : (Str.ofString "/d/f.tmp0" == Str.ofString "/d/f") = false := by decide +kernel
  (refine' code_defQ (m' := fr3 (Str.ofString "tree") (Str.ofString "name") (Str.ofString "codes") _ _ _) ?k1 ?k2 ?k3 ?k4 ?k5 ?kA ?kF ?kK ?k6 ?k7 ?k8 ?k9 ?kB ?kM ?_ ?c2 ?c3 ?c4 ?c5; (case kA => exact rfl); (case kF => exact rfl); (case kK => first | exact rfl | assumption); (case k1 => k_asm); (case k2 => k_asm); (case k3 => k_asm); (case k4 => k_asm); (case k5 => k_asm); (case k6 => k_is); (case k7 => k_is); (case k8 => ktr_room); (case k9 => exact BindsTo.of_eq rfl); (case c5 => decide); (case kB => exact locs rfl); (case kM => exact rfl); (case c2 => exact rfl); (case c3 => exact rfl); (case c4 => exact rfl); k_whole; intro gq Lq Sq Qo Eo hSq FGq Fq Nq Bq Xq Tq hQo hEo hPo; (try dsimp only))
  (repeat' ((fail_if_success (with_reducible show wpAny _ _ (call (Value.ref 393) _) _ _ _)); first | (k_unfold; (try dsimp only)) | (k_end; wrow_close) | walk1 | (dsimp only; walk1) | (leave1; walk_say "STEP leave1"; try dsimp only) | fail "no step")); all_goals (try (first | (refine hQo _ _ _ _ _ _ (by k_asm) (by k_asm) ?_; intro kF kN; (try dsimp only [valOf])) | (refine hEo _ _ _ ?_; (k_steps; all_goals (try (first | (refine hQo _ _ _ _ _ _ (by k_asm) (by k_asm) ?_; intro kF kN; (try dsimp only [valOf])) | (refine hEo _ _ _ ?_; k_steps)))))))
  · obtain ⟨T1, rfl, O1, d1, H1⟩ := (by assumption : TR w ta T rest g _ _)
    have hg1 : run (opsWrite (Str.ofString "/d/f.tmp0") cns) g (Str.ofString "/d/f.tmp0") = some cns := by
      rw [run_write]
      unfold upd
      rw [if_pos rfl]
    (k_steps; all_goals (try (first | (refine hQo _ _ _ _ _ _ (by k_asm) (by k_asm) ?_; intro kF kN; (try dsimp only [valOf])) | (refine hEo _ _ _ ?_; k_steps))))
    · exact hret _ _ _ _ ⟨rfl, TR.trans d1 (by assumption)⟩ (by k_asm) (by k_asm)
    · exact hexc _ _ _ _ _ _ (TX.trans d1 (by assumption)) (by assumption) (by assumption) (by assumption)
  · exact hexc _ _ _ _ _ _ (TX.left _ (by assumption)) (by assumption) (by assumption) (by assumption)
local macro_rules | `(tactic| walk_at "call ref") => `(tactic| (k_here; (with_reducible refine atRef 145 ?_); k_dflt (refine Call.useKX (C := c_write_precious ‹_› ‹_› ‹_› ‹_› ‹_› ‹_›) (hK := q_none) (hX := qx_id) (ret := ?_) (exc := ?_); walk_at "sweptX")))
local macro_rules | `(tactic| walk_at "call ref") => `(tactic| (k_here; (with_reducible refine atRef 131 ?_); k_dflt (refine Call.useKX (C := c_make_backup ‹_› ‹_› (by walk_at "in man") ‹_› ‹_› ‹_›) (hK := q_STR) (hX := qx_id) (ret := ?_) (exc := ?_); walk_at "sweptX")))

theorem top_G5 : True := by
  w_top off
  trivial
def putOps (M : Man) (codes : List Int) : List (Files → Files) := if M.precious = true then precOps codes else opsWrite (Str.ofString "/d/f") codes
def bkAll (M : Man) (g : Files) (b : Bool) : List (Files → Files) := if b = true then [] else match g (Str.ofString "/d/f") with | none => [] | some old => mkOps M (nums g) old
/-- an end of a piece of the walk behind which the tree has gone on and one name has been bound -/
theorem CutM.mk {α : Type} {h₀ : Heap} {L : Addr} {x : Str} {m m' : Str → Option Value} {w : World} {ta : Addr} {T : Ft} {rest : List (Addr × Obj)} {g : Files} {ops : List (Files → Files)} {P : α → Prop} {Qc : α → Shared → Prop} {S : Shared} (K : ∀ r h' tk n' v, P r → Fr h₀ L h' (frU m x v) → News h₀ L h' n' → TR w ta T rest g ops n' → Qc r { S with heap := h', toks := tk })
    {r : α} {h' : Heap} {tk : Nat} {n' : List (Addr × Obj)} {v : Value} (hP : P r) (F : Fr h₀ L h' m') (hv : m' x = some v) (hm : ∀ y, y ≠ x → m' y = m y) (N : News h₀ L h' n') (R : TR w ta T rest g ops n') : Qc r { S with heap := h', toks := tk } := K r h' tk n' v hP (Fr.normU F hv hm) N R
theorem cutM {α : Type} {M : Model} {A : Around} {z : Sem α} {Q : α → Shared → Prop} {E : Value → Shared → Prop} {s S : Shared} {h₀ : Heap} {L : Addr} {m : Str → Option Value} {w : World} {ta : Addr} {T : Ft} {rest : List (Addr × Obj)} (x : Str) (g : Files) (ops : List (Files → Files)) (P : α → Prop) (_F : Fr h₀ L s.heap m) (_O : Own w ta T rest)
    (h : ∀ Qc : α → Shared → Prop, (∀ r h' tk n' v, P r → Fr h₀ L h' (frU m x v) → News h₀ L h' n' → TR w ta T rest g ops n' → Qc r { S with heap := h', toks := tk }) → wpAny M A z Qc E s) (k : ∀ r h' tk n' v, P r → Fr h₀ L h' (frU m x v) → News h₀ L h' n' → TR w ta T rest g ops n' → Q r { S with heap := h', toks := tk }) (_ : IsBase S := by assumption) : wpAny M A z Q E s := h Q k
theorem plainAt_has {T : Ft} {g : Files} (H : Has T.abs g) {x : Str} (hx : x ∈ Fs) : plainAt T x = (g x).isSome := by
  unfold plainAt
  cases hg : g x with
  | none => rw [H.none hx hg]; rfl
  | some ns =>
    obtain ⟨e, h1, h2, _⟩ := H.file hx hg
    rw [h1]
    simp [h2]
theorem made_only {x : Str} {v v2 : Option Value} {m₀ : Str → Option Value} : ∀ y, y ≠ x → (if y = x then v else if y = x then v2 else m₀ y) = (if y = x then v2 else m₀ y) := fun y h => by
  rw [if_neg h]
set_option maxRecDepth 100000 in
set_option maxHeartbeats 2000000 in
theorem c_write_file {w : World} {rest : List (Addr × Obj)} {ta ma cl : Addr} {T : Ft} {g : Files} {M : Man} {tx : Tok} {b : Bool} {cvs : List Value} {cns : List Int} {cn' : Nat} (O : Own w ta T rest) (H : Has T.abs g) (IM : ManIn w rest ma M) (hN : b = false → NumsOk (nums g))
    (hc : (cl, listOf cvs.toArray cn') ∈ rest) (hi : IntsAre cvs cns) (hl : cns.length ≤ 1000)
    (hex : b = false → ∀ old, g (Str.ofString "/d/f") = some old → ∀ i x, (planExtra M (nums g))[i]? = some x → x ∈ Fs ∧ ∃ c, run (bkOps M (nums g) old ++ delOps ((planExtra M (nums g)).take i)) g x = some c)
    (htmp : run (bkAll M g b) g (Str.ofString "/d/f.tmp0") = none) :
    Call w 9 152 [.ref ta, .str (Str.ofString "/d/f") tx, .ref cl, .ref ma, .bool b] (T.objs w ta ++ rest)
      (fun r n' => TR w ta T rest g (bkAll M g b ++ putOps M cns) n') (TX w ta T rest g (bkAll M g b ++ putOps M cns)) := by
  intro dp un gd cn cs a ccd cl outer A₀ base h₀ L m s Q E mean mg mb B F X N Tp hk hd hu hret hexc
  have I := O.inn
  have hii := I.inst
  have hid := I.dict
  have hf : Str.ofString "/d/f" ∈ Fs := by decide +kernel
  have hfU : Str.ofString "/d/f" ∈ U := by decide +kernel
  have hDx : Str.ofString "/d/f" = Str.ofString "/" ∨ Dirs T := .inr (H.dirs O.ok.all)
  have hpl := plainAt_has H hf
  have hmr := IM.inst
  have hmdr := IM.dict
  (refine' code_defQ (m' := fr5 (Str.ofString "tree") (Str.ofString "name") (Str.ofString "codes") (Str.ofString "manner") (Str.ofString "is_backed_up") _ _ _ _ _) ?k1 ?k2 ?k3 ?k4 ?k5 ?kA ?kF ?kK ?k6 ?k7 ?k8 ?k9 ?kB ?kM ?_ ?c2 ?c3 ?c4 ?c5; (case kA => exact rfl); (case kF => exact rfl); (case kK => first | exact rfl | assumption); (case k1 => k_asm); (case k2 => k_asm); (case k3 => k_asm); (case k4 => k_asm); (case k5 => k_asm); (case k6 => k_is); (case k7 => k_is); (case k8 => ktr_room); (case k9 => exact BindsTo.of_eq rfl); (case c5 => decide); (case kB => exact locs rfl); (case kM => exact rfl); (case c2 => exact rfl); (case c3 => exact rfl); (case c4 => exact rfl); k_whole; intro gq Lq Sq Qo Eo hSq FGq Fq Nq Bq Xq Tq hQo hEo hPo; (try dsimp only))
  (repeat' ((fail_if_success (with_reducible show wpAny _ _ (exec (Stmt.If (PySem.Expr.BoolOp _ _ _) _ _ _) _) _ _ _)); first | (k_unfold; (try dsimp only)) | (k_end; wrow_close) | walk1 | (dsimp only; walk1) | (leave1; walk_say "STEP leave1"; try dsimp only) | fail "no step")); all_goals (try (first | (refine hQo _ _ _ _ _ _ (by k_asm) (by k_asm) ?_; intro kF kN; (try dsimp only [valOf])) | (refine hEo _ _ _ ?_; (k_steps; all_goals (try (first | (refine hQo _ _ _ _ _ _ (by k_asm) (by k_asm) ?_; intro kF kN; (try dsimp only [valOf])) | (refine hEo _ _ _ ?_; k_steps)))))))
  refine cutM (Str.ofString "made") g (bkAll M g b) (fun fl => fl = Flow.next) (by k_asm) O (fun Qc hQc => ?_) ?_
  · cases b with
    | true =>
      (k_steps; all_goals (try (first | (refine hQo _ _ _ _ _ _ (by k_asm) (by k_asm) ?_; intro kF kN; (try dsimp only [valOf])) | (refine hEo _ _ _ ?_; k_steps))))
      exact CutM.mk hQc rfl (by k_asm) rfl (fun _ _ => rfl) (by k_asm) (TR.nil O H)
    | false =>
      cases hg : g (Str.ofString "/d/f") with
      | none =>
        rw [hg] at hpl
        have hpl : plainAt T (Str.ofString "/d/f") = false := hpl
        have e1 : bkAll M g false = [] := by unfold bkAll; rw [if_neg Bool.false_ne_true, hg]
        rw [e1] at hQc
        (k_steps; all_goals (try (first | (refine hQo _ _ _ _ _ _ (by k_asm) (by k_asm) ?_; intro kF kN; (try dsimp only [valOf])) | (refine hEo _ _ _ ?_; k_steps))))
        exact CutM.mk hQc rfl (by k_asm) rfl (fun _ _ => rfl) (by k_asm) (TR.nil O H)
      | some old =>
        rw [hg] at hpl
        have hpl : plainAt T (Str.ofString "/d/f") = true := hpl
        have e1 : bkAll M g false = mkOps M (nums g) old := by unfold bkAll; rw [if_neg Bool.false_ne_true, hg]
        have hex2 := hex rfl old hg
        have hN := hN rfl
        rw [e1] at hQc
        by_cases hway : wayOf M (nums g) = 0
        · have hne : (planName M (nums g) != Str.ofString "") = false := by rw [plan_name0 hway]; decide +kernel
          (k_steps; all_goals (try (first | (refine hQo _ _ _ _ _ _ (by k_asm) (by k_asm) ?_; intro kF kN; (try dsimp only [valOf])) | (refine hEo _ _ _ ?_; k_steps))))
          · exact CutM.mk hQc rfl (by k_asm) rfl made_only (by k_asm) ⟨_, rfl, by assumption, by assumption, by assumption⟩
          · exact hexc _ _ _ _ _ _ (TX.left _ (TX.conv e1.symm (by assumption))) (by assumption) (by assumption) (by assumption)
        · have hne : (planName M (nums g) != Str.ofString "") = true := by
            have h := (plan_name IM.ok hN hway).2.1
            unfold bne
            rw [h]
            rfl
          (k_steps; all_goals (try (first | (refine hQo _ _ _ _ _ _ (by k_asm) (by k_asm) ?_; intro kF kN; (try dsimp only [valOf])) | (refine hEo _ _ _ ?_; k_steps))))
          · exact CutM.mk hQc rfl (by k_asm) rfl made_only (by k_asm) ⟨_, rfl, by assumption, by assumption, by assumption⟩
          · exact hexc _ _ _ _ _ _ (TX.left _ (TX.conv e1.symm (by assumption))) (by assumption) (by assumption) (by assumption)
  · rintro _ h3 tk3 n3 v3 rfl F3 N3 ⟨T1, rfl, O1, d1, H1⟩
    try dsimp only
    have I1 := O1.inn
    have hi1 := I1.inst
    have hd1 := I1.dict
    have hD1 : parent (Str.ofString "/d/f") = Str.ofString "/" ∨ Dirs T1 := .inr (H1.dirs O1.ok.all)
    have hmi : (ma, instObj 108 M.md) ∈ T1.objs w ta ++ rest := List.mem_append_right _ IM.inst
    have hmd : (M.md, dictOf (manDict w M) 6) ∈ T1.objs w ta ++ rest := List.mem_append_right _ IM.dict
    unfold manDict at hmd
    clear I hii hid hDx hpl
    by_cases hp : M.precious = true
    · have e2 : putOps M cns = precOps cns := by unfold putOps; rw [if_pos hp]
      rw [hp] at hmd
      rw [e2] at hret hexc
      (k_steps; all_goals (try (first | (refine hQo _ _ _ _ _ _ (by k_asm) (by k_asm) ?_; intro kF kN; (try dsimp only [valOf])) | (refine hEo _ _ _ ?_; k_steps))))
      · exact hret _ _ _ _ (TR.trans d1 (by assumption)) (by k_asm) (by k_asm)
      · exact hexc _ _ _ _ _ _ (TX.trans d1 (by assumption)) (by assumption) (by assumption) (by assumption)
    · have hp2 : M.precious = false := by simpa using hp
      have e2 : putOps M cns = opsWrite (Str.ofString "/d/f") cns := by unfold putOps; rw [if_neg hp]
      rw [hp2] at hmd
      rw [e2] at hret hexc
      (k_steps; all_goals (try (first | (refine hQo _ _ _ _ _ _ (by k_asm) (by k_asm) ?_; intro kF kN; (try dsimp only [valOf])) | (refine hEo _ _ _ ?_; k_steps))))
      · exact hret _ _ _ _ (TR.trans d1 (by assumption)) (by k_asm) (by k_asm)
      · exact hexc _ _ _ _ _ _ (TX.trans d1 (by assumption)) (by assumption) (by assumption) (by assumption)
local macro_rules | `(tactic| walk_at "call ref") => `(tactic| (k_here; (with_reducible refine atRef 152 ?_); k_dflt (refine Call.useKX (C := c_write_file ‹_› ‹_› (by walk_at "in man") ‹_› ‹_› ‹_› ‹_› ‹_› ‹_›) (hK := q_TR) (hX := qx_id) (ret := ?_) (exc := ?_); walk_at "sweptX")))

theorem top_H1 : True := by
  w_top off
  trivial
structure NumsIn (ns : List Int) : Prop where
  few : ns.length ≤ 4
  fit : ∀ n ∈ ns, 1 ≤ n ∧ n ≤ 13
@[irreducible] def lastNm (ns : List Int) : Str := if ns = [] then Str.ofString "" else nmn (ns.getLastD 0)
def newestN (M : Man) (g : Files) : Str := if M.way = 2 ∨ (M.way = 3 ∧ nums g ≠ []) then lastNm (nums g) else if M.way ≠ 0 ∧ (g (Str.ofString "/d/f~")).isSome = true then Str.ofString "/d/f~" else Str.ofString ""
set_option maxRecDepth 100000 in
set_option maxHeartbeats 2000000 in
theorem c_backup_name {w : World} {news : List (Addr × Obj)} (tx : Tok) : Call w 1 77 [.str (Str.ofString "/d/f") tx] news (fun r n' => n' = news ∧ ∃ t, r = .str (Str.ofString "/d/f~") t) (fun _ => False) := by
  intro dp un gd cn cs a ccd cl outer A₀ base h₀ L m s Q E mean mg mb B F X N Tp hk hd hu hret hexc
  (refine' code_defQ (m' := fr1 (Str.ofString "name") _) ?k1 ?k2 ?k3 ?k4 ?k5 ?kA ?kF ?kK ?k6 ?k7 ?k8 ?k9 ?kB ?kM ?_ ?c2 ?c3 ?c4 ?c5; (case kA => exact rfl); (case kF => exact rfl); (case kK => first | exact rfl | assumption); (case k1 => k_asm); (case k2 => k_asm); (case k3 => k_asm); (case k4 => k_asm); (case k5 => k_asm); (case k6 => k_is); (case k7 => k_is); (case k8 => ktr_room); (case k9 => exact BindsTo.of_eq rfl); (case c5 => decide); (case kB => exact locs rfl); (case kM => exact rfl); (case c2 => exact rfl); (case c3 => exact rfl); (case c4 => exact rfl); k_whole; intro gq Lq Sq Qo Eo hSq FGq Fq Nq Bq Xq Tq hQo hEo hPo; (try dsimp only))
  (k_steps; all_goals (try (first | (refine hQo _ _ _ _ _ _ (by k_asm) (by k_asm) ?_; intro kF kN; (try dsimp only [valOf])) | (refine hEo _ _ _ ?_; k_steps))))
  exact hret _ _ _ _ ⟨rfl, _, vstr (by decide +kernel)⟩ (by k_asm) (by first | k_asm | exact cb_drop (by assumption) (by intro p hp; simp [hp]))
local macro_rules | `(tactic| walk_at "call ref") => `(tactic| (k_here; (with_reducible refine atRef 77 ?_); k_dflt (refine Call.useK (C := c_backup_name _) (hK := q_str) (ret := ?_); walk_at "swept")))
theorem few_cases4 {ns : List Int} (h : ns.length ≤ 4) : ns = [] ∨ (∃ a, ns = [a]) ∨ (∃ a b, ns = [a, b]) ∨ (∃ a b c, ns = [a, b, c]) ∨ ∃ a b c d, ns = [a, b, c, d] := by
  rcases ns with _ | ⟨a, _ | ⟨b, _ | ⟨c, _ | ⟨d, _ | ⟨e, r⟩⟩⟩⟩⟩
  · exact .inl rfl
  · exact .inr (.inl ⟨a, rfl⟩)
  · exact .inr (.inr (.inl ⟨a, b, rfl⟩))
  · exact .inr (.inr (.inr (.inl ⟨a, b, c, rfl⟩)))
  · exact .inr (.inr (.inr (.inr ⟨a, b, c, d, rfl⟩)))
  · exact absurd h (by simp only [List.length_cons]; omega)
set_option maxRecDepth 100000 in
set_option maxHeartbeats 2000000 in
theorem c_newestN {w : World} {news : List (Addr × Obj)} {ta ma : Addr} {T : Ft} {g : Files} {M : Man} {tx : Tok} (I : FtIn w news ta T) (H : Has T.abs g) (IM : ManIn w news ma M) (hN : NumsIn (nums g)) (hw : M.way = 2 ∨ (M.way = 3 ∧ nums g ≠ [])) :
    Call w 7 159 [.ref ta, .str (Str.ofString "/d/f") tx, .ref ma] news (fun r n' => n' = news ∧ ∃ t, r = .str (lastNm (nums g)) t) (fun _ => False) := by
  intro dp un gd cn cs a ccd cl outer A₀ base h₀ L m s Q E mean mg mb B F X N Tp hk hd hu hret hexc
  have hi := I.inst
  have hdi := I.dict
  have hmi := IM.inst
  have hmd := IM.dict
  obtain ⟨hfew, hfit⟩ := hN
  unfold manDict at hmd
  (refine' code_defQ (m' := fr3 (Str.ofString "tree") (Str.ofString "name") (Str.ofString "manner") _ _ _) ?k1 ?k2 ?k3 ?k4 ?k5 ?kA ?kF ?kK ?k6 ?k7 ?k8 ?k9 ?kB ?kM ?_ ?c2 ?c3 ?c4 ?c5; (case kA => exact rfl); (case kF => exact rfl); (case kK => first | exact rfl | assumption); (case k1 => k_asm); (case k2 => k_asm); (case k3 => k_asm); (case k4 => k_asm); (case k5 => k_asm); (case k6 => k_is); (case k7 => k_is); (case k8 => ktr_room); (case k9 => exact BindsTo.of_eq rfl); (case c5 => decide); (case kB => exact locs rfl); (case kM => exact rfl); (case c2 => exact rfl); (case c3 => exact rfl); (case c4 => exact rfl); k_whole; intro gq Lq Sq Qo Eo hSq FGq Fq Nq Bq Xq Tq hQo hEo hPo; (try dsimp only))
  (repeat' ((fail_if_success (with_reducible show wpAny _ _ (isTrue (PySem.Expr.BoolOp _ _ _) _ _) _ _ _)); first | (k_unfold; (try dsimp only)) | (k_end; wrow_close) | walk1 | (dsimp only; walk1) | (leave1; walk_say "STEP leave1"; try dsimp only) | fail "no step")); all_goals (try (first | (refine hQo _ _ _ _ _ _ (by k_asm) (by k_asm) ?_; intro kF kN; (try dsimp only [valOf])) | (refine hEo _ _ _ ?_; (k_steps; all_goals (try (first | (refine hQo _ _ _ _ _ _ (by k_asm) (by k_asm) ?_; intro kF kN; (try dsimp only [valOf])) | (refine hEo _ _ _ ?_; k_steps)))))))
  refine cutA (fun ok => ok = true) (by k_asm) (by k_asm) (fun Qc hQc => ?_) ?_
  · rcases hw with hw | ⟨hw, hnil⟩
    · rw [hw] at hmd
      (k_steps; all_goals (try (first | (refine hQo _ _ _ _ _ _ (by k_asm) (by k_asm) ?_; intro kF kN; (try dsimp only [valOf])) | (refine hEo _ _ _ ?_; k_steps))))
      exact CutA.mk hQc (by first | trivial | rfl) (by k_asm) (by k_asm) (fun p hp => hp)
    · rw [hw] at hmd
      have hdec : decide (nums g = []) = false := decide_eq_false hnil
      (k_steps; all_goals (try (first | (refine hQo _ _ _ _ _ _ (by k_asm) (by k_asm) ?_; intro kF kN; (try dsimp only [valOf])) | (refine hEo _ _ _ ?_; k_steps))))
      exact CutA.mk hQc (by first | trivial | rfl) (by k_asm) (by k_asm) (fun p hp => .tail _ hp)
  rintro _ h3 tk3 rfl F3 N3
  try dsimp only
  clear I hmd hw
  generalize nums g = ns at *
  rcases few_cases4 hfew with rfl | ⟨a, rfl⟩ | ⟨a, b, rfl⟩ | ⟨a, b, c, rfl⟩ | ⟨a, b, c, d, rfl⟩
  · skip
    have hdec : decide (([] : List Int) = []) = true := rfl
    have e : lastNm [] = Str.ofString "" := by unfold lastNm; rfl
    rw [e] at hret
    (k_steps; all_goals (try (first | (refine hQo _ _ _ _ _ _ (by k_asm) (by k_asm) ?_; intro kF kN; (try dsimp only [valOf])) | (refine hEo _ _ _ ?_; k_steps))))
    exact hret _ _ _ _ ⟨rfl, _, rfl⟩ (by k_asm) (cb_drop (by assumption) fun p hp => .tail _ (.tail _ hp))
  · skip
    have hdec : decide ([a] = []) = false := rfl
    obtain ⟨f1, f2⟩ := hfit a (by simp)
    have e : lastNm [a] = nmn a := by unfold lastNm; rfl
    rw [e] at hret
    (k_steps; all_goals (try (first | (refine hQo _ _ _ _ _ _ (by k_asm) (by k_asm) ?_; intro kF kN; (try dsimp only [valOf])) | (refine hEo _ _ _ ?_; k_steps))))
    exact hret _ _ _ _ ⟨rfl, _, rfl⟩ (by k_asm) (cb_drop (by assumption) fun p hp => .tail _ (.tail _ hp))
  · skip
    have hdec : decide ([a, b] = []) = false := rfl
    obtain ⟨f1, f2⟩ := hfit b (by simp)
    have e : lastNm [a, b] = nmn b := by unfold lastNm; rfl
    rw [e] at hret
    (k_steps; all_goals (try (first | (refine hQo _ _ _ _ _ _ (by k_asm) (by k_asm) ?_; intro kF kN; (try dsimp only [valOf])) | (refine hEo _ _ _ ?_; k_steps))))
    exact hret _ _ _ _ ⟨rfl, _, rfl⟩ (by k_asm) (cb_drop (by assumption) fun p hp => .tail _ (.tail _ hp))
  · skip
    have hdec : decide ([a, b, c] = []) = false := rfl
    obtain ⟨f1, f2⟩ := hfit c (by simp)
    have e : lastNm [a, b, c] = nmn c := by unfold lastNm; rfl
    rw [e] at hret
    (k_steps; all_goals (try (first | (refine hQo _ _ _ _ _ _ (by k_asm) (by k_asm) ?_; intro kF kN; (try dsimp only [valOf])) | (refine hEo _ _ _ ?_; k_steps))))
    exact hret _ _ _ _ ⟨rfl, _, rfl⟩ (by k_asm) (cb_drop (by assumption) fun p hp => .tail _ (.tail _ hp))
  · skip
    have hdec : decide ([a, b, c, d] = []) = false := rfl
    obtain ⟨f1, f2⟩ := hfit d (by simp)
    have e : lastNm [a, b, c, d] = nmn d := by unfold lastNm; rfl
    rw [e] at hret
    (k_steps; all_goals (try (first | (refine hQo _ _ _ _ _ _ (by k_asm) (by k_asm) ?_; intro kF kN; (try dsimp only [valOf])) | (refine hEo _ _ _ ?_; k_steps))))
    exact hret _ _ _ _ ⟨rfl, _, rfl⟩ (by k_asm) (cb_drop (by assumption) fun p hp => .tail _ (.tail _ hp))
set_option maxRecDepth 100000 in
set_option maxHeartbeats 2000000 in
theorem c_newest1 {w : World} {news : List (Addr × Obj)} {ta ma : Addr} {T : Ft} {g : Files} {M : Man} {tx : Tok} {nm : Str} (I : FtIn w news ta T) (H : Has T.abs g) (IM : ManIn w news ma M) (hN : NumsIn (nums g)) (hw : M.way = 0 ∨ M.way = 1 ∨ (M.way = 3 ∧ nums g = []))
    (hn0 : M.way = 0 → nm = Str.ofString "") (hn1 : M.way ≠ 0 → nm = if (g (Str.ofString "/d/f~")).isSome = true then Str.ofString "/d/f~" else Str.ofString "") :
    Call w 7 159 [.ref ta, .str (Str.ofString "/d/f") tx, .ref ma] news (fun r n' => n' = news ∧ ∃ t, r = .str nm t) (fun _ => False) := by
  intro dp un gd cn cs a ccd cl outer A₀ base h₀ L m s Q E mean mg mb B F X N Tp hk hd hu hret hexc
  have hi := I.inst
  have hdi := I.dict
  have hmi := IM.inst
  have hmd := IM.dict
  obtain ⟨hfew, hfit⟩ := hN
  have hf : Str.ofString "/d/f~" ∈ Fs := by decide +kernel
  have hfU : Str.ofString "/d/f~" ∈ U := by decide +kernel
  have hDx : Str.ofString "/d/f~" = Str.ofString "/" ∨ Dirs T := .inr (H.dirs I.ok.all)
  have hpl := plainAt_has H hf
  unfold manDict at hmd
  (refine' code_defQ (m' := fr3 (Str.ofString "tree") (Str.ofString "name") (Str.ofString "manner") _ _ _) ?k1 ?k2 ?k3 ?k4 ?k5 ?kA ?kF ?kK ?k6 ?k7 ?k8 ?k9 ?kB ?kM ?_ ?c2 ?c3 ?c4 ?c5; (case kA => exact rfl); (case kF => exact rfl); (case kK => first | exact rfl | assumption); (case k1 => k_asm); (case k2 => k_asm); (case k3 => k_asm); (case k4 => k_asm); (case k5 => k_asm); (case k6 => k_is); (case k7 => k_is); (case k8 => ktr_room); (case k9 => exact BindsTo.of_eq rfl); (case c5 => decide); (case kB => exact locs rfl); (case kM => exact rfl); (case c2 => exact rfl); (case c3 => exact rfl); (case c4 => exact rfl); k_whole; intro gq Lq Sq Qo Eo hSq FGq Fq Nq Bq Xq Tq hQo hEo hPo; (try dsimp only))
  rcases hw with hw | hw | ⟨hw, hnil⟩
  · rw [hw] at hmd
    have e := hn0 hw
    subst e
    (k_steps; all_goals (try (first | (refine hQo _ _ _ _ _ _ (by k_asm) (by k_asm) ?_; intro kF kN; (try dsimp only [valOf])) | (refine hEo _ _ _ ?_; k_steps))))
    exact hret _ _ _ _ ⟨rfl, _, rfl⟩ (by k_asm) (cb_drop (by assumption) fun p hp => .tail _ hp)
  · rw [hw] at hmd
    cases hg : (g (Str.ofString "/d/f~")).isSome
    · rw [hg] at hpl
      have e : nm = Str.ofString "" := by rw [hn1 (by omega), hg]; rfl
      subst e
      (k_steps; all_goals (try (first | (refine hQo _ _ _ _ _ _ (by k_asm) (by k_asm) ?_; intro kF kN; (try dsimp only [valOf])) | (refine hEo _ _ _ ?_; k_steps))))
      exact hret _ _ _ _ ⟨rfl, _, rfl⟩ (by k_asm) (cb_drop (by assumption) fun p hp => .tail _ hp)
    · rw [hg] at hpl
      have e : nm = Str.ofString "/d/f~" := by rw [hn1 (by omega), hg]; rfl
      subst e
      (k_steps; all_goals (try (first | (refine hQo _ _ _ _ _ _ (by k_asm) (by k_asm) ?_; intro kF kN; (try dsimp only [valOf])) | (refine hEo _ _ _ ?_; k_steps))))
      exact hret _ _ _ _ ⟨rfl, _, rfl⟩ (by k_asm) (cb_drop (by assumption) fun p hp => .tail _ hp)
  · rw [hw] at hmd
    have hdec : decide (nums g = []) = true := decide_eq_true hnil
    cases hg : (g (Str.ofString "/d/f~")).isSome
    · rw [hg] at hpl
      have e : nm = Str.ofString "" := by rw [hn1 (by omega), hg]; rfl
      subst e
      (k_steps; all_goals (try (first | (refine hQo _ _ _ _ _ _ (by k_asm) (by k_asm) ?_; intro kF kN; (try dsimp only [valOf])) | (refine hEo _ _ _ ?_; k_steps))))
      exact hret _ _ _ _ ⟨rfl, _, rfl⟩ (by k_asm) (cb_drop (by assumption) fun p hp => .tail _ (.tail _ hp))
    · rw [hg] at hpl
      have e : nm = Str.ofString "/d/f~" := by rw [hn1 (by omega), hg]; rfl
      subst e
      (k_steps; all_goals (try (first | (refine hQo _ _ _ _ _ _ (by k_asm) (by k_asm) ?_; intro kF kN; (try dsimp only [valOf])) | (refine hEo _ _ _ ?_; k_steps))))
      exact hret _ _ _ _ ⟨rfl, _, rfl⟩ (by k_asm) (cb_drop (by assumption) fun p hp => .tail _ (.tail _ hp))
theorem c_newest {w : World} {news : List (Addr × Obj)} {ta ma : Addr} {T : Ft} {g : Files} {M : Man} {tx : Tok} (I : FtIn w news ta T) (H : Has T.abs g) (IM : ManIn w news ma M) (hN : NumsIn (nums g)) :
    Call w 7 159 [.ref ta, .str (Str.ofString "/d/f") tx, .ref ma] news (fun r n' => n' = news ∧ ∃ t, r = .str (newestN M g) t) (fun _ => False) := by
  obtain ⟨h0, h3⟩ := IM.ok.way
  by_cases h : M.way = 2 ∨ (M.way = 3 ∧ nums g ≠ [])
  · have e : newestN M g = lastNm (nums g) := by unfold newestN; rw [if_pos h]
    rw [e]
    exact c_newestN I H IM hN h
  · refine c_newest1 I H IM hN ?_ (fun q => ?_) fun q => ?_
    · by_cases h1 : M.way = 0
      · exact .inl h1
      by_cases h2 : M.way = 1
      · exact .inr (.inl h2)
      by_cases h4 : nums g = []
      · exact .inr (.inr ⟨by omega, h4⟩)
      · exfalso
        by_cases h5 : M.way = 2
        · exact h (.inl h5)
        · exact h (.inr ⟨by omega, h4⟩)
    · unfold newestN; rw [if_neg h, if_neg (fun z => z.1 q)]
    · unfold newestN
      rw [if_neg h]
      by_cases h1 : (g (Str.ofString "/d/f~")).isSome = true
      · rw [if_pos h1, if_pos ⟨q, h1⟩]
      · rw [if_neg h1, if_neg (fun z => h1 z.2)]
local macro_rules | `(tactic| walk_at "call ref") => `(tactic| (k_here; (with_reducible refine atRef 159 ?_); k_dflt (refine Call.useK (C := c_newest (by walk_at "in tree") ‹_› (by walk_at "in man") ‹_›) (hK := q_str) (ret := ?_); walk_at "swept")))

theorem top_J1 : True := by
  w_top off
  trivial
/-- the deck: small numbers, not below zero -/
structure DeckIs (vs : List Value) (ns : List Int) : Prop where
  are : IntsAre vs ns
  pos : ∀ n ∈ ns, 0 ≤ n
  few : ns.length ≤ 64
theorem news_t1' {h₀ h : Heap} {L : Addr} {a : Addr × Obj} {R : List (Addr × Obj)} (N : News h₀ L h (a :: R)) : News h₀ L h R := fun p hp => N p (.tail _ hp)
theorem seq0 (v : Value) (vs : List Value) : seqIndex? 0 (v :: vs).toArray.size = some 0 := by
  unfold seqIndex?
  simp
set_option maxRecDepth 100000 in
set_option maxHeartbeats 2000000 in
theorem c_draw0 {w : World} {R : List (Addr × Obj)} {dk : Addr} {vs : List Value} {ns : List Int} {c : Nat} {k : Int} {tk : Tok} (hR : ∀ p ∈ R, p.1 ≠ dk) (D : DeckIs vs ns) (hk0 : 0 < k) (hk1 : k ≤ 8) :
    Call w 3 435 [.ref dk, .int k tk] ((dk, listOf vs.toArray c) :: R) (fun r n' => ∃ vs' ns' c' v t, n' = (dk, listOf vs'.toArray c') :: R ∧ DeckIs vs' ns' ∧ r = .int v t ∧ 0 ≤ v ∧ v < k) (fun _ => False) := by
  intro dp un gd cn cs a ccd cl outer A₀ base h₀ L m s Q E mean mg mb B F X N Tp hk hd hu hret hexc
  obtain ⟨d1, d2, d3⟩ := D
  (refine' code_defQ (m' := fr2 (Str.ofString "deck") (Str.ofString "many") _ _) ?k1 ?k2 ?k3 ?k4 ?k5 ?kA ?kF ?kK ?k6 ?k7 ?k8 ?k9 ?kB ?kM ?_ ?c2 ?c3 ?c4 ?c5; (case kA => exact rfl); (case kF => exact rfl); (case kK => first | exact rfl | assumption); (case k1 => k_asm); (case k2 => k_asm); (case k3 => k_asm); (case k4 => k_asm); (case k5 => k_asm); (case k6 => k_is); (case k7 => k_is); (case k8 => ktr_room); (case k9 => exact BindsTo.of_eq rfl); (case c5 => decide); (case kB => exact locs rfl); (case kM => exact rfl); (case c2 => exact rfl); (case c3 => exact rfl); (case c4 => exact rfl); k_whole; intro gq Lq Sq Qo Eo hSq FGq Fq Nq Bq Xq Tq hQo hEo hPo; (try dsimp only))
  (repeat' ((fail_if_success (with_reducible show wpAny _ _ (call (Value.builtin _) _) _ _ _)); first | (k_unfold; (try dsimp only)) | (k_end; wrow_close) | walk1 | (dsimp only; walk1) | (leave1; walk_say "STEP leave1"; try dsimp only) | fail "no step")); all_goals (try (first | (refine hQo _ _ _ _ _ _ (by k_asm) (by k_asm) ?_; intro kF kN; (try dsimp only [valOf])) | (refine hEo _ _ _ ?_; (k_steps; all_goals (try (first | (refine hQo _ _ _ _ _ _ (by k_asm) (by k_asm) ?_; intro kF kN; (try dsimp only [valOf])) | (refine hEo _ _ _ ?_; k_steps)))))))
  · exact hret _ _ _ _ ⟨vs, ns, c, 0, _, rfl, ⟨d1, d2, d3⟩, rfl, Int.le_refl _, hk0⟩ (by k_asm) (news_t1' (by assumption))
  · obtain ⟨n, t, vs', ns', e1, e2, d1'⟩ : ∃ n t vs' ns', vs = .int n t :: vs' ∧ ns = n :: ns' ∧ IntsAre vs' ns' := by
      cases d1 with
      | nil => rename_i hdd; cases hdd
      | cons n t d => exact ⟨n, t, _, _, rfl, rfl, d⟩
    subst e1 e2
    have hn := d2 n (.head _)
    have hlen := IntsAre.length d1'
    rw [List.length_cons] at d3
    refine kl_popAt (p := []) (q := vs') (y := .int n t) (k := 0) (by k_asm) (by k_asm) (by rfl) (seq0 _ _) rfl (by k_upd) (by show (Value.int n t :: vs').length ≤ sizeLine; rw [sizeLine_eq, List.length_cons]; omega) (fun h5 F5 N5 => ?_)
    clear N
    (k_steps; all_goals (try (first | (refine hQo _ _ _ _ _ _ (by k_asm) (by k_asm) ?_; intro kF kN; (try dsimp only [valOf])) | (refine hEo _ _ _ ?_; k_steps))))
    exact hret _ _ _ _ ⟨vs', ns', c + 1, _, _, rfl, ⟨d1', fun x hx => d2 x (.tail _ hx), by omega⟩, rfl, fmod_lo n hk0, fmod_hi n hk0⟩ (by k_asm) (news_t1' (by assumption))
theorem c_draw {w : World} {news : List (Addr × Obj)} {u : Obj → List (Addr × Obj)} {dk : Addr} {vs : List Value} {ns : List Int} {c : Nat} {k : Int} {tk : Tok} (Up : UpdF dk (listOf vs.toArray c) news u) (D : DeckIs vs ns) (hk0 : 0 < k) (hk1 : k ≤ 8) :
    Call w 3 435 [.ref dk, .int k tk] news (fun r n' => ∃ vs' ns' c' v t, n' = u (listOf vs'.toArray c') ∧ DeckIs vs' ns' ∧ r = .int v t ∧ 0 ≤ v ∧ v < k) (fun _ => False) := by
  obtain ⟨pre, post, e, hup, ha, hb⟩ := Up.split
  have hR : ∀ p ∈ pre ++ post, p.1 ≠ dk := fun p hp => (List.mem_append.mp hp).elim (ha p) (hb p)
  intro dp un gd cn cs a ccd cl outer A₀ base h₀ L m s Q E mean mg mb B F X N Tp hk hd hu hret hexc
  refine c_draw0 (R := pre ++ post) (c := c) (tk := tk) hR D hk0 hk1 dp un gd cn cs a ccd cl outer A₀ base h₀ L m s Q E mean mg mb B F X (cb_drop N fun p hp => by rw [e]; exact List.perm_middle.mem_iff.mpr hp) Tp hk hd hu ?_ fun e t h' tk' n' G hF => hF.elim
  rintro r h' tk' n' ⟨vs', ns', c', v, t, rfl, q⟩ F' N'
  exact hret r h' tk' _ ⟨vs', ns', c', v, t, rfl, q⟩ F' (cb_drop N' fun p hp => by rw [hup] at hp; exact List.perm_middle.mem_iff.mp hp)

theorem top_J2 : True := by
  w_top off
  trivial
local macro_rules | `(tactic| walk_at "call ref") => `(tactic| (k_here; (with_reducible refine atRef 435 ?_); k_dflt (refine Call.useK (C := c_draw (by k_updF) ‹_› (by decide) (by decide)) (hK := q_draw) (ret := ?_); walk_at "swept")))
/-- the end of one turn of a comprehension that draws -/
def EndD (h₀ : Heap) (L : Addr) (m : Str → Option Value) (dk : Addr) (nn : List (Addr × Obj)) (P : Value → Prop) (s : Shared) (y : Value) (s' : Shared) : Prop :=
  P y ∧ ∃ h' tk vs ns c, s' = { s with heap := h', toks := tk } ∧ Fr h₀ L h' m ∧ News h₀ L h' ((dk, listOf vs.toArray c) :: nn) ∧ DeckIs vs ns
theorem EndD.mk {h₀ : Heap} {L : Addr} {m : Str → Option Value} {dk : Addr} {nn : List (Addr × Obj)} {P : Value → Prop} {s : Shared} {y : Value} {h' : Heap} {tk : Nat} {vs : List Value} {ns : List Int} {c : Nat} (hP : P y) (F : Fr h₀ L h' m) (N : News h₀ L h' ((dk, listOf vs.toArray c) :: nn)) (D : DeckIs vs ns) :
    EndD h₀ L m dk nn P s y { s with heap := h', toks := tk } := ⟨hP, h', tk, vs, ns, c, rfl, F, N, D⟩
structure AllTurns (P : Int → Value → Prop) (n : Nat) (ys : List Value) : Prop where
  len : ys.length = n
  all : ∀ (i : Nat) y, ys[i]? = some y → P i y
theorem AllTurns.snoc {P : Int → Value → Prop} {n : Nat} {ys : List Value} {y : Value} (h : AllTurns P n ys) (hy : P n y) : AllTurns P (n + 1) (ys ++ [y]) := by
  refine ⟨by rw [List.length_append, h.len]; rfl, fun i z hz => ?_⟩
  rw [List.getElem?_append] at hz
  split at hz
  · exact h.all i z hz
  · rename_i hi
    have e := h.len
    have e2 : i - ys.length = 0 := by
      cases hq : i - ys.length with
      | zero => rfl
      | succ j => rw [hq] at hz; simp at hz
    rw [e2] at hz
    simp only [List.getElem?_cons_zero, Option.some.injEq] at hz
    have e3 : i = n := by omega
    subst e3
    exact hz ▸ hy
theorem range4 {v : Int} (h0 : 0 ≤ v) (h4 : v < 4) : Builtin.Range.small 0 v 1 = true ∧ Builtin.Range.rangeSize 0 v 1 = ((v.toNat : Nat) : Int) ∧ v.toNat ≤ sizeLine := by
  have k : ∀ i : Fin 4, Builtin.Range.small 0 (i.val : Int) 1 = true ∧ Builtin.Range.rangeSize 0 (i.val : Int) 1 = (i.val : Int) := by decide +kernel
  have k := k ⟨v.toNat, by omega⟩
  have e := Int.toNat_of_nonneg h0
  dsimp only at k
  rw [e] at k
  exact ⟨k.1, k.2.trans e.symm, by rw [sizeLine_eq]; omega⟩
section
variable {prog : Program} {w : World} {A : Around} {s : Shared} {h₀ : Heap} {L : Addr} {m : Str → Option Value} {env : Env}
theorem compN_ind {elt : PySem.Expr} {x : Str} {scope : Scope} {cl : List (Str × Addr)} {S : List (Addr × Obj) → Prop} {P : Nat → Value → Prop} {Fin : List Value → List (Addr × Obj) → Prop} {n : Nat} (Inv : Nat → List Value → List (Addr × Obj) → Prop)
    (hstep : ∀ i ys nw v I oI C oC D m₂ h tk (E' : Value → Shared → Prop), i < n → Inv i ys nw → P i v → LCg.NsObj oC m₂ → m₂ x = some v → Fr h₀ L h m → News h₀ L h ((I, oI) :: (C, oC) :: (D, LCg.lst ys) :: nw) → LCg.Off3 I C D nw → ((@Ne Nat I C) ∧ (@Ne Nat I D) ∧ (@Ne Nat C D)) →
      wpAny (model prog w) A (eval elt (compEnvC scope cl C env)) (LCg.CompEnd h₀ L m { s with heap := h, toks := tk } I oI C oC D (LCg.lst ys) S (fun y nw' => Inv (i + 1) (ys ++ [y]) nw')) E' { s with heap := h, toks := tk })
    (hfin : ∀ ys nw, Inv n ys nw → Fin ys nw) : ∀ k i ys nw, i + k = n → Inv i ys nw → LCg.CompRest prog w A h₀ L m env elt x scope cl s S P Fin k i ys nw := by
  intro k
  induction k with
  | zero =>
    intro i ys nw e hI
    have e' : i = n := e
    subst e'
    exact LCg.CompRest.zero (hfin ys nw hI)
  | succ k ih =>
    intro i ys nw e hI
    refine LCg.CompRest.succ fun v I oI C oC D m₂ h tk E' hp ho hm F N off ne => wpAny_mono (hstep i ys nw v I oI C oC D m₂ h tk E' (by omega) hI hp ho hm F N off ne) (fun y s₅ h₅ => ?_) fun _ _ e => e
    obtain ⟨h', tk', news', e1, F', N', off', hS', hI'⟩ := h₅
    exact ⟨h', tk', news', e1, F', N', off', hS', ih (i + 1) _ _ (by omega) hI'⟩
theorem off3_swap {I C D dk : Addr} {o o' : Obj} {nn : List (Addr × Obj)} (h : LCg.Off3 I C D ((dk, o) :: nn)) : LCg.Off3 I C D ((dk, o') :: nn) := ⟨h.1, h.2⟩
theorem compSrc_deck {elt : PySem.Expr} {x : Str} {scope : Scope} {cl : List (Str × Addr)} {Fin : Shared → List Value → List (Addr × Obj) → Prop} {r dk : Addr} {v : Int} {t1 t2 t3 : Tok} {dvs : List Value} {dns : List Int} {c : Nat} {nn : List (Addr × Obj)} (hh : A.handled = none)
    (F : Fr h₀ L s.heap m) (N : News h₀ L s.heap ((dk, listOf dvs.toArray c) :: nn)) (hnn : ∀ p ∈ nn, p.1 ≠ dk) (D : DeckIs dvs dns) (hr : IsRange s.heap r 0 v 1 t1 t2 t3) (h0 : 0 ≤ v) (h4 : v < 4) (P : Int → Value → Prop)
    (hstep : ∀ (i : Int) ti ys dvs dns c I oI C oC Dd m₂ h tk (E' : Value → Shared → Prop) g, 0 ≤ i → i < v → DeckIs dvs dns → LCg.NsObj oC m₂ → m₂ x = some (.int i ti) → Fr h₀ L h m → News h₀ L h ((dk, listOf dvs.toArray c) :: (I, oI) :: (C, oC) :: (Dd, LCg.lst ys) :: nn) → (∀ p ∈ (I, oI) :: (C, oC) :: (Dd, LCg.lst ys) :: nn, p.1 ≠ dk) →
      wpAny (model prog w) A (eval elt (compEnvC scope cl C env)) (EndD h₀ L m dk ((I, oI) :: (C, oC) :: (Dd, LCg.lst ys) :: nn) (P i) { ({ s with heap := g } : Shared) with heap := h, toks := tk }) E' { ({ s with heap := g } : Shared) with heap := h, toks := tk })
    (hfin : ∀ g ys dvs dns c, AllTurns P v.toNat ys → DeckIs dvs dns → Fin { s with heap := g } ys ((dk, listOf dvs.toArray c) :: nn)) : LCg.CompSrc prog w A h₀ L m env elt x scope cl Fin (.ref r) s := by
  obtain ⟨r1, r2, r3⟩ := range4 h0 h4
  refine LCg.CompSrc.range hh F N hr r1 r2 r3 fun g => ?_
  refine compN_ind (fun i ys nw => AllTurns P i ys ∧ ∃ dvs dns c, nw = (dk, listOf dvs.toArray c) :: nn ∧ DeckIs dvs dns) ?_ ?_ _ 0 [] _ (Nat.zero_add _) ⟨⟨rfl, fun i y hy => by simp at hy⟩, dvs, dns, c, rfl, D⟩
  · rintro i ys nw vv I oI C oC Dd m₂ h tk E' hlt ⟨hA, dvs1, dns1, c1, rfl, D1⟩ ⟨ti, hp⟩ hNs hm₂ F₂ N₂ off hne
    have e0 : vv = .int (i : Int) ti := by rw [hp]; exact vint (by omega)
    subst e0
    have o1 := off.mem (dk, _) (.head _)
    refine wpAny_mono (hstep i ti ys dvs1 dns1 c1 I oI C oC Dd m₂ h tk E' g (by omega) (by omega) D1 hNs hm₂ F₂ (cb_drop N₂ fun p hp => ?_) (fun p hp => ?_)) (fun y s₅ h₅ => ?_) fun _ _ e => e
    · rcases List.mem_cons.mp hp with e | hp
      · rw [e]; exact .tail _ (.tail _ (.tail _ (.head _)))
      rcases List.mem_cons.mp hp with e | hp
      · rw [e]; exact .head _
      rcases List.mem_cons.mp hp with e | hp
      · rw [e]; exact .tail _ (.head _)
      rcases List.mem_cons.mp hp with e | hp
      · rw [e]; exact .tail _ (.tail _ (.head _))
      · exact .tail _ (.tail _ (.tail _ (.tail _ hp)))
    · rcases List.mem_cons.mp hp with e | hp
      · rw [e]; exact fun q => o1.1 q.symm
      rcases List.mem_cons.mp hp with e | hp
      · rw [e]; exact fun q => o1.2.1 q.symm
      rcases List.mem_cons.mp hp with e | hp
      · rw [e]; exact fun q => o1.2.2 q.symm
      · exact hnn p hp
    · obtain ⟨hPy, h', tk', dvs2, dns2, c2, e1, F', N', D2⟩ := h₅
      refine ⟨h', tk', (dk, listOf dvs2.toArray c2) :: nn, e1, F', cb_drop N' fun p hp => ?_, off3_swap off, trivial, hA.snoc hPy, dvs2, dns2, c2, rfl, D2⟩
      rcases List.mem_cons.mp hp with e | hp
      · rw [e]; exact .tail _ (.head _)
      rcases List.mem_cons.mp hp with e | hp
      · rw [e]; exact .tail _ (.tail _ (.head _))
      rcases List.mem_cons.mp hp with e | hp
      · rw [e]; exact .tail _ (.tail _ (.tail _ (.head _)))
      rcases List.mem_cons.mp hp with e | hp
      · rw [e]; exact .head _
      · exact .tail _ (.tail _ (.tail _ (.tail _ hp)))
  · rintro ys nw ⟨hA, dvs1, dns1, c1, rfl, D1⟩
    exact hfin g ys dvs1 dns1 c1 hA D1
end

theorem top_J3 : True := by
  w_top off
  trivial
theorem turns_ints {n : Nat} {ys : List Value} (h : AllTurns (fun _ y => ∃ n t, y = Value.int n t) n ys) : ∃ ns, IntsAre ys ns ∧ ns.length = n := by
  obtain ⟨h1, h2⟩ := h
  have h3 : ∀ y ∈ ys, ∃ n t, y = Value.int n t := fun y hy => by
    obtain ⟨i, hi, e⟩ := List.getElem_of_mem hy
    exact h2 i y (by rw [← e]; exact List.getElem?_eq_getElem hi)
  clear h2
  induction ys generalizing n with
  | nil => exact ⟨[], .nil, h1⟩
  | cons y r ih =>
    obtain ⟨k, t, rfl⟩ := h3 y (.head _)
    obtain ⟨ns, a, b⟩ := ih (n := r.length) rfl fun z hz => h3 z (.tail _ hz)
    exact ⟨k :: ns, .cons k t a, by rw [List.length_cons, b]; exact h1⟩
section
local macro_rules | `(tactic| walk_at "CompSrc") => `(tactic| (k_here; k_dflt (refine compSrc_deck rfl ‹_› (news_swap ‹_›) (by k_all) ‹_› ‹_› ‹_› ‹_› (fun _ y => ∃ n t, y = Value.int n t) ?_ ?_)))
set_option maxRecDepth 100000 in
set_option maxHeartbeats 2000000 in
theorem c_text {w : World} {R : List (Addr × Obj)} {dk : Addr} {vs : List Value} {ns : List Int} {c : Nat} (hR : ∀ p ∈ R, p.1 ≠ dk) (D : DeckIs vs ns) :
    Call w 4 440 [.ref dk] ((dk, listOf vs.toArray c) :: R)
      (fun r n' => ∃ Dl tvs tns tc vs' ns' c', n' = (Dl, listOf tvs.toArray tc) :: (dk, listOf vs'.toArray c') :: R ∧ r = .ref Dl ∧ IntsAre tvs tns ∧ tns.length ≤ 3 ∧ DeckIs vs' ns' ∧ @Ne Nat dk Dl ∧ ∀ p ∈ R, p.1 ≠ Dl) (fun _ => False) := by
  intro dp un gd cn cs a ccd cl outer A₀ base h₀ L m s Q E mean mg mb B F X N Tp hk hd hu hret hexc
  (refine' code_defCQ ?k1 ?k2 ?k3 ?k4 ?k5 ?kA ?kF ?kK ?k6 ?k7 ?k8 ?k9 ?kB ?kD ?_ ?c2 ?c3 ?c4; (case kA => exact rfl); (case kF => exact rfl); (case kK => first | exact rfl | assumption); (case k1 => k_asm); (case k2 => k_asm); (case k3 => k_asm); (case k4 => k_asm); (case k5 => k_asm); (case k6 => k_is); (case k7 => k_is); (case k8 => ktr_room); (case k9 => exact BindsTo.of_eq rfl); (case kB => exact rfl); (case kD => decide +kernel); (case c2 => exact rfl); (case c3 => exact rfl); (case c4 => exact rfl); k_whole; intro g' L' Sq Qo Eo cells' hSq FG' F' N' Y' B' X' T' l1 hQo hEo hPo; (try k_lt l1); k_cells Y'; (try simp only [List.cons_append, List.nil_append] at N'); (try dsimp only))
  (k_steps; all_goals (try (first | (refine hQo _ _ _ _ _ _ (by k_asm) (by k_asm) ?_; intro kF kN; (try dsimp only [valOf])) | (refine hEo _ _ _ ?_; k_steps))))
  · exact .mk ⟨_, _, rfl⟩ (by k_asm) (by k_asm) (by k_asm)
  · obtain ⟨tns, ti, tl⟩ := turns_ints (by assumption)
    obtain ⟨o1, _, o2⟩ := ‹dk ≠ _ ∧ L' + 1 ≠ _ ∧ LCg.Off1 _ R›
    exact hret _ _ _ _ ⟨_, _, tns, _, _, _, _, rfl, rfl, ti, by rw [tl]; omega, by assumption, o1, off1_to o2⟩ (by k_asm) (cb_drop (by assumption) (fun p hp => by (repeat (rcases List.mem_cons.mp hp with rfl | hp; · (repeat (first | exact List.mem_cons_self | refine List.mem_cons_of_mem _ ?_)))); (repeat (first | exact hp | refine List.mem_cons_of_mem _ ?_))))
end
local macro_rules | `(tactic| walk_at "no such step 1") => `(tactic| fail)
local macro_rules | `(tactic| walk_at "no such step 2") => `(tactic| fail)
local macro_rules | `(tactic| walk_at "call ref") => `(tactic| (k_here; (with_reducible refine atRef 440 ?_); k_dflt (refine Call.useK (C := c_text (by k_all) ‹_›) (hK := q_text) (ret := ?_); walk_at "swept")))

theorem top_K1 : True := by
  w_top off
  trivial
def oldOps (old : Option (List Int)) : List (Files → Files) := match old with | none => [] | some c => opsWrite (Str.ofString "/d/f") c
def treeOps (old : Option (List Int)) (ns : List Int) (single : Bool) : List (Files → Files) :=
  oldOps old ++ (ns.flatMap fun n => opsWrite (nmn n) [100 + n]) ++ (if single = true then opsWrite (Str.ofString "/d/f~") [99] else [])
def noFiles : Files := fun _ => none
/-- a text or none -/
def OldIs (R : List (Addr × Obj)) (ov : Value) (old : Option (List Int)) : Prop :=
  (ov = .none ∧ old = none) ∨ ∃ l vs c ns, ov = .ref l ∧ old = some ns ∧ (l, listOf vs.toArray c) ∈ R ∧ IntsAre vs ns ∧ ns.length ≤ 1000
theorem Own.init {w : World} {ta dt de ea ed L : Addr} {h₀ h : Heap} {oE : Obj} {R : List (Addr × Obj)} {st : Int} {k0 k1 k2 k3 k4 k5 t0 t1 t2 t3 t4 tk : Tok}
    (N : News h₀ L h ((ta, instObj 410 dt) :: (dt, dictOf (selfDict w 0 (-1) de t0 t1 t2 t3 t4) 3) :: (de, oE) :: (ea, instObj 209 ed) :: (ed, dictOf (entD w st k0 k1 k2 k3 k4 k5) 4) :: R))
    (isd : oE.IsDictOf (PySem.strKind PySem.Challenge.rw_np0075_01.row.prog w) (strPairs [(Value.str (Str.ofString "/") tk, .ref ea)])) (lo : (de == sysModules) = false) (hR : (R.map (·.1)).Nodup)
    (l1 : ∀ p ∈ R, p.1 < dt) (l2 : @LT.lt Nat _ dt ta) (l3 : @LT.lt Nat _ ta de) (l4 : @LT.lt Nat _ de ed) (l5 : @LT.lt Nat _ ed ea) :
    ∃ T e0, News h₀ L h (T.objs w ta ++ R) ∧ Own w ta T R ∧ T.ents = [e0] ∧ e0.name = Str.ofString "/" ∧ e0.so = 0 ∧ T.left = -1 := by
  refine ⟨⟨dt, de, oE, 0, -1, t0, t1, t2, t3, t4, [⟨Str.ofString "/", ea, ed, ed, 0, .none, [], [], 0, st, k0, k1, k2, k3, k4, k5⟩]⟩, ⟨Str.ofString "/", ea, ed, ed, 0, .none, [], [], 0, st, k0, k1, k2, k3, k4, k5⟩, N, ⟨⟨isd, lo, fun e he => ?_, Nat.le_of_ble_eq_true rfl⟩, ?_⟩, rfl, rfl, rfl, rfl⟩
  · rw [List.mem_singleton.mp he]; exact ⟨.inl ⟨rfl, rfl⟩⟩
  · show ((ta :: dt :: de :: ea :: ed :: R.map (·.1)) : List Nat).Nodup
    have hl : ∀ x : Nat, @LE.le Nat _ dt x → x ∉ (R.map (·.1) : List Nat) := fun x hx hm => by
      obtain ⟨p, hp, e⟩ := List.mem_map.mp hm
      have h1 : @LT.lt Nat _ p.1 dt := l1 p hp
      have e' : (p.1 : Nat) = x := e
      omega
    have l2' : (dt : Nat) < ta := l2
    have l3' : (ta : Nat) < de := l3
    have l4' : (de : Nat) < ed := l4
    have l5' : (ed : Nat) < ea := l5
    simp only [List.nodup_cons, List.mem_cons, not_or]
    refine ⟨⟨?_, ?_, ?_, ?_, hl _ ?_⟩, ⟨?_, ?_, ?_, hl _ ?_⟩, ⟨?_, ?_, hl _ ?_⟩, ⟨?_, hl _ ?_⟩, hl _ ?_, hR⟩ <;> omega
theorem nmn_is2 {n : Int} (h1 : 1 ≤ n) (h2 : n ≤ 13) : Str.ofString "/d/f.~" ++ Str.ofString (toString n) ++ Str.ofString "~" = nmn n := by
  obtain ⟨i, rfl⟩ := fin_of (k := 13) h1 h2
  unfold nmn
  revert i
  decide +kernel
theorem TX.never {w : World} {ta : Addr} {T : Ft} {rest n' : List (Addr × Obj)} {g : Files} {ops : List (Files → Files)} (h : TX w ta T rest g ops n') (hl : T.left < 0) : False := by
  obtain ⟨T', e, O, a, b, c⟩ := h
  omega
theorem Done.neg {l l' : Int} {k : Nat} (h : Done l k l') (hl : l < 0) : l' < 0 := by unfold Done at h; omega
theorem Done.same {l l' : Int} {k : Nat} (h : Done l k l') (hl : l < 0) : l' = l := by unfold Done at h; omega
theorem step_neg {a b : Int} (h : a = stepL b) (hb : b = -1) : a = -1 ∧ a < 0 := by unfold stepL at h; subst hb; rw [if_neg (by decide)] at h; omega
theorem Own.carryI {w : World} {ta D L : Addr} {h₀ h : Heap} {n : Int} {t : Tok} {c : Nat} {T : Ft} {rest : List (Addr × Obj)} (O : Own w ta T rest) (N : News h₀ L h ((D, listOf [Value.int n t].toArray c) :: (T.objs w ta ++ rest))) (l : ∀ q ∈ T.objs w ta ++ rest, q.1 < D) :
    Own w ta T ((D, listOf [Value.int n t].toArray c) :: rest) ∧ News h₀ L h (T.objs w ta ++ (D, listOf [Value.int n t].toArray c) :: rest) ∧ (D, listOf [Value.int n t].toArray c) ∈ (D, listOf [Value.int n t].toArray c) :: rest ∧ IntsAre [Value.int n t] [n] ∧ [n].length ≤ 1000 :=
  ⟨O.fresh l, cb_drop N fun _ hp => mem_mid hp, .head _, .cons n t .nil, Nat.le_of_ble_eq_true rfl⟩
theorem ints_itm {vs : List Value} {ns : List Int} (h : IntsAre vs ns) {i : Nat} {a : Itm} (ha : (vs.map Itm.val)[i]? = some a) : ∃ n t, a = Itm.val (.int n t) ∧ ns[i]? = some n := by
  rw [List.getElem?_map] at ha
  cases hv : vs[i]? with
  | none => rw [hv] at ha; cases ha
  | some v =>
    rw [hv] at ha
    obtain ⟨n, t, rfl, hn⟩ := ints_at h hv
    exact ⟨n, t, (Option.some.inj ha).symm, hn⟩
theorem flat_step {ns : List Int} {i : Nat} {n : Int} (h : ns[i]? = some n) (f : Int → List (Files → Files)) : (ns.take (i + 1)).flatMap f = (ns.take i).flatMap f ++ f n := by
  rw [List.take_add_one, h, List.flatMap_append]
  simp
theorem ints_len {vs : List Value} {ns : List Int} (h : IntsAre vs ns) : (vs.map Itm.val).length = ns.length := by rw [List.length_map]; exact IntsAre.length h
set_option maxRecDepth 100000 in
set_option maxHeartbeats 2000000 in
theorem c_tree {w : World} {R : List (Addr × Obj)} {ov : Value} {old : Option (List Int)} {nl : Addr} {nvs : List Value} {ns : List Int} {nc : Nat} {single : Bool} (hR : (R.map (·.1)).Nodup) (ho : OldIs R ov old) (hn : (nl, listOf nvs.toArray nc) ∈ R) (hni : IntsAre nvs ns) (hok : NumsOk ns) :
    Call w 8 447 [ov, .ref nl, .bool single] R (fun r n' => ∃ ta T, r = .ref ta ∧ n' = T.objs w ta ++ R ∧ Own w ta T R ∧ T.left = -1 ∧ Has T.abs (run (treeOps old ns single) noFiles)) (fun _ => False) := by
  intro dp un gd cn cs a ccd cl outer A₀ base h₀ L m s Q E mean mg mb B F X N Tp hk hd hu hret hexc
  (refine' code_defQ (m' := fr3 (Str.ofString "old") (Str.ofString "numbers") (Str.ofString "is_single") _ _ _) ?k1 ?k2 ?k3 ?k4 ?k5 ?kA ?kF ?kK ?k6 ?k7 ?k8 ?k9 ?kB ?kM ?_ ?c2 ?c3 ?c4 ?c5; (case kA => exact rfl); (case kF => exact rfl); (case kK => first | exact rfl | assumption); (case k1 => k_asm); (case k2 => k_asm); (case k3 => k_asm); (case k4 => k_asm); (case k5 => k_asm); (case k6 => k_is); (case k7 => k_is); (case k8 => ktr_room); (case k9 => exact BindsTo.of_eq rfl); (case c5 => decide); (case kB => exact locs rfl); (case kM => exact rfl); (case c2 => exact rfl); (case c3 => exact rfl); (case c4 => exact rfl); k_whole; intro gq Lq Sq Qo Eo hSq FGq Fq Nq Bq Xq Tq hQo hEo hPo; (try dsimp only))
  (repeat' ((fail_if_success (with_reducible show wpAny _ _ (call (Value.ref 367) _) _ _ _)); first | (k_unfold; (try dsimp only)) | (k_end; wrow_close) | walk1 | (dsimp only; walk1) | (leave1; walk_say "STEP leave1"; try dsimp only) | fail "no step")); all_goals (try (first | (refine hQo _ _ _ _ _ _ (by k_asm) (by k_asm) ?_; intro kF kN; (try dsimp only [valOf])) | (refine hEo _ _ _ ?_; (k_steps; all_goals (try (first | (refine hQo _ _ _ _ _ _ (by k_asm) (by k_asm) ?_; intro kF kN; (try dsimp only [valOf])) | (refine hEo _ _ _ ?_; k_steps)))))))
  obtain ⟨T0, e0, N0, O0, he, hn0, hs0, hl0⟩ := Own.init (cb_drop (by assumption) (fun p hp => by (repeat (rcases List.mem_cons.mp hp with rfl | hp; · (repeat (first | exact List.mem_cons_self | refine List.mem_cons_of_mem _ ?_)))); (repeat (first | exact hp | refine List.mem_cons_of_mem _ ?_)))) (by assumption) (by assumption) hR (by assumption) (by assumption) (‹_ < _ ∧ _ < _ ∧ AllLt _ R›).1 (‹_ < _ ∧ _ < _ ∧ _ < _ ∧ AllLt _ R›).1 (by assumption)
  clear N
  (repeat' ((fail_if_success (with_reducible show wpAny _ _ (exec (Stmt.If _ _ _ _) _) _ _ _)); first | (k_unfold; (try dsimp only)) | (k_end; wrow_close) | walk1 | (dsimp only; walk1) | (leave1; walk_say "STEP leave1"; try dsimp only) | fail "no step")); all_goals (try (first | (refine hQo _ _ _ _ _ _ (by k_asm) (by k_asm) ?_; intro kF kN; (try dsimp only [valOf])) | (refine hEo _ _ _ ?_; (k_steps; all_goals (try (first | (refine hQo _ _ _ _ _ _ (by k_asm) (by k_asm) ?_; intro kF kN; (try dsimp only [valOf])) | (refine hEo _ _ _ ?_; k_steps)))))))
  · obtain ⟨hl1, hneg⟩ := step_neg (by assumption) hl0
    have hf : Str.ofString "/d/f" ∈ Fs := by decide +kernel
    have hft : Str.ofString "/d/f~" ∈ Fs := by decide +kernel
    refine cutT noFiles (oldOps old) (fun fl => fl = Flow.next) (by k_asm) (by assumption : Own w _ _ R) (fun Qc hQc => ?_) ?_
    · rcases ho with ⟨rfl, rfl⟩ | ⟨l, vs, c, cns, rfl, rfl, hm, hi, hl⟩
      · (k_steps; all_goals (try (first | (refine hQo _ _ _ _ _ _ (by k_asm) (by k_asm) ?_; intro kF kN; (try dsimp only [valOf])) | (refine hEo _ _ _ ?_; k_steps))))
        exact CutT.mk hQc rfl (by k_asm) (by k_asm) (TR.nil (by assumption) (by assumption))
      · (k_steps; all_goals (try (first | (refine hQo _ _ _ _ _ _ (by k_asm) (by k_asm) ?_; intro kF kN; (try dsimp only [valOf])) | (refine hEo _ _ _ ?_; k_steps))))
        · exact CutT.mk hQc rfl (by k_asm) (by k_asm) (by assumption)
        · exact ((by assumption : TX w _ _ R _ _ _).never hneg).elim
    · rintro _ h3 tk3 n3 rfl F3 N3 ⟨T2, rfl, O2, d2, H2⟩
      try dsimp only
      have hl2 := d2.same hneg
      rw [hl1] at hl2
      have hneg2 : T2.left < 0 := by omega
      clear hl1 hneg d2
      generalize hg2 : run (oldOps old) noFiles = g2 at H2
      (repeat' ((fail_if_success (with_reducible show wpAny _ _ (exec (Stmt.For _ _ _ _ _) _) _ _ _)); first | (k_unfold; (try dsimp only)) | (k_end; wrow_close) | walk1 | (dsimp only; walk1) | (leave1; walk_say "STEP leave1"; try dsimp only) | fail "no step")); all_goals (try (first | (refine hQo _ _ _ _ _ _ (by k_asm) (by k_asm) ?_; intro kF kN; (try dsimp only [valOf])) | (refine hEo _ _ _ ?_; (k_steps; all_goals (try (first | (refine hQo _ _ _ _ _ _ (by k_asm) (by k_asm) ?_; intro kF kN; (try dsimp only [valOf])) | (refine hEo _ _ _ ?_; k_steps)))))))
      refine For_turns (by k_asm) ?_
      (repeat' ((fail_if_success (with_reducible show wpAny _ _ (pyIter (Value.ref _)) _ _ _)); first | (k_unfold; (try dsimp only)) | (k_end; wrow_close) | walk1 | (dsimp only; walk1) | (leave1; walk_say "STEP leave1"; try dsimp only) | fail "no step")); all_goals (try (first | (refine hQo _ _ _ _ _ _ (by k_asm) (by k_asm) ?_; intro kF kN; (try dsimp only [valOf])) | (refine hEo _ _ _ ?_; (k_steps; all_goals (try (first | (refine hQo _ _ _ _ _ _ (by k_asm) (by k_asm) ?_; intro kF kN; (try dsimp only [valOf])) | (refine hEo _ _ _ ?_; k_steps)))))))
      refine iter_listTurns rfl (by k_asm) (by k_asm) (by exact List.mem_append_right _ hn) (by exact rfl) (by exact rfl) (fun I4 hI4 => ?_)
      refine items_tree (T := T2) (g := g2) (ta := _) (Str.ofString "number") _ (fun i => (ns.take i).flatMap fun n => opsWrite (nmn n) [100 + n]) ?_ ?_ ⟨T2, rfl, O2, Done.zero _ trivial, H2, fun q hq => Nat.ne_of_lt (hI4 q hq)⟩
      · intro i a mx Ti v h tk5 oi ha Oi di Hi hav Fi hoi Ni
        obtain ⟨n, tv, rfl, hno⟩ := ints_itm hni ha
        have ev : v = Value.int n tv := hav
        subst ev
        obtain ⟨n1, n2⟩ := hok.fit n (List.mem_of_getElem? hno)
        have hnF : Str.ofString "/d/f.~" ++ Str.ofString (toString n) ++ Str.ofString "~" ∈ Fs := by rw [nmn_is2 n1 (by omega)]; exact (nmn_Fs n1 (by omega)).1
        have Ii := Oi.inn
        have hii := Ii.inst
        have hid := Ii.dict
        (repeat' ((fail_if_success (with_reducible show wpAny _ _ (call (Value.ref 346) _) _ _ _)); first | (k_unfold; (try dsimp only)) | (k_end; wrow_close) | walk1 | (dsimp only; walk1) | (leave1; walk_say "STEP leave1"; try dsimp only) | fail "no step")); all_goals (try (first | (refine hQo _ _ _ _ _ _ (by k_asm) (by k_asm) ?_; intro kF kN; (try dsimp only [valOf])) | (refine hEo _ _ _ ?_; (k_steps; all_goals (try (first | (refine hQo _ _ _ _ _ _ (by k_asm) (by k_asm) ?_; intro kF kN; (try dsimp only [valOf])) | (refine hEo _ _ _ ?_; k_steps)))))))
        obtain ⟨O5, N5, hc5, hi5, hl5⟩ := Oi.carryI (by assumption) (by assumption)
        (k_steps; all_goals (try (first | (refine hQo _ _ _ _ _ _ (by k_asm) (by k_asm) ?_; intro kF kN; (try dsimp only [valOf])) | (refine hEo _ _ _ ?_; k_steps))))
        · obtain ⟨n6, ⟨T6, rfl, O6, d6, H6⟩, hs6⟩ := (by assumption : TR w _ Ti (_ :: _) _ _ _).tl
          rw [nmn_is2 n1 (by omega)] at d6 H6
          exact EndT.mk O6 (by k_asm) (cb_drop (by assumption) hs6) (fun q hq => by rw [List.mem_singleton.mp hq]; exact hn) own_only (by rw [flat_step hno, List.length_append]; exact di.trans d6) (by rw [flat_step hno, run_app]; exact H6)
        · exact ((by assumption : TX w _ _ _ _ _ _).never (di.neg hneg2)).elim
      · intro mx Ti h tk5 Oi di Hi Fi Ni
        rw [ints_len hni, List.take_length] at di Hi
        have hl6 := di.same hneg2
        rw [hl2] at hl6
        have hneg6 : Ti.left < 0 := by omega
        have Ii := Oi.inn
        have hii := Ii.inst
        have hid := Ii.dict
        cases single with
        | false =>
          (k_steps; all_goals (try (first | (refine hQo _ _ _ _ _ _ (by k_asm) (by k_asm) ?_; intro kF kN; (try dsimp only [valOf])) | (refine hEo _ _ _ ?_; k_steps))))
          exact hret _ _ _ _ ⟨_, Ti, rfl, rfl, Oi, hl6, by unfold treeOps; rw [run_app, run_app, hg2]; exact Hi⟩ (by k_asm) (by k_asm)
        | true =>
          (repeat' ((fail_if_success (with_reducible show wpAny _ _ (call (Value.ref 346) _) _ _ _)); first | (k_unfold; (try dsimp only)) | (k_end; wrow_close) | walk1 | (dsimp only; walk1) | (leave1; walk_say "STEP leave1"; try dsimp only) | fail "no step")); all_goals (try (first | (refine hQo _ _ _ _ _ _ (by k_asm) (by k_asm) ?_; intro kF kN; (try dsimp only [valOf])) | (refine hEo _ _ _ ?_; (k_steps; all_goals (try (first | (refine hQo _ _ _ _ _ _ (by k_asm) (by k_asm) ?_; intro kF kN; (try dsimp only [valOf])) | (refine hEo _ _ _ ?_; k_steps)))))))
          obtain ⟨O5, N5, hc5, hi5, hl5⟩ := Oi.carryI (by assumption) (by assumption)
          (k_steps; all_goals (try (first | (refine hQo _ _ _ _ _ _ (by k_asm) (by k_asm) ?_; intro kF kN; (try dsimp only [valOf])) | (refine hEo _ _ _ ?_; k_steps))))
          · obtain ⟨n6, ⟨T6, rfl, O6, d6, H6⟩, hs6⟩ := (by assumption : TR w _ Ti (_ :: _) _ _ _).tl
            exact hret _ _ _ _ ⟨_, T6, rfl, rfl, O6, (d6.same hneg6).trans hl6, by unfold treeOps; rw [run_app, run_app, hg2]; exact H6⟩ (by k_asm) (cb_drop (by assumption) hs6)
          · exact ((by assumption : TX w _ _ _ _ _ _).never hneg6).elim
  · exfalso; omega

theorem top_K2 : True := by
  w_top off
  trivial
theorem rangeN {n : Nat} (h : n ≤ 6) : Builtin.Range.small 0 (n : Int) 1 = true ∧ Builtin.Range.rangeSize 0 (n : Int) 1 = ((n : Nat) : Int) ∧ n ≤ sizeLine := by
  have k : ∀ i : Fin 7, Builtin.Range.small 0 (i.val : Int) 1 = true ∧ Builtin.Range.rangeSize 0 (i.val : Int) 1 = (i.val : Int) := by decide +kernel
  have k := k ⟨n, Nat.lt_succ_of_le h⟩
  exact ⟨k.1, k.2, Nat.le_trans h (by rw [sizeLine_eq]; decide)⟩
section
variable {prog : Program} {w : World} {A : Around} {s : Shared} {h₀ : Heap} {L : Addr} {m : Str → Option Value} {env : Env}
/-- a comprehension with a test over a range: f tells what each turn gives -/
theorem compSrcT_range {ct elt : PySem.Expr} {x : Str} {scope : Scope} {cl : List (Str × Addr)} {Fin : Shared → List Value → List (Addr × Obj) → Prop} {r : Addr} {n : Nat} {t1 t2 t3 : Tok} {news : List (Addr × Obj)} (hh : A.handled = none)
    (F : Fr h₀ L s.heap m) (N : News h₀ L s.heap news) (hr : IsRange s.heap r 0 (n : Int) 1 t1 t2 t3) (hn : n ≤ 6) (f : Nat → Option Int)
    (hstep : ∀ (i : Nat) ti ys I oI C oC D m₂ h tk (E' : Value → Shared → Prop) g, i < n → LCg.NsObj oC m₂ → m₂ x = some (.int (i : Int) ti) → Fr h₀ L h m → News h₀ L h ((I, oI) :: (C, oC) :: (D, LCg.lst ys) :: news) → LCg.Off3 I C D news → ((@Ne Nat I C) ∧ (@Ne Nat I D) ∧ (@Ne Nat C D)) →
      wpAny (model prog w) A (isTrue ct (compEnvC scope cl C env) (eval ct (compEnvC scope cl C env))) (fun ok s' => if ok = true then
        wpAny (model prog w) A (eval elt (compEnvC scope cl C env)) (LCg.CompEnd h₀ L m { ({ s with heap := g } : Shared) with heap := h, toks := tk } I oI C oC D (LCg.lst ys) (fun _ => True) (fun y news' => news' = news ∧ ∃ v t, f i = some v ∧ y = .int v t)) E' s'
        else LCg.CompEnd h₀ L m { ({ s with heap := g } : Shared) with heap := h, toks := tk } I oI C oC D (LCg.lst ys) (fun _ => True) (fun _ news' => news' = news ∧ f i = none) Value.none s') E' { ({ s with heap := g } : Shared) with heap := h, toks := tk })
    (hfin : ∀ g ys, IntsAre ys ((List.range n).filterMap f) → Fin { s with heap := g } ys news) : LCt.CompSrcT prog w A h₀ L m env ct elt x scope cl Fin (.ref r) s := by
  obtain ⟨r1, r2, r3⟩ := rangeN hn
  refine LCt.CompSrcT.range hh F N hr r1 r2 r3 fun g => ?_
  refine compRest_ind (fun i ys => IntsAre ys ((List.range i).filterMap f)) ?_ (fun ys h => hfin g ys h) _ 0 [] (Nat.zero_add _) .nil
  rintro i ys vv I oI C oC D m₂ h tk E' hlt hI ⟨ti, hp⟩ hNs hm₂ F₂ N₂ off hne
  have e0 : vv = .int (i : Int) ti := by rw [hp]; exact vint (by omega)
  subst e0
  refine wpAny_mono (hstep i ti ys I oI C oC D m₂ h tk E' g hlt hNs hm₂ F₂ N₂ off hne) (fun ok s' hq => ?_) fun _ _ e => e
  cases ok with
  | true =>
    simp only [if_true] at hq ⊢
    refine wpAny_mono hq (fun y s₅ h₅ => ?_) fun _ _ e => e
    obtain ⟨h', tk', news', e1, F', N', off', hS', e2, v, t, e3, e4⟩ := h₅
    refine ⟨h', tk', news', e1, F', N', off', hS', e2, ?_⟩
    rw [List.range_succ, List.filterMap_append, e4]
    simp only [List.filterMap_cons, e3, List.filterMap_nil]
    exact IntsAre.snoc hI v t
  | false =>
    simp only [Bool.false_eq_true, if_false] at hq ⊢
    obtain ⟨h', tk', news', e1, F', N', off', hS', e2, e3⟩ := hq
    refine ⟨h', tk', news', e1, F', N', off', hS', e2, ?_⟩
    rw [List.range_succ, List.filterMap_append]
    simp only [List.filterMap_cons, e3, List.filterMap_nil, List.append_nil]
    exact hI
end
def leftAt (every : List Int) (o nw : Int) (i : Nat) : Option Int := if (i : Int) < o ∨ (i : Int) ≥ (every.length : Int) - (if nw > 1 then nw else 1) then some (every.getD i 0) else none
def leftNs (every : List Int) (o nw : Int) : List Int := (List.range every.length).filterMap (leftAt every o nw)
abbrev intsOf {vs : List Value} {ns : List Int} (_ : IntsAre vs ns) : List Int := ns
theorem left_yes1 {ns : List Int} {new o nw : Int} {i : Nat} (h : (i : Int) < o) : leftAt (ns ++ [new]) o nw i = some ((ns ++ [new]).getD i 0) := by unfold leftAt; rw [if_pos (.inl h)]
theorem left_yes2 {ns : List Int} {new o nw : Int} {i : Nat} (h : ((ns.length + 1 : Nat) : Int) - (if nw > 1 then nw else 1) ≤ (i : Int)) : leftAt (ns ++ [new]) o nw i = some ((ns ++ [new]).getD i 0) := by
  unfold leftAt; rw [if_pos (.inr (by rw [List.length_append]; exact h))]
theorem left_no {ns : List Int} {new o nw : Int} {i : Nat} (h1 : ¬ (i : Int) < o) (h : ¬ ((ns.length + 1 : Nat) : Int) - (if nw > 1 then nw else 1) ≤ (i : Int)) : leftAt (ns ++ [new]) o nw i = none := by
  unfold leftAt; rw [if_neg (fun q => q.elim h1 (by rw [List.length_append]; exact h))]
theorem left_all {ns : List Int} {new o nw : Int} : (List.range (ns.length + 1)).filterMap (leftAt (ns ++ [new]) o nw) = leftNs (ns ++ [new]) o nw := by
  unfold leftNs; rw [List.length_append]; rfl
def LeftIs (_o _nw : Int) : Prop := True
abbrev oOf {o nw : Int} (_ : LeftIs o nw) : Int := o
abbrev nwOf {o nw : Int} (_ : LeftIs o nw) : Int := nw
section
local macro_rules | `(tactic| walk_at "CompSrcT") => `(tactic| (k_here; k_dflt (refine compSrcT_range rfl ‹_› ‹_› ‹_› (by omega) (leftAt (intsOf ‹IntsAre _ (_ ++ [_])›) (oOf ‹LeftIs _ _›) (nwOf ‹LeftIs _ _›)) ?_ ?_)))
set_option maxRecDepth 100000 in
set_option maxHeartbeats 2000000 in
theorem c_left {w : World} {R : List (Addr × Obj)} {nl : Addr} {nvs : List Value} {ns : List Int} {nc : Nat} {new o nw : Int} {t1 t2 t3 : Tok} (hn : (nl, listOf nvs.toArray nc) ∈ R) (hni : IntsAre nvs ns) (hfew : ns.length ≤ 3) :
    Call w 4 459 [.ref nl, .int new t1, .int o t2, .int nw t3] R (fun r n' => ∃ D vs c, n' = (D, listOf vs.toArray c) :: R ∧ r = .ref D ∧ IntsAre vs (leftNs (ns ++ [new]) o nw) ∧ ∀ q ∈ R, q.1 ≠ D) (fun _ => False) := by
  intro dp un gd cn cs a ccd cl outer A₀ base h₀ L m s Q E mean mg mb B F X N Tp hk hd hu hret hexc
  (refine' code_defCQ ?k1 ?k2 ?k3 ?k4 ?k5 ?kA ?kF ?kK ?k6 ?k7 ?k8 ?k9 ?kB ?kD ?_ ?c2 ?c3 ?c4; (case kA => exact rfl); (case kF => exact rfl); (case kK => first | exact rfl | assumption); (case k1 => k_asm); (case k2 => k_asm); (case k3 => k_asm); (case k4 => k_asm); (case k5 => k_asm); (case k6 => k_is); (case k7 => k_is); (case k8 => ktr_room); (case k9 => exact BindsTo.of_eq rfl); (case kB => exact rfl); (case kD => decide +kernel); (case c2 => exact rfl); (case c3 => exact rfl); (case c4 => exact rfl); k_whole; intro g' L' Sq Qo Eo cells' hSq FG' F' N' Y' B' X' T' l1 hQo hEo hPo; (try k_lt l1); k_cells Y'; (try simp only [List.cons_append, List.nil_append] at N'); (try dsimp only))
  have c1 : ∀ p ∈ R, p.1 ≠ L' + 1 + 1 + 1 := fun p hp => Nat.ne_of_lt (Nat.lt_succ_of_lt (Nat.lt_succ_of_lt (Nat.lt_succ_of_lt (l1 p hp))))
  have hLf : LeftIs o nw := trivial
  (k_steps; all_goals (try (first | (refine hQo _ _ _ _ _ _ (by k_asm) (by k_asm) ?_; intro kF kN; (try dsimp only [valOf])) | (refine hEo _ _ _ ?_; k_steps))))
  · exact ⟨_, _, _, rfl, by k_asm, by k_asm, by k_asm, trivial, rfl, _, _, left_yes1 (by assumption), rfl⟩
  · exact ⟨_, _, _, rfl, by k_asm, by k_asm, by k_asm, trivial, rfl, _, _, left_yes2 (by assumption), rfl⟩
  · exact ⟨_, _, _, rfl, by k_asm, by k_asm, by k_asm, trivial, rfl, left_no (by assumption) (by assumption)⟩
  · rw [← left_all] at hret
    exact hret _ _ _ _ ⟨_, _, _, rfl, rfl, by assumption, off1_to (‹_ ≠ _ ∧ _ ≠ _ ∧ L' + 1 + 1 + 1 ≠ _ ∧ _ ≠ _ ∧ L' + 1 ≠ _ ∧ LCg.Off1 _ R›).2.2.2.2.2⟩ (by k_asm) (cb_drop (by assumption) (fun p hp => by (repeat (rcases List.mem_cons.mp hp with rfl | hp; · (repeat (first | exact List.mem_cons_self | refine List.mem_cons_of_mem _ ?_)))); (repeat (first | exact hp | refine List.mem_cons_of_mem _ ?_))))
end
local macro_rules | `(tactic| walk_at "no such step 1") => `(tactic| fail)
local macro_rules | `(tactic| walk_at "no such step 2") => `(tactic| fail)

theorem top_K3 : True := by
  w_top off
  trivial
set_option maxRecDepth 100000 in
set_option maxHeartbeats 2000000 in
theorem c_ended0 {w : World} {rest : List (Addr × Obj)} {ta ma cl : Addr} {T : Ft} {g : Files} {M : Man} {b : Bool} {cvs : List Value} {cns : List Int} {cn' : Nat} (O : Own w ta T rest) (H : Has T.abs g) (IM : ManIn w rest ma M) (hN : b = false → NumsOk (nums g))
    (hc : (cl, listOf cvs.toArray cn') ∈ rest) (hi : IntsAre cvs cns) (hl : cns.length ≤ 1000)
    (hex : b = false → ∀ old, g (Str.ofString "/d/f") = some old → ∀ i x, (planExtra M (nums g))[i]? = some x → x ∈ Fs ∧ ∃ c, run (bkOps M (nums g) old ++ delOps ((planExtra M (nums g)).take i)) g x = some c)
    (htmp : run (bkAll M g b) g (Str.ofString "/d/f.tmp0") = none) (hneg : T.left < 0) :
    Call w 10 454 [.ref ta, .ref ma, .ref cl, .bool b] (T.objs w ta ++ rest)
      (fun r n' => r = .bool true ∧ TR w ta T rest g (bkAll M g b ++ putOps M cns) n') (fun _ => False) := by
  intro dp un gd cn cs a ccd cl outer A₀ base h₀ L m s Q E mean mg mb B F X N Tp hk hd hu hret hexc
  (refine' code_defQ (m' := fr4 (Str.ofString "tree") (Str.ofString "manner") (Str.ofString "codes") (Str.ofString "is_backed_up") _ _ _ _) ?k1 ?k2 ?k3 ?k4 ?k5 ?kA ?kF ?kK ?k6 ?k7 ?k8 ?k9 ?kB ?kM ?_ ?c2 ?c3 ?c4 ?c5; (case kA => exact rfl); (case kF => exact rfl); (case kK => first | exact rfl | assumption); (case k1 => k_asm); (case k2 => k_asm); (case k3 => k_asm); (case k4 => k_asm); (case k5 => k_asm); (case k6 => k_is); (case k7 => k_is); (case k8 => ktr_room); (case k9 => exact BindsTo.of_eq rfl); (case c5 => decide); (case kB => exact locs rfl); (case kM => exact rfl); (case c2 => exact rfl); (case c3 => exact rfl); (case c4 => exact rfl); k_whole; intro gq Lq Sq Qo Eo hSq FGq Fq Nq Bq Xq Tq hQo hEo hPo; (try dsimp only))
  (repeat' ((fail_if_success (with_reducible show wpAny _ _ (call (Value.ref 152) _) _ _ _)); first | (k_unfold; (try dsimp only)) | (k_end; wrow_close) | walk1 | (dsimp only; walk1) | (leave1; walk_say "STEP leave1"; try dsimp only) | fail "no step")); all_goals (try (first | (refine hQo _ _ _ _ _ _ (by k_asm) (by k_asm) ?_; intro kF kN; (try dsimp only [valOf])) | (refine hEo _ _ _ ?_; (k_steps; all_goals (try (first | (refine hQo _ _ _ _ _ _ (by k_asm) (by k_asm) ?_; intro kF kN; (try dsimp only [valOf])) | (refine hEo _ _ _ ?_; k_steps)))))))
  (k_steps; all_goals (try (first | (refine hQo _ _ _ _ _ _ (by k_asm) (by k_asm) ?_; intro kF kN; (try dsimp only [valOf])) | (refine hEo _ _ _ ?_; k_steps))))
  · exact hret _ _ _ _ ⟨rfl, _, rfl, by assumption, by assumption, by assumption⟩ (by k_asm) (by k_asm)
  · exact ((by assumption : TX w _ _ _ _ _ _).never hneg).elim

theorem top_K4 : True := by
  w_top off
  trivial
section
variable {prog : Program} {w : World} {A₀ A : Around} {s : Shared} {base h₀ : Heap} {L : Addr} {m : Str → Option Value} {ec : Env} {news : List (Addr × Obj)} {K : Frag} {p : Program} {loose : List Str} {mean : ExcName → Option Value} {mg mb : Str → Option Value}
    {R : Result → Shared → Prop} {name qual : Str} {params : Arguments} {body : List Stmt} {scope : Scope} {dV kV doc pm cdv ct oc : Value} {an od : Option Addr} {osl : Array (Option Value)} {f : Addr} {args : Args} {binds : List (Str × Value)}
theorem one_frame (hf : ec.frame = some L) {b : Addr} (hb : b ∈ [ec].filterMap (·.frame)) : b = L := by
  obtain ⟨env, he, hf'⟩ := List.mem_filterMap.mp hb
  rw [List.mem_singleton.mp he, hf] at hf'
  exact (Option.some.inj hf').symm
theorem enter_E (B : Below A₀ base [] h₀) (F : Fr h₀ L s.heap m) (N : News h₀ L s.heap news) (hA : A.frames = some [ec]) (hf : ec.frame = some L) (hke : ec.scope.kind = .function) :
    ∃ oL es ep, (hideAll s.heap (news.map (·.1))).get? L = some oL ∧ oL.data = .dict es ep ∧ (∀ h', h'.get? L = some oL → Heap.Ns h' L m) ∧ (∀ (sl : Array (Option Value)) h', h'.get? L = some { oL with slots := sl } → Heap.Ns h' L m) ∧
      h₀.StaysIn (hideAll s.heap (news.map (·.1))) ∧ Below A base [ec] (hideAll s.heap (news.map (·.1))) := by
  have nm : ∀ b o, h₀.get? b = some o → b ∉ news.map (·.1) := fun b o e q => by
    obtain ⟨p, hp, rfl⟩ := List.mem_map.mp q
    rw [(N p hp).2.2] at e; cases e
  have st : h₀.StaysIn (hideAll s.heap (news.map (·.1))) := fun b o e => hideAll_get _ (F.keep b o e) (nm b o e)
  obtain ⟨oL, es, ep, hL, hLd, hLk, hLf⟩ := F.ns
  have nL : L ∉ news.map (·.1) := fun q => by
    obtain ⟨p, hp, e⟩ := List.mem_map.mp q
    exact (N p hp).2.1 e
  have hLg := hideAll_get (news.map (·.1)) hL nL
  have hnew : base.get? L = none := by
    cases hq : base.get? L with
    | none => rfl
    | some o => exact absurd (Nat.lt_of_lt_of_le (Heap.lt_size (B.stays L o hq)) F.above) (Nat.lt_irrefl _)
  refine ⟨oL, es, ep, hLg, hLd, fun h' e => ⟨oL, es, ep, e, hLd, hLk, hLf⟩, fun sl h' e => ⟨_, es, ep, e, hLd, hLk, hLf⟩, st, ⟨hA, fun b o e => st b o (B.stays b o e), ?_⟩⟩
  exact .cons (by rw [hke]; decide) hf ⟨oL, es, ep, hLg, hLd, hLk, hLf⟩ hnew trivial
theorem call_E0 (B : Below A₀ base [] h₀) (F : Fr h₀ L s.heap m) (X₀ : K.In h₀) (N : News h₀ L s.heap news) (T : Top p loose mean mg mb h₀) (hA : A.frames = some [ec]) (hf : ec.frame = some L) (hke : ec.scope.kind = .function)
    (ho : K.lookup f = some ⟨oc, od, .func (fnOf name qual params body scope dV kV doc pm an cdv ct), osl⟩) (hcd : codeIn K cdv qual = true) (hroom : A.depth < recursionLimit)
    (hbind : BindsTo s (fnOf name qual params body scope dV kV doc pm an cdv ct) args binds) (hloc : ∀ y ∈ binds, scope.names.lookup y.1 = some .local)
    (h : ∀ g L' h₁, Fr h₀ L g m → Fr g L' h₁ (fun y => binds.reverse.lookup y) → News g L' h₁ news → Below A base [ec] g → K.In g → Top p loose mean mg mb g → KtsDicts ([ec].filterMap (·.frame)) g →
      wpAny (model prog w) (A.deeper (envOf qual scope L' f cdv)) (execs body (envOf qual scope L' f cdv))
        (fun fl s' => LeaveS0 ([ec].filterMap (·.frame)) h₀ L m g R (match fl with | .ret v => v | _ => .none) s')
        (fun e s' => wpAny (model prog w) (A.deeper (envOf qual scope L' f cdv)) (leaving (envOf qual scope L' f cdv) e) (fun _ s'' => R (.error e) s'') (fun e' s'' => R (.error e') s'') s')
        { s with heap := h₁, toks := s.toks + binds.length })
    (hco : scope.isCoroutine = false) (hgen : scope.isGenerator = false) (hk : scope.kind = .function)
    (hcell : ∀ x ∈ scope.names, x.2 ≠ .cell) : codeAny (model prog w) A (.call (.ref f) args) R s := by
  have X := X₀.keeps F.keep
  refine codeAny_call_def (fd := fnOf name qual params body scope dV kV doc pm an cdv ct) (body := body) (binds := binds) hroom (X _ _ ho) rfl (T.nolimit.keeps F.keep) (codeRec_of X hcd) rfl hbind hcell hloc (fun h₁ hns hk₁ => ?_) hco hgen hk
  obtain ⟨oL, es, ep, hLg, hLd, hN, hNs, st, B₂⟩ := enter_E B F N hA hf hke
  refine wpAny_mono (h _ s.heap.objs.size h₁ ⟨hN _ hLg, st, F.above⟩ ⟨hns, fun b o e => hk₁ b o (of_hideAll _ e), Nat.le_of_eq (hideAll_size _ _)⟩
    (fun p hp => ⟨hk₁ _ _ (N p hp).1, Nat.ne_of_lt (Heap.lt_size (N p hp).1), hideAll_none _ (List.mem_map_of_mem hp)⟩) B₂ (X₀.keeps st) (T.keeps st) (fun b hb => by
      rw [one_frame hf hb]
      exact ⟨oL, es, ep, hLg, hLd⟩)) (fun fl s' hl => ?_) fun _ _ y => y
  obtain ⟨g', L', m', news', T', F', N', k⟩ := hl
  have nL₀ : h₀.get? L = none := kts_self F
  obtain ⟨sl, hs⟩ := T'.up hLg
  refine k ⟨hNs sl _ (F'.keep _ _ hs), fun b o e => F'.keep b o (T'.other b o (st b o e) (fun q => by
    rw [one_frame hf q, nL₀] at e
    cases e)), F.above⟩ fun p hp => ⟨(N' p hp).1, fun q => ?_, ?_⟩
  · have := (N' p hp).2.2; rw [q, hs] at this; cases this
  · cases q : h₀.get? p.1 with
    | none => rfl
    | some o =>
      obtain ⟨sl', hs'⟩ := T'.up (st _ _ q)
      have := (N' p hp).2.2
      rw [hs'] at this
      cases this
end

theorem top_K5 : True := by
  w_top off
  trivial
/-- a call from the law's own frame of a def that catches what its callees raise -/
def CallE (w : World) (dn : Nat) (f : Addr) (vs : List Value) (news : List (Addr × Obj)) (R : Value → List (Addr × Obj) → Prop) : Prop :=
  ∀ (dp un : Nat) (gd : Option (List Code)) (cn : Str) (cs : Scope) (a : Addr) (ccd : Value) (cl : List (Str × Addr)) (A₀ : Around) (base h₀ : Heap) (L : Addr) (m : Str → Option Value) (s : Shared) (Q E : Value → Shared → Prop)
    (mean : ExcName → Option Value) (mg mb : Str → Option Value),
    Below A₀ base [] h₀ → Fr h₀ L s.heap m → (hd.heap_1 w.params).In h₀ → News h₀ L s.heap news → Top hd.view_39 (looseW hd.view_39 []) mean mg mb h₀ → (hd.heap_1 w.params).In base → Top hd.view_39 (looseW hd.view_39 []) mean mg mb base → cs.kind = .function →
    dp + dn < recursionLimit → un + 40 * dn < cLine →
    (∀ r h' tk' news', R r news' → Fr h₀ L h' m → News h₀ L h' news' → Q r { s with heap := h', toks := tk' }) →
    wpAny (model PySem.Challenge.rw_np0075_01.row.prog w) (ktrTop dp un gd cn cs L a ccd cl []) (call (.ref f) vs) Q E s
theorem CallE.use {w : World} {dn : Nat} {f : Addr} {vs : List Value} {news : List (Addr × Obj)} {R : Value → List (Addr × Obj) → Prop}
    {dp un : Nat} {gd : Option (List Code)} {cn : Str} {cs : Scope} {a : Addr} {ccd : Value} {cl : List (Str × Addr)} {A₀ : Around} {base h₀ : Heap} {L : Addr} {m : Str → Option Value} {s : Shared} {Q E : Value → Shared → Prop}
    {mean : ExcName → Option Value} {mg mb : Str → Option Value}
    (B : Below A₀ base [] h₀) (F : Fr h₀ L s.heap m) (X : (hd.heap_1 w.params).In h₀) (N : News h₀ L s.heap news) (T : Top hd.view_39 (looseW hd.view_39 []) mean mg mb h₀) (XB : (hd.heap_1 w.params).In base) (TB : Top hd.view_39 (looseW hd.view_39 []) mean mg mb base) (hk : cs.kind = .function)
    (C : CallE w dn f vs news R) (hd : dp + dn < recursionLimit) (hu : un + 40 * dn < cLine)
    (ret : ∀ r h' tk' news', R r news' → Fr h₀ L h' m → News h₀ L h' news' → Q r { s with heap := h', toks := tk' }) :
    wpAny (model PySem.Challenge.rw_np0075_01.row.prog w) (ktrTop dp un gd cn cs L a ccd cl []) (call (.ref f) vs) Q E s :=
  C dp un gd cn cs a ccd cl A₀ base h₀ L m s Q E mean mg mb B F X N T XB TB hk hd hu ret
set_option maxRecDepth 100000 in
set_option maxHeartbeats 2000000 in
theorem c_ended1 {w : World} {rest : List (Addr × Obj)} {ta ma cl : Addr} {T : Ft} {g : Files} {M : Man} {b : Bool} {cvs : List Value} {cns : List Int} {cn' : Nat} (O : Own w ta T rest) (H : Has T.abs g) (IM : ManIn w rest ma M) (hN : b = false → NumsOk (nums g))
    (hc : (cl, listOf cvs.toArray cn') ∈ rest) (hi : IntsAre cvs cns) (hl : cns.length ≤ 1000)
    (hex : b = false → ∀ old, g (Str.ofString "/d/f") = some old → ∀ i x, (planExtra M (nums g))[i]? = some x → x ∈ Fs ∧ ∃ c, run (bkOps M (nums g) old ++ delOps ((planExtra M (nums g)).take i)) g x = some c)
    (htmp : run (bkAll M g b) g (Str.ofString "/d/f.tmp0") = none) :
    CallE w 10 454 [.ref ta, .ref ma, .ref cl, .bool b] (T.objs w ta ++ rest)
      (fun r n' => (r = .bool true ∧ TR w ta T rest g (bkAll M g b ++ putOps M cns) n') ∨ (r = .bool false ∧ TX w ta T rest g (bkAll M g b ++ putOps M cns) n')) := by
  intro dp un gd cn cs a ccd cl A₀ base h₀ L m s Q E mean mg mb B F X N Tp XB TB hk hd hu hret
  refine wpAny_call ?_
  refine' call_E0 (ec := envX cn cs L a ccd cl) ?k1 ?k2 ?k3 ?k4 ?k5 ?kA ?kF ?kK ?k6 ?k7 ?k8 ?k9 ?kB ?_ ?c2 ?c3 ?c4 ?c5
  (case kA => exact rfl)
  (case kF => exact rfl)
  (case kK => exact hk)
  (case k2 => k_asm)
  (case k1 => k_asm)
  (case k3 => k_asm)
  (case k4 => k_asm)
  (case k5 => k_asm)
  (case k6 => k_is)
  (case k7 => k_is)
  (case k8 => ktr_room)
  (case k9 => exact BindsTo.of_eq rfl)
  (case kB => exact locs rfl)
  (case c2 => exact rfl)
  (case c3 => exact rfl)
  (case c4 => exact rfl)
  (case c5 => decide)
  k_whole
  have hSq : IsBase s := trivial
  intro g' L' h' FG' F' N' B' X' T' D'
  (try dsimp only)
  (try k_fold)
  (repeat' ((fail_if_success (with_reducible show wpAny _ _ (call (Value.ref 152) _) _ _ _)); first | (k_unfold; (try dsimp only)) | (k_end; wrow_close) | walk1 | (dsimp only; walk1) | (leave1; walk_say "STEP leave1"; try dsimp only) | fail "no step")); all_goals (try (first | (refine hQo _ _ _ _ _ _ (by k_asm) (by k_asm) ?_; intro kF kN; (try dsimp only [valOf])) | (refine hEo _ _ _ ?_; (k_steps; all_goals (try (first | (refine hQo _ _ _ _ _ _ (by k_asm) (by k_asm) ?_; intro kF kN; (try dsimp only [valOf])) | (refine hEo _ _ _ ?_; k_steps)))))))
  (k_steps; all_goals (try (first | (refine hQo _ _ _ _ _ _ (by k_asm) (by k_asm) ?_; intro kF kN; (try dsimp only [valOf])) | (refine hEo _ _ _ ?_; k_steps))))
  · exact hret _ _ _ _ (.inl ⟨rfl, _, rfl, by assumption, by assumption, by assumption⟩) (by assumption) (by assumption)
  · exact hret _ _ _ _ (.inr ⟨rfl, by assumption⟩) (by assumption) (by assumption)

theorem top_P1 : True := by
  w_top off
  trivial
abbrev nF : Str := Str.ofString "/d/f"
abbrev nS : Str := Str.ofString "/d/f~"
abbrev nT : Str := Str.ofString "/d/f.tmp0"
/-- what stands under the names of files -/
structure Sees (g : Files) (f s t : Option (List Int)) (N : Int → Option (List Int)) : Prop where
  f : g nF = f
  s : g nS = s
  t : g nT = t
  n : ∀ n, 1 ≤ n → n ≤ 13 → g (nmn n) = N n
theorem three_apart : nF ≠ nS ∧ nF ≠ nT ∧ nS ≠ nT ∧ numF nF = 0 ∧ numF nS = 0 ∧ numF nT = 0 := by decide +kernel
theorem nmn_ne {n : Int} (h1 : 1 ≤ n) (h2 : n ≤ 13) : nmn n ≠ nF ∧ nmn n ≠ nS ∧ nmn n ≠ nT := by
  have h := (nmn_Fs h1 h2).2
  obtain ⟨_, _, _, a, b, c⟩ := three_apart
  refine ⟨fun e => ?_, fun e => ?_, fun e => ?_⟩ <;> rw [e] at h <;> omega
theorem nmn_inj {a b : Int} (a1 : 1 ≤ a) (a2 : a ≤ 13) (b1 : 1 ≤ b) (b2 : b ≤ 13) (e : nmn a = nmn b) : a = b := by
  have ha := (nmn_Fs a1 a2).2
  have hb := (nmn_Fs b1 b2).2
  rw [e] at ha
  exact ha.symm.trans hb
theorem upd_at (g : Files) (x : Str) (c : Option (List Int)) : upd g x c x = c := by unfold upd; rw [if_pos rfl]
theorem upd_off {g : Files} {x y : Str} {c : Option (List Int)} (h : y ≠ x) : upd g x c y = g y := by unfold upd; rw [if_neg h]
def setN (N : Int → Option (List Int)) (m : Int) (c : Option (List Int)) : Int → Option (List Int) := fun n => if n = m then c else N n
theorem Sees.updF {g : Files} {f s t : Option (List Int)} {N : Int → Option (List Int)} (h : Sees g f s t N) (c : Option (List Int)) : Sees (upd g nF c) c s t N := by
  obtain ⟨a, b, c', _⟩ := three_apart
  exact ⟨upd_at _ _ _, by rw [upd_off a.symm]; exact h.s, by rw [upd_off b.symm]; exact h.t, fun n h1 h2 => by rw [upd_off (nmn_ne h1 h2).1]; exact h.n n h1 h2⟩
theorem Sees.updS {g : Files} {f s t : Option (List Int)} {N : Int → Option (List Int)} (h : Sees g f s t N) (c : Option (List Int)) : Sees (upd g nS c) f c t N := by
  obtain ⟨a, b, c', _⟩ := three_apart
  exact ⟨by rw [upd_off a]; exact h.f, upd_at _ _ _, by rw [upd_off c'.symm]; exact h.t, fun n h1 h2 => by rw [upd_off (nmn_ne h1 h2).2.1]; exact h.n n h1 h2⟩
theorem Sees.updT {g : Files} {f s t : Option (List Int)} {N : Int → Option (List Int)} (h : Sees g f s t N) (c : Option (List Int)) : Sees (upd g nT c) f s c N := by
  obtain ⟨a, b, c', _⟩ := three_apart
  exact ⟨by rw [upd_off b]; exact h.f, by rw [upd_off c']; exact h.s, upd_at _ _ _, fun n h1 h2 => by rw [upd_off (nmn_ne h1 h2).2.2]; exact h.n n h1 h2⟩
theorem Sees.updN {g : Files} {f s t : Option (List Int)} {N : Int → Option (List Int)} (h : Sees g f s t N) {m : Int} (m1 : 1 ≤ m) (m2 : m ≤ 13) (c : Option (List Int)) : Sees (upd g (nmn m) c) f s t (setN N m c) := by
  obtain ⟨a, b, c'⟩ := nmn_ne m1 m2
  refine ⟨by rw [upd_off a.symm]; exact h.f, by rw [upd_off b.symm]; exact h.s, by rw [upd_off c'.symm]; exact h.t, fun n h1 h2 => ?_⟩
  unfold setN
  by_cases e : n = m
  · rw [if_pos e, e, upd_at]
  · rw [if_neg e, upd_off fun q => e (nmn_inj h1 h2 m1 m2 q)]; exact h.n n h1 h2
theorem Sees.cong {g : Files} {f s t : Option (List Int)} {N N' : Int → Option (List Int)} (h : Sees g f s t N) (e : ∀ n, 1 ≤ n → n ≤ 13 → N n = N' n) : Sees g f s t N' := ⟨h.f, h.s, h.t, fun n h1 h2 => (h.n n h1 h2).trans (e n h1 h2)⟩
theorem noFiles_sees : Sees noFiles none none none (fun _ => none) := ⟨rfl, rfl, rfl, fun _ _ _ => rfl⟩
/-- the numbers before a law's run -/
structure Nums (ns : List Int) : Prop where
  ok : NumsOk ns
  up : ns.Pairwise (· < ·)
theorem flat_sees {f s t : Option (List Int)} : ∀ (ns : List Int) {g : Files} {N : Int → Option (List Int)}, (∀ n ∈ ns, 1 ≤ n ∧ n ≤ 13) → Sees g f s t N →
    Sees (run (ns.flatMap fun n => opsWrite (nmn n) [100 + n]) g) f s t (fun n => if n ∈ ns then some [100 + n] else N n) := by
  intro ns
  induction ns with
  | nil => intro g N _ h; exact h.cong fun n _ _ => by simp
  | cons a r ih =>
    intro g N hf h
    obtain ⟨a1, a2⟩ := hf a (.head _)
    rw [List.flatMap_cons, run_app, run_write]
    refine (ih (fun n hn => hf n (.tail _ hn)) (h.updN a1 a2 _)).cong fun n h1 h2 => ?_
    unfold setN
    by_cases e : n = a
    · subst e; simp
    · simp [e]
def numsN (ns : List Int) : Int → Option (List Int) := fun n => if n ∈ ns then some [100 + n] else none
theorem tree_sees {old : Option (List Int)} {ns : List Int} {single : Bool} (h : NumsOk ns) : Sees (run (treeOps old ns single) noFiles) old (if single = true then some [99] else none) none (numsN ns) := by
  have h0 : Sees (run (oldOps old) noFiles) old none none (fun _ => none) := by
    cases old with
    | none => exact noFiles_sees
    | some c => exact (run_write nF c noFiles).symm ▸ noFiles_sees.updF (some c)
  have h1 := flat_sees ns (fun n hn => ⟨(h.fit n hn).1, Int.le_trans (h.fit n hn).2 (by decide)⟩) h0
  unfold treeOps
  rw [run_app, run_app]
  cases single with
  | false => exact h1
  | true => exact (run_write nS [99] _).symm ▸ h1.updS (some [99])
theorem nums_sees {g : Files} {f s t : Option (List Int)} {N : Int → Option (List Int)} (h : Sees g f s t N) {l : List Int} (hs : l.Pairwise (· < ·)) (hl : ∀ n, n ∈ l ↔ (1 ≤ n ∧ n ≤ 13) ∧ (N n).isSome = true) : nums g = l := by
  refine ksm_same ?_ ((nums_sorted g).imp fun h => Int.le_of_lt h) (hs.imp fun h => Int.le_of_lt h)
  refine (List.perm_ext_iff_of_nodup ((nums_sorted g).imp fun h => Int.ne_of_lt h) (hs.imp fun h => Int.ne_of_lt h)).mpr fun n => ?_
  rw [nums_mem, hl]
  constructor
  · rintro ⟨a, b⟩; rw [h.n n a.1 a.2] at b; exact ⟨a, b⟩
  · rintro ⟨a, b⟩; rw [← h.n n a.1 a.2] at b; exact ⟨a, b⟩
theorem nums_tree {old : Option (List Int)} {ns : List Int} {single : Bool} (h : Nums ns) : nums (run (treeOps old ns single) noFiles) = ns := by
  refine nums_sees (tree_sees h.ok) h.up fun n => ?_
  unfold numsN
  by_cases e : n ∈ ns
  · have := h.ok.fit n e
    simp only [e, if_true, Option.isSome_some, true_iff, and_true]
    omega
  · simp [e]
/-- all numbers with the new one -/
theorem Nums.every {ns : List Int} (h : Nums ns) : (ns ++ [newNo ns]).Pairwise (· < ·) := by
  have hl : ∀ n ∈ ns, n < newNo ns := by
    have hu := h.up
    clear h
    unfold newNo
    induction ns with
    | nil => intro n hn; simp at hn
    | cons a r ih =>
      rw [List.pairwise_cons] at hu
      intro n hn
      cases r with
      | nil => rcases List.mem_singleton.mp hn with rfl; show n < n + 1; omega
      | cons b q =>
        have e : (a :: b :: q).getLastD 0 = (b :: q).getLastD 0 := by simp [List.getLastD_cons]
        rw [e]
        rcases List.mem_cons.mp hn with rfl | hn
        · have h1 := hu.1 b (.head _)
          have h2 := ih hu.2 b (.head _)
          omega
        · exact ih hu.2 n hn
  rw [List.pairwise_append]
  exact ⟨h.up, List.pairwise_singleton _ _, fun a ha b hb => by rw [List.mem_singleton.mp hb]; exact hl a ha⟩
theorem mid_ix {l : List Int} {a t : Nat} {x : Int} (h : x ∈ (l.drop a).take t) : ∃ i, a ≤ i ∧ i < a + t ∧ l[i]? = some x := by
  obtain ⟨j, hj⟩ := List.mem_iff_getElem?.mp h
  rw [List.getElem?_take] at hj
  split at hj
  · rename_i hlt
    rw [List.getElem?_drop] at hj
    exact ⟨a + j, Nat.le_add_right _ _, Nat.add_lt_add_left hlt _, hj⟩
  · cases hj
theorem ix_mid {l : List Int} {a t i : Nat} {x : Int} (h : l[i]? = some x) (h1 : a ≤ i) (h2 : i < a + t) : x ∈ (l.drop a).take t := by
  refine List.mem_iff_getElem?.mpr ⟨i - a, ?_⟩
  rw [List.getElem?_take, if_pos (Nat.sub_lt_left_of_lt_add h1 h2), List.getElem?_drop, Nat.add_sub_cancel' h1, h]
theorem ix_same {l : List Int} (hp : l.Pairwise (· < ·)) {i j : Nat} {x : Int} (h : l[i]? = some x) (h2 : l[j]? = some x) : i = j := by
  obtain ⟨hi, rfl⟩ := List.getElem?_eq_some_iff.mp h
  obtain ⟨hj, e⟩ := List.getElem?_eq_some_iff.mp h2
  rcases Nat.lt_trichotomy i j with q | q | q
  · exact absurd (e ▸ List.pairwise_iff_getElem.mp hp i j hi hj q) (Int.lt_irrefl _)
  · exact q
  · exact absurd (e ▸ List.pairwise_iff_getElem.mp hp j i hj hi q) (Int.lt_irrefl _)
theorem fm_filter {g : Nat → Int} {p : Int → Bool} {f : Nat → Option Int} : ∀ r : List Nat, (∀ i ∈ r, f i = if p (g i) = true then some (g i) else none) → r.filterMap f = (r.map g).filter p
  | [], _ => rfl
  | i :: r, h => by
    have ih := fm_filter r fun j hj => h j (.tail _ hj)
    have hi := h i (.head _)
    rw [List.map_cons, List.filter_cons, ← ih]
    cases hp : p (g i) with
    | true => rw [hp, if_pos rfl] at hi; rw [if_pos rfl, List.filterMap_cons, hi]
    | false => rw [hp, if_neg Bool.false_ne_true] at hi; rw [if_neg Bool.false_ne_true, List.filterMap_cons, hi]
theorem range_getD (l : List Int) : (List.range l.length).map (fun i => l.getD i 0) = l := by
  refine List.ext_getElem? fun i => ?_
  rw [List.getElem?_map]
  by_cases h : i < l.length
  · rw [List.getElem?_range h, List.getElem?_eq_getElem h, Option.map_some, List.getD_eq_getElem?_getD, List.getElem?_eq_getElem h]; rfl
  · rw [List.getElem?_eq_none (by rw [List.length_range]; exact Nat.le_of_not_lt h), List.getElem?_eq_none (Nat.le_of_not_lt h)]; rfl
theorem extra_ix {L i : Nat} {o k : Int} (h1 : o.toNat ≤ i) (h2 : i < o.toNat + (min (if ((L + 1 : Nat) : Int) - k > o then ((L + 1 : Nat) : Int) - k else o).toNat (L + 1) - o.toNat)) : (i : Int) < ((L + 1 : Nat) : Int) - k := by
  split at h2 <;> omega
theorem extra_xi {L i : Nat} {o k : Int} (h1 : ¬ (i : Int) < o) (h2 : ¬ (i : Int) ≥ ((L + 1 : Nat) : Int) - k) (h3 : 1 ≤ k) (o0 : 0 ≤ o) : o.toNat ≤ i ∧ i < o.toNat + (min (if ((L + 1 : Nat) : Int) - k > o then ((L + 1 : Nat) : Int) - k else o).toNat (L + 1) - o.toNat) := by
  rw [if_pos (show ((L + 1 : Nat) : Int) - k > o by omega)]; omega
theorem extra_lt {L i : Nat} {k : Int} (h : (i : Int) < ((L + 1 : Nat) : Int) - k) (hk : 1 ≤ k) : i < L := by omega
theorem extra_no {i : Nat} {o : Int} (q : (i : Int) < o) (h : o.toNat ≤ i) : False := by omega
theorem extra_cases0 {ns : List Int} {w o n : Int} (hw : newNo ns = w) (hev : (ns ++ [w]).Pairwise (· < ·)) (o0 : 0 ≤ o) :
    (∀ x ∈ extraNs ns o n, x ∈ ns) ∧ leftNs (ns ++ [w]) o n = (ns ++ [w]).filter (fun x => decide (x ∉ extraNs ns o n)) := by
  have hk : (1 : Int) ≤ if n > 1 then n else 1 := by split <;> omega
  have hlen : (ns ++ [w]).length = ns.length + 1 := List.length_append
  unfold extraNs leftNs
  rw [hw, hlen]
  refine ⟨fun x hx => ?_, ?_⟩
  · obtain ⟨i, i1, i2, hi⟩ := mid_ix hx
    have h := extra_ix i1 i2
    rw [List.getElem?_append_left (extra_lt h hk)] at hi
    exact List.mem_of_getElem? hi
  · rw [fm_filter (g := fun i => (ns ++ [w]).getD i 0) (List.range (ns.length + 1)) (fun i hi => ?_), ← hlen, range_getD]
    have hi' : (ns ++ [w])[i]? = some ((ns ++ [w]).getD i 0) := by
      have h : i < (ns ++ [w]).length := hlen ▸ List.mem_range.mp hi
      rw [List.getD_eq_getElem?_getD, List.getElem?_eq_getElem h]; rfl
    unfold leftAt
    rw [hlen]
    by_cases hc : (i : Int) < o ∨ (i : Int) ≥ ((ns.length + 1 : Nat) : Int) - (if n > 1 then n else 1)
    · rw [if_pos hc, if_pos]
      refine decide_eq_true_iff.mpr fun hm => ?_
      obtain ⟨j, j1, j2, hj⟩ := mid_ix hm
      have e := ix_same hev hi' hj
      subst e
      have := extra_ix j1 j2
      exact hc.elim (fun q => extra_no q j1) fun q => absurd this (Int.not_lt.mpr q)
    · rw [if_neg hc, if_neg]
      obtain ⟨a, b⟩ := extra_xi (fun q => hc (.inl q)) (fun q => hc (.inr q)) hk o0
      exact fun q => of_decide_eq_true q (ix_mid hi' a b)
theorem extra_cases {ns : List Int} {o n : Int} (h : Nums ns) (o0 : 0 ≤ o ∧ o ≤ 2) (n0 : 0 ≤ n ∧ n ≤ 2) :
    (∀ x ∈ extraNs ns o n, x ∈ ns) ∧ leftNs (ns ++ [newNo ns]) o n = (ns ++ [newNo ns]).filter (fun x => decide (x ∉ extraNs ns o n)) := extra_cases0 rfl h.every o0.1
theorem extra_up {ns : List Int} {o n : Int} (h : Nums ns) : (extraNs ns o n).Pairwise (· < ·) := by
  unfold extraNs
  exact (h.every.sublist ((List.take_sublist _ _).trans (List.drop_sublist _ _)))

theorem top_P2 : True := by
  w_top off
  trivial
def nExtra (M : Man) (ns : List Int) : List Int := if wayOf M ns = 2 then extraNs ns M.oldest M.newest else []
theorem planExtra_is {M : Man} {ns : List Int} : planExtra M ns = (nExtra M ns).map nmn := by
  unfold planExtra nExtra
  by_cases h : wayOf M ns = 2
  · rw [if_pos h, if_pos h]
  · rw [if_neg h, if_neg h]; rfl
theorem nExtra_sub {M : Man} {ns : List Int} (h : Nums ns) (hok : M.ok) : ∀ x ∈ nExtra M ns, x ∈ ns := by
  unfold nExtra
  by_cases e : wayOf M ns = 2
  · rw [if_pos e]; exact (extra_cases h hok.oldest hok.newest).1
  · rw [if_neg e]; intro x hx; cases hx
theorem nExtra_up {M : Man} {ns : List Int} (h : Nums ns) : (nExtra M ns).Pairwise (· < ·) := by
  unfold nExtra
  by_cases e : wayOf M ns = 2
  · rw [if_pos e]; exact extra_up h
  · rw [if_neg e]; exact .nil
def nBk (M : Man) (ns old : List Int) : Int → Option (List Int) := if wayOf M ns = 2 then setN (numsN ns) (newNo ns) (some old) else numsN ns
def sBk (M : Man) (ns old : List Int) (s : Option (List Int)) : Option (List Int) := if wayOf M ns = 1 then some old else s
def fBk (M : Man) (old : List Int) : Option (List Int) := if M.copying = true ∨ M.precious = true then some old else none
def delN (E : List Int) (N : Int → Option (List Int)) : Int → Option (List Int) := fun n => if n ∈ E then none else N n
theorem way_cases {M : Man} {ns : List Int} (hok : M.ok) : wayOf M ns = 0 ∨ wayOf M ns = 1 ∨ wayOf M ns = 2 := by
  obtain ⟨a, b⟩ := hok.way
  unfold wayOf
  split
  · split <;> simp
  · omega
theorem way_zero {M : Man} {ns : List Int} (h : wayOf M ns = 0) : M.way = 0 := by
  unfold wayOf at h
  split at h
  · split at h <;> omega
  · exact h
theorem new_fit {ns : List Int} (h : Nums ns) : 1 ≤ newNo ns ∧ newNo ns ≤ 13 := newNo_fit fun n hn => h.ok.fit n hn
theorem new_off {ns : List Int} (h : Nums ns) : newNo ns ∉ ns := fun hm => by
  have h2 := (List.pairwise_append.mp h.every).2.2 _ hm _ (List.mem_singleton.mpr rfl)
  omega
theorem name1 {M : Man} {ns : List Int} (h : wayOf M ns = 1) : planName M ns = nS := by unfold planName; rw [if_neg (by omega), if_pos h]
theorem name2 {M : Man} {ns : List Int} (h : wayOf M ns = 2) : planName M ns = nmn (newNo ns) := by unfold planName; rw [if_neg (by omega), if_neg (by omega)]
theorem bk_sees {M : Man} {ns old : List Int} {g : Files} {s : Option (List Int)} (h : Sees g (some old) s none (numsN ns)) (hN : Nums ns) (hok : M.ok) (hw : wayOf M ns ≠ 0) :
    Sees (run (bkOps M ns old) g) (fBk M old) (sBk M ns old s) none (nBk M ns old) := by
  obtain ⟨n1, n2⟩ := new_fit hN
  unfold bkOps fBk
  rcases way_cases (ns := ns) hok with h0 | h1 | h2
  · exact (hw h0).elim
  · have e1 : sBk M ns old s = some old := by unfold sBk; rw [if_pos h1]
    have e2 : nBk M ns old = numsN ns := by unfold nBk; rw [if_neg (by omega)]
    rw [e1, e2, name1 h1]
    by_cases hc : M.copying = true ∨ M.precious = true
    · rw [if_pos hc, if_pos hc, run_write]; exact h.updS _
    · rw [if_neg hc, if_neg hc]
      show Sees (upd (upd g nF none) nS (g nF)) _ _ _ _
      rw [h.f]
      exact (h.updF none).updS _
  · have e1 : sBk M ns old s = s := by unfold sBk; rw [if_neg (by omega)]
    have e2 : nBk M ns old = setN (numsN ns) (newNo ns) (some old) := by unfold nBk; rw [if_pos h2]
    rw [e1, e2, name2 h2]
    by_cases hc : M.copying = true ∨ M.precious = true
    · rw [if_pos hc, if_pos hc, run_write]; exact h.updN n1 n2 _
    · rw [if_neg hc, if_neg hc]
      show Sees (upd (upd g nF none) (nmn (newNo ns)) (g nF)) _ _ _ _
      rw [h.f]
      exact (h.updF none).updN n1 n2 _
theorem del_sees {f s t : Option (List Int)} : ∀ (E : List Int) {g : Files} {N : Int → Option (List Int)}, (∀ n ∈ E, 1 ≤ n ∧ n ≤ 13) → Sees g f s t N → Sees (run (delOps (E.map nmn)) g) f s t (delN E N) := by
  intro E
  induction E with
  | nil => intro g N _ h; exact h.cong fun n _ _ => by simp [delN]
  | cons a r ih =>
    intro g N hf h
    obtain ⟨a1, a2⟩ := hf a (.head _)
    refine (ih (fun n hn => hf n (.tail _ hn)) (h.updN a1 a2 none)).cong fun n _ _ => ?_
    unfold delN setN
    by_cases e : n = a
    · subst e; simp
    · simp [e]
theorem mid_sees {M : Man} {ns old : List Int} {g : Files} {s : Option (List Int)} (h : Sees g (some old) s none (numsN ns)) (hN : Nums ns) (hok : M.ok) (hw : wayOf M ns ≠ 0) (i : Nat) :
    Sees (run (bkOps M ns old ++ delOps ((planExtra M ns).take i)) g) (fBk M old) (sBk M ns old s) none (delN ((nExtra M ns).take i) (nBk M ns old)) := by
  rw [run_app, planExtra_is, ← List.map_take]
  refine del_sees _ (fun n hn => ?_) (bk_sees h hN hok hw)
  have := hN.ok.fit n (nExtra_sub hN hok n (List.mem_of_mem_take hn))
  omega
theorem up_take {l : List Int} (h : l.Pairwise (· < ·)) {i : Nat} {n : Int} (hi : l[i]? = some n) : n ∉ l.take i := fun hm => by
  obtain ⟨j, hj, e⟩ := List.getElem_of_mem hm
  rw [List.length_take] at hj
  rw [List.getElem_take] at e
  obtain ⟨hi2, e2⟩ := List.getElem?_eq_some_iff.mp hi
  have := List.pairwise_iff_getElem.mp h j i (by omega) hi2 (by omega)
  omega
theorem hex_all {M : Man} {ns old : List Int} {g : Files} {s : Option (List Int)} (h : Sees g (some old) s none (numsN ns)) (hN : Nums ns) (hok : M.ok) :
    ∀ i x, (planExtra M ns)[i]? = some x → x ∈ Fs ∧ ∃ c, run (bkOps M ns old ++ delOps ((planExtra M ns).take i)) g x = some c := by
  intro i x hx
  have hx0 := hx
  rw [planExtra_is, List.getElem?_map] at hx
  cases hn : (nExtra M ns)[i]? with
  | none => rw [hn] at hx; cases hx
  | some n =>
    rw [hn] at hx
    have e : x = nmn n := (Option.some.inj hx).symm
    have hm := nExtra_sub hN hok n (List.mem_of_getElem? hn)
    have hf := hN.ok.fit n hm
    have hw : wayOf M ns ≠ 0 := fun q => by
      unfold nExtra at hn
      rw [if_neg (by omega)] at hn
      cases hn
    rw [e]
    refine ⟨(nmn_Fs hf.1 (by omega)).1, ?_⟩
    rw [(mid_sees h hN hok hw i).n n hf.1 (by omega)]
    unfold delN nBk setN numsN
    rw [if_neg (up_take (nExtra_up hN) hn)]
    split
    · dsimp only; split
      · exact ⟨_, rfl⟩
      · simp [hm]
    · simp [hm]
theorem nums_in {g : Files} {f s t : Option (List Int)} {N : Int → Option (List Int)} {ns : List Int} (h : Sees g f s t N) (hN : Nums ns) (hs : ∀ n, (N n).isSome = true → n ∈ ns ++ [newNo ns]) : NumsIn (nums g) := by
  refine ⟨?_, fun n hn => (nums_mem.mp hn).1⟩
  refine Nat.le_trans (nodup_len ((nums_sorted g).imp fun h => Int.ne_of_lt h) (u := ns ++ [newNo ns]) fun n hn => ?_) ?_
  · obtain ⟨a, b⟩ := nums_mem.mp hn
    rw [h.n n a.1 a.2] at b
    exact hs n b
  · rw [List.length_append]
    have := hN.ok.few
    simp only [List.length_cons, List.length_nil]
    omega
theorem bk_supp {M : Man} {ns old E : List Int} : ∀ n, (delN E (nBk M ns old) n).isSome = true → n ∈ ns ++ [newNo ns] := by
  intro n
  unfold delN nBk setN numsN
  split
  · intro h; cases h
  · split
    · dsimp only; split
      · rename_i e; intro _; rw [e]; simp
      · split
        · rename_i hm; intro _; exact List.mem_append_left _ hm
        · intro h; cases h
    · dsimp only; split
      · rename_i hm; intro _; exact List.mem_append_left _ hm
      · intro h; cases h
/-- behind the backup the newest backup is the one just made -/
theorem backed {M : Man} {ns old E : List Int} {g : Files} {f s t : Option (List Int)} (hN : Nums ns) (hok : M.ok) (hw : wayOf M ns ≠ 0) (hE : ∀ x ∈ E, x ∈ nExtra M ns) (h : Sees g f (sBk M ns old s) t (delN E (nBk M ns old))) :
    newestN M g = planName M ns ∧ g (planName M ns) = some old ∧ nums g = (if wayOf M ns = 2 then (ns ++ [newNo ns]).filter (fun x => decide (x ∉ E)) else ns) := by
  obtain ⟨n1, n2⟩ := new_fit hN
  rcases way_cases (ns := ns) hok with h0 | h1 | h2
  · exact (hw h0).elim
  · have hE0 : ∀ x, x ∉ E := fun x hx => by
      have := hE x hx
      unfold nExtra at this
      rw [if_neg (by omega)] at this
      cases this
    have e1 : sBk M ns old s = some old := by unfold sBk; rw [if_pos h1]
    have e2 : nBk M ns old = numsN ns := by unfold nBk; rw [if_neg (by omega)]
    rw [e1, e2] at h
    have en : nums g = ns := by
      refine nums_sees h hN.up fun n => ?_
      unfold delN numsN
      rw [if_neg (hE0 n)]
      by_cases e : n ∈ ns
      · have := hN.ok.fit n e
        simp only [e, if_true, Option.isSome_some, true_iff, and_true]
        omega
      · simp [e]
    rw [name1 h1, if_neg (by omega), h.s]
    refine ⟨?_, rfl, en⟩
    unfold newestN
    rw [en]
    have hw1 : M.way ≠ 2 ∧ M.way ≠ 0 ∧ (M.way = 3 → ns = []) := by
      unfold wayOf at h1
      split at h1
      · rename_i h3
        split at h1
        · rename_i hn; exact ⟨by omega, by omega, fun _ => hn⟩
        · omega
      · exact ⟨by omega, by omega, fun q => by omega⟩
    rw [if_neg (fun q => q.elim hw1.1 fun q => q.2 (hw1.2.2 q.1)), if_pos ⟨hw1.2.1, by show (g nS).isSome = true; rw [h.s]; rfl⟩]
  · have e1 : sBk M ns old s = s := by unfold sBk; rw [if_neg (by omega)]
    have e2 : nBk M ns old = setN (numsN ns) (newNo ns) (some old) := by unfold nBk; rw [if_pos h2]
    rw [e1, e2] at h
    have hoff : newNo ns ∉ E := fun hx => new_off hN (nExtra_sub hN hok _ (hE _ hx))
    have en : nums g = (ns ++ [newNo ns]).filter (fun x => decide (x ∉ E)) := by
      refine nums_sees h (List.Pairwise.filter _ hN.every) fun n => ?_
      unfold delN setN numsN
      rw [List.mem_filter, List.mem_append, List.mem_singleton]
      by_cases e : n ∈ E
      · simp [e]
      · by_cases e3 : n = newNo ns
        · subst e3; simp [hoff, n1, n2]
        · by_cases e4 : n ∈ ns
          · have := hN.ok.fit n e4
            simp only [e, e3, e4, not_false_eq_true, decide_true, or_false, and_self, if_false, if_true, Option.isSome_some, true_iff, and_true]
            omega
          · simp [e, e3, e4]
    have en2 : nums g = ns.filter (fun x => decide (x ∉ E)) ++ [newNo ns] := by
      rw [en, List.filter_append]
      congr 1
      simp [hoff]
    rw [name2 h2, if_pos h2]
    refine ⟨?_, ?_, en⟩
    · have hne : nums g ≠ [] := by rw [en2]; simp
      have hw1 : M.way = 2 ∨ (M.way = 3 ∧ nums g ≠ []) := by
        unfold wayOf at h2
        split at h2
        · exact .inr ⟨by assumption, hne⟩
        · exact .inl h2
      unfold newestN lastNm
      rw [if_pos hw1, if_neg hne, en2]
      simp
    · rw [h.n _ n1 n2]
      unfold delN setN
      rw [if_neg hoff, if_pos rfl]
theorem put_sees {M : Man} {codes : List Int} {g : Files} {f s : Option (List Int)} {N : Int → Option (List Int)} (h : Sees g f s none N) : Sees (run (putOps M codes) g) (some codes) s none N := by
  unfold putOps
  split
  · unfold precOps
    rw [run_app, run_write]
    show Sees (upd (upd (upd g nT (some codes)) nT none) nF (upd g nT (some codes) nT)) _ _ _ _
    rw [upd_at]
    exact ((h.updT _).updT _).updF _
  · rw [run_write]; exact h.updF _
theorem put_early {M : Man} {codes : List Int} {g : Files} {f s : Option (List Int)} {N : Int → Option (List Int)} (h : Sees g f s none N) {k : Nat} (hk : k < (putOps M codes).length) :
    ∃ f' t', Sees (run ((putOps M codes).take k) g) f' s t' N ∧ (M.precious = true → f' = f) ∧ (f' = f ∨ f' = some []) := by
  unfold putOps at hk ⊢
  by_cases hp : M.precious = true
  · rw [if_pos hp] at hk ⊢
    have hk3 : k < 3 := hk
    have hc : k = 0 ∨ k = 1 ∨ k = 2 := by omega
    rcases hc with rfl | rfl | rfl
    · exact ⟨_, _, h, fun _ => rfl, .inl rfl⟩
    · exact ⟨_, _, h.updT (some []), fun _ => rfl, .inl rfl⟩
    · exact ⟨_, _, (h.updT (some [])).updT (some codes), fun _ => rfl, .inl rfl⟩
  · rw [if_neg hp] at hk ⊢
    have hk3 : k < 2 := hk
    have hc : k = 0 ∨ k = 1 := by omega
    rcases hc with rfl | rfl
    · exact ⟨_, _, h, fun _ => rfl, .inl rfl⟩
    · exact ⟨_, _, h.updF (some []), fun q => (hp q).elim, .inr rfl⟩

theorem top_P3 : True := by
  w_top off
  trivial
def wName (M : Man) (ns : List Int) (old : Option (List Int)) : Str := match old with | none => Str.ofString "" | some _ => planName M ns
def wLeft (M : Man) (ns : List Int) (old : Option (List Int)) : List Int := match old with | none => ns | some _ => if wayOf M ns = 2 then leftNs (ns ++ [newNo ns]) M.oldest M.newest else ns
/-- what stands behind a whole writing -/
structure After (M : Man) (ns : List Int) (single : Bool) (old : Option (List Int)) (codes : List Int) (g : Files) : Prop where
  f : g nF = some codes
  t : g nT = none
  no : nums g = wLeft M ns old
  few : NumsIn (nums g)
  name : ∀ o, old = some o → wayOf M ns ≠ 0 → g (wName M ns old) = some o
  newest : ∀ o, old = some o → newestN M g = wName M ns old
  s : (g nS).isSome = (single || (wName M ns old == nS))
/-- what stands where a writing ends early -/
structure Early (M : Man) (old : Option (List Int)) (g : Files) : Prop where
  few : NumsIn (nums g)
  e0 : old = none → g nF = none ∨ g nF = some []
  e1 : ∀ o, old = some o → M.precious = true → g nF = some o
  e2 : ∀ o, old = some o → M.way ≠ 0 → g nF = some o ∨ ((newestN M g == Str.ofString "") = false ∧ g (newestN M g) = some o)
theorem numsN_nums {g : Files} {f s t : Option (List Int)} {ns : List Int} (h : Sees g f s t (numsN ns)) (hN : Nums ns) : nums g = ns := by
  refine nums_sees h hN.up fun n => ?_
  unfold numsN
  by_cases e : n ∈ ns
  · have := hN.ok.fit n e
    simp only [e, if_true, Option.isSome_some, true_iff, and_true]
    omega
  · simp [e]
theorem numsN_in {g : Files} {f s t : Option (List Int)} {ns : List Int} (h : Sees g f s t (numsN ns)) (hN : Nums ns) : NumsIn (nums g) := by
  refine nums_in h hN fun n hn => ?_
  unfold numsN at hn
  by_cases e : n ∈ ns
  · exact List.mem_append_left _ e
  · rw [if_neg e] at hn; cases hn
theorem bk_supp0 {M : Man} {ns old : List Int} : ∀ n, (nBk M ns old n).isSome = true → n ∈ ns ++ [newNo ns] := fun n hn => bk_supp (M := M) (old := old) (E := []) n (by unfold delN; rw [if_neg (by simp)]; exact hn)
def sTree (single : Bool) : Option (List Int) := if single = true then some [99] else none
theorem sTree_some (single : Bool) : (sTree single).isSome = single := by cases single <;> rfl
theorem empty_nS : (Str.ofString "" == nS) = false := by decide +kernel
theorem nmn_nS {n : Int} (h1 : 1 ≤ n) (h2 : n ≤ 13) : (nmn n == nS) = false := beq_eq_false_iff_ne.mpr (nmn_ne h1 h2).2.1
theorem newest0 {M : Man} {g : Files} (h : M.way = 0) : newestN M g = Str.ofString "" := by
  unfold newestN
  rw [if_neg (by omega), if_neg (fun q => q.1 h)]
theorem take_len {M : Man} {ns : List Int} : (nExtra M ns).take (planExtra M ns).length = nExtra M ns := by
  rw [planExtra_is, List.length_map, List.take_length]
theorem after_plain {M : Man} {ns codes : List Int} {single : Bool} {old : Option (List Int)} {g : Files} (h : Sees g (some codes) (sTree single) none (numsN ns)) (hN : Nums ns) (h0 : old = none ∨ wayOf M ns = 0) : After M ns single old codes g := by
  have hw : wName M ns old = Str.ofString "" := by
    unfold wName
    cases old with
    | none => rfl
    | some o => exact plan_name0 (h0.resolve_left (fun q => by cases q))
  have hl : wLeft M ns old = ns := by
    unfold wLeft
    cases old with
    | none => rfl
    | some o =>
      have := h0.resolve_left (fun q => by cases q)
      dsimp only
      rw [if_neg (by omega)]
  refine ⟨h.f, h.t, (numsN_nums h hN).trans hl.symm, numsN_in h hN, fun o e hn => ?_, fun o e => ?_, ?_⟩
  · subst e; exact (hn (h0.resolve_left (fun q => by cases q))).elim
  · subst e; rw [hw]; exact newest0 (way_zero (h0.resolve_left (fun q => by cases q)))
  · rw [h.s, sTree_some, hw, empty_nS, Bool.or_false]
theorem after_made {M : Man} {ns old codes : List Int} {single : Bool} {g : Files} (h : Sees g (some codes) (sBk M ns old (sTree single)) none (delN (nExtra M ns) (nBk M ns old))) (hN : Nums ns) (hok : M.ok) (hw : wayOf M ns ≠ 0) : After M ns single (some old) codes g := by
  obtain ⟨b1, b2, b3⟩ := backed hN hok hw (fun x hx => hx) h
  refine ⟨h.f, h.t, ?_, nums_in h hN bk_supp, fun o e _ => ?_, fun o e => b1, ?_⟩
  · rw [b3]
    unfold wLeft nExtra
    dsimp only
    by_cases h2 : wayOf M ns = 2
    · rw [if_pos h2, if_pos h2, if_pos h2]
      exact (extra_cases hN hok.oldest hok.newest).2.symm
    · rw [if_neg h2, if_neg h2]
  · cases e; exact b2
  · rw [h.s]
    unfold wName sBk
    dsimp only
    rcases way_cases (ns := ns) hok with h0 | h1 | h2
    · exact (hw h0).elim
    · rw [if_pos h1, name1 h1]
      rw [show (nS == nS) = true from by decide +kernel, Bool.or_true]; rfl
    · obtain ⟨n1, n2⟩ := new_fit hN
      rw [if_neg (by omega), name2 h2, nmn_nS n1 n2, sTree_some, Bool.or_false]
theorem bk_none {M : Man} {g : Files} (h : g nF = none) : bkAll M g false = [] := by unfold bkAll; rw [if_neg Bool.false_ne_true, h]
theorem bk_way0 {M : Man} {g : Files} {ns o : List Int} (h : g nF = some o) (hn : nums g = ns) (h0 : wayOf M ns = 0) : bkAll M g false = [] := by unfold bkAll mkOps; rw [if_neg Bool.false_ne_true, h]; dsimp only; rw [hn, if_pos h0]
theorem bk_some {M : Man} {g : Files} {ns o : List Int} (h : g nF = some o) (hn : nums g = ns) (h0 : wayOf M ns ≠ 0) : bkAll M g false = bkOps M ns o ++ delOps (planExtra M ns) := by unfold bkAll mkOps; rw [if_neg Bool.false_ne_true, h]; dsimp only; rw [hn, if_neg h0]
theorem mid_all {M : Man} {ns old : List Int} {g : Files} {s : Option (List Int)} (h : Sees g (some old) s none (numsN ns)) (hN : Nums ns) (hok : M.ok) (hw : wayOf M ns ≠ 0) :
    Sees (run (bkOps M ns old ++ delOps (planExtra M ns)) g) (fBk M old) (sBk M ns old s) none (delN (nExtra M ns) (nBk M ns old)) := by
  have := mid_sees h hN hok hw (planExtra M ns).length
  rw [List.take_length, take_len] at this
  exact this
theorem whole_facts {M : Man} {ns codes : List Int} {single : Bool} {old : Option (List Int)} {g : Files} (hN : Nums ns) (hok : M.ok) (hg : run (treeOps old ns single) noFiles = g) :
    After M ns single old codes (run (bkAll M g false ++ putOps M codes) g) ∧ run (bkAll M g false) g nT = none ∧ nums g = ns := by
  have h : Sees g old (sTree single) none (numsN ns) := hg ▸ tree_sees hN.ok
  have hn := numsN_nums h hN
  cases old with
  | none =>
    rw [bk_none h.f]
    exact ⟨after_plain (put_sees h) hN (.inl rfl), h.t, hn⟩
  | some o =>
    by_cases h0 : wayOf M ns = 0
    · rw [bk_way0 h.f hn h0]
      exact ⟨after_plain (put_sees h) hN (.inr h0), h.t, hn⟩
    · rw [bk_some h.f hn h0, run_app]
      have hm := mid_all h hN hok h0
      exact ⟨after_made (put_sees hm) hN hok h0, hm.t, hn⟩
theorem nums_cong {g g' : Files} (h : ∀ n, 1 ≤ n → n ≤ 13 → g' (nmn n) = g (nmn n)) : nums g' = nums g := by
  unfold nums
  refine List.filter_congr fun n hn => ?_
  obtain ⟨i, hi, rfl⟩ := List.mem_map.mp hn
  rw [List.mem_range] at hi
  rw [h _ (by omega) (by omega)]
theorem After.again {M : Man} {ns codes codes' : List Int} {single : Bool} {old : Option (List Int)} {g : Files} (A : After M ns single old codes g) (hN : Nums ns) (hok : M.ok) :
    After M ns single old codes' (run (bkAll M g true ++ putOps M codes') g) ∧ run (bkAll M g true) g nT = none := by
  have eb : bkAll M g true = [] := by unfold bkAll; rw [if_pos rfl]
  have h : Sees g (g nF) (g nS) none (fun n => g (nmn n)) := ⟨rfl, rfl, A.t, fun _ _ _ => rfl⟩
  rw [eb]
  refine ⟨?_, A.t⟩
  show After M ns single old codes' (run (putOps M codes') g)
  have h2 := put_sees (M := M) (codes := codes') h
  generalize run (putOps M codes') g = g' at h2
  have en := nums_cong h2.n
  refine ⟨h2.f, h2.t, en ▸ A.no, en ▸ A.few, fun o e hw => ?_, fun o e => ?_, ?_⟩
  · rw [← A.name o e hw]
    subst e
    rcases way_cases (ns := ns) hok with h0 | h1 | h2'
    · exact (hw h0).elim
    · show g' (planName M ns) = g (planName M ns)
      rw [name1 h1]; exact h2.s
    · show g' (planName M ns) = g (planName M ns)
      rw [name2 h2']
      exact h2.n _ (new_fit hN).1 (new_fit hN).2
  · rw [← A.newest o e]
    unfold newestN
    rw [en]
    show (if _ then _ else if M.way ≠ 0 ∧ (g' nS).isSome = true then _ else _) = (if _ then _ else if M.way ≠ 0 ∧ (g nS).isSome = true then _ else _)
    rw [h2.s]
  · rw [h2.s]; exact A.s
theorem early_of {M : Man} {ns old E : List Int} {g : Files} {f s t : Option (List Int)} (hN : Nums ns) (hok : M.ok) (hw : wayOf M ns ≠ 0) (hE : ∀ x ∈ E, x ∈ nExtra M ns) (h : Sees g f (sBk M ns old s) t (delN E (nBk M ns old))) (hf : M.precious = true → f = some old) : Early M (some old) g := by
  obtain ⟨b1, b2, b3⟩ := backed hN hok hw hE h
  refine ⟨nums_in h hN bk_supp, fun q => by (cases q), fun o e hp => ?_, fun o e _ => .inr ?_⟩
  · cases e; rw [h.f]; exact hf hp
  · cases e
    rw [b1]
    exact ⟨(plan_name hok hN.ok hw).2.1, b2⟩
theorem early_old {M : Man} {ns old : List Int} {g : Files} {s t : Option (List Int)} {N : Int → Option (List Int)} (hN : Nums ns) (h : Sees g (some old) s t N) (hs : ∀ n, (N n).isSome = true → n ∈ ns ++ [newNo ns]) : Early M (some old) g :=
  ⟨nums_in h hN hs, fun q => by (cases q), fun o e _ => e ▸ h.f, fun o e _ => .inl (e ▸ h.f)⟩
theorem early {M : Man} {ns codes : List Int} {single : Bool} {old : Option (List Int)} {g : Files} (hN : Nums ns) (hok : M.ok) (hg : run (treeOps old ns single) noFiles = g) {k : Nat} (hk : k < (bkAll M g false ++ putOps M codes).length) :
    Early M old (run ((bkAll M g false ++ putOps M codes).take k) g) := by
  have h : Sees g old (sTree single) none (numsN ns) := hg ▸ tree_sees hN.ok
  have hn := numsN_nums h hN
  have hsup : ∀ n, (numsN ns n).isSome = true → n ∈ ns ++ [newNo ns] := fun n hn => by
    unfold numsN at hn
    by_cases e : n ∈ ns
    · exact List.mem_append_left _ e
    · rw [if_neg e] at hn; cases hn
  cases old with
  | none =>
    rw [bk_none h.f, List.nil_append] at hk ⊢
    obtain ⟨f', t', h2, h3, h4⟩ := put_early h hk
    refine ⟨nums_in h2 hN hsup, fun _ => ?_, fun o e => (by cases e), fun o e => (by cases e)⟩
    rw [h2.f]; exact h4
  | some o =>
    by_cases h0 : wayOf M ns = 0
    · rw [bk_way0 h.f hn h0, List.nil_append] at hk ⊢
      obtain ⟨f', t', h2, h3, h4⟩ := put_early h hk
      refine ⟨nums_in h2 hN hsup, fun q => by (cases q), fun o' e hp => ?_, fun o' e hw => (hw (way_zero h0)).elim⟩
      rw [h2.f, h3 hp, e]
    · rw [bk_some h.f hn h0] at hk ⊢
      obtain ⟨p1, p2, p3⟩ := plan_name hok hN.ok h0
      by_cases hk1 : k < (bkOps M ns o).length
      · rw [List.append_assoc, List.take_append_of_le_length (by omega)]
        unfold bkOps at hk1 ⊢
        by_cases hc : M.copying = true ∨ M.precious = true
        · rw [if_pos hc] at hk1 ⊢
          have hk2 : k < 2 := hk1
          have hk3 : k = 0 ∨ k = 1 := by omega
          rcases hk3 with rfl | rfl
          · exact early_old hN h hsup
          · rcases way_cases (ns := ns) hok with q | h1 | h2
            · exact (h0 q).elim
            · rw [name1 h1]
              exact early_old hN (h.updS (some [])) hsup
            · rw [name2 h2]
              refine early_old hN (h.updN (new_fit hN).1 (new_fit hN).2 (some [])) fun n hn => ?_
              unfold setN at hn
              by_cases e : n = newNo ns
              · rw [e]; simp
              · rw [if_neg e] at hn; exact hsup n hn
        · rw [if_neg hc] at hk1 ⊢
          have hk2 : k < 1 := hk1
          have hk3 : k = 0 := by omega
          subst hk3
          exact early_old hN h hsup
      · by_cases hk2 : k < (bkOps M ns o ++ delOps (planExtra M ns)).length
        · rw [List.take_append_of_le_length (by omega), List.take_append, List.take_of_length_le (by omega)]
          have e : (delOps (planExtra M ns)).take (k - (bkOps M ns o).length) = delOps ((planExtra M ns).take (k - (bkOps M ns o).length)) := by unfold delOps; rw [List.map_take]
          rw [e]
          refine early_of hN hok h0 (fun x hx => List.mem_of_mem_take hx) (mid_sees h hN hok h0 (k - (bkOps M ns o).length)) fun hp => ?_
          unfold fBk; rw [if_pos (.inr hp)]
        · rw [List.take_append, List.take_of_length_le (by omega), run_app]
          rw [List.length_append] at hk
          obtain ⟨f', t', h2, h3, h4⟩ := put_early (M := M) (codes := codes) (mid_all h hN hok h0) (k := k - (bkOps M ns o ++ delOps (planExtra M ns)).length) (by omega)
          refine early_of hN hok h0 (fun x hx => hx) h2 fun hp => ?_
          rw [h3 hp]
          unfold fBk; rw [if_pos (.inr hp)]
theorem tree_hex {M : Man} {ns : List Int} {single : Bool} {old : Option (List Int)} {g : Files} (hN : Nums ns) (hok : M.ok) (hg : run (treeOps old ns single) noFiles = g) :
    ∀ o, g (Str.ofString "/d/f") = some o → ∀ i x, (planExtra M (nums g))[i]? = some x → x ∈ Fs ∧ ∃ c, run (bkOps M (nums g) o ++ delOps ((planExtra M (nums g)).take i)) g x = some c := by
  intro o ho
  have h : Sees g old (sTree single) none (numsN ns) := hg ▸ tree_sees hN.ok
  rw [numsN_nums h hN]
  have e : old = some o := h.f.symm.trans ho
  subst e
  exact hex_all h hN hok

theorem top_P4 : True := by
  w_top off
  trivial
theorem risingS_pair : ∀ (l : List Str) (p : Str), risingS p l = true → (p :: l).Pairwise (fun a b => ¬ b.cps.toList < a.cps.toList)
  | [], p, _ => List.pairwise_singleton _ _
  | x :: r, p, h => by
    have h2 : (!ltCps x.cps.toList p.cps.toList && risingS x r) = true := h
    rw [Bool.and_eq_true, ltCps_eq] at h2
    have h3 := risingS_pair r x h2.2
    have h4 : ¬ x.cps.toList < p.cps.toList := by simpa using h2.1
    refine List.pairwise_cons.mpr ⟨fun a ha => ?_, h3⟩
    rcases List.mem_cons.mp ha with rfl | ha
    · exact h4
    · exact List.le_trans (List.not_lt.mp h4 : p.cps.toList ≤ x.cps.toList) (List.not_lt.mp ((List.pairwise_cons.mp h3).1 a ha)) |> List.not_lt.mpr
theorem sortedS_same {a b : List Str} (ha : sortedS a = true) (hb : sortedS b = true) (P : a.Perm b) : a = b := by
  have h : ∀ l, sortedS l = true → l.Pairwise (fun a b => ¬ b.cps.toList < a.cps.toList) := fun l hl => by
    cases l with
    | nil => exact .nil
    | cons x r => exact risingS_pair r x hl
  refine List.Perm.eq_of_pairwise (fun x y _ _ h1 h2 => ?_) (h a ha) (h b hb) P
  have e : x.cps.toList = y.cps.toList := List.le_antisymm (List.not_lt.mp h1) (List.not_lt.mp h2)
  cases x; cases y
  congr 1
  exact Array.toList_inj.mp e
theorem strs_layAll : ∀ ns : List Str, (∀ x ∈ ns, PyData.strOk x = true) → PyData.canLayAll0 (ns.map PyData.str) = true
  | [], _ => rfl
  | a :: r, h => by simp [PyData.canLayAll0, PyData.canLay0, strs_layAll r (fun x hx => h x (.tail _ hx)), h a (.head _)]
theorem strs_depthAll : ∀ ns : List Str, PyData.depthAll (ns.map PyData.str) = 0
  | [] => rfl
  | _ :: r => by simp [PyData.depthAll, PyData.depth, strs_depthAll r]
theorem strs_shaped (ns : List Str) (h : ∀ x ∈ ns, PyData.strOk x = true) : SeqAt.shaped (.list (ns.map PyData.str)) = true := by
  simp [SeqAt.shaped, PyData.canLay0, PyData.depth, strs_layAll ns h, strs_depthAll]
theorem strs_sameAll : ∀ ns : List Str, PySem.Spec.sameAll (ns.map PyData.str) (ns.map PyData.str) = true
  | [] => by simp [PySem.Spec.sameAll]
  | a :: r => by
    simp only [List.map_cons, PySem.Spec.sameAll, PySem.Spec.same, strs_sameAll r]
    simp
theorem strs_carried : ∀ {vs : List Value} {ns : List Str}, StrsAre vs ns → CarriedAll vs (ns.map PyData.str)
  | _, _, .nil => .nil
  | _, _, .cons _ t r => .cons (.str _ t) (strs_carried r)
section
variable {prog : Program} {w : World} {A : Around} {E : Value → Shared → Prop} {s : Shared} {a b : Addr} {xs ys : List Value} {ns ms : List Int} {ss : List Str} {Q : Value → Shared → Prop}
theorem ne_strs_same (hok : ∀ x ∈ ss, PyData.strOk x = true) (ha : s.heap.IsList a xs.toArray) (hb : s.heap.IsList b ys.toArray) (hi : StrsAre xs ss) (hj : StrsAre ys ss) (hu : A.units + 64 < cLine) (h : Q (.bool false) s) :
    wpAny (model prog w) A (compareOp .NotEq (.ref a) (.ref b)) Q E s :=
  ne_dataH_same (reads_newData ha (strs_carried hi)) (reads_newData hb (strs_carried hj)) (strs_shaped _ hok) (strs_shaped _ hok) hu (SeqAt.noMix_of_shape (.list .str) rfl _ _ (list_map_has fun _ => rfl) (list_map_has fun _ => rfl)) (by
    have e : PySem.Spec.same (.list (ss.map PyData.str)) (.list (ss.map PyData.str)) = true := by simp only [PySem.Spec.same]; exact strs_sameAll ss
    rw [e]; exact h)
theorem ne_ints_same (e : ns = ms) (ha : s.heap.IsList a xs.toArray) (hb : s.heap.IsList b ys.toArray) (hi : IntsAre xs ns) (hj : IntsAre ys ms) (hu : A.units + 64 < cLine) (h : Q (.bool false) s) :
    wpAny (model prog w) A (compareOp .NotEq (.ref a) (.ref b)) Q E s := by
  subst e
  exact ke_ne_ints ha hb hi hj hu (by simpa using h)
theorem eq_ints_same (e : ns = ms) (ha : s.heap.IsList a xs.toArray) (hb : s.heap.IsList b ys.toArray) (hi : IntsAre xs ns) (hj : IntsAre ys ms) (hu : A.units + 64 < cLine) (h : Q (.bool true) s) :
    wpAny (model prog w) A (compareOp .Eq (.ref a) (.ref b)) Q E s := by
  subst e
  exact ke_eq_ints ha hb hi hj hu (by simpa using h)
end
theorem max_last0 : ∀ (r : List Int) (a : Int), (a :: r).Pairwise (· < ·) → ∀ x ∈ a :: r, x ≤ (a :: r).getLastD 0
  | [], a, _, x, hx => by rw [List.mem_singleton.mp hx]; exact Int.le_refl _
  | b :: r, a, h, x, hx => by
    have e : (a :: b :: r).getLastD 0 = (b :: r).getLastD 0 := by simp
    obtain ⟨h1, h2⟩ := List.pairwise_cons.mp h
    rw [e]
    rcases List.mem_cons.mp hx with rfl | hx
    · exact Int.le_trans (Int.le_of_lt (h1 b (.head _))) (max_last0 r b h2 b (.head _))
    · exact max_last0 r b h2 x hx
theorem max_last {ns : List Int} (hN : Nums ns) {M : Int} (hm : M = 0 ∨ M ∈ ns) (h0 : 0 ≤ M) (hx : ∀ a ∈ ns, a ≤ M) : M + 1 = newNo ns := by
  unfold newNo
  cases ns with
  | nil =>
    rcases hm with rfl | hm
    · rfl
    · cases hm
  | cons a r =>
    have h1 := max_last0 r a hN.up
    have h2 : (a :: r).getLastD 0 ∈ a :: r := by rw [List.getLastD_cons]; exact List.getLastD_mem_cons
    have h3 := hx _ h2
    have h4 := hN.ok.fit _ h2
    rcases hm with rfl | hm
    · omega
    · have := h1 M hm; omega
theorem leaf_ok : ∀ k ∈ Fs, PyData.strOk (leaf k) = true := by decide +kernel
def dueL (left : List Int) (sb : Bool) : List Str := Str.ofString "f" :: (left.map (fun n => leaf (nmn n)) ++ (if sb = true then [Str.ofString "f~"] else []))
theorem Fs_four : ∀ k ∈ Fs, k = nF ∨ k = nS ∨ k = nT ∨ 0 < numF k := by decide +kernel
theorem leaf_two : leaf nF = Str.ofString "f" ∧ leaf nS = Str.ofString "f~" ∧ nF ∈ Fs ∧ nS ∈ Fs := by decide +kernel
theorem due_perm {A : Abs} {g : Files} (H : Has A g) {left : List Int} {sb : Bool} (hf : (g nF).isSome = true) (ht : g nT = none) (hn : nums g = left) (hs : (g nS).isSome = sb) : (dueL left sb).Perm (leaves A) := by
  obtain ⟨l1, l2, l3, l4⟩ := leaf_two
  obtain ⟨a, b, c, d1, d2, d3⟩ := three_apart
  have hb : ∀ n ∈ left, 1 ≤ n ∧ n ≤ 13 := fun n hn' => (nums_mem.mp (hn ▸ hn')).1
  have e : dueL left sb = (nF :: (left.map nmn ++ if sb = true then [nS] else [])).map leaf := by
    unfold dueL
    rw [List.map_cons, List.map_append, List.map_map, l1]
    cases sb
    · rfl
    · simp only [if_true, List.map_cons, List.map_nil, l2]; rfl
  rw [e]
  unfold leaves
  refine List.Perm.map _ ?_
  refine (List.perm_ext_iff_of_nodup ?_ (H.nd.filter _)).mpr fun x => ?_
  · rw [List.nodup_cons, List.nodup_append]
    refine ⟨fun hm => ?_, ?_, ?_, fun x hx y hy => ?_⟩
    · rcases List.mem_append.mp hm with hm | hm
      · obtain ⟨n, hn', e⟩ := List.mem_map.mp hm
        exact (nmn_ne (hb n hn').1 (hb n hn').2).1 e
      · cases sb
        · cases hm
        · exact a (List.mem_singleton.mp hm)
    · rw [List.nodup_iff_pairwise_ne, List.pairwise_map]
      have hp := nums_sorted g
      rw [hn] at hp
      exact List.Pairwise.imp_of_mem (fun ha hb' h e => absurd (nmn_inj (hb _ ha).1 (hb _ ha).2 (hb _ hb').1 (hb _ hb').2 e) (by omega)) hp
    · cases sb
      · exact List.nodup_nil
      · simp
    · obtain ⟨n, hn', e5⟩ := List.mem_map.mp hx
      cases sb
      · cases hy
      · rw [List.mem_singleton.mp hy, ← e5]
        exact (nmn_ne (hb n hn').1 (hb n hn').2).2.1
  · rw [List.mem_cons, List.mem_append, List.mem_map, List.mem_filter, decide_eq_true_eq]
    constructor
    · rintro (rfl | ⟨n, hn', rfl⟩ | hx)
      · exact ⟨(H.name l3).mpr hf, l3⟩
      · have h1 := hb n hn'
        have h2 := (nmn_Fs h1.1 h1.2).1
        exact ⟨(H.name h2).mpr (nums_mem.mp (hn ▸ hn')).2, h2⟩
      · cases sb
        · cases hx
        · rw [List.mem_singleton.mp hx]
          exact ⟨(H.name l4).mpr hs, l4⟩
    · rintro ⟨hx, hF⟩
      have hg := (H.name hF).mp hx
      rcases Fs_four x hF with rfl | rfl | rfl | hp
      · exact .inl rfl
      · rw [hs] at hg; subst hg
        exact .inr (.inr (.head _))
      · rw [ht] at hg; cases hg
      · obtain ⟨e1, e2⟩ := numF_nmn hF hp
        refine .inr (.inl ⟨numF x, ?_, e1.symm⟩)
        rw [← hn]
        exact nums_mem.mpr ⟨e2, e1 ▸ hg⟩
theorem due_ok {A : Abs} {ss : List Str} (P : ss.Perm (leaves A)) : ∀ x ∈ ss, PyData.strOk x = true := fun x hx => by
  have h1 := P.mem_iff.mp hx
  unfold leaves at h1
  obtain ⟨k, hk, rfl⟩ := List.mem_map.mp h1
  exact leaf_ok k (by simpa using (List.mem_filter.mp hk).2)
theorem nmn_leaf {n : Int} (h1 : 1 ≤ n) (h2 : n ≤ 13) : Str.ofString "f.~" ++ Str.ofString (toString n) ++ Str.ofString "~" = leaf (nmn n) := by
  obtain ⟨i, rfl⟩ := fin_of (k := 13) h1 h2
  unfold nmn
  revert i
  decide +kernel
theorem leftAt_some {every : List Int} {o nw n : Int} {i : Nat} (h : leftAt every o nw i = some n) : every.getD i 0 = n := by
  unfold leftAt at h
  generalize (if nw > 1 then nw else 1) = z at h
  split at h
  · exact Option.some.inj h
  · cases h
theorem wLeft_mem {M : Man} {ns : List Int} {old : Option (List Int)} {n : Int} (h : n ∈ wLeft M ns old) : n ∈ ns ++ [newNo ns] := by
  unfold wLeft at h
  cases old with
  | none => exact List.mem_append_left _ h
  | some o =>
    dsimp only at h
    split at h
    · unfold leftNs at h
      obtain ⟨i, hi, e⟩ := List.mem_filterMap.mp h
      rw [List.mem_range] at hi
      rw [← leftAt_some e]
      simp only [List.getD_eq_getElem?_getD, List.getElem?_eq_getElem hi, Option.getD_some]
      exact List.getElem_mem hi
    · exact List.mem_append_left _ h
theorem max_lastA {ns : List Int} (hN : Nums ns) {M : Int} (a : M ∈ [0] ++ ns) (b : ∀ a ∈ [0] ++ ns, a ≤ M) : M + 1 = newNo ns :=
  max_last hN ((List.mem_append.mp a).imp List.mem_singleton.mp id) (b 0 (List.mem_append_left _ (.head _))) fun x hx => b x (List.mem_append_right _ hx)
theorem name_cases {M : Man} {ns : List Int} {old : Option (List Int)} (hN : Nums ns) (hok : M.ok) : ((old = none ∨ wayOf M ns = 0) ∧ wName M ns old = Str.ofString "") ∨ ∃ o, old = some o ∧ wayOf M ns ≠ 0 ∧ wName M ns old ∈ Fs ∧ (wName M ns old == Str.ofString "") = false := by
  cases old with
  | none => exact .inl ⟨.inl rfl, rfl⟩
  | some o =>
    by_cases h : wayOf M ns = 0
    · exact .inl ⟨.inr h, plan_name0 h⟩
    · obtain ⟨a, b, _⟩ := plan_name hok hN.ok h
      exact .inr ⟨o, rfl, h, a, b⟩
theorem wLeft_fit {M : Man} {ns : List Int} {old : Option (List Int)} (hN : Nums ns) : ∀ n ∈ wLeft M ns old, 1 ≤ n ∧ n ≤ 13 := fun n hn => by
  rcases List.mem_append.mp (wLeft_mem hn) with h | h
  · have := hN.ok.fit n h; omega
  · rw [List.mem_singleton.mp h]; exact new_fit hN

theorem top_K6 : True := by
  w_top off
  trivial
theorem c_readG {w : World} {news : List (Addr × Obj)} {ta : Addr} {T : Ft} {g : Files} {x : Str} {tx : Tok} {ns : List Int} (I : FtIn w news ta T) (H : Has T.abs g) (hx : x ∈ Fs) (hg : g x = some ns) :
    Call w 5 304 [.ref ta, .str x tx] news (fun r n' => ∃ D vs c, n' = (D, listOf vs.toArray c) :: news ∧ r = .ref D ∧ IntsAre vs ns ∧ ∀ q ∈ news, q.1 < D) (fun _ => False) := by
  obtain ⟨e, h1, h2, h3⟩ := H.file hx hg
  have hi : IntsAre e.vs ns := by
    have hk := (I.ok.all e (Ft.at_mem h1).1).kind
    rcases hk with ⟨a, _⟩ | ⟨_, _, a, _⟩
    · omega
    · exact h3 ▸ a
  exact (c_read x tx I (Fs_U x hx).1 (.inr (H.dirs I.ok.all)) h1 h2).mono (fun r n' ⟨D, c, a, b, q⟩ => ⟨D, e.vs, c, a, b, hi, q⟩) fun _ h => h
theorem has_plain {w : World} {ta : Addr} {T : Ft} {g : Files} {news : List (Addr × Obj)} (H : Has T.abs g) {x : Str} {b : Bool} (hx : x ∈ Fs) (hb : (g x).isSome = b) : plainAt T x = b := (plainAt_has H hx).trans hb
/-- an end of a piece of the walk behind which one name has been bound -/
theorem CutB.mk {h₀ : Heap} {L : Addr} {x : Str} {m m' : Str → Option Value} {news all : List (Addr × Obj)} {P : Flow → Value → Prop} {Qc : Flow → Shared → Prop} {S : Shared} (K : ∀ fl h' tk v, P fl v → Fr h₀ L h' (frU m x v) → News h₀ L h' news → Qc fl { S with heap := h', toks := tk })
    {fl : Flow} {h' : Heap} {tk : Nat} {v : Value} (hP : P fl v) (F : Fr h₀ L h' m') (hv : m' x = some v) (hm : ∀ y, y ≠ x → m' y = m y) (N : News h₀ L h' all) (sub : ∀ p ∈ news, p ∈ all) : Qc fl { S with heap := h', toks := tk } := K fl h' tk v hP (Fr.normU F hv hm) fun p hp => N p (sub p hp)
theorem cutB {M : Model} {A : Around} {z : Sem Flow} {Q : Flow → Shared → Prop} {E : Value → Shared → Prop} {s S : Shared} {h₀ : Heap} {L : Addr} {m : Str → Option Value} {news : List (Addr × Obj)} (x : Str) (P : Flow → Value → Prop) (_F : Fr h₀ L s.heap m) (_N : News h₀ L s.heap news)
    (h : ∀ Qc : Flow → Shared → Prop, (∀ fl h' tk v, P fl v → Fr h₀ L h' (frU m x v) → News h₀ L h' news → Qc fl { S with heap := h', toks := tk }) → wpAny M A z Qc E s) (k : ∀ fl h' tk v, P fl v → Fr h₀ L h' (frU m x v) → News h₀ L h' news → Q fl { S with heap := h', toks := tk }) (_ : IsBase S := by assumption) : wpAny M A z Q E s := h Q k
/-- an end of a piece of the walk behind which a name has been bound to a list of the ledger -/
theorem cutL {M : Model} {A : Around} {z : Sem Flow} {Q : Flow → Shared → Prop} {E : Value → Shared → Prop} {s S : Shared} {h₀ : Heap} {L : Addr} {m : Str → Option Value} {w : World} {ta : Addr} {T : Ft} {R : List (Addr × Obj)} (x : Str) (P : Flow → Prop) (Z : List Value → Prop) (_F : Fr h₀ L s.heap m) (_O : Own w ta T R)
    (h : ∀ Qc : Flow → Shared → Prop, (∀ fl h' tk R' D vs c, P fl → Fr h₀ L h' (frU m x (.ref D)) → News h₀ L h' (T.objs w ta ++ R') → Own w ta T R' → (∀ p ∈ R, p ∈ R') → (D, listOf vs.toArray c) ∈ R' → Z vs → Qc fl { S with heap := h', toks := tk }) → wpAny M A z Qc E s) (k : ∀ fl h' tk R' D vs c, P fl → Fr h₀ L h' (frU m x (.ref D)) → News h₀ L h' (T.objs w ta ++ R') → Own w ta T R' → (∀ p ∈ R, p ∈ R') → (D, listOf vs.toArray c) ∈ R' → Z vs → Q fl { S with heap := h', toks := tk }) (_ : IsBase S := by assumption) : wpAny M A z Q E s := h Q k
theorem CutL.mk {h₀ : Heap} {L : Addr} {x : Str} {m m' : Str → Option Value} {w : World} {ta : Addr} {T : Ft} {R R' all : List (Addr × Obj)} {P : Flow → Prop} {Z : List Value → Prop} {Qc : Flow → Shared → Prop} {S : Shared} (K : ∀ fl h' tk R' D vs c, P fl → Fr h₀ L h' (frU m x (.ref D)) → News h₀ L h' (T.objs w ta ++ R') → Own w ta T R' → (∀ p ∈ R, p ∈ R') → (D, listOf vs.toArray c) ∈ R' → Z vs → Qc fl { S with heap := h', toks := tk })
    {fl : Flow} {h' : Heap} {tk : Nat} {D : Addr} {vs : List Value} {c : Nat} (hP : P fl) (F : Fr h₀ L h' m') (hv : m' x = some (.ref D)) (hm : ∀ y, y ≠ x → m' y = m y) (N : News h₀ L h' all) (sub : ∀ p ∈ T.objs w ta ++ R', p ∈ all) (O : Own w ta T R') (hR : ∀ p ∈ R, p ∈ R') (hD : (D, listOf vs.toArray c) ∈ R') (hS : Z vs) :
    Qc fl { S with heap := h', toks := tk } := K fl h' tk R' D vs c hP (Fr.normU F hv hm) (fun p hp => N p (sub p hp)) O hR hD hS
/-- the same, with a name bound to a text besides -/
theorem CutS.mk {h₀ : Heap} {L : Addr} {x x2 nm : Str} {m m' : Str → Option Value} {w : World} {ta : Addr} {T : Ft} {R R' all : List (Addr × Obj)} {P : Flow → Prop} {Z : List Value → Prop} {Qc : Flow → Shared → Prop} {S : Shared} (K : ∀ fl h' tk R' D vs c t, P fl → Fr h₀ L h' (frU (frU m x2 (.ref D)) x (.str nm t)) → News h₀ L h' (T.objs w ta ++ R') → Own w ta T R' → (∀ p ∈ R, p ∈ R') → (D, listOf vs.toArray c) ∈ R' → Z vs → Qc fl { S with heap := h', toks := tk })
    {fl : Flow} {h' : Heap} {tk : Nat} {D : Addr} {vs : List Value} {c : Nat} {t : Tok} (hP : P fl) (F : Fr h₀ L h' m') (hv : m' x = some (.str nm t)) (hv2 : m' x2 = some (.ref D)) (hm : ∀ y, y ≠ x → y ≠ x2 → m' y = m y) (N : News h₀ L h' all) (sub : ∀ p ∈ T.objs w ta ++ R', p ∈ all) (O : Own w ta T R') (hR : ∀ p ∈ R, p ∈ R') (hD : (D, listOf vs.toArray c) ∈ R') (hS : Z vs) :
    Qc fl { S with heap := h', toks := tk } := K fl h' tk R' D vs c t hP (Fr.normU2 F hv hv2 hm) (fun p hp => N p (sub p hp)) O hR hD hS
theorem cutS {M : Model} {A : Around} {z : Sem Flow} {Q : Flow → Shared → Prop} {E : Value → Shared → Prop} {s S : Shared} {h₀ : Heap} {L : Addr} {m : Str → Option Value} {w : World} {ta : Addr} {T : Ft} {R : List (Addr × Obj)} (x x2 nm : Str) (P : Flow → Prop) (Z : List Value → Prop) (_F : Fr h₀ L s.heap m) (_O : Own w ta T R)
    (h : ∀ Qc : Flow → Shared → Prop, (∀ fl h' tk R' D vs c t, P fl → Fr h₀ L h' (frU (frU m x2 (.ref D)) x (.str nm t)) → News h₀ L h' (T.objs w ta ++ R') → Own w ta T R' → (∀ p ∈ R, p ∈ R') → (D, listOf vs.toArray c) ∈ R' → Z vs → Qc fl { S with heap := h', toks := tk }) → wpAny M A z Qc E s) (k : ∀ fl h' tk R' D vs c t, P fl → Fr h₀ L h' (frU (frU m x2 (.ref D)) x (.str nm t)) → News h₀ L h' (T.objs w ta ++ R') → Own w ta T R' → (∀ p ∈ R, p ∈ R') → (D, listOf vs.toArray c) ∈ R' → Z vs → Q fl { S with heap := h', toks := tk }) (_ : IsBase S := by assumption) : wpAny M A z Q E s := h Q k
theorem ManIn.sub {w : World} {R R' : List (Addr × Obj)} {ma : Addr} {M : Man} (h : ManIn w R ma M) (hs : ∀ p ∈ R, p ∈ R') : ManIn w R' ma M := ⟨h.ok, hs _ h.inst, hs _ h.dict⟩
theorem OldIs.sub {R R' : List (Addr × Obj)} {ov : Value} {old : Option (List Int)} (h : OldIs R ov old) (hs : ∀ p ∈ R, p ∈ R') : OldIs R' ov old :=
  h.imp id fun ⟨l, vs, c, ns, a, b, d, e, f⟩ => ⟨l, vs, c, ns, a, b, hs _ d, e, f⟩
theorem mid_to {α : Type} {a c all : List α} {x : α} (h0 : x ∈ all) (h : ∀ p ∈ a ++ c, p ∈ all) : ∀ p ∈ a ++ x :: c, p ∈ all := fun p hp => by
  rcases List.mem_cons.mp (mem_mid hp) with rfl | hp
  · exact h0
  · exact h p hp
theorem own_in2 {w : World} {ta : Addr} {T : Ft} {p x : Addr × Obj} {R : List (Addr × Obj)} (_ : Own w ta T (p :: R)) (h : x ∈ R) : x ∈ T.objs w ta ++ p :: R := List.mem_append_right _ (.tail _ h)
theorem StrsAre.app {vs ws : List Value} {ss tt : List Str} (h : StrsAre vs ss) (h2 : StrsAre ws tt) : StrsAre (vs ++ ws) (ss ++ tt) := by
  induction h with
  | nil => exact h2
  | cons y u _ ih => exact .cons y u ih
theorem add_strs {prog : Program} {w : World} {A : Around} {E : Value → Shared → Prop} {s : Shared} {h₀ : Heap} {L a b : Addr} {m : Str → Option Value} {news : List (Addr × Obj)} {vs ws : List Value} {ss tt : List Str} {Q : Value → Shared → Prop}
    (F : Fr h₀ L s.heap m) (N : News h₀ L s.heap news) (ha : s.heap.IsList a vs.toArray) (hb : s.heap.IsList b ws.toArray) (hi : StrsAre vs ss) (hj : StrsAre ws tt) (hz : ss.length + tt.length ≤ 1100)
    (h : ∀ D us h', Fr h₀ L h' m → News h₀ L h' ((D, listOf (List.toArray us) 0) :: news) → (∀ p ∈ news, p.1 < D) → StrsAre us (ss ++ tt) → Q (.ref D) { s with heap := h' }) : wpAny (model prog w) A (binaryOp .Add (.ref a) (.ref b)) Q E s := by
  refine add_lists F N ha hb (fun h' F' N' => ?_) (by
    have e1 := StrsAre.length hi
    have e2 := StrsAre.length hj
    rw [sizeLine_eq]; omega)
  exact h _ _ h' F' N' (fun p hp => Heap.lt_size (N p hp).1) (StrsAre.app hi hj)
local macro_rules | `(tactic| walk_at "call ref") => `(tactic| (k_here; (with_reducible refine atRef 304 ?_); k_dflt (refine Call.useK (C := c_readG (by walk_at "in tree") ‹_› ‹_› ‹_›) (hK := q_ldv) (ret := ?_); walk_at "swept")))

theorem top_L1 : True := by
  w_top off
  trivial
/-- the ledger behind the deck: addresses apart -/
structure KX (R : List (Addr × Obj)) (dk : Addr) (X : List (Addr × Obj)) : Prop where
  nd : (X.map (·.1)).Nodup
  off : ∀ p ∈ X, p.1 ≠ dk
  sub : ∀ p ∈ R, p ∈ X
theorem KX.self {R X : List (Addr × Obj)} {dk : Addr} (h : KX R dk X) : KX X dk X := ⟨h.nd, h.off, fun _ h => h⟩
theorem KX.cons {R X : List (Addr × Obj)} {dk D : Addr} {o : Obj} (h : KX R dk X) (h1 : ∀ p ∈ X, p.1 ≠ D) (h2 : @Ne Nat dk D) : KX R dk ((D, o) :: X) := by
  refine ⟨?_, fun p hp => ?_, fun p hp => .tail _ (h.sub p hp)⟩
  · rw [List.map_cons, List.nodup_cons]
    refine ⟨fun hm => ?_, h.nd⟩
    obtain ⟨p, hp, e⟩ := List.mem_map.mp hm
    exact h1 p hp e
  · rcases List.mem_cons.mp hp with rfl | hp
    · exact fun e => h2 e.symm
    · exact h.off p hp
/-- an end of a statement of the law behind which one name has been bound -/
theorem CutK1.mk {h₀ : Heap} {L : Addr} {x : Str} {m m' : Str → Option Value} {dk : Addr} {nn X all : List (Addr × Obj)} {P : Value → List (Addr × Obj) → Prop} {Qc : Flow → Shared → Prop} {S : Shared} (K : ∀ v h' tk dvs dns dc X, Fr h₀ L h' (frU m x v) → News h₀ L h' ((dk, listOf dvs.toArray dc) :: X) → DeckIs dvs dns → KX nn dk X → P v X → Qc .next { S with heap := h', toks := tk })
    {fl : Flow} {h' : Heap} {tk : Nat} {v : Value} {dvs : List Value} {dns : List Int} {dc : Nat}
    (hf : fl = .next) (F : Fr h₀ L h' m') (hv : m' x = some v) (hm : ∀ y, y ≠ x → m' y = m y) (N : News h₀ L h' all) (sub : ∀ p ∈ (dk, listOf dvs.toArray dc) :: X, p ∈ all) (D : DeckIs dvs dns) (K' : KX nn dk X) (hP : P v X) :
    Qc fl { S with heap := h', toks := tk } := hf ▸ K v h' tk dvs dns dc X (Fr.normU F hv hm) (fun p hp => N p (sub p hp)) D K' hP
theorem cutK1 {M : Model} {A : Around} {z : Sem Flow} {Q : Flow → Shared → Prop} {E : Value → Shared → Prop} {s S : Shared} {h₀ : Heap} {L dk : Addr} {m : Str → Option Value} {R nn : List (Addr × Obj)} {vs : List Value} {c : Nat} (x : Str) (P : Value → List (Addr × Obj) → Prop) (_F : Fr h₀ L s.heap m) (_N : News h₀ L s.heap ((dk, listOf vs.toArray c) :: nn)) (_K : KX R dk nn)
    (h : ∀ Qc : Flow → Shared → Prop, (∀ v h' tk dvs dns dc X, Fr h₀ L h' (frU m x v) → News h₀ L h' ((dk, listOf dvs.toArray dc) :: X) → DeckIs dvs dns → KX nn dk X → P v X → Qc .next { S with heap := h', toks := tk }) → wpAny M A z Qc E s) (k : ∀ v h' tk dvs dns dc X, Fr h₀ L h' (frU m x v) → News h₀ L h' ((dk, listOf dvs.toArray dc) :: X) → DeckIs dvs dns → KX nn dk X → P v X → Q .next { S with heap := h', toks := tk }) (_ : IsBase S := by assumption) : wpAny M A z Q E s := h Q k
theorem Fr.norm3 {h₀ h : Heap} {L : Addr} {m m₀ : Str → Option Value} {x x2 x3 : Str} (F : Fr h₀ L h m) (hm : ∀ y, y ≠ x → y ≠ x2 → y ≠ x3 → m y = m₀ y) : Fr h₀ L h (fun y => if y = x then m x else if y = x2 then m x2 else if y = x3 then m x3 else m₀ y) := by
  have e : m = (fun y => if y = x then m x else if y = x2 then m x2 else if y = x3 then m x3 else m₀ y) := funext fun y => by
    by_cases h : y = x
    · rw [if_pos h, h]
    · by_cases h2 : y = x2
      · rw [if_neg h, if_pos h2, h2]
      · by_cases h3 : y = x3
        · rw [if_neg h, if_neg h2, if_pos h3, h3]
        · rw [if_neg h, if_neg h2, if_neg h3, hm y h h2 h3]
  exact e ▸ F
theorem Fr.normU3 {h₀ h : Heap} {L : Addr} {m m₀ : Str → Option Value} {x x2 x3 : Str} {v v2 v3 : Value} (F : Fr h₀ L h m) (hv : m x = some v) (hv2 : m x2 = some v2) (hv3 : m x3 = some v3) (hm : ∀ y, y ≠ x → y ≠ x2 → y ≠ x3 → m y = m₀ y) : Fr h₀ L h (frU (frU (frU m₀ x3 v3) x2 v2) x v) := by
  have h := Fr.norm3 F hm
  rw [hv, hv2, hv3] at h
  exact h
theorem CutK3.mk {h₀ : Heap} {L : Addr} {x x2 x3 : Str} {m m' : Str → Option Value} {dk : Addr} {nn X all : List (Addr × Obj)} {P : Value → Value → Value → List (Addr × Obj) → Prop} {Qc : Flow → Shared → Prop} {S : Shared} (K : ∀ v v2 v3 h' tk dvs dns dc X, Fr h₀ L h' (frU (frU (frU m x3 v3) x2 v2) x v) → News h₀ L h' ((dk, listOf dvs.toArray dc) :: X) → DeckIs dvs dns → KX nn dk X → P v v2 v3 X → Qc .next { S with heap := h', toks := tk })
    {fl : Flow} {h' : Heap} {tk : Nat} {v v2 v3 : Value} {dvs : List Value} {dns : List Int} {dc : Nat}
    (hf : fl = .next) (F : Fr h₀ L h' m') (hv : m' x = some v) (hv2 : m' x2 = some v2) (hv3 : m' x3 = some v3) (hm : ∀ y, y ≠ x → y ≠ x2 → y ≠ x3 → m' y = m y) (N : News h₀ L h' all) (sub : ∀ p ∈ (dk, listOf dvs.toArray dc) :: X, p ∈ all) (D : DeckIs dvs dns) (K' : KX nn dk X) (hP : P v v2 v3 X) :
    Qc fl { S with heap := h', toks := tk } := hf ▸ K v v2 v3 h' tk dvs dns dc X (Fr.normU3 F hv hv2 hv3 hm) (fun p hp => N p (sub p hp)) D K' hP
theorem cutK3 {M : Model} {A : Around} {z : Sem Flow} {Q : Flow → Shared → Prop} {E : Value → Shared → Prop} {s S : Shared} {h₀ : Heap} {L dk : Addr} {m : Str → Option Value} {R nn : List (Addr × Obj)} {vs : List Value} {c : Nat} (x x2 x3 : Str) (P : Value → Value → Value → List (Addr × Obj) → Prop) (_F : Fr h₀ L s.heap m) (_N : News h₀ L s.heap ((dk, listOf vs.toArray c) :: nn)) (_K : KX R dk nn)
    (h : ∀ Qc : Flow → Shared → Prop, (∀ v v2 v3 h' tk dvs dns dc X, Fr h₀ L h' (frU (frU (frU m x3 v3) x2 v2) x v) → News h₀ L h' ((dk, listOf dvs.toArray dc) :: X) → DeckIs dvs dns → KX nn dk X → P v v2 v3 X → Qc .next { S with heap := h', toks := tk }) → wpAny M A z Qc E s) (k : ∀ v v2 v3 h' tk dvs dns dc X, Fr h₀ L h' (frU (frU (frU m x3 v3) x2 v2) x v) → News h₀ L h' ((dk, listOf dvs.toArray dc) :: X) → DeckIs dvs dns → KX nn dk X → P v v2 v3 X → Q .next { S with heap := h', toks := tk }) (_ : IsBase S := by assumption) : wpAny M A z Q E s := h Q k
theorem CutK2.mk {h₀ : Heap} {L : Addr} {x x2 : Str} {m m' : Str → Option Value} {dk : Addr} {nn X all : List (Addr × Obj)} {P : Value → Value → List (Addr × Obj) → Prop} {Qc : Flow → Shared → Prop} {S : Shared} (K : ∀ v v2 h' tk dvs dns dc X, Fr h₀ L h' (frU (frU m x2 v2) x v) → News h₀ L h' ((dk, listOf dvs.toArray dc) :: X) → DeckIs dvs dns → KX nn dk X → P v v2 X → Qc .next { S with heap := h', toks := tk })
    {fl : Flow} {h' : Heap} {tk : Nat} {v v2 : Value} {dvs : List Value} {dns : List Int} {dc : Nat}
    (hf : fl = .next) (F : Fr h₀ L h' m') (hv : m' x = some v) (hv2 : m' x2 = some v2) (hm : ∀ y, y ≠ x → y ≠ x2 → m' y = m y) (N : News h₀ L h' all) (sub : ∀ p ∈ (dk, listOf dvs.toArray dc) :: X, p ∈ all) (D : DeckIs dvs dns) (K' : KX nn dk X) (hP : P v v2 X) :
    Qc fl { S with heap := h', toks := tk } := hf ▸ K v v2 h' tk dvs dns dc X (Fr.normU2 F hv hv2 hm) (fun p hp => N p (sub p hp)) D K' hP
theorem cutK2 {M : Model} {A : Around} {z : Sem Flow} {Q : Flow → Shared → Prop} {E : Value → Shared → Prop} {s S : Shared} {h₀ : Heap} {L dk : Addr} {m : Str → Option Value} {R nn : List (Addr × Obj)} {vs : List Value} {c : Nat} (x x2 : Str) (P : Value → Value → List (Addr × Obj) → Prop) (_F : Fr h₀ L s.heap m) (_N : News h₀ L s.heap ((dk, listOf vs.toArray c) :: nn)) (_K : KX R dk nn)
    (h : ∀ Qc : Flow → Shared → Prop, (∀ v v2 h' tk dvs dns dc X, Fr h₀ L h' (frU (frU m x2 v2) x v) → News h₀ L h' ((dk, listOf dvs.toArray dc) :: X) → DeckIs dvs dns → KX nn dk X → P v v2 X → Qc .next { S with heap := h', toks := tk }) → wpAny M A z Qc E s) (k : ∀ v v2 h' tk dvs dns dc X, Fr h₀ L h' (frU (frU m x2 v2) x v) → News h₀ L h' ((dk, listOf dvs.toArray dc) :: X) → DeckIs dvs dns → KX nn dk X → P v v2 X → Q .next { S with heap := h', toks := tk }) (_ : IsBase S := by assumption) : wpAny M A z Q E s := h Q k
theorem law_deck {vs : List Value} {ns : List Int} (h : IntsAre vs (List.map (fun k' => if k' < 0 then -k' else k') (List.take 40 ns))) : DeckIs vs (List.map (fun k' => if k' < 0 then -k' else k') (List.take 40 ns)) := by
  refine ⟨h, fun n hn => ?_, ?_⟩
  · obtain ⟨k, _, rfl⟩ := List.mem_map.mp hn
    split <;> omega
  · rw [List.length_map, List.length_take]; omega
/-- the numbers drawn: the one of turn i lies in i's own four -/
theorem turns_nums {n : Nat} {ys : List Value} (h : AllTurns (fun i y => ∃ n t, y = Value.int n t ∧ 4 * i + 1 ≤ n ∧ n ≤ 4 * i + 4) n ys) (hn : n ≤ 3) : ∃ ns, IntsAre ys ns ∧ Nums ns ∧ ns.length = n := by
  obtain ⟨h1, h2⟩ := h
  match ys, h1 with
  | [], h1 => exact ⟨[], .nil, ⟨⟨Nat.zero_le _, fun n hn => by cases hn⟩, .nil⟩, h1⟩
  | [y0], h1 =>
    obtain ⟨a, t, rfl, a1, a2⟩ := h2 0 y0 rfl
    have a1 : (1 : Int) ≤ a := a1
    have a2 : a ≤ (4 : Int) := a2
    refine ⟨[a], .cons a t .nil, ⟨⟨Nat.le_of_ble_eq_true rfl, fun n hn => ?_⟩, List.pairwise_singleton _ _⟩, h1⟩
    rw [List.mem_singleton.mp hn]; omega
  | [y0, y1], h1 =>
    obtain ⟨a, t, rfl, a1, a2⟩ := h2 0 y0 rfl
    obtain ⟨b, u, rfl, b1, b2⟩ := h2 1 y1 rfl
    have a1 : (1 : Int) ≤ a := a1
    have a2 : a ≤ (4 : Int) := a2
    have b1 : (5 : Int) ≤ b := b1
    have b2 : b ≤ (8 : Int) := b2
    refine ⟨[a, b], .cons a t (.cons b u .nil), ⟨⟨Nat.le_of_ble_eq_true rfl, fun n hn => ?_⟩, ?_⟩, h1⟩
    · simp only [List.mem_cons, List.not_mem_nil, or_false] at hn; omega
    · simp only [List.pairwise_cons, List.mem_cons, List.not_mem_nil, or_false, forall_eq, false_imp_iff, implies_true, List.Pairwise.nil, and_true]; omega
  | [y0, y1, y2], h1 =>
    obtain ⟨a, t, rfl, a1, a2⟩ := h2 0 y0 rfl
    obtain ⟨b, u, rfl, b1, b2⟩ := h2 1 y1 rfl
    obtain ⟨c, v, rfl, c1, c2⟩ := h2 2 y2 rfl
    have a1 : (1 : Int) ≤ a := a1
    have a2 : a ≤ (4 : Int) := a2
    have b1 : (5 : Int) ≤ b := b1
    have b2 : b ≤ (8 : Int) := b2
    have c1 : (9 : Int) ≤ c := c1
    have c2 : c ≤ (12 : Int) := c2
    refine ⟨[a, b, c], .cons a t (.cons b u (.cons c v .nil)), ⟨⟨Nat.le_of_ble_eq_true rfl, fun n hn => ?_⟩, ?_⟩, h1⟩
    · simp only [List.mem_cons, List.not_mem_nil, or_false] at hn; omega
    · simp only [List.pairwise_cons, List.mem_cons, List.not_mem_nil, or_false, forall_eq_or_imp, forall_eq, false_imp_iff, implies_true, List.Pairwise.nil, and_true]; omega
  | y0 :: y1 :: y2 :: y3 :: r, h1 => simp only [List.length_cons] at h1; omega
section
variable {prog : Program} {w : World} {A : Around} {E : Value → Shared → Prop} {s : Shared}
theorem in_tuple_hit {c x : Value} {xs : List PyData} {d : PyData} {as bs : List Addr} {Q : Value → Shared → Prop} (rc : Reads s.heap c (.tuple xs) as) (rx : Reads s.heap x d bs) (hc : SeqAt.shaped (PyData.tuple xs) = true) (hd : SeqAt.shaped d = true) (hu : A.units + 65 < cLine)
    (hm : (xs.any fun y => PyData.eqv y d) = true) (h : Q (.bool true) s) : wpAny (model prog w) A (compareOp .In x c) Q E s :=
  SeqAt.in_tuple_reads rc rx (SeqAt.canLay_of_shaped hc) (SeqAt.canLay_of_shaped hd) (room_in_shaped hd hu) (by rw [hm]; exact h)
theorem in_tuple_any {c x : Value} {xs : List PyData} {d : PyData} {as bs : List Addr} {Q : Value → Shared → Prop} (rc : Reads s.heap c (.tuple xs) as) (rx : Reads s.heap x d bs) (hc : SeqAt.shaped (PyData.tuple xs) = true) (hd : SeqAt.shaped d = true) (hu : A.units + 65 < cLine)
    (h : ∀ b, Q (.bool b) s) : wpAny (model prog w) A (compareOp .In x c) Q E s :=
  SeqAt.in_tuple_reads rc rx (SeqAt.canLay_of_shaped hc) (SeqAt.canLay_of_shaped hd) (room_in_shaped hd hu) (h _)
end
theorem news_02 {h₀ h : Heap} {L D : Addr} {ys : List Value} {b c : Addr × Obj} (N : News h₀ L h [(D, LCg.lst ys), b, c]) : News h₀ L h ((D, listOf ys.toArray ys.length) :: [c]) := fun p hp => N p (by
  rcases List.mem_cons.mp hp with e | hp
  · rw [e]; exact .head _
  · exact .tail _ (.tail _ hp))
theorem KX.one {c : Addr × Obj} {D : Addr} (h : @Ne Nat c.1 D) : KX [] D [c] := ⟨by rw [List.map_cons, List.map_nil, List.nodup_cons]; exact ⟨List.not_mem_nil, .nil⟩, fun p hp => by rw [List.mem_singleton.mp hp]; exact h, fun p hp => by cases hp⟩
theorem news_03 {h₀ h : Heap} {L D a : Addr} {ys : List Value} {b : Addr × Obj} {o : Obj} {P : Prop} (N : News h₀ L h [(D, LCg.lst ys), b, (a, o)]) (q : P ∧ @Ne Nat a D) : News h₀ L h ((D, listOf ys.toArray ys.length) :: [(a, o)]) ∧ KX [] D [(a, o)] := ⟨news_02 N, KX.one q.2⟩
theorem mem_swap2 {α : Type} {a b : α} {r : List α} : ∀ p ∈ a :: b :: r, p ∈ b :: a :: r := fun p hp => by
  rcases List.mem_cons.mp hp with e | hp
  · rw [e]; exact .tail _ (.head _)
  rcases List.mem_cons.mp hp with e | hp
  · rw [e]; exact .head _
  · exact .tail _ (.tail _ hp)
theorem pick4 {α : Type} {t a b k : α} {X : List α} : ∀ p ∈ k :: a :: X, p ∈ t :: a :: b :: k :: X := fun p hp => by
  rcases List.mem_cons.mp hp with e | hp
  · rw [e]; exact .tail _ (.tail _ (.tail _ (.head _)))
  rcases List.mem_cons.mp hp with e | hp
  · rw [e]; exact .tail _ (.head _)
  · exact .tail _ (.tail _ (.tail _ (.tail _ hp)))
theorem lit4 (n : Nat) : 0 ≤ ([1, 2, 3, 0] : List Int).getD n 0 ∧ ([1, 2, 3, 0] : List Int).getD n 0 ≤ 3 := by
  match n with
  | 0 => decide
  | 1 => decide
  | 2 => decide
  | 3 => decide
  | n + 4 => exact (by decide : (0 : Int) ≤ 0 ∧ (0 : Int) ≤ 3)
theorem KX.cons2 {R X : List (Addr × Obj)} {dk d x : Addr} {o o2 : Obj} (h : KX R dk X) (l1 : @LT.lt Nat _ dk d ∧ AllLt d X) (l2 : @LT.lt Nat _ d x) : KX R dk ((x, o2) :: (d, o) :: X) := by
  refine (h.cons (allLt_ne l1.2) (Nat.ne_of_lt l1.1)).cons (fun p hp => ?_) (Nat.ne_of_lt (Nat.lt_trans l1.1 l2))
  rcases List.mem_cons.mp hp with rfl | hp
  · exact Nat.ne_of_lt l2
  · exact Nat.ne_of_lt (Nat.lt_trans (allLt_to l1.2 p hp) l2)
theorem pick3 {α : Type} {a b k : α} {X : List α} : ∀ p ∈ k :: a :: b :: X, p ∈ a :: b :: k :: X := fun p hp => by
  rcases List.mem_cons.mp hp with e | hp
  · rw [e]; exact .tail _ (.tail _ (.head _))
  rcases List.mem_cons.mp hp with e | hp
  · rw [e]; exact .head _
  rcases List.mem_cons.mp hp with e | hp
  · rw [e]; exact .tail _ (.head _)
  · exact .tail _ (.tail _ (.tail _ hp))
theorem pick5 {α : Type} {t a b c k : α} {X : List α} : ∀ p ∈ k :: a :: X, p ∈ t :: a :: b :: c :: k :: X := fun p hp => by
  rcases List.mem_cons.mp hp with e | hp
  · rw [e]; exact .tail _ (.tail _ (.tail _ (.tail _ (.head _))))
  rcases List.mem_cons.mp hp with e | hp
  · rw [e]; exact .tail _ (.head _)
  · exact .tail _ (.tail _ (.tail _ (.tail _ (.tail _ hp))))
theorem set_left {w : World} {h₀ h : Heap} {L ta : Addr} (T : Ft) {R : List (Addr × Obj)} {l : Int} {t : Tok} (N : News h₀ L h ((ta, instObj 410 T.dt) :: (T.dt, dictOf (selfDict w T.clock l T.de T.k0 T.k1 T.k2 t T.k4) 3) :: T.tail w R)) :
    ∃ l t, News h₀ L h ((T.ticked T.clock l T.k1 t).objs w ta ++ R) := ⟨l, t, N⟩
/-- a value and the text or none that it stands for -/
def OwnIs (R : List (Addr × Obj)) (x : Value) (own : Option (List Int)) : Prop :=
  (x = .none ∧ own = none) ∨ ∃ l vs k c, x = .ref l ∧ own = some c ∧ (l, listOf vs.toArray k) ∈ R ∧ IntsAre vs c
theorem OwnIs.sub {R R' : List (Addr × Obj)} {x : Value} {own : Option (List Int)} (h : OwnIs R x own) (hs : ∀ p ∈ R, p ∈ R') : OwnIs R' x own :=
  h.imp id fun ⟨l, vs, k, c, a, b, d, e⟩ => ⟨l, vs, k, c, a, b, hs _ d, e⟩
theorem OwnIs.list {R : List (Addr × Obj)} {l : Addr} {vs : List Value} {k : Nat} {c : List Int} (hm : (l, listOf vs.toArray k) ∈ R) (hi : IntsAre vs c) : OwnIs R (.ref l) (some c) := .inr ⟨l, vs, k, c, rfl, rfl, hm, hi⟩
def ownD (o : Option (List Int)) : PyData := match o with | none => .none | some c => .list (c.map PyData.int)
theorem ownD_shaped (o : Option (List Int)) : SeqAt.shaped (ownD o) = true := by
  cases o with
  | none => rfl
  | some c => exact ke_shaped_ints c
theorem ownD_eqv (o : Option (List Int)) : PyData.eqv (ownD o) (ownD o) = true := by
  cases o with
  | none => simp [ownD, PyData.eqv]
  | some c => simp [ownD, PyData.eqv, ked_eqvAll]
theorem own_reads {h₀ h : Heap} {L : Addr} {R : List (Addr × Obj)} {x : Value} {own : Option (List Int)} (N : News h₀ L h R) (H : OwnIs R x own) : ∃ bs, Reads h x (ownD own) bs := by
  rcases H with ⟨rfl, rfl⟩ | ⟨l, vs, k, c, rfl, rfl, hm, hi⟩
  · exact ⟨_, Reads.none⟩
  · exact ⟨_, reads_of_ints ⟨_, (N _ hm).1, rfl, _, rfl⟩ hi⟩
theorem two_shaped (a b : Option (List Int)) : SeqAt.shaped (.tuple [ownD a, ownD b]) = true := by
  cases a <;> cases b <;> simp [ownD, SeqAt.shaped, PyData.canLay0, PyData.canLayAll0, PyData.depth, PyData.depthAll, ke_canLayAll0, ke_depthAll]
theorem three_shaped (a b c : Option (List Int)) : SeqAt.shaped (.tuple [ownD a, ownD b, ownD c]) = true := by
  cases a <;> cases b <;> cases c <;> simp [ownD, SeqAt.shaped, PyData.canLay0, PyData.canLayAll0, PyData.depth, PyData.depthAll, ke_canLayAll0, ke_depthAll]
section
variable {prog : Program} {w : World} {A : Around} {E : Value → Shared → Prop} {s : Shared} {h₀ : Heap} {L D : Addr} {R : List (Addr × Obj)} {x va vb vc : Value} {own a b c : Option (List Int)} {Q : Value → Shared → Prop}
theorem in_two (N : News h₀ L s.heap R) (hD : (D, ({ cls := Value.type "tuple", data := Data.seq #[va, vb] } : Obj)) ∈ R) (ha : OwnIs R va a) (hb : OwnIs R vb b) (hx : OwnIs R x own) (hu : A.units + 65 < cLine)
    (h : ∀ r : Bool, (own = a → r = true) → Q (.bool r) s) : wpAny (model prog w) A (compareOp .In x (.ref D)) Q E s := by
  obtain ⟨_, ra⟩ := own_reads N ha
  obtain ⟨_, rb⟩ := own_reads N hb
  obtain ⟨_, rx⟩ := own_reads N hx
  refine SeqAt.in_tuple_reads (reads_tuple_at (N _ hD).1 rfl rfl (.cons ra (.cons rb .nil))) rx (SeqAt.canLay_of_shaped (two_shaped a b)) (SeqAt.canLay_of_shaped (ownD_shaped own)) (room_in_shaped (ownD_shaped own) hu) (h _ fun e => ?_)
  subst e
  rw [List.any_cons, ownD_eqv, Bool.true_or]
theorem in_three (N : News h₀ L s.heap R) (hD : (D, ({ cls := Value.type "tuple", data := Data.seq #[va, vb, vc] } : Obj)) ∈ R) (ha : OwnIs R va a) (hb : OwnIs R vb b) (hc : OwnIs R vc c) (hx : OwnIs R x own) (hu : A.units + 65 < cLine)
    (hr : own = a ∨ own = b) (h : Q (.bool true) s) : wpAny (model prog w) A (compareOp .In x (.ref D)) Q E s := by
  obtain ⟨_, ra⟩ := own_reads N ha
  obtain ⟨_, rb⟩ := own_reads N hb
  obtain ⟨_, rc⟩ := own_reads N hc
  obtain ⟨_, rx⟩ := own_reads N hx
  refine SeqAt.in_tuple_reads (reads_tuple_at (N _ hD).1 rfl rfl (.cons ra (.cons rb (.cons rc .nil)))) rx (SeqAt.canLay_of_shaped (three_shaped a b c)) (SeqAt.canLay_of_shaped (ownD_shaped own)) (room_in_shaped (ownD_shaped own) hu) ?_
  have e : ([ownD a, ownD b, ownD c].any fun y => PyData.eqv y (ownD own)) = true := by
    rcases hr with e | e
    · subst e; rw [List.any_cons, ownD_eqv, Bool.true_or]
    · subst e; rw [List.any_cons, List.any_cons, ownD_eqv, Bool.true_or, Bool.or_true]
  rw [e]
  exact h
end
theorem CutO.mk {h₀ : Heap} {L : Addr} {x : Str} {m m' : Str → Option Value} {news X : List (Addr × Obj)} {own : Option (List Int)} {Qc : Flow → Shared → Prop} {S : Shared} (K : ∀ v h' tk X, Fr h₀ L h' (frU m x v) → News h₀ L h' X → (∀ p ∈ news, p ∈ X) → OwnIs X v own → Qc .next { S with heap := h', toks := tk }) {fl : Flow} {h' : Heap} {tk : Nat} {v : Value}
    (hf : fl = .next) (F : Fr h₀ L h' m') (hv : m' x = some v) (hm : ∀ y, y ≠ x → m' y = m y) (N : News h₀ L h' X) (sub : ∀ p ∈ news, p ∈ X) (hO : OwnIs X v own) : Qc fl { S with heap := h', toks := tk } := hf ▸ K v h' tk X (Fr.normU F hv hm) N sub hO
theorem cutO {M : Model} {A : Around} {z : Sem Flow} {Q : Flow → Shared → Prop} {E : Value → Shared → Prop} {s S : Shared} {h₀ : Heap} {L : Addr} {m : Str → Option Value} {news : List (Addr × Obj)} (x : Str) (own : Option (List Int)) (_F : Fr h₀ L s.heap m) (_N : News h₀ L s.heap news)
    (h : ∀ Qc : Flow → Shared → Prop, (∀ v h' tk X, Fr h₀ L h' (frU m x v) → News h₀ L h' X → (∀ p ∈ news, p ∈ X) → OwnIs X v own → Qc .next { S with heap := h', toks := tk }) → wpAny M A z Qc E s) (k : ∀ v h' tk X, Fr h₀ L h' (frU m x v) → News h₀ L h' X → (∀ p ∈ news, p ∈ X) → OwnIs X v own → Q .next { S with heap := h', toks := tk }) (_ : IsBase S := by assumption) : wpAny M A z Q E s := h Q k
theorem FtIn.over {w : World} {R R' : List (Addr × Obj)} {ta : Addr} {T : Ft} (h : FtIn w R ta T) (hs : ∀ p ∈ R, p ∈ R') : FtIn w R' ta T := ⟨h.ok, fun p hp => hs _ (h.mem p hp)⟩
theorem newest_Fs {M : Man} {g : Files} (hN : NumsIn (nums g)) (h : (newestN M g == Str.ofString "") = false) : newestN M g ∈ Fs := by
  unfold newestN at h ⊢
  split
  · rename_i hc
    rw [if_pos hc] at h
    unfold lastNm at h ⊢
    by_cases e : nums g = []
    · rw [if_pos e] at h; exact absurd h (by decide +kernel)
    · rw [if_neg e]
      have hm : (nums g).getLastD 0 ∈ nums g := by
        cases hq : nums g with
        | nil => exact (e hq).elim
        | cons a r => rw [List.getLastD_cons]; exact List.getLastD_mem_cons
      obtain ⟨f1, f2⟩ := hN.fit _ hm
      exact (nmn_Fs f1 f2).1
  · rename_i hc
    rw [if_neg hc] at h
    split
    · exact leaf_two.2.2.2
    · rename_i h2
      rw [if_neg h2] at h
      exact absurd h (by decide +kernel)

theorem top_K7 : True := by
  w_top off
  trivial
theorem bind_only {x : Str} {v v2 : Option Value} {m₀ : Str → Option Value} : ∀ y, y ≠ x → (if y = x then v else if y = x then v2 else m₀ y) = (if y = x then v2 else m₀ y) := fun y h => by
  rw [if_neg h]
theorem way_a {M : Man} {ns : List Int} (h : M.way = 3) (h2 : decide (ns = []) = true) : (1 : Int) = wayOf M ns := by
  unfold wayOf; rw [if_pos h, if_pos (of_decide_eq_true h2)]
theorem way_b {M : Man} {ns : List Int} (h : M.way = 3) (h2 : decide (ns = []) = false) : (2 : Int) = wayOf M ns := by
  unfold wayOf; rw [if_pos h, if_neg (of_decide_eq_false h2)]
theorem way_c {M : Man} {ns : List Int} (h : ¬ M.way = 3) : M.way = wayOf M ns := by
  unfold wayOf; rw [if_neg h]
section
local macro_rules | `(tactic| walk_at "CompSrc") => `(tactic| (k_here; k_dflt (refine compSrc_ints rfl ‹_› ‹_› (by k_mem) ‹_› ‹_› (fun n => leaf (nmn n)) (wLeft_fit ‹Nums _›) ?_ ?_)))
set_option maxRecDepth 100000 in
set_option maxHeartbeats 2000000 in
theorem c_whole {w : World} {R : List (Addr × Obj)} {ma nl cl0 : Addr} {M : Man} {ov : Value} {old : Option (List Int)} {nvs : List Value} {ns : List Int} {nc : Nat} {single : Bool} {cvs : List Value} {cns : List Int} {cn' : Nat}
    (hR : (R.map (·.1)).Nodup) (IM : ManIn w R ma M) (ho : OldIs R ov old) (hn : (nl, listOf nvs.toArray nc) ∈ R) (hni : IntsAre nvs ns) (hN : Nums ns) (hc : (cl0, listOf cvs.toArray cn') ∈ R) (hi : IntsAre cvs cns) (hl : cns.length ≤ 500) :
    Call w 12 464 [.ref ma, ov, .ref nl, .bool single, .ref cl0] R (fun r n' => n' = R ∧ r = .bool true) (fun _ => False) := by
  intro dp un gd cn cs a ccd cl outer A₀ base h₀ L m s Q E mean mg mb B F X N Tp hk hd hu hret hexc
  have hok := IM.ok
  have hfew := hN.ok.few
  (refine' code_defQ (m' := fr5 (Str.ofString "manner") (Str.ofString "old") (Str.ofString "numbers") (Str.ofString "is_single") (Str.ofString "codes") _ _ _ _ _) ?k1 ?k2 ?k3 ?k4 ?k5 ?kA ?kF ?kK ?k6 ?k7 ?k8 ?k9 ?kB ?kM ?_ ?c2 ?c3 ?c4 ?c5; (case kA => exact rfl); (case kF => exact rfl); (case kK => first | exact rfl | assumption); (case k1 => k_asm); (case k2 => k_asm); (case k3 => k_asm); (case k4 => k_asm); (case k5 => k_asm); (case k6 => k_is); (case k7 => k_is); (case k8 => ktr_room); (case k9 => exact BindsTo.of_eq rfl); (case c5 => decide); (case kB => exact locs rfl); (case kM => exact rfl); (case c2 => exact rfl); (case c3 => exact rfl); (case c4 => exact rfl); k_whole; intro gq Lq Sq Qo Eo hSq FGq Fq Nq Bq Xq Tq hQo hEo hPo; (try dsimp only))
  (repeat' ((fail_if_success (with_reducible show wpAny _ _ (call (Value.ref 447) _) _ _ _)); first | (k_here; (with_reducible show wpAny _ _ (compareOp CmpOp.NotEq (Value.ref _) (Value.ref _)) _ _ _); k_dflt (refine ne_ints_same ?_ (by is_list) (by is_list) (by l_ints) (by l_ints) (by ke_room) ?_; (first | rfl | assumption))) | (k_here; (with_reducible show wpAny _ _ (compareOp CmpOp.Eq (Value.ref _) (Value.ref _)) _ _ _); k_dflt (refine eq_ints_same ?_ (by is_list) (by is_list) (by l_ints) (by l_ints) (by ke_room) ?_; (first | rfl | assumption))) | (k_here; (with_reducible show wpAny _ _ (binaryOp _ (Value.ref _) (Value.ref _)) _ _ _); k_dflt (refine add_strs (by k_asm) (by k_asm) (by exact ⟨_, News.get (by k_asm) (by k_mem), rfl, _, rfl⟩) (by exact ⟨_, News.get (by k_asm) (by k_mem), rfl, _, rfl⟩) (by first | assumption | exact .cons _ _ .nil | exact .nil) (by first | assumption | exact .cons _ _ .nil | exact .nil) (by ((try simp only [List.length_append, List.length_map, List.length_cons, List.length_nil]); omega)) ?_); intro D' ws' h' F' N' l1 hI'; (try k_sweep)) | (k_unfold; (try dsimp only)) | (k_end; wrow_close) | walk1 | (dsimp only; walk1) | (leave1; walk_say "STEP leave1"; try dsimp only) | fail "no step")); all_goals (try (first | (refine hQo _ _ _ _ _ _ (by k_asm) (by k_asm) ?_; intro kF kN; (try dsimp only [valOf])) | (refine hEo _ _ _ ?_; (repeat' (first | (k_here; (with_reducible show wpAny _ _ (compareOp CmpOp.NotEq (Value.ref _) (Value.ref _)) _ _ _); k_dflt (refine ne_ints_same ?_ (by is_list) (by is_list) (by l_ints) (by l_ints) (by ke_room) ?_; (first | rfl | assumption))) | (k_here; (with_reducible show wpAny _ _ (compareOp CmpOp.Eq (Value.ref _) (Value.ref _)) _ _ _); k_dflt (refine eq_ints_same ?_ (by is_list) (by is_list) (by l_ints) (by l_ints) (by ke_room) ?_; (first | rfl | assumption))) | (k_here; (with_reducible show wpAny _ _ (binaryOp _ (Value.ref _) (Value.ref _)) _ _ _); k_dflt (refine add_strs (by k_asm) (by k_asm) (by exact ⟨_, News.get (by k_asm) (by k_mem), rfl, _, rfl⟩) (by exact ⟨_, News.get (by k_asm) (by k_mem), rfl, _, rfl⟩) (by first | assumption | exact .cons _ _ .nil | exact .nil) (by first | assumption | exact .cons _ _ .nil | exact .nil) (by ((try simp only [List.length_append, List.length_map, List.length_cons, List.length_nil]); omega)) ?_); intro D' ws' h' F' N' l1 hI'; (try k_sweep)) | (k_unfold; (try dsimp only)) | (k_end; kc_close) | walk1 | (dsimp only; walk1) | (leave1; walk_say "STEP leave1"; (try dsimp only)) | fail "no step")))))
  refine Call.useS (C := c_tree hR ho hn hni hN.ok) (ret := ?_); rintro _ _ h1 tk1 ⟨ta, T, rfl, rfl, O, hl0, H⟩ F1 N1; (try dsimp only)
  generalize hg : run (treeOps old ns single) noFiles = g at H
  obtain ⟨A1, hbt, hng⟩ := whole_facts (codes := cns) hN hok hg
  have hneg : T.left < 0 := by omega
  have I := O.inn
  have hii := I.inst
  have hid := I.dict
  have hnT : (nl, listOf nvs.toArray nc) ∈ T.objs w ta ++ R := List.mem_append_right _ hn
  have hmi : (ma, instObj 108 M.md) ∈ T.objs w ta ++ R := List.mem_append_right _ IM.inst
  have hmd : (M.md, dictOf (manDict w M) 6) ∈ T.objs w ta ++ R := List.mem_append_right _ IM.dict
  unfold manDict at hmd
  (repeat' ((fail_if_success (with_reducible show wpAny _ _ (exec (Stmt.If _ _ _ _) _) _ _ _)); first | (k_here; (with_reducible show wpAny _ _ (compareOp CmpOp.NotEq (Value.ref _) (Value.ref _)) _ _ _); k_dflt (refine ne_ints_same ?_ (by is_list) (by is_list) (by l_ints) (by l_ints) (by ke_room) ?_; (first | rfl | assumption))) | (k_here; (with_reducible show wpAny _ _ (compareOp CmpOp.Eq (Value.ref _) (Value.ref _)) _ _ _); k_dflt (refine eq_ints_same ?_ (by is_list) (by is_list) (by l_ints) (by l_ints) (by ke_room) ?_; (first | rfl | assumption))) | (k_here; (with_reducible show wpAny _ _ (binaryOp _ (Value.ref _) (Value.ref _)) _ _ _); k_dflt (refine add_strs (by k_asm) (by k_asm) (by exact ⟨_, News.get (by k_asm) (by k_mem), rfl, _, rfl⟩) (by exact ⟨_, News.get (by k_asm) (by k_mem), rfl, _, rfl⟩) (by first | assumption | exact .cons _ _ .nil | exact .nil) (by first | assumption | exact .cons _ _ .nil | exact .nil) (by ((try simp only [List.length_append, List.length_map, List.length_cons, List.length_nil]); omega)) ?_); intro D' ws' h' F' N' l1 hI'; (try k_sweep)) | (k_unfold; (try dsimp only)) | (k_end; wrow_close) | walk1 | (dsimp only; walk1) | (leave1; walk_say "STEP leave1"; try dsimp only) | fail "no step")); all_goals (try (first | (refine hQo _ _ _ _ _ _ (by k_asm) (by k_asm) ?_; intro kF kN; (try dsimp only [valOf])) | (refine hEo _ _ _ ?_; (repeat' (first | (k_here; (with_reducible show wpAny _ _ (compareOp CmpOp.NotEq (Value.ref _) (Value.ref _)) _ _ _); k_dflt (refine ne_ints_same ?_ (by is_list) (by is_list) (by l_ints) (by l_ints) (by ke_room) ?_; (first | rfl | assumption))) | (k_here; (with_reducible show wpAny _ _ (compareOp CmpOp.Eq (Value.ref _) (Value.ref _)) _ _ _); k_dflt (refine eq_ints_same ?_ (by is_list) (by is_list) (by l_ints) (by l_ints) (by ke_room) ?_; (first | rfl | assumption))) | (k_here; (with_reducible show wpAny _ _ (binaryOp _ (Value.ref _) (Value.ref _)) _ _ _); k_dflt (refine add_strs (by k_asm) (by k_asm) (by exact ⟨_, News.get (by k_asm) (by k_mem), rfl, _, rfl⟩) (by exact ⟨_, News.get (by k_asm) (by k_mem), rfl, _, rfl⟩) (by first | assumption | exact .cons _ _ .nil | exact .nil) (by first | assumption | exact .cons _ _ .nil | exact .nil) (by ((try simp only [List.length_append, List.length_map, List.length_cons, List.length_nil]); omega)) ?_); intro D' ws' h' F' N' l1 hI'; (try k_sweep)) | (k_unfold; (try dsimp only)) | (k_end; kc_close) | walk1 | (dsimp only; walk1) | (leave1; walk_say "STEP leave1"; (try dsimp only)) | fail "no step")))))
  refine cutB (Str.ofString "way") (fun fl v => fl = Flow.next ∧ ∃ k t, v = .int k t ∧ k = wayOf M ns) (by k_asm) (by k_asm) (fun Qc hQc => ?_) ?_
  · ((repeat' (first | (k_here; (with_reducible show wpAny _ _ (compareOp CmpOp.NotEq (Value.ref _) (Value.ref _)) _ _ _); k_dflt (refine ne_ints_same ?_ (by is_list) (by is_list) (by l_ints) (by l_ints) (by ke_room) ?_; (first | rfl | assumption))) | (k_here; (with_reducible show wpAny _ _ (compareOp CmpOp.Eq (Value.ref _) (Value.ref _)) _ _ _); k_dflt (refine eq_ints_same ?_ (by is_list) (by is_list) (by l_ints) (by l_ints) (by ke_room) ?_; (first | rfl | assumption))) | (k_here; (with_reducible show wpAny _ _ (binaryOp _ (Value.ref _) (Value.ref _)) _ _ _); k_dflt (refine add_strs (by k_asm) (by k_asm) (by exact ⟨_, News.get (by k_asm) (by k_mem), rfl, _, rfl⟩) (by exact ⟨_, News.get (by k_asm) (by k_mem), rfl, _, rfl⟩) (by first | assumption | exact .cons _ _ .nil | exact .nil) (by first | assumption | exact .cons _ _ .nil | exact .nil) (by ((try simp only [List.length_append, List.length_map, List.length_cons, List.length_nil]); omega)) ?_); intro D' ws' h' F' N' l1 hI'; (try k_sweep)) | (k_unfold; (try dsimp only)) | (k_end; kc_close) | walk1 | (dsimp only; walk1) | (leave1; walk_say "STEP leave1"; (try dsimp only)) | fail "no step")); all_goals (try (first | (refine hQo _ _ _ _ _ _ (by k_asm) (by k_asm) ?_; intro kF kN; (try dsimp only [valOf])) | (refine hEo _ _ _ ?_; (repeat' (first | (k_here; (with_reducible show wpAny _ _ (compareOp CmpOp.NotEq (Value.ref _) (Value.ref _)) _ _ _); k_dflt (refine ne_ints_same ?_ (by is_list) (by is_list) (by l_ints) (by l_ints) (by ke_room) ?_; (first | rfl | assumption))) | (k_here; (with_reducible show wpAny _ _ (compareOp CmpOp.Eq (Value.ref _) (Value.ref _)) _ _ _); k_dflt (refine eq_ints_same ?_ (by is_list) (by is_list) (by l_ints) (by l_ints) (by ke_room) ?_; (first | rfl | assumption))) | (k_here; (with_reducible show wpAny _ _ (binaryOp _ (Value.ref _) (Value.ref _)) _ _ _); k_dflt (refine add_strs (by k_asm) (by k_asm) (by exact ⟨_, News.get (by k_asm) (by k_mem), rfl, _, rfl⟩) (by exact ⟨_, News.get (by k_asm) (by k_mem), rfl, _, rfl⟩) (by first | assumption | exact .cons _ _ .nil | exact .nil) (by first | assumption | exact .cons _ _ .nil | exact .nil) (by ((try simp only [List.length_append, List.length_map, List.length_cons, List.length_nil]); omega)) ?_); intro D' ws' h' F' N' l1 hI'; (try k_sweep)) | (k_unfold; (try dsimp only)) | (k_end; kc_close) | walk1 | (dsimp only; walk1) | (leave1; walk_say "STEP leave1"; (try dsimp only)) | fail "no step"))))))
    · exact CutB.mk hQc ⟨rfl, _, _, rfl, way_a (by assumption) (by assumption)⟩ (by k_asm) rfl bind_only (by k_asm) (fun p hp => .tail _ hp)
    · exact CutB.mk hQc ⟨rfl, _, _, rfl, way_b (by assumption) (by assumption)⟩ (by k_asm) rfl bind_only (by k_asm) (fun p hp => .tail _ hp)
    · exact CutB.mk hQc ⟨rfl, _, _, rfl, way_c (by assumption)⟩ (by k_asm) rfl (fun _ _ => rfl) (by k_asm) (fun p hp => hp)
  rintro _ h2 tk2 _ ⟨rfl, way, tw, rfl, hway⟩ F2 N2
  try dsimp only
  (repeat' ((fail_if_success (with_reducible show wpAny _ _ (exec (Stmt.If _ _ _ _) _) _ _ _)); first | (k_here; (with_reducible show wpAny _ _ (compareOp CmpOp.NotEq (Value.ref _) (Value.ref _)) _ _ _); k_dflt (refine ne_ints_same ?_ (by is_list) (by is_list) (by l_ints) (by l_ints) (by ke_room) ?_; (first | rfl | assumption))) | (k_here; (with_reducible show wpAny _ _ (compareOp CmpOp.Eq (Value.ref _) (Value.ref _)) _ _ _); k_dflt (refine eq_ints_same ?_ (by is_list) (by is_list) (by l_ints) (by l_ints) (by ke_room) ?_; (first | rfl | assumption))) | (k_here; (with_reducible show wpAny _ _ (binaryOp _ (Value.ref _) (Value.ref _)) _ _ _); k_dflt (refine add_strs (by k_asm) (by k_asm) (by exact ⟨_, News.get (by k_asm) (by k_mem), rfl, _, rfl⟩) (by exact ⟨_, News.get (by k_asm) (by k_mem), rfl, _, rfl⟩) (by first | assumption | exact .cons _ _ .nil | exact .nil) (by first | assumption | exact .cons _ _ .nil | exact .nil) (by ((try simp only [List.length_append, List.length_map, List.length_cons, List.length_nil]); omega)) ?_); intro D' ws' h' F' N' l1 hI'; (try k_sweep)) | (k_unfold; (try dsimp only)) | (k_end; wrow_close) | walk1 | (dsimp only; walk1) | (leave1; walk_say "STEP leave1"; try dsimp only) | fail "no step")); all_goals (try (first | (refine hQo _ _ _ _ _ _ (by k_asm) (by k_asm) ?_; intro kF kN; (try dsimp only [valOf])) | (refine hEo _ _ _ ?_; (repeat' (first | (k_here; (with_reducible show wpAny _ _ (compareOp CmpOp.NotEq (Value.ref _) (Value.ref _)) _ _ _); k_dflt (refine ne_ints_same ?_ (by is_list) (by is_list) (by l_ints) (by l_ints) (by ke_room) ?_; (first | rfl | assumption))) | (k_here; (with_reducible show wpAny _ _ (compareOp CmpOp.Eq (Value.ref _) (Value.ref _)) _ _ _); k_dflt (refine eq_ints_same ?_ (by is_list) (by is_list) (by l_ints) (by l_ints) (by ke_room) ?_; (first | rfl | assumption))) | (k_here; (with_reducible show wpAny _ _ (binaryOp _ (Value.ref _) (Value.ref _)) _ _ _); k_dflt (refine add_strs (by k_asm) (by k_asm) (by exact ⟨_, News.get (by k_asm) (by k_mem), rfl, _, rfl⟩) (by exact ⟨_, News.get (by k_asm) (by k_mem), rfl, _, rfl⟩) (by first | assumption | exact .cons _ _ .nil | exact .nil) (by first | assumption | exact .cons _ _ .nil | exact .nil) (by ((try simp only [List.length_append, List.length_map, List.length_cons, List.length_nil]); omega)) ?_); intro D' ws' h' F' N' l1 hI'; (try k_sweep)) | (k_unfold; (try dsimp only)) | (k_end; kc_close) | walk1 | (dsimp only; walk1) | (leave1; walk_say "STEP leave1"; (try dsimp only)) | fail "no step")))))
  refine cutS (Str.ofString "name") (Str.ofString "left") (wName M ns old) (fun fl => fl = Flow.next) (fun vs => IntsAre vs (wLeft M ns old)) (by k_asm) O (fun Qc hQc => ?_) ?_
  · rcases ho with ⟨rfl, rfl⟩ | ⟨l, ovs, oc, o, rfl, rfl, hm, hoi, hol⟩
    · ((repeat' (first | (k_here; (with_reducible show wpAny _ _ (compareOp CmpOp.NotEq (Value.ref _) (Value.ref _)) _ _ _); k_dflt (refine ne_ints_same ?_ (by is_list) (by is_list) (by l_ints) (by l_ints) (by ke_room) ?_; (first | rfl | assumption))) | (k_here; (with_reducible show wpAny _ _ (compareOp CmpOp.Eq (Value.ref _) (Value.ref _)) _ _ _); k_dflt (refine eq_ints_same ?_ (by is_list) (by is_list) (by l_ints) (by l_ints) (by ke_room) ?_; (first | rfl | assumption))) | (k_here; (with_reducible show wpAny _ _ (binaryOp _ (Value.ref _) (Value.ref _)) _ _ _); k_dflt (refine add_strs (by k_asm) (by k_asm) (by exact ⟨_, News.get (by k_asm) (by k_mem), rfl, _, rfl⟩) (by exact ⟨_, News.get (by k_asm) (by k_mem), rfl, _, rfl⟩) (by first | assumption | exact .cons _ _ .nil | exact .nil) (by first | assumption | exact .cons _ _ .nil | exact .nil) (by ((try simp only [List.length_append, List.length_map, List.length_cons, List.length_nil]); omega)) ?_); intro D' ws' h' F' N' l1 hI'; (try k_sweep)) | (k_unfold; (try dsimp only)) | (k_end; kc_close) | walk1 | (dsimp only; walk1) | (leave1; walk_say "STEP leave1"; (try dsimp only)) | fail "no step")); all_goals (try (first | (refine hQo _ _ _ _ _ _ (by k_asm) (by k_asm) ?_; intro kF kN; (try dsimp only [valOf])) | (refine hEo _ _ _ ?_; (repeat' (first | (k_here; (with_reducible show wpAny _ _ (compareOp CmpOp.NotEq (Value.ref _) (Value.ref _)) _ _ _); k_dflt (refine ne_ints_same ?_ (by is_list) (by is_list) (by l_ints) (by l_ints) (by ke_room) ?_; (first | rfl | assumption))) | (k_here; (with_reducible show wpAny _ _ (compareOp CmpOp.Eq (Value.ref _) (Value.ref _)) _ _ _); k_dflt (refine eq_ints_same ?_ (by is_list) (by is_list) (by l_ints) (by l_ints) (by ke_room) ?_; (first | rfl | assumption))) | (k_here; (with_reducible show wpAny _ _ (binaryOp _ (Value.ref _) (Value.ref _)) _ _ _); k_dflt (refine add_strs (by k_asm) (by k_asm) (by exact ⟨_, News.get (by k_asm) (by k_mem), rfl, _, rfl⟩) (by exact ⟨_, News.get (by k_asm) (by k_mem), rfl, _, rfl⟩) (by first | assumption | exact .cons _ _ .nil | exact .nil) (by first | assumption | exact .cons _ _ .nil | exact .nil) (by ((try simp only [List.length_append, List.length_map, List.length_cons, List.length_nil]); omega)) ?_); intro D' ws' h' F' N' l1 hI'; (try k_sweep)) | (k_unfold; (try dsimp only)) | (k_end; kc_close) | walk1 | (dsimp only; walk1) | (leave1; walk_say "STEP leave1"; (try dsimp only)) | fail "no step"))))))
      exact CutS.mk hQc rfl (by k_asm) rfl rfl (fun y y1 y2 => by simp only [frU, if_neg y1, if_neg y2]) (by k_asm) (fun p hp => .tail _ hp) O (fun p hp => hp) hn hni
    · rcases way_cases (ns := ns) hok with h | h | h
      · rw [h] at hway
        subst hway
        have e : wName M ns (some o) = Str.ofString "" := plan_name0 h
        have e2 : wLeft M ns (some o) = ns := by unfold wLeft; dsimp only; rw [if_neg (by omega)]
        rw [e, e2] at hQc
        ((repeat' (first | (k_here; (with_reducible show wpAny _ _ (compareOp CmpOp.NotEq (Value.ref _) (Value.ref _)) _ _ _); k_dflt (refine ne_ints_same ?_ (by is_list) (by is_list) (by l_ints) (by l_ints) (by ke_room) ?_; (first | rfl | assumption))) | (k_here; (with_reducible show wpAny _ _ (compareOp CmpOp.Eq (Value.ref _) (Value.ref _)) _ _ _); k_dflt (refine eq_ints_same ?_ (by is_list) (by is_list) (by l_ints) (by l_ints) (by ke_room) ?_; (first | rfl | assumption))) | (k_here; (with_reducible show wpAny _ _ (binaryOp _ (Value.ref _) (Value.ref _)) _ _ _); k_dflt (refine add_strs (by k_asm) (by k_asm) (by exact ⟨_, News.get (by k_asm) (by k_mem), rfl, _, rfl⟩) (by exact ⟨_, News.get (by k_asm) (by k_mem), rfl, _, rfl⟩) (by first | assumption | exact .cons _ _ .nil | exact .nil) (by first | assumption | exact .cons _ _ .nil | exact .nil) (by ((try simp only [List.length_append, List.length_map, List.length_cons, List.length_nil]); omega)) ?_); intro D' ws' h' F' N' l1 hI'; (try k_sweep)) | (k_unfold; (try dsimp only)) | (k_end; kc_close) | walk1 | (dsimp only; walk1) | (leave1; walk_say "STEP leave1"; (try dsimp only)) | fail "no step")); all_goals (try (first | (refine hQo _ _ _ _ _ _ (by k_asm) (by k_asm) ?_; intro kF kN; (try dsimp only [valOf])) | (refine hEo _ _ _ ?_; (repeat' (first | (k_here; (with_reducible show wpAny _ _ (compareOp CmpOp.NotEq (Value.ref _) (Value.ref _)) _ _ _); k_dflt (refine ne_ints_same ?_ (by is_list) (by is_list) (by l_ints) (by l_ints) (by ke_room) ?_; (first | rfl | assumption))) | (k_here; (with_reducible show wpAny _ _ (compareOp CmpOp.Eq (Value.ref _) (Value.ref _)) _ _ _); k_dflt (refine eq_ints_same ?_ (by is_list) (by is_list) (by l_ints) (by l_ints) (by ke_room) ?_; (first | rfl | assumption))) | (k_here; (with_reducible show wpAny _ _ (binaryOp _ (Value.ref _) (Value.ref _)) _ _ _); k_dflt (refine add_strs (by k_asm) (by k_asm) (by exact ⟨_, News.get (by k_asm) (by k_mem), rfl, _, rfl⟩) (by exact ⟨_, News.get (by k_asm) (by k_mem), rfl, _, rfl⟩) (by first | assumption | exact .cons _ _ .nil | exact .nil) (by first | assumption | exact .cons _ _ .nil | exact .nil) (by ((try simp only [List.length_append, List.length_map, List.length_cons, List.length_nil]); omega)) ?_); intro D' ws' h' F' N' l1 hI'; (try k_sweep)) | (k_unfold; (try dsimp only)) | (k_end; kc_close) | walk1 | (dsimp only; walk1) | (leave1; walk_say "STEP leave1"; (try dsimp only)) | fail "no step"))))))
        exact CutS.mk hQc rfl (by k_asm) rfl rfl (fun y y1 y2 => by simp only [frU, if_neg y1, if_neg y2]) (by k_asm) (fun p hp => .tail _ hp) O (fun p hp => hp) hn hni
      · rw [h] at hway
        subst hway
        have e : wName M ns (some o) = nS := name1 h
        have e2 : wLeft M ns (some o) = ns := by unfold wLeft; dsimp only; rw [if_neg (by omega)]
        rw [e, e2] at hQc
        ((repeat' (first | (k_here; (with_reducible show wpAny _ _ (compareOp CmpOp.NotEq (Value.ref _) (Value.ref _)) _ _ _); k_dflt (refine ne_ints_same ?_ (by is_list) (by is_list) (by l_ints) (by l_ints) (by ke_room) ?_; (first | rfl | assumption))) | (k_here; (with_reducible show wpAny _ _ (compareOp CmpOp.Eq (Value.ref _) (Value.ref _)) _ _ _); k_dflt (refine eq_ints_same ?_ (by is_list) (by is_list) (by l_ints) (by l_ints) (by ke_room) ?_; (first | rfl | assumption))) | (k_here; (with_reducible show wpAny _ _ (binaryOp _ (Value.ref _) (Value.ref _)) _ _ _); k_dflt (refine add_strs (by k_asm) (by k_asm) (by exact ⟨_, News.get (by k_asm) (by k_mem), rfl, _, rfl⟩) (by exact ⟨_, News.get (by k_asm) (by k_mem), rfl, _, rfl⟩) (by first | assumption | exact .cons _ _ .nil | exact .nil) (by first | assumption | exact .cons _ _ .nil | exact .nil) (by ((try simp only [List.length_append, List.length_map, List.length_cons, List.length_nil]); omega)) ?_); intro D' ws' h' F' N' l1 hI'; (try k_sweep)) | (k_unfold; (try dsimp only)) | (k_end; kc_close) | walk1 | (dsimp only; walk1) | (leave1; walk_say "STEP leave1"; (try dsimp only)) | fail "no step")); all_goals (try (first | (refine hQo _ _ _ _ _ _ (by k_asm) (by k_asm) ?_; intro kF kN; (try dsimp only [valOf])) | (refine hEo _ _ _ ?_; (repeat' (first | (k_here; (with_reducible show wpAny _ _ (compareOp CmpOp.NotEq (Value.ref _) (Value.ref _)) _ _ _); k_dflt (refine ne_ints_same ?_ (by is_list) (by is_list) (by l_ints) (by l_ints) (by ke_room) ?_; (first | rfl | assumption))) | (k_here; (with_reducible show wpAny _ _ (compareOp CmpOp.Eq (Value.ref _) (Value.ref _)) _ _ _); k_dflt (refine eq_ints_same ?_ (by is_list) (by is_list) (by l_ints) (by l_ints) (by ke_room) ?_; (first | rfl | assumption))) | (k_here; (with_reducible show wpAny _ _ (binaryOp _ (Value.ref _) (Value.ref _)) _ _ _); k_dflt (refine add_strs (by k_asm) (by k_asm) (by exact ⟨_, News.get (by k_asm) (by k_mem), rfl, _, rfl⟩) (by exact ⟨_, News.get (by k_asm) (by k_mem), rfl, _, rfl⟩) (by first | assumption | exact .cons _ _ .nil | exact .nil) (by first | assumption | exact .cons _ _ .nil | exact .nil) (by ((try simp only [List.length_append, List.length_map, List.length_cons, List.length_nil]); omega)) ?_); intro D' ws' h' F' N' l1 hI'; (try k_sweep)) | (k_unfold; (try dsimp only)) | (k_end; kc_close) | walk1 | (dsimp only; walk1) | (leave1; walk_say "STEP leave1"; (try dsimp only)) | fail "no step"))))))
        exact CutS.mk hQc rfl (by k_asm) rfl rfl (fun y y1 y2 => by simp only [frU, if_neg y1, if_neg y2]) (by k_asm) (fun p hp => .tail _ hp) O (fun p hp => hp) hn hni
      · rw [h] at hway
        subst hway
        obtain ⟨n1, n2⟩ := new_fit hN
        have e : wName M ns (some o) = nmn (newNo ns) := name2 h
        have e2 : wLeft M ns (some o) = leftNs (ns ++ [newNo ns]) M.oldest M.newest := by unfold wLeft; dsimp only; rw [if_pos h]
        rw [e, e2, ← nmn_is2 n1 n2] at hQc
        (repeat' ((fail_if_success (with_reducible show wpAny _ _ (call (Value.type "str") _) _ _ _)); first | (k_here; (with_reducible show wpAny _ _ (compareOp CmpOp.NotEq (Value.ref _) (Value.ref _)) _ _ _); k_dflt (refine ne_ints_same ?_ (by is_list) (by is_list) (by l_ints) (by l_ints) (by ke_room) ?_; (first | rfl | assumption))) | (k_here; (with_reducible show wpAny _ _ (compareOp CmpOp.Eq (Value.ref _) (Value.ref _)) _ _ _); k_dflt (refine eq_ints_same ?_ (by is_list) (by is_list) (by l_ints) (by l_ints) (by ke_room) ?_; (first | rfl | assumption))) | (k_here; (with_reducible show wpAny _ _ (binaryOp _ (Value.ref _) (Value.ref _)) _ _ _); k_dflt (refine add_strs (by k_asm) (by k_asm) (by exact ⟨_, News.get (by k_asm) (by k_mem), rfl, _, rfl⟩) (by exact ⟨_, News.get (by k_asm) (by k_mem), rfl, _, rfl⟩) (by first | assumption | exact .cons _ _ .nil | exact .nil) (by first | assumption | exact .cons _ _ .nil | exact .nil) (by ((try simp only [List.length_append, List.length_map, List.length_cons, List.length_nil]); omega)) ?_); intro D' ws' h' F' N' l1 hI'; (try k_sweep)) | (k_unfold; (try dsimp only)) | (k_end; wrow_close) | walk1 | (dsimp only; walk1) | (leave1; walk_say "STEP leave1"; try dsimp only) | fail "no step")); all_goals (try (first | (refine hQo _ _ _ _ _ _ (by k_asm) (by k_asm) ?_; intro kF kN; (try dsimp only [valOf])) | (refine hEo _ _ _ ?_; (repeat' (first | (k_here; (with_reducible show wpAny _ _ (compareOp CmpOp.NotEq (Value.ref _) (Value.ref _)) _ _ _); k_dflt (refine ne_ints_same ?_ (by is_list) (by is_list) (by l_ints) (by l_ints) (by ke_room) ?_; (first | rfl | assumption))) | (k_here; (with_reducible show wpAny _ _ (compareOp CmpOp.Eq (Value.ref _) (Value.ref _)) _ _ _); k_dflt (refine eq_ints_same ?_ (by is_list) (by is_list) (by l_ints) (by l_ints) (by ke_room) ?_; (first | rfl | assumption))) | (k_here; (with_reducible show wpAny _ _ (binaryOp _ (Value.ref _) (Value.ref _)) _ _ _); k_dflt (refine add_strs (by k_asm) (by k_asm) (by exact ⟨_, News.get (by k_asm) (by k_mem), rfl, _, rfl⟩) (by exact ⟨_, News.get (by k_asm) (by k_mem), rfl, _, rfl⟩) (by first | assumption | exact .cons _ _ .nil | exact .nil) (by first | assumption | exact .cons _ _ .nil | exact .nil) (by ((try simp only [List.length_append, List.length_map, List.length_cons, List.length_nil]); omega)) ?_); intro D' ws' h' F' N' l1 hI'; (try k_sweep)) | (k_unfold; (try dsimp only)) | (k_end; kc_close) | walk1 | (dsimp only; walk1) | (leave1; walk_say "STEP leave1"; (try dsimp only)) | fail "no step")))))
        rw [max_lastA hN ‹_ ∈ [0] ++ ns› ‹∀ a ∈ [0] ++ ns, a ≤ _›]
        (repeat' ((fail_if_success (with_reducible show wpAny _ _ (call (Value.ref 459) _) _ _ _)); first | (k_here; (with_reducible show wpAny _ _ (compareOp CmpOp.NotEq (Value.ref _) (Value.ref _)) _ _ _); k_dflt (refine ne_ints_same ?_ (by is_list) (by is_list) (by l_ints) (by l_ints) (by ke_room) ?_; (first | rfl | assumption))) | (k_here; (with_reducible show wpAny _ _ (compareOp CmpOp.Eq (Value.ref _) (Value.ref _)) _ _ _); k_dflt (refine eq_ints_same ?_ (by is_list) (by is_list) (by l_ints) (by l_ints) (by ke_room) ?_; (first | rfl | assumption))) | (k_here; (with_reducible show wpAny _ _ (binaryOp _ (Value.ref _) (Value.ref _)) _ _ _); k_dflt (refine add_strs (by k_asm) (by k_asm) (by exact ⟨_, News.get (by k_asm) (by k_mem), rfl, _, rfl⟩) (by exact ⟨_, News.get (by k_asm) (by k_mem), rfl, _, rfl⟩) (by first | assumption | exact .cons _ _ .nil | exact .nil) (by first | assumption | exact .cons _ _ .nil | exact .nil) (by ((try simp only [List.length_append, List.length_map, List.length_cons, List.length_nil]); omega)) ?_); intro D' ws' h' F' N' l1 hI'; (try k_sweep)) | (k_unfold; (try dsimp only)) | (k_end; wrow_close) | walk1 | (dsimp only; walk1) | (leave1; walk_say "STEP leave1"; try dsimp only) | fail "no step")); all_goals (try (first | (refine hQo _ _ _ _ _ _ (by k_asm) (by k_asm) ?_; intro kF kN; (try dsimp only [valOf])) | (refine hEo _ _ _ ?_; (repeat' (first | (k_here; (with_reducible show wpAny _ _ (compareOp CmpOp.NotEq (Value.ref _) (Value.ref _)) _ _ _); k_dflt (refine ne_ints_same ?_ (by is_list) (by is_list) (by l_ints) (by l_ints) (by ke_room) ?_; (first | rfl | assumption))) | (k_here; (with_reducible show wpAny _ _ (compareOp CmpOp.Eq (Value.ref _) (Value.ref _)) _ _ _); k_dflt (refine eq_ints_same ?_ (by is_list) (by is_list) (by l_ints) (by l_ints) (by ke_room) ?_; (first | rfl | assumption))) | (k_here; (with_reducible show wpAny _ _ (binaryOp _ (Value.ref _) (Value.ref _)) _ _ _); k_dflt (refine add_strs (by k_asm) (by k_asm) (by exact ⟨_, News.get (by k_asm) (by k_mem), rfl, _, rfl⟩) (by exact ⟨_, News.get (by k_asm) (by k_mem), rfl, _, rfl⟩) (by first | assumption | exact .cons _ _ .nil | exact .nil) (by first | assumption | exact .cons _ _ .nil | exact .nil) (by ((try simp only [List.length_append, List.length_map, List.length_cons, List.length_nil]); omega)) ?_); intro D' ws' h' F' N' l1 hI'; (try k_sweep)) | (k_unfold; (try dsimp only)) | (k_end; kc_close) | walk1 | (dsimp only; walk1) | (leave1; walk_say "STEP leave1"; (try dsimp only)) | fail "no step")))))
        rw [max_lastA hN ‹_ ∈ [0] ++ ns› ‹∀ a ∈ [0] ++ ns, a ≤ _›]
        refine Call.useS (C := c_left (by k_mem) hni hfew) (ret := ?_); rintro _ _ h3 tk3 ⟨D3, vs3, c3, rfl, rfl, i3, q3⟩ F3 N3; (try dsimp only)
        ((repeat' (first | (k_here; (with_reducible show wpAny _ _ (compareOp CmpOp.NotEq (Value.ref _) (Value.ref _)) _ _ _); k_dflt (refine ne_ints_same ?_ (by is_list) (by is_list) (by l_ints) (by l_ints) (by ke_room) ?_; (first | rfl | assumption))) | (k_here; (with_reducible show wpAny _ _ (compareOp CmpOp.Eq (Value.ref _) (Value.ref _)) _ _ _); k_dflt (refine eq_ints_same ?_ (by is_list) (by is_list) (by l_ints) (by l_ints) (by ke_room) ?_; (first | rfl | assumption))) | (k_here; (with_reducible show wpAny _ _ (binaryOp _ (Value.ref _) (Value.ref _)) _ _ _); k_dflt (refine add_strs (by k_asm) (by k_asm) (by exact ⟨_, News.get (by k_asm) (by k_mem), rfl, _, rfl⟩) (by exact ⟨_, News.get (by k_asm) (by k_mem), rfl, _, rfl⟩) (by first | assumption | exact .cons _ _ .nil | exact .nil) (by first | assumption | exact .cons _ _ .nil | exact .nil) (by ((try simp only [List.length_append, List.length_map, List.length_cons, List.length_nil]); omega)) ?_); intro D' ws' h' F' N' l1 hI'; (try k_sweep)) | (k_unfold; (try dsimp only)) | (k_end; kc_close) | walk1 | (dsimp only; walk1) | (leave1; walk_say "STEP leave1"; (try dsimp only)) | fail "no step")); all_goals (try (first | (refine hQo _ _ _ _ _ _ (by k_asm) (by k_asm) ?_; intro kF kN; (try dsimp only [valOf])) | (refine hEo _ _ _ ?_; (repeat' (first | (k_here; (with_reducible show wpAny _ _ (compareOp CmpOp.NotEq (Value.ref _) (Value.ref _)) _ _ _); k_dflt (refine ne_ints_same ?_ (by is_list) (by is_list) (by l_ints) (by l_ints) (by ke_room) ?_; (first | rfl | assumption))) | (k_here; (with_reducible show wpAny _ _ (compareOp CmpOp.Eq (Value.ref _) (Value.ref _)) _ _ _); k_dflt (refine eq_ints_same ?_ (by is_list) (by is_list) (by l_ints) (by l_ints) (by ke_room) ?_; (first | rfl | assumption))) | (k_here; (with_reducible show wpAny _ _ (binaryOp _ (Value.ref _) (Value.ref _)) _ _ _); k_dflt (refine add_strs (by k_asm) (by k_asm) (by exact ⟨_, News.get (by k_asm) (by k_mem), rfl, _, rfl⟩) (by exact ⟨_, News.get (by k_asm) (by k_mem), rfl, _, rfl⟩) (by first | assumption | exact .cons _ _ .nil | exact .nil) (by first | assumption | exact .cons _ _ .nil | exact .nil) (by ((try simp only [List.length_append, List.length_map, List.length_cons, List.length_nil]); omega)) ?_); intro D' ws' h' F' N' l1 hI'; (try k_sweep)) | (k_unfold; (try dsimp only)) | (k_end; kc_close) | walk1 | (dsimp only; walk1) | (leave1; walk_say "STEP leave1"; (try dsimp only)) | fail "no step"))))))
        exact CutS.mk hQc rfl (by k_asm) rfl rfl (fun y y1 y2 => by simp only [frU, if_neg y1, if_neg y2]) (by k_asm)
          (mid_to (by k_mem) (fun p hp => by (repeat (first | exact hp | refine List.mem_cons_of_mem _ ?_))))
          (O.more (fun q hq => q3 q (by (repeat (first | exact hq | refine List.mem_cons_of_mem _ ?_))))) (fun p hp => .tail _ hp) (.head _) i3
  rintro _ h3 tk3 R2 D2 vs2 c2 tn rfl F3 N3 O2 hs2 hD2 hS2
  try dsimp only
  have IM2 := IM.sub hs2
  have ho2 := ho.sub hs2
  have hc2 := hs2 _ hc
  have I2 := O2.inn
  have hii2 := I2.inst
  have hid2 := I2.dict
  have hNg : NumsOk (nums g) := by rw [hng]; exact hN.ok
  have hMT : ManIn w (T.objs w ta ++ R2) ma M := IM2.sub fun p hp => List.mem_append_right _ hp
  clear I hii hid hnT hmi hmd
  (repeat' ((fail_if_success (with_reducible show wpAny _ _ (exec (Stmt.If _ _ _ _) _) _ _ _)); first | (k_here; (with_reducible show wpAny _ _ (compareOp CmpOp.NotEq (Value.ref _) (Value.ref _)) _ _ _); k_dflt (refine ne_ints_same ?_ (by is_list) (by is_list) (by l_ints) (by l_ints) (by ke_room) ?_; (first | rfl | assumption))) | (k_here; (with_reducible show wpAny _ _ (compareOp CmpOp.Eq (Value.ref _) (Value.ref _)) _ _ _); k_dflt (refine eq_ints_same ?_ (by is_list) (by is_list) (by l_ints) (by l_ints) (by ke_room) ?_; (first | rfl | assumption))) | (k_here; (with_reducible show wpAny _ _ (binaryOp _ (Value.ref _) (Value.ref _)) _ _ _); k_dflt (refine add_strs (by k_asm) (by k_asm) (by exact ⟨_, News.get (by k_asm) (by k_mem), rfl, _, rfl⟩) (by exact ⟨_, News.get (by k_asm) (by k_mem), rfl, _, rfl⟩) (by first | assumption | exact .cons _ _ .nil | exact .nil) (by first | assumption | exact .cons _ _ .nil | exact .nil) (by ((try simp only [List.length_append, List.length_map, List.length_cons, List.length_nil]); omega)) ?_); intro D' ws' h' F' N' l1 hI'; (try k_sweep)) | (k_unfold; (try dsimp only)) | (k_end; wrow_close) | walk1 | (dsimp only; walk1) | (leave1; walk_say "STEP leave1"; try dsimp only) | fail "no step")); all_goals (try (first | (refine hQo _ _ _ _ _ _ (by k_asm) (by k_asm) ?_; intro kF kN; (try dsimp only [valOf])) | (refine hEo _ _ _ ?_; (repeat' (first | (k_here; (with_reducible show wpAny _ _ (compareOp CmpOp.NotEq (Value.ref _) (Value.ref _)) _ _ _); k_dflt (refine ne_ints_same ?_ (by is_list) (by is_list) (by l_ints) (by l_ints) (by ke_room) ?_; (first | rfl | assumption))) | (k_here; (with_reducible show wpAny _ _ (compareOp CmpOp.Eq (Value.ref _) (Value.ref _)) _ _ _); k_dflt (refine eq_ints_same ?_ (by is_list) (by is_list) (by l_ints) (by l_ints) (by ke_room) ?_; (first | rfl | assumption))) | (k_here; (with_reducible show wpAny _ _ (binaryOp _ (Value.ref _) (Value.ref _)) _ _ _); k_dflt (refine add_strs (by k_asm) (by k_asm) (by exact ⟨_, News.get (by k_asm) (by k_mem), rfl, _, rfl⟩) (by exact ⟨_, News.get (by k_asm) (by k_mem), rfl, _, rfl⟩) (by first | assumption | exact .cons _ _ .nil | exact .nil) (by first | assumption | exact .cons _ _ .nil | exact .nil) (by ((try simp only [List.length_append, List.length_map, List.length_cons, List.length_nil]); omega)) ?_); intro D' ws' h' F' N' l1 hI'; (try k_sweep)) | (k_unfold; (try dsimp only)) | (k_end; kc_close) | walk1 | (dsimp only; walk1) | (leave1; walk_say "STEP leave1"; (try dsimp only)) | fail "no step")))))
  refine cutA (fun fl => fl = Flow.next) F3 N3 (fun Qc hQc => ?_) ?_
  · rcases ho2 with ⟨rfl, rfl⟩ | ⟨l, ovs, oc, o, rfl, rfl, hm, hoi, hol⟩
    · ((repeat' (first | (k_here; (with_reducible show wpAny _ _ (compareOp CmpOp.NotEq (Value.ref _) (Value.ref _)) _ _ _); k_dflt (refine ne_ints_same ?_ (by is_list) (by is_list) (by l_ints) (by l_ints) (by ke_room) ?_; (first | rfl | assumption))) | (k_here; (with_reducible show wpAny _ _ (compareOp CmpOp.Eq (Value.ref _) (Value.ref _)) _ _ _); k_dflt (refine eq_ints_same ?_ (by is_list) (by is_list) (by l_ints) (by l_ints) (by ke_room) ?_; (first | rfl | assumption))) | (k_here; (with_reducible show wpAny _ _ (binaryOp _ (Value.ref _) (Value.ref _)) _ _ _); k_dflt (refine add_strs (by k_asm) (by k_asm) (by exact ⟨_, News.get (by k_asm) (by k_mem), rfl, _, rfl⟩) (by exact ⟨_, News.get (by k_asm) (by k_mem), rfl, _, rfl⟩) (by first | assumption | exact .cons _ _ .nil | exact .nil) (by first | assumption | exact .cons _ _ .nil | exact .nil) (by ((try simp only [List.length_append, List.length_map, List.length_cons, List.length_nil]); omega)) ?_); intro D' ws' h' F' N' l1 hI'; (try k_sweep)) | (k_unfold; (try dsimp only)) | (k_end; kc_close) | walk1 | (dsimp only; walk1) | (leave1; walk_say "STEP leave1"; (try dsimp only)) | fail "no step")); all_goals (try (first | (refine hQo _ _ _ _ _ _ (by k_asm) (by k_asm) ?_; intro kF kN; (try dsimp only [valOf])) | (refine hEo _ _ _ ?_; (repeat' (first | (k_here; (with_reducible show wpAny _ _ (compareOp CmpOp.NotEq (Value.ref _) (Value.ref _)) _ _ _); k_dflt (refine ne_ints_same ?_ (by is_list) (by is_list) (by l_ints) (by l_ints) (by ke_room) ?_; (first | rfl | assumption))) | (k_here; (with_reducible show wpAny _ _ (compareOp CmpOp.Eq (Value.ref _) (Value.ref _)) _ _ _); k_dflt (refine eq_ints_same ?_ (by is_list) (by is_list) (by l_ints) (by l_ints) (by ke_room) ?_; (first | rfl | assumption))) | (k_here; (with_reducible show wpAny _ _ (binaryOp _ (Value.ref _) (Value.ref _)) _ _ _); k_dflt (refine add_strs (by k_asm) (by k_asm) (by exact ⟨_, News.get (by k_asm) (by k_mem), rfl, _, rfl⟩) (by exact ⟨_, News.get (by k_asm) (by k_mem), rfl, _, rfl⟩) (by first | assumption | exact .cons _ _ .nil | exact .nil) (by first | assumption | exact .cons _ _ .nil | exact .nil) (by ((try simp only [List.length_append, List.length_map, List.length_cons, List.length_nil]); omega)) ?_); intro D' ws' h' F' N' l1 hI'; (try k_sweep)) | (k_unfold; (try dsimp only)) | (k_end; kc_close) | walk1 | (dsimp only; walk1) | (leave1; walk_say "STEP leave1"; (try dsimp only)) | fail "no step"))))))
      exact CutA.mk hQc rfl (by k_asm) (by k_asm) (fun p hp => hp)
    · have hpn : (planName M (nums g) != wName M ns (some o)) = false := by rw [hng]; show (planName M ns != planName M ns) = false; simp
      ((repeat' (first | (k_here; (with_reducible show wpAny _ _ (compareOp CmpOp.NotEq (Value.ref _) (Value.ref _)) _ _ _); k_dflt (refine ne_ints_same ?_ (by is_list) (by is_list) (by l_ints) (by l_ints) (by ke_room) ?_; (first | rfl | assumption))) | (k_here; (with_reducible show wpAny _ _ (compareOp CmpOp.Eq (Value.ref _) (Value.ref _)) _ _ _); k_dflt (refine eq_ints_same ?_ (by is_list) (by is_list) (by l_ints) (by l_ints) (by ke_room) ?_; (first | rfl | assumption))) | (k_here; (with_reducible show wpAny _ _ (binaryOp _ (Value.ref _) (Value.ref _)) _ _ _); k_dflt (refine add_strs (by k_asm) (by k_asm) (by exact ⟨_, News.get (by k_asm) (by k_mem), rfl, _, rfl⟩) (by exact ⟨_, News.get (by k_asm) (by k_mem), rfl, _, rfl⟩) (by first | assumption | exact .cons _ _ .nil | exact .nil) (by first | assumption | exact .cons _ _ .nil | exact .nil) (by ((try simp only [List.length_append, List.length_map, List.length_cons, List.length_nil]); omega)) ?_); intro D' ws' h' F' N' l1 hI'; (try k_sweep)) | (k_unfold; (try dsimp only)) | (k_end; kc_close) | walk1 | (dsimp only; walk1) | (leave1; walk_say "STEP leave1"; (try dsimp only)) | fail "no step")); all_goals (try (first | (refine hQo _ _ _ _ _ _ (by k_asm) (by k_asm) ?_; intro kF kN; (try dsimp only [valOf])) | (refine hEo _ _ _ ?_; (repeat' (first | (k_here; (with_reducible show wpAny _ _ (compareOp CmpOp.NotEq (Value.ref _) (Value.ref _)) _ _ _); k_dflt (refine ne_ints_same ?_ (by is_list) (by is_list) (by l_ints) (by l_ints) (by ke_room) ?_; (first | rfl | assumption))) | (k_here; (with_reducible show wpAny _ _ (compareOp CmpOp.Eq (Value.ref _) (Value.ref _)) _ _ _); k_dflt (refine eq_ints_same ?_ (by is_list) (by is_list) (by l_ints) (by l_ints) (by ke_room) ?_; (first | rfl | assumption))) | (k_here; (with_reducible show wpAny _ _ (binaryOp _ (Value.ref _) (Value.ref _)) _ _ _); k_dflt (refine add_strs (by k_asm) (by k_asm) (by exact ⟨_, News.get (by k_asm) (by k_mem), rfl, _, rfl⟩) (by exact ⟨_, News.get (by k_asm) (by k_mem), rfl, _, rfl⟩) (by first | assumption | exact .cons _ _ .nil | exact .nil) (by first | assumption | exact .cons _ _ .nil | exact .nil) (by ((try simp only [List.length_append, List.length_map, List.length_cons, List.length_nil]); omega)) ?_); intro D' ws' h' F' N' l1 hI'; (try k_sweep)) | (k_unfold; (try dsimp only)) | (k_end; kc_close) | walk1 | (dsimp only; walk1) | (leave1; walk_say "STEP leave1"; (try dsimp only)) | fail "no step"))))))
      exact CutA.mk hQc rfl (by k_asm) (by k_asm) (fun p hp => by (repeat (first | exact hp | refine List.mem_cons_of_mem _ ?_)))
  rintro _ h4 tk4 rfl F4 N4
  try dsimp only
  have hfF : Str.ofString "/d/f" ∈ Fs := leaf_two.2.2.1
  (repeat' ((fail_if_success (with_reducible show wpAny _ _ (exec (Stmt.If _ _ _ _) _) _ _ _)); first | (k_here; (with_reducible show wpAny _ _ (compareOp CmpOp.NotEq (Value.ref _) (Value.ref _)) _ _ _); k_dflt (refine ne_ints_same ?_ (by is_list) (by is_list) (by l_ints) (by l_ints) (by ke_room) ?_; (first | rfl | assumption))) | (k_here; (with_reducible show wpAny _ _ (compareOp CmpOp.Eq (Value.ref _) (Value.ref _)) _ _ _); k_dflt (refine eq_ints_same ?_ (by is_list) (by is_list) (by l_ints) (by l_ints) (by ke_room) ?_; (first | rfl | assumption))) | (k_here; (with_reducible show wpAny _ _ (binaryOp _ (Value.ref _) (Value.ref _)) _ _ _); k_dflt (refine add_strs (by k_asm) (by k_asm) (by exact ⟨_, News.get (by k_asm) (by k_mem), rfl, _, rfl⟩) (by exact ⟨_, News.get (by k_asm) (by k_mem), rfl, _, rfl⟩) (by first | assumption | exact .cons _ _ .nil | exact .nil) (by first | assumption | exact .cons _ _ .nil | exact .nil) (by ((try simp only [List.length_append, List.length_map, List.length_cons, List.length_nil]); omega)) ?_); intro D' ws' h' F' N' l1 hI'; (try k_sweep)) | (k_unfold; (try dsimp only)) | (k_end; wrow_close) | walk1 | (dsimp only; walk1) | (leave1; walk_say "STEP leave1"; try dsimp only) | fail "no step")); all_goals (try (first | (refine hQo _ _ _ _ _ _ (by k_asm) (by k_asm) ?_; intro kF kN; (try dsimp only [valOf])) | (refine hEo _ _ _ ?_; (repeat' (first | (k_here; (with_reducible show wpAny _ _ (compareOp CmpOp.NotEq (Value.ref _) (Value.ref _)) _ _ _); k_dflt (refine ne_ints_same ?_ (by is_list) (by is_list) (by l_ints) (by l_ints) (by ke_room) ?_; (first | rfl | assumption))) | (k_here; (with_reducible show wpAny _ _ (compareOp CmpOp.Eq (Value.ref _) (Value.ref _)) _ _ _); k_dflt (refine eq_ints_same ?_ (by is_list) (by is_list) (by l_ints) (by l_ints) (by ke_room) ?_; (first | rfl | assumption))) | (k_here; (with_reducible show wpAny _ _ (binaryOp _ (Value.ref _) (Value.ref _)) _ _ _); k_dflt (refine add_strs (by k_asm) (by k_asm) (by exact ⟨_, News.get (by k_asm) (by k_mem), rfl, _, rfl⟩) (by exact ⟨_, News.get (by k_asm) (by k_mem), rfl, _, rfl⟩) (by first | assumption | exact .cons _ _ .nil | exact .nil) (by first | assumption | exact .cons _ _ .nil | exact .nil) (by ((try simp only [List.length_append, List.length_map, List.length_cons, List.length_nil]); omega)) ?_); intro D' ws' h' F' N' l1 hI'; (try k_sweep)) | (k_unfold; (try dsimp only)) | (k_end; kc_close) | walk1 | (dsimp only; walk1) | (leave1; walk_say "STEP leave1"; (try dsimp only)) | fail "no step")))))
  refine cutT g (bkAll M g false ++ putOps M cns) (fun fl => fl = Flow.next) F4 O2 (fun Qc hQc => ?_) ?_
  · (repeat' ((fail_if_success (with_reducible show wpAny _ _ (call (Value.ref 454) _) _ _ _)); first | (k_here; (with_reducible show wpAny _ _ (compareOp CmpOp.NotEq (Value.ref _) (Value.ref _)) _ _ _); k_dflt (refine ne_ints_same ?_ (by is_list) (by is_list) (by l_ints) (by l_ints) (by ke_room) ?_; (first | rfl | assumption))) | (k_here; (with_reducible show wpAny _ _ (compareOp CmpOp.Eq (Value.ref _) (Value.ref _)) _ _ _); k_dflt (refine eq_ints_same ?_ (by is_list) (by is_list) (by l_ints) (by l_ints) (by ke_room) ?_; (first | rfl | assumption))) | (k_here; (with_reducible show wpAny _ _ (binaryOp _ (Value.ref _) (Value.ref _)) _ _ _); k_dflt (refine add_strs (by k_asm) (by k_asm) (by exact ⟨_, News.get (by k_asm) (by k_mem), rfl, _, rfl⟩) (by exact ⟨_, News.get (by k_asm) (by k_mem), rfl, _, rfl⟩) (by first | assumption | exact .cons _ _ .nil | exact .nil) (by first | assumption | exact .cons _ _ .nil | exact .nil) (by ((try simp only [List.length_append, List.length_map, List.length_cons, List.length_nil]); omega)) ?_); intro D' ws' h' F' N' l1 hI'; (try k_sweep)) | (k_unfold; (try dsimp only)) | (k_end; wrow_close) | walk1 | (dsimp only; walk1) | (leave1; walk_say "STEP leave1"; try dsimp only) | fail "no step")); all_goals (try (first | (refine hQo _ _ _ _ _ _ (by k_asm) (by k_asm) ?_; intro kF kN; (try dsimp only [valOf])) | (refine hEo _ _ _ ?_; (repeat' (first | (k_here; (with_reducible show wpAny _ _ (compareOp CmpOp.NotEq (Value.ref _) (Value.ref _)) _ _ _); k_dflt (refine ne_ints_same ?_ (by is_list) (by is_list) (by l_ints) (by l_ints) (by ke_room) ?_; (first | rfl | assumption))) | (k_here; (with_reducible show wpAny _ _ (compareOp CmpOp.Eq (Value.ref _) (Value.ref _)) _ _ _); k_dflt (refine eq_ints_same ?_ (by is_list) (by is_list) (by l_ints) (by l_ints) (by ke_room) ?_; (first | rfl | assumption))) | (k_here; (with_reducible show wpAny _ _ (binaryOp _ (Value.ref _) (Value.ref _)) _ _ _); k_dflt (refine add_strs (by k_asm) (by k_asm) (by exact ⟨_, News.get (by k_asm) (by k_mem), rfl, _, rfl⟩) (by exact ⟨_, News.get (by k_asm) (by k_mem), rfl, _, rfl⟩) (by first | assumption | exact .cons _ _ .nil | exact .nil) (by first | assumption | exact .cons _ _ .nil | exact .nil) (by ((try simp only [List.length_append, List.length_map, List.length_cons, List.length_nil]); omega)) ?_); intro D' ws' h' F' N' l1 hI'; (try k_sweep)) | (k_unfold; (try dsimp only)) | (k_end; kc_close) | walk1 | (dsimp only; walk1) | (leave1; walk_say "STEP leave1"; (try dsimp only)) | fail "no step")))))
    refine Call.useS (C := c_ended0 O2 H IM2 (fun _ => hNg) hc2 hi (by omega) (fun _ => tree_hex hN hok hg) hbt hneg) (ret := ?_); rintro _ _ h5 tk5 ⟨rfl, T1, rfl, O1, d1, H1⟩ F5 N5; (try dsimp only)
    generalize hg1 : run (bkAll M g false ++ putOps M cns) g = g1 at H1 A1
    have hf1 := A1.f
    have hno1 := A1.no
    have I1 := O1.inn
    have hii1 := I1.inst
    have hid1 := I1.dict
    have hc1 : (cl0, listOf cvs.toArray cn') ∈ T1.objs w ta ++ R2 := List.mem_append_right _ hc2
    have hD1 : (D2, listOf vs2.toArray c2) ∈ T1.objs w ta ++ R2 := List.mem_append_right _ hD2
    clear H
    ((repeat' (first | (k_here; (with_reducible show wpAny _ _ (compareOp CmpOp.NotEq (Value.ref _) (Value.ref _)) _ _ _); k_dflt (refine ne_ints_same ?_ (by is_list) (by is_list) (by l_ints) (by l_ints) (by ke_room) ?_; (first | rfl | assumption))) | (k_here; (with_reducible show wpAny _ _ (compareOp CmpOp.Eq (Value.ref _) (Value.ref _)) _ _ _); k_dflt (refine eq_ints_same ?_ (by is_list) (by is_list) (by l_ints) (by l_ints) (by ke_room) ?_; (first | rfl | assumption))) | (k_here; (with_reducible show wpAny _ _ (binaryOp _ (Value.ref _) (Value.ref _)) _ _ _); k_dflt (refine add_strs (by k_asm) (by k_asm) (by exact ⟨_, News.get (by k_asm) (by k_mem), rfl, _, rfl⟩) (by exact ⟨_, News.get (by k_asm) (by k_mem), rfl, _, rfl⟩) (by first | assumption | exact .cons _ _ .nil | exact .nil) (by first | assumption | exact .cons _ _ .nil | exact .nil) (by ((try simp only [List.length_append, List.length_map, List.length_cons, List.length_nil]); omega)) ?_); intro D' ws' h' F' N' l1 hI'; (try k_sweep)) | (k_unfold; (try dsimp only)) | (k_end; kc_close) | walk1 | (dsimp only; walk1) | (leave1; walk_say "STEP leave1"; (try dsimp only)) | fail "no step")); all_goals (try (first | (refine hQo _ _ _ _ _ _ (by k_asm) (by k_asm) ?_; intro kF kN; (try dsimp only [valOf])) | (refine hEo _ _ _ ?_; (repeat' (first | (k_here; (with_reducible show wpAny _ _ (compareOp CmpOp.NotEq (Value.ref _) (Value.ref _)) _ _ _); k_dflt (refine ne_ints_same ?_ (by is_list) (by is_list) (by l_ints) (by l_ints) (by ke_room) ?_; (first | rfl | assumption))) | (k_here; (with_reducible show wpAny _ _ (compareOp CmpOp.Eq (Value.ref _) (Value.ref _)) _ _ _); k_dflt (refine eq_ints_same ?_ (by is_list) (by is_list) (by l_ints) (by l_ints) (by ke_room) ?_; (first | rfl | assumption))) | (k_here; (with_reducible show wpAny _ _ (binaryOp _ (Value.ref _) (Value.ref _)) _ _ _); k_dflt (refine add_strs (by k_asm) (by k_asm) (by exact ⟨_, News.get (by k_asm) (by k_mem), rfl, _, rfl⟩) (by exact ⟨_, News.get (by k_asm) (by k_mem), rfl, _, rfl⟩) (by first | assumption | exact .cons _ _ .nil | exact .nil) (by first | assumption | exact .cons _ _ .nil | exact .nil) (by ((try simp only [List.length_append, List.length_map, List.length_cons, List.length_nil]); omega)) ?_); intro D' ws' h' F' N' l1 hI'; (try k_sweep)) | (k_unfold; (try dsimp only)) | (k_end; kc_close) | walk1 | (dsimp only; walk1) | (leave1; walk_say "STEP leave1"; (try dsimp only)) | fail "no step"))))))
    exact CutT.mk hQc rfl (by k_asm) (cb_drop (by assumption) (fun p hp => by (repeat (first | exact hp | refine List.mem_cons_of_mem _ ?_)))) ⟨T1, rfl, O1, d1, by rw [hg1]; exact H1⟩
  rintro _ h5 tk5 n5 rfl F5 N5 ⟨T1, rfl, O1, d1, H1⟩
  try dsimp only
  have hl1 := d1.same hneg
  have hneg1 : T1.left < 0 := by omega
  generalize hg1 : run (bkAll M g false ++ putOps M cns) g = g1 at H1 A1
  clear hg1 H I2 hii2 hid2 hMT hbt hNg hg hng
  have hf1 := A1.f
  have hno1 := A1.no
  have I1 := O1.inn
  have hii1 := I1.inst
  have hid1 := I1.dict
  have hc1 : (cl0, listOf cvs.toArray cn') ∈ T1.objs w ta ++ R2 := List.mem_append_right _ hc2
  have hD1 : (D2, listOf vs2.toArray c2) ∈ T1.objs w ta ++ R2 := List.mem_append_right _ hD2
  (repeat' ((fail_if_success (with_reducible show wpAny _ _ (exec (Stmt.If _ _ _ _) _) _ _ _)); first | (k_here; (with_reducible show wpAny _ _ (compareOp CmpOp.NotEq (Value.ref _) (Value.ref _)) _ _ _); k_dflt (refine ne_ints_same ?_ (by is_list) (by is_list) (by l_ints) (by l_ints) (by ke_room) ?_; (first | rfl | assumption))) | (k_here; (with_reducible show wpAny _ _ (compareOp CmpOp.Eq (Value.ref _) (Value.ref _)) _ _ _); k_dflt (refine eq_ints_same ?_ (by is_list) (by is_list) (by l_ints) (by l_ints) (by ke_room) ?_; (first | rfl | assumption))) | (k_here; (with_reducible show wpAny _ _ (binaryOp _ (Value.ref _) (Value.ref _)) _ _ _); k_dflt (refine add_strs (by k_asm) (by k_asm) (by exact ⟨_, News.get (by k_asm) (by k_mem), rfl, _, rfl⟩) (by exact ⟨_, News.get (by k_asm) (by k_mem), rfl, _, rfl⟩) (by first | assumption | exact .cons _ _ .nil | exact .nil) (by first | assumption | exact .cons _ _ .nil | exact .nil) (by ((try simp only [List.length_append, List.length_map, List.length_cons, List.length_nil]); omega)) ?_); intro D' ws' h' F' N' l1 hI'; (try k_sweep)) | (k_unfold; (try dsimp only)) | (k_end; wrow_close) | walk1 | (dsimp only; walk1) | (leave1; walk_say "STEP leave1"; try dsimp only) | fail "no step")); all_goals (try (first | (refine hQo _ _ _ _ _ _ (by k_asm) (by k_asm) ?_; intro kF kN; (try dsimp only [valOf])) | (refine hEo _ _ _ ?_; (repeat' (first | (k_here; (with_reducible show wpAny _ _ (compareOp CmpOp.NotEq (Value.ref _) (Value.ref _)) _ _ _); k_dflt (refine ne_ints_same ?_ (by is_list) (by is_list) (by l_ints) (by l_ints) (by ke_room) ?_; (first | rfl | assumption))) | (k_here; (with_reducible show wpAny _ _ (compareOp CmpOp.Eq (Value.ref _) (Value.ref _)) _ _ _); k_dflt (refine eq_ints_same ?_ (by is_list) (by is_list) (by l_ints) (by l_ints) (by ke_room) ?_; (first | rfl | assumption))) | (k_here; (with_reducible show wpAny _ _ (binaryOp _ (Value.ref _) (Value.ref _)) _ _ _); k_dflt (refine add_strs (by k_asm) (by k_asm) (by exact ⟨_, News.get (by k_asm) (by k_mem), rfl, _, rfl⟩) (by exact ⟨_, News.get (by k_asm) (by k_mem), rfl, _, rfl⟩) (by first | assumption | exact .cons _ _ .nil | exact .nil) (by first | assumption | exact .cons _ _ .nil | exact .nil) (by ((try simp only [List.length_append, List.length_map, List.length_cons, List.length_nil]); omega)) ?_); intro D' ws' h' F' N' l1 hI'; (try k_sweep)) | (k_unfold; (try dsimp only)) | (k_end; kc_close) | walk1 | (dsimp only; walk1) | (leave1; walk_say "STEP leave1"; (try dsimp only)) | fail "no step")))))
  refine cutA (fun fl => fl = Flow.next) F5 N5 (fun Qc hQc => ?_) ?_
  · rcases name_cases (M := M) (old := old) hN hok with ⟨_, e⟩ | ⟨o, e0, hw, hwF, hwe⟩
    · have hne : (wName M ns old != Str.ofString "") = false := by rw [e]; decide +kernel
      ((repeat' (first | (k_here; (with_reducible show wpAny _ _ (compareOp CmpOp.NotEq (Value.ref _) (Value.ref _)) _ _ _); k_dflt (refine ne_ints_same ?_ (by is_list) (by is_list) (by l_ints) (by l_ints) (by ke_room) ?_; (first | rfl | assumption))) | (k_here; (with_reducible show wpAny _ _ (compareOp CmpOp.Eq (Value.ref _) (Value.ref _)) _ _ _); k_dflt (refine eq_ints_same ?_ (by is_list) (by is_list) (by l_ints) (by l_ints) (by ke_room) ?_; (first | rfl | assumption))) | (k_here; (with_reducible show wpAny _ _ (binaryOp _ (Value.ref _) (Value.ref _)) _ _ _); k_dflt (refine add_strs (by k_asm) (by k_asm) (by exact ⟨_, News.get (by k_asm) (by k_mem), rfl, _, rfl⟩) (by exact ⟨_, News.get (by k_asm) (by k_mem), rfl, _, rfl⟩) (by first | assumption | exact .cons _ _ .nil | exact .nil) (by first | assumption | exact .cons _ _ .nil | exact .nil) (by ((try simp only [List.length_append, List.length_map, List.length_cons, List.length_nil]); omega)) ?_); intro D' ws' h' F' N' l1 hI'; (try k_sweep)) | (k_unfold; (try dsimp only)) | (k_end; kc_close) | walk1 | (dsimp only; walk1) | (leave1; walk_say "STEP leave1"; (try dsimp only)) | fail "no step")); all_goals (try (first | (refine hQo _ _ _ _ _ _ (by k_asm) (by k_asm) ?_; intro kF kN; (try dsimp only [valOf])) | (refine hEo _ _ _ ?_; (repeat' (first | (k_here; (with_reducible show wpAny _ _ (compareOp CmpOp.NotEq (Value.ref _) (Value.ref _)) _ _ _); k_dflt (refine ne_ints_same ?_ (by is_list) (by is_list) (by l_ints) (by l_ints) (by ke_room) ?_; (first | rfl | assumption))) | (k_here; (with_reducible show wpAny _ _ (compareOp CmpOp.Eq (Value.ref _) (Value.ref _)) _ _ _); k_dflt (refine eq_ints_same ?_ (by is_list) (by is_list) (by l_ints) (by l_ints) (by ke_room) ?_; (first | rfl | assumption))) | (k_here; (with_reducible show wpAny _ _ (binaryOp _ (Value.ref _) (Value.ref _)) _ _ _); k_dflt (refine add_strs (by k_asm) (by k_asm) (by exact ⟨_, News.get (by k_asm) (by k_mem), rfl, _, rfl⟩) (by exact ⟨_, News.get (by k_asm) (by k_mem), rfl, _, rfl⟩) (by first | assumption | exact .cons _ _ .nil | exact .nil) (by first | assumption | exact .cons _ _ .nil | exact .nil) (by ((try simp only [List.length_append, List.length_map, List.length_cons, List.length_nil]); omega)) ?_); intro D' ws' h' F' N' l1 hI'; (try k_sweep)) | (k_unfold; (try dsimp only)) | (k_end; kc_close) | walk1 | (dsimp only; walk1) | (leave1; walk_say "STEP leave1"; (try dsimp only)) | fail "no step"))))))
      exact CutA.mk hQc rfl (by k_asm) (by k_asm) (fun p hp => hp)
    · have hne : (wName M ns old != Str.ofString "") = true := by unfold bne; rw [hwe]; rfl
      have hgw := A1.name o e0 hw
      rcases ho2 with ⟨e1, e2⟩ | ⟨l, ovs, oc, o', e1, e2, hm, hoi, hol⟩
      · rw [e2] at e0; cases e0
      · have e3 : o' = o := Option.some.inj (e2.symm.trans e0)
        subst e3
        subst e1
        have hm1 : (l, listOf ovs.toArray oc) ∈ T1.objs w ta ++ R2 := List.mem_append_right _ hm
        ((repeat' (first | (k_here; (with_reducible show wpAny _ _ (compareOp CmpOp.NotEq (Value.ref _) (Value.ref _)) _ _ _); k_dflt (refine ne_ints_same ?_ (by is_list) (by is_list) (by l_ints) (by l_ints) (by ke_room) ?_; (first | rfl | assumption))) | (k_here; (with_reducible show wpAny _ _ (compareOp CmpOp.Eq (Value.ref _) (Value.ref _)) _ _ _); k_dflt (refine eq_ints_same ?_ (by is_list) (by is_list) (by l_ints) (by l_ints) (by ke_room) ?_; (first | rfl | assumption))) | (k_here; (with_reducible show wpAny _ _ (binaryOp _ (Value.ref _) (Value.ref _)) _ _ _); k_dflt (refine add_strs (by k_asm) (by k_asm) (by exact ⟨_, News.get (by k_asm) (by k_mem), rfl, _, rfl⟩) (by exact ⟨_, News.get (by k_asm) (by k_mem), rfl, _, rfl⟩) (by first | assumption | exact .cons _ _ .nil | exact .nil) (by first | assumption | exact .cons _ _ .nil | exact .nil) (by ((try simp only [List.length_append, List.length_map, List.length_cons, List.length_nil]); omega)) ?_); intro D' ws' h' F' N' l1 hI'; (try k_sweep)) | (k_unfold; (try dsimp only)) | (k_end; kc_close) | walk1 | (dsimp only; walk1) | (leave1; walk_say "STEP leave1"; (try dsimp only)) | fail "no step")); all_goals (try (first | (refine hQo _ _ _ _ _ _ (by k_asm) (by k_asm) ?_; intro kF kN; (try dsimp only [valOf])) | (refine hEo _ _ _ ?_; (repeat' (first | (k_here; (with_reducible show wpAny _ _ (compareOp CmpOp.NotEq (Value.ref _) (Value.ref _)) _ _ _); k_dflt (refine ne_ints_same ?_ (by is_list) (by is_list) (by l_ints) (by l_ints) (by ke_room) ?_; (first | rfl | assumption))) | (k_here; (with_reducible show wpAny _ _ (compareOp CmpOp.Eq (Value.ref _) (Value.ref _)) _ _ _); k_dflt (refine eq_ints_same ?_ (by is_list) (by is_list) (by l_ints) (by l_ints) (by ke_room) ?_; (first | rfl | assumption))) | (k_here; (with_reducible show wpAny _ _ (binaryOp _ (Value.ref _) (Value.ref _)) _ _ _); k_dflt (refine add_strs (by k_asm) (by k_asm) (by exact ⟨_, News.get (by k_asm) (by k_mem), rfl, _, rfl⟩) (by exact ⟨_, News.get (by k_asm) (by k_mem), rfl, _, rfl⟩) (by first | assumption | exact .cons _ _ .nil | exact .nil) (by first | assumption | exact .cons _ _ .nil | exact .nil) (by ((try simp only [List.length_append, List.length_map, List.length_cons, List.length_nil]); omega)) ?_); intro D' ws' h' F' N' l1 hI'; (try k_sweep)) | (k_unfold; (try dsimp only)) | (k_end; kc_close) | walk1 | (dsimp only; walk1) | (leave1; walk_say "STEP leave1"; (try dsimp only)) | fail "no step"))))))
        exact CutA.mk hQc rfl (by k_asm) (by k_asm) (fun p hp => by (repeat (first | exact hp | refine List.mem_cons_of_mem _ ?_)))
  rintro _ h6 tk6 rfl F6 N6
  try dsimp only
  (repeat' ((fail_if_success (with_reducible show wpAny _ _ (exec (Stmt.Assign _ _ _) _) _ _ _)); first | (k_here; (with_reducible show wpAny _ _ (compareOp CmpOp.NotEq (Value.ref _) (Value.ref _)) _ _ _); k_dflt (refine ne_ints_same ?_ (by is_list) (by is_list) (by l_ints) (by l_ints) (by ke_room) ?_; (first | rfl | assumption))) | (k_here; (with_reducible show wpAny _ _ (compareOp CmpOp.Eq (Value.ref _) (Value.ref _)) _ _ _); k_dflt (refine eq_ints_same ?_ (by is_list) (by is_list) (by l_ints) (by l_ints) (by ke_room) ?_; (first | rfl | assumption))) | (k_here; (with_reducible show wpAny _ _ (binaryOp _ (Value.ref _) (Value.ref _)) _ _ _); k_dflt (refine add_strs (by k_asm) (by k_asm) (by exact ⟨_, News.get (by k_asm) (by k_mem), rfl, _, rfl⟩) (by exact ⟨_, News.get (by k_asm) (by k_mem), rfl, _, rfl⟩) (by first | assumption | exact .cons _ _ .nil | exact .nil) (by first | assumption | exact .cons _ _ .nil | exact .nil) (by ((try simp only [List.length_append, List.length_map, List.length_cons, List.length_nil]); omega)) ?_); intro D' ws' h' F' N' l1 hI'; (try k_sweep)) | (k_unfold; (try dsimp only)) | (k_end; wrow_close) | walk1 | (dsimp only; walk1) | (leave1; walk_say "STEP leave1"; try dsimp only) | fail "no step")); all_goals (try (first | (refine hQo _ _ _ _ _ _ (by k_asm) (by k_asm) ?_; intro kF kN; (try dsimp only [valOf])) | (refine hEo _ _ _ ?_; (repeat' (first | (k_here; (with_reducible show wpAny _ _ (compareOp CmpOp.NotEq (Value.ref _) (Value.ref _)) _ _ _); k_dflt (refine ne_ints_same ?_ (by is_list) (by is_list) (by l_ints) (by l_ints) (by ke_room) ?_; (first | rfl | assumption))) | (k_here; (with_reducible show wpAny _ _ (compareOp CmpOp.Eq (Value.ref _) (Value.ref _)) _ _ _); k_dflt (refine eq_ints_same ?_ (by is_list) (by is_list) (by l_ints) (by l_ints) (by ke_room) ?_; (first | rfl | assumption))) | (k_here; (with_reducible show wpAny _ _ (binaryOp _ (Value.ref _) (Value.ref _)) _ _ _); k_dflt (refine add_strs (by k_asm) (by k_asm) (by exact ⟨_, News.get (by k_asm) (by k_mem), rfl, _, rfl⟩) (by exact ⟨_, News.get (by k_asm) (by k_mem), rfl, _, rfl⟩) (by first | assumption | exact .cons _ _ .nil | exact .nil) (by first | assumption | exact .cons _ _ .nil | exact .nil) (by ((try simp only [List.length_append, List.length_map, List.length_cons, List.length_nil]); omega)) ?_); intro D' ws' h' F' N' l1 hI'; (try k_sweep)) | (k_unfold; (try dsimp only)) | (k_end; kc_close) | walk1 | (dsimp only; walk1) | (leave1; walk_say "STEP leave1"; (try dsimp only)) | fail "no step")))))
  refine cutL (Str.ofString "due") (fun fl => fl = Flow.next) (fun vs => StrsAre vs (dueL (wLeft M ns old) (single || (wName M ns old == Str.ofString "/d/f~")))) F6 O1 (fun Qc hQc => ?_) ?_
  · have hlen : (wLeft M ns old).length ≤ 1000 := by have := A1.few.few; rw [hno1] at this; omega
    cases single with
    | true =>
      simp only [Bool.true_or] at hQc
      ((repeat' (first | (k_here; (with_reducible show wpAny _ _ (compareOp CmpOp.NotEq (Value.ref _) (Value.ref _)) _ _ _); k_dflt (refine ne_ints_same ?_ (by is_list) (by is_list) (by l_ints) (by l_ints) (by ke_room) ?_; (first | rfl | assumption))) | (k_here; (with_reducible show wpAny _ _ (compareOp CmpOp.Eq (Value.ref _) (Value.ref _)) _ _ _); k_dflt (refine eq_ints_same ?_ (by is_list) (by is_list) (by l_ints) (by l_ints) (by ke_room) ?_; (first | rfl | assumption))) | (k_here; (with_reducible show wpAny _ _ (binaryOp _ (Value.ref _) (Value.ref _)) _ _ _); k_dflt (refine add_strs (by k_asm) (by k_asm) (by exact ⟨_, News.get (by k_asm) (by k_mem), rfl, _, rfl⟩) (by exact ⟨_, News.get (by k_asm) (by k_mem), rfl, _, rfl⟩) (by first | assumption | exact .cons _ _ .nil | exact .nil) (by first | assumption | exact .cons _ _ .nil | exact .nil) (by ((try simp only [List.length_append, List.length_map, List.length_cons, List.length_nil]); omega)) ?_); intro D' ws' h' F' N' l1 hI'; (try k_sweep)) | (k_unfold; (try dsimp only)) | (k_end; kc_close) | walk1 | (dsimp only; walk1) | (leave1; walk_say "STEP leave1"; (try dsimp only)) | fail "no step")); all_goals (try (first | (refine hQo _ _ _ _ _ _ (by k_asm) (by k_asm) ?_; intro kF kN; (try dsimp only [valOf])) | (refine hEo _ _ _ ?_; (repeat' (first | (k_here; (with_reducible show wpAny _ _ (compareOp CmpOp.NotEq (Value.ref _) (Value.ref _)) _ _ _); k_dflt (refine ne_ints_same ?_ (by is_list) (by is_list) (by l_ints) (by l_ints) (by ke_room) ?_; (first | rfl | assumption))) | (k_here; (with_reducible show wpAny _ _ (compareOp CmpOp.Eq (Value.ref _) (Value.ref _)) _ _ _); k_dflt (refine eq_ints_same ?_ (by is_list) (by is_list) (by l_ints) (by l_ints) (by ke_room) ?_; (first | rfl | assumption))) | (k_here; (with_reducible show wpAny _ _ (binaryOp _ (Value.ref _) (Value.ref _)) _ _ _); k_dflt (refine add_strs (by k_asm) (by k_asm) (by exact ⟨_, News.get (by k_asm) (by k_mem), rfl, _, rfl⟩) (by exact ⟨_, News.get (by k_asm) (by k_mem), rfl, _, rfl⟩) (by first | assumption | exact .cons _ _ .nil | exact .nil) (by first | assumption | exact .cons _ _ .nil | exact .nil) (by ((try simp only [List.length_append, List.length_map, List.length_cons, List.length_nil]); omega)) ?_); intro D' ws' h' F' N' l1 hI'; (try k_sweep)) | (k_unfold; (try dsimp only)) | (k_end; kc_close) | walk1 | (dsimp only; walk1) | (leave1; walk_say "STEP leave1"; (try dsimp only)) | fail "no step"))))))
      · exact ⟨_, _, _, rfl, by k_asm, by k_asm, by k_asm, .inr ⟨_, .tail _ hD1, rfl, _, rfl⟩, rfl, _, congrArg (Value.str · _) (nmn_leaf (by assumption) (by assumption))⟩
      · exact CutL.mk hQc rfl (by k_asm) rfl (fun y hy => by simp only [frU, if_neg hy]) (by k_asm) (mid_to (by k_mem) (fun p hp => by (repeat (first | exact hp | refine List.mem_cons_of_mem _ ?_)))) (O1.more (fun q hq => Nat.ne_of_lt (‹∀ p ∈ _, p.1 < _› q (by (repeat (first | exact hq | refine List.mem_cons_of_mem _ ?_)))))) (fun p hp => .tail _ hp) (.head _) (by assumption)
    | false =>
      simp only [Bool.false_or] at hQc
      cases hq : (wName M ns old == Str.ofString "/d/f~") with
      | true =>
        rw [hq] at hQc
        ((repeat' (first | (k_here; (with_reducible show wpAny _ _ (compareOp CmpOp.NotEq (Value.ref _) (Value.ref _)) _ _ _); k_dflt (refine ne_ints_same ?_ (by is_list) (by is_list) (by l_ints) (by l_ints) (by ke_room) ?_; (first | rfl | assumption))) | (k_here; (with_reducible show wpAny _ _ (compareOp CmpOp.Eq (Value.ref _) (Value.ref _)) _ _ _); k_dflt (refine eq_ints_same ?_ (by is_list) (by is_list) (by l_ints) (by l_ints) (by ke_room) ?_; (first | rfl | assumption))) | (k_here; (with_reducible show wpAny _ _ (binaryOp _ (Value.ref _) (Value.ref _)) _ _ _); k_dflt (refine add_strs (by k_asm) (by k_asm) (by exact ⟨_, News.get (by k_asm) (by k_mem), rfl, _, rfl⟩) (by exact ⟨_, News.get (by k_asm) (by k_mem), rfl, _, rfl⟩) (by first | assumption | exact .cons _ _ .nil | exact .nil) (by first | assumption | exact .cons _ _ .nil | exact .nil) (by ((try simp only [List.length_append, List.length_map, List.length_cons, List.length_nil]); omega)) ?_); intro D' ws' h' F' N' l1 hI'; (try k_sweep)) | (k_unfold; (try dsimp only)) | (k_end; kc_close) | walk1 | (dsimp only; walk1) | (leave1; walk_say "STEP leave1"; (try dsimp only)) | fail "no step")); all_goals (try (first | (refine hQo _ _ _ _ _ _ (by k_asm) (by k_asm) ?_; intro kF kN; (try dsimp only [valOf])) | (refine hEo _ _ _ ?_; (repeat' (first | (k_here; (with_reducible show wpAny _ _ (compareOp CmpOp.NotEq (Value.ref _) (Value.ref _)) _ _ _); k_dflt (refine ne_ints_same ?_ (by is_list) (by is_list) (by l_ints) (by l_ints) (by ke_room) ?_; (first | rfl | assumption))) | (k_here; (with_reducible show wpAny _ _ (compareOp CmpOp.Eq (Value.ref _) (Value.ref _)) _ _ _); k_dflt (refine eq_ints_same ?_ (by is_list) (by is_list) (by l_ints) (by l_ints) (by ke_room) ?_; (first | rfl | assumption))) | (k_here; (with_reducible show wpAny _ _ (binaryOp _ (Value.ref _) (Value.ref _)) _ _ _); k_dflt (refine add_strs (by k_asm) (by k_asm) (by exact ⟨_, News.get (by k_asm) (by k_mem), rfl, _, rfl⟩) (by exact ⟨_, News.get (by k_asm) (by k_mem), rfl, _, rfl⟩) (by first | assumption | exact .cons _ _ .nil | exact .nil) (by first | assumption | exact .cons _ _ .nil | exact .nil) (by ((try simp only [List.length_append, List.length_map, List.length_cons, List.length_nil]); omega)) ?_); intro D' ws' h' F' N' l1 hI'; (try k_sweep)) | (k_unfold; (try dsimp only)) | (k_end; kc_close) | walk1 | (dsimp only; walk1) | (leave1; walk_say "STEP leave1"; (try dsimp only)) | fail "no step"))))))
        · exact ⟨_, _, _, rfl, by k_asm, by k_asm, by k_asm, .inr ⟨_, .tail _ hD1, rfl, _, rfl⟩, rfl, _, congrArg (Value.str · _) (nmn_leaf (by assumption) (by assumption))⟩
        · exact CutL.mk hQc rfl (by k_asm) rfl (fun y hy => by simp only [frU, if_neg hy]) (by k_asm) (mid_to (by k_mem) (fun p hp => by (repeat (first | exact hp | refine List.mem_cons_of_mem _ ?_)))) (O1.more (fun q hq => Nat.ne_of_lt (‹∀ p ∈ _, p.1 < _› q (by (repeat (first | exact hq | refine List.mem_cons_of_mem _ ?_)))))) (fun p hp => .tail _ hp) (.head _) (by assumption)
      | false =>
        rw [hq] at hQc
        ((repeat' (first | (k_here; (with_reducible show wpAny _ _ (compareOp CmpOp.NotEq (Value.ref _) (Value.ref _)) _ _ _); k_dflt (refine ne_ints_same ?_ (by is_list) (by is_list) (by l_ints) (by l_ints) (by ke_room) ?_; (first | rfl | assumption))) | (k_here; (with_reducible show wpAny _ _ (compareOp CmpOp.Eq (Value.ref _) (Value.ref _)) _ _ _); k_dflt (refine eq_ints_same ?_ (by is_list) (by is_list) (by l_ints) (by l_ints) (by ke_room) ?_; (first | rfl | assumption))) | (k_here; (with_reducible show wpAny _ _ (binaryOp _ (Value.ref _) (Value.ref _)) _ _ _); k_dflt (refine add_strs (by k_asm) (by k_asm) (by exact ⟨_, News.get (by k_asm) (by k_mem), rfl, _, rfl⟩) (by exact ⟨_, News.get (by k_asm) (by k_mem), rfl, _, rfl⟩) (by first | assumption | exact .cons _ _ .nil | exact .nil) (by first | assumption | exact .cons _ _ .nil | exact .nil) (by ((try simp only [List.length_append, List.length_map, List.length_cons, List.length_nil]); omega)) ?_); intro D' ws' h' F' N' l1 hI'; (try k_sweep)) | (k_unfold; (try dsimp only)) | (k_end; kc_close) | walk1 | (dsimp only; walk1) | (leave1; walk_say "STEP leave1"; (try dsimp only)) | fail "no step")); all_goals (try (first | (refine hQo _ _ _ _ _ _ (by k_asm) (by k_asm) ?_; intro kF kN; (try dsimp only [valOf])) | (refine hEo _ _ _ ?_; (repeat' (first | (k_here; (with_reducible show wpAny _ _ (compareOp CmpOp.NotEq (Value.ref _) (Value.ref _)) _ _ _); k_dflt (refine ne_ints_same ?_ (by is_list) (by is_list) (by l_ints) (by l_ints) (by ke_room) ?_; (first | rfl | assumption))) | (k_here; (with_reducible show wpAny _ _ (compareOp CmpOp.Eq (Value.ref _) (Value.ref _)) _ _ _); k_dflt (refine eq_ints_same ?_ (by is_list) (by is_list) (by l_ints) (by l_ints) (by ke_room) ?_; (first | rfl | assumption))) | (k_here; (with_reducible show wpAny _ _ (binaryOp _ (Value.ref _) (Value.ref _)) _ _ _); k_dflt (refine add_strs (by k_asm) (by k_asm) (by exact ⟨_, News.get (by k_asm) (by k_mem), rfl, _, rfl⟩) (by exact ⟨_, News.get (by k_asm) (by k_mem), rfl, _, rfl⟩) (by first | assumption | exact .cons _ _ .nil | exact .nil) (by first | assumption | exact .cons _ _ .nil | exact .nil) (by ((try simp only [List.length_append, List.length_map, List.length_cons, List.length_nil]); omega)) ?_); intro D' ws' h' F' N' l1 hI'; (try k_sweep)) | (k_unfold; (try dsimp only)) | (k_end; kc_close) | walk1 | (dsimp only; walk1) | (leave1; walk_say "STEP leave1"; (try dsimp only)) | fail "no step"))))))
        · exact ⟨_, _, _, rfl, by k_asm, by k_asm, by k_asm, .inr ⟨_, .tail _ hD1, rfl, _, rfl⟩, rfl, _, congrArg (Value.str · _) (nmn_leaf (by assumption) (by assumption))⟩
        · exact CutL.mk hQc rfl (by k_asm) rfl (fun y hy => by simp only [frU, if_neg hy]) (by k_asm) (mid_to (by k_mem) (fun p hp => by (repeat (first | exact hp | refine List.mem_cons_of_mem _ ?_)))) (O1.more (fun q hq => Nat.ne_of_lt (‹∀ p ∈ _, p.1 < _› q (by (repeat (first | exact hq | refine List.mem_cons_of_mem _ ?_)))))) (fun p hp => .tail _ hp) (.head _) (by assumption)
  rintro _ h7 tk7 R3 D7 vs7 c7 rfl F7 N7 O3 hs3 hD7 hS7
  try dsimp only
  have IM3 := IM2.sub hs3
  have ho3 := ho2.sub hs3
  have hc3 := hs3 _ hc2
  have hduP : (dueL (wLeft M ns old) (single || (wName M ns old == Str.ofString "/d/f~"))).Perm (leaves T1.abs) := due_perm H1 (by rw [hf1]; rfl) A1.t hno1 A1.s
  have hnew := A1.newest
  have hnin := A1.few
  have I3 := O3.inn
  have hii3 := I3.inst
  have hid3 := I3.dict
  have hDu3 : (D7, listOf vs7.toArray c7) ∈ T1.objs w ta ++ R3 := List.mem_append_right _ hD7
  have hcT3 : (cl0, listOf cvs.toArray cn') ∈ T1.objs w ta ++ R3 := List.mem_append_right _ hc3
  have hMT3 : ManIn w (T1.objs w ta ++ R3) ma M := IM3.sub fun p hp => List.mem_append_right _ hp
  have hv64 : vs7.length < 64 := by
    have e1 := StrsAre.length hS7
    have e2 := leaves_len H1 hduP
    omega
  clear I1 hii1 hid1 hc1 hD1
  (repeat' ((fail_if_success (with_reducible show wpAny _ _ (exec (Stmt.If _ _ _ _) _) _ _ _)); first | (k_here; (with_reducible show wpAny _ _ (compareOp CmpOp.NotEq (Value.ref _) (Value.ref _)) _ _ _); k_dflt (refine ne_ints_same ?_ (by is_list) (by is_list) (by l_ints) (by l_ints) (by ke_room) ?_; (first | rfl | assumption))) | (k_here; (with_reducible show wpAny _ _ (compareOp CmpOp.Eq (Value.ref _) (Value.ref _)) _ _ _); k_dflt (refine eq_ints_same ?_ (by is_list) (by is_list) (by l_ints) (by l_ints) (by ke_room) ?_; (first | rfl | assumption))) | (k_here; (with_reducible show wpAny _ _ (binaryOp _ (Value.ref _) (Value.ref _)) _ _ _); k_dflt (refine add_strs (by k_asm) (by k_asm) (by exact ⟨_, News.get (by k_asm) (by k_mem), rfl, _, rfl⟩) (by exact ⟨_, News.get (by k_asm) (by k_mem), rfl, _, rfl⟩) (by first | assumption | exact .cons _ _ .nil | exact .nil) (by first | assumption | exact .cons _ _ .nil | exact .nil) (by ((try simp only [List.length_append, List.length_map, List.length_cons, List.length_nil]); omega)) ?_); intro D' ws' h' F' N' l1 hI'; (try k_sweep)) | (k_unfold; (try dsimp only)) | (k_end; wrow_close) | walk1 | (dsimp only; walk1) | (leave1; walk_say "STEP leave1"; try dsimp only) | fail "no step")); all_goals (try (first | (refine hQo _ _ _ _ _ _ (by k_asm) (by k_asm) ?_; intro kF kN; (try dsimp only [valOf])) | (refine hEo _ _ _ ?_; (repeat' (first | (k_here; (with_reducible show wpAny _ _ (compareOp CmpOp.NotEq (Value.ref _) (Value.ref _)) _ _ _); k_dflt (refine ne_ints_same ?_ (by is_list) (by is_list) (by l_ints) (by l_ints) (by ke_room) ?_; (first | rfl | assumption))) | (k_here; (with_reducible show wpAny _ _ (compareOp CmpOp.Eq (Value.ref _) (Value.ref _)) _ _ _); k_dflt (refine eq_ints_same ?_ (by is_list) (by is_list) (by l_ints) (by l_ints) (by ke_room) ?_; (first | rfl | assumption))) | (k_here; (with_reducible show wpAny _ _ (binaryOp _ (Value.ref _) (Value.ref _)) _ _ _); k_dflt (refine add_strs (by k_asm) (by k_asm) (by exact ⟨_, News.get (by k_asm) (by k_mem), rfl, _, rfl⟩) (by exact ⟨_, News.get (by k_asm) (by k_mem), rfl, _, rfl⟩) (by first | assumption | exact .cons _ _ .nil | exact .nil) (by first | assumption | exact .cons _ _ .nil | exact .nil) (by ((try simp only [List.length_append, List.length_map, List.length_cons, List.length_nil]); omega)) ?_); intro D' ws' h' F' N' l1 hI'; (try k_sweep)) | (k_unfold; (try dsimp only)) | (k_end; kc_close) | walk1 | (dsimp only; walk1) | (leave1; walk_say "STEP leave1"; (try dsimp only)) | fail "no step")))))
  refine cutA (fun fl => fl = Flow.next) F7 N7 (fun Qc hQc => ?_) ?_
  · (repeat' ((fail_if_success (with_reducible show wpAny _ _ (call (Value.ref 332) _) _ _ _)); first | (k_here; (with_reducible show wpAny _ _ (compareOp CmpOp.NotEq (Value.ref _) (Value.ref _)) _ _ _); k_dflt (refine ne_ints_same ?_ (by is_list) (by is_list) (by l_ints) (by l_ints) (by ke_room) ?_; (first | rfl | assumption))) | (k_here; (with_reducible show wpAny _ _ (compareOp CmpOp.Eq (Value.ref _) (Value.ref _)) _ _ _); k_dflt (refine eq_ints_same ?_ (by is_list) (by is_list) (by l_ints) (by l_ints) (by ke_room) ?_; (first | rfl | assumption))) | (k_here; (with_reducible show wpAny _ _ (binaryOp _ (Value.ref _) (Value.ref _)) _ _ _); k_dflt (refine add_strs (by k_asm) (by k_asm) (by exact ⟨_, News.get (by k_asm) (by k_mem), rfl, _, rfl⟩) (by exact ⟨_, News.get (by k_asm) (by k_mem), rfl, _, rfl⟩) (by first | assumption | exact .cons _ _ .nil | exact .nil) (by first | assumption | exact .cons _ _ .nil | exact .nil) (by ((try simp only [List.length_append, List.length_map, List.length_cons, List.length_nil]); omega)) ?_); intro D' ws' h' F' N' l1 hI'; (try k_sweep)) | (k_unfold; (try dsimp only)) | (k_end; wrow_close) | walk1 | (dsimp only; walk1) | (leave1; walk_say "STEP leave1"; try dsimp only) | fail "no step")); all_goals (try (first | (refine hQo _ _ _ _ _ _ (by k_asm) (by k_asm) ?_; intro kF kN; (try dsimp only [valOf])) | (refine hEo _ _ _ ?_; (repeat' (first | (k_here; (with_reducible show wpAny _ _ (compareOp CmpOp.NotEq (Value.ref _) (Value.ref _)) _ _ _); k_dflt (refine ne_ints_same ?_ (by is_list) (by is_list) (by l_ints) (by l_ints) (by ke_room) ?_; (first | rfl | assumption))) | (k_here; (with_reducible show wpAny _ _ (compareOp CmpOp.Eq (Value.ref _) (Value.ref _)) _ _ _); k_dflt (refine eq_ints_same ?_ (by is_list) (by is_list) (by l_ints) (by l_ints) (by ke_room) ?_; (first | rfl | assumption))) | (k_here; (with_reducible show wpAny _ _ (binaryOp _ (Value.ref _) (Value.ref _)) _ _ _); k_dflt (refine add_strs (by k_asm) (by k_asm) (by exact ⟨_, News.get (by k_asm) (by k_mem), rfl, _, rfl⟩) (by exact ⟨_, News.get (by k_asm) (by k_mem), rfl, _, rfl⟩) (by first | assumption | exact .cons _ _ .nil | exact .nil) (by first | assumption | exact .cons _ _ .nil | exact .nil) (by ((try simp only [List.length_append, List.length_map, List.length_cons, List.length_nil]); omega)) ?_); intro D' ws' h' F' N' l1 hI'; (try k_sweep)) | (k_unfold; (try dsimp only)) | (k_end; kc_close) | walk1 | (dsimp only; walk1) | (leave1; walk_say "STEP leave1"; (try dsimp only)) | fail "no step")))))
    refine Call.useS (C := c_listed I3 H1) (ret := ?_); rintro _ _ h8 tk8 ⟨D8, vs8, ss8, c8, rfl, rfl, l8, S8, so8, P8⟩ F8 N8; (try dsimp only)
    (repeat' ((fail_if_success (with_reducible show wpAny _ _ (call (Value.builtin _) _) _ _ _)); first | (k_here; (with_reducible show wpAny _ _ (compareOp CmpOp.NotEq (Value.ref _) (Value.ref _)) _ _ _); k_dflt (refine ne_ints_same ?_ (by is_list) (by is_list) (by l_ints) (by l_ints) (by ke_room) ?_; (first | rfl | assumption))) | (k_here; (with_reducible show wpAny _ _ (compareOp CmpOp.Eq (Value.ref _) (Value.ref _)) _ _ _); k_dflt (refine eq_ints_same ?_ (by is_list) (by is_list) (by l_ints) (by l_ints) (by ke_room) ?_; (first | rfl | assumption))) | (k_here; (with_reducible show wpAny _ _ (binaryOp _ (Value.ref _) (Value.ref _)) _ _ _); k_dflt (refine add_strs (by k_asm) (by k_asm) (by exact ⟨_, News.get (by k_asm) (by k_mem), rfl, _, rfl⟩) (by exact ⟨_, News.get (by k_asm) (by k_mem), rfl, _, rfl⟩) (by first | assumption | exact .cons _ _ .nil | exact .nil) (by first | assumption | exact .cons _ _ .nil | exact .nil) (by ((try simp only [List.length_append, List.length_map, List.length_cons, List.length_nil]); omega)) ?_); intro D' ws' h' F' N' l1 hI'; (try k_sweep)) | (k_unfold; (try dsimp only)) | (k_end; wrow_close) | walk1 | (dsimp only; walk1) | (leave1; walk_say "STEP leave1"; try dsimp only) | fail "no step")); all_goals (try (first | (refine hQo _ _ _ _ _ _ (by k_asm) (by k_asm) ?_; intro kF kN; (try dsimp only [valOf])) | (refine hEo _ _ _ ?_; (repeat' (first | (k_here; (with_reducible show wpAny _ _ (compareOp CmpOp.NotEq (Value.ref _) (Value.ref _)) _ _ _); k_dflt (refine ne_ints_same ?_ (by is_list) (by is_list) (by l_ints) (by l_ints) (by ke_room) ?_; (first | rfl | assumption))) | (k_here; (with_reducible show wpAny _ _ (compareOp CmpOp.Eq (Value.ref _) (Value.ref _)) _ _ _); k_dflt (refine eq_ints_same ?_ (by is_list) (by is_list) (by l_ints) (by l_ints) (by ke_room) ?_; (first | rfl | assumption))) | (k_here; (with_reducible show wpAny _ _ (binaryOp _ (Value.ref _) (Value.ref _)) _ _ _); k_dflt (refine add_strs (by k_asm) (by k_asm) (by exact ⟨_, News.get (by k_asm) (by k_mem), rfl, _, rfl⟩) (by exact ⟨_, News.get (by k_asm) (by k_mem), rfl, _, rfl⟩) (by first | assumption | exact .cons _ _ .nil | exact .nil) (by first | assumption | exact .cons _ _ .nil | exact .nil) (by ((try simp only [List.length_append, List.length_map, List.length_cons, List.length_nil]); omega)) ?_); intro D' ws' h' F' N' l1 hI'; (try k_sweep)) | (k_unfold; (try dsimp only)) | (k_end; kc_close) | walk1 | (dsimp only; walk1) | (leave1; walk_say "STEP leave1"; (try dsimp only)) | fail "no step")))))
    refine sorted_N_str (by k_asm) (by k_asm) ⟨_, (N8 _ (.tail _ hDu3)).1, rfl, _, rfl⟩ hS7 hv64 ?_
    intro h9 vs9 ss9 e9 F9 N9 S9 P9 so9
    have es : ss8 = ss9 := sortedS_same so8 so9 (P8.trans (hduP.symm.trans P9.symm))
    subst es
    (repeat' ((fail_if_success (with_reducible show wpAny _ _ (compareOp _ _ _) _ _ _)); first | (k_here; (with_reducible show wpAny _ _ (compareOp CmpOp.NotEq (Value.ref _) (Value.ref _)) _ _ _); k_dflt (refine ne_ints_same ?_ (by is_list) (by is_list) (by l_ints) (by l_ints) (by ke_room) ?_; (first | rfl | assumption))) | (k_here; (with_reducible show wpAny _ _ (compareOp CmpOp.Eq (Value.ref _) (Value.ref _)) _ _ _); k_dflt (refine eq_ints_same ?_ (by is_list) (by is_list) (by l_ints) (by l_ints) (by ke_room) ?_; (first | rfl | assumption))) | (k_here; (with_reducible show wpAny _ _ (binaryOp _ (Value.ref _) (Value.ref _)) _ _ _); k_dflt (refine add_strs (by k_asm) (by k_asm) (by exact ⟨_, News.get (by k_asm) (by k_mem), rfl, _, rfl⟩) (by exact ⟨_, News.get (by k_asm) (by k_mem), rfl, _, rfl⟩) (by first | assumption | exact .cons _ _ .nil | exact .nil) (by first | assumption | exact .cons _ _ .nil | exact .nil) (by ((try simp only [List.length_append, List.length_map, List.length_cons, List.length_nil]); omega)) ?_); intro D' ws' h' F' N' l1 hI'; (try k_sweep)) | (k_unfold; (try dsimp only)) | (k_end; wrow_close) | walk1 | (dsimp only; walk1) | (leave1; walk_say "STEP leave1"; try dsimp only) | fail "no step")); all_goals (try (first | (refine hQo _ _ _ _ _ _ (by k_asm) (by k_asm) ?_; intro kF kN; (try dsimp only [valOf])) | (refine hEo _ _ _ ?_; (repeat' (first | (k_here; (with_reducible show wpAny _ _ (compareOp CmpOp.NotEq (Value.ref _) (Value.ref _)) _ _ _); k_dflt (refine ne_ints_same ?_ (by is_list) (by is_list) (by l_ints) (by l_ints) (by ke_room) ?_; (first | rfl | assumption))) | (k_here; (with_reducible show wpAny _ _ (compareOp CmpOp.Eq (Value.ref _) (Value.ref _)) _ _ _); k_dflt (refine eq_ints_same ?_ (by is_list) (by is_list) (by l_ints) (by l_ints) (by ke_room) ?_; (first | rfl | assumption))) | (k_here; (with_reducible show wpAny _ _ (binaryOp _ (Value.ref _) (Value.ref _)) _ _ _); k_dflt (refine add_strs (by k_asm) (by k_asm) (by exact ⟨_, News.get (by k_asm) (by k_mem), rfl, _, rfl⟩) (by exact ⟨_, News.get (by k_asm) (by k_mem), rfl, _, rfl⟩) (by first | assumption | exact .cons _ _ .nil | exact .nil) (by first | assumption | exact .cons _ _ .nil | exact .nil) (by ((try simp only [List.length_append, List.length_map, List.length_cons, List.length_nil]); omega)) ?_); intro D' ws' h' F' N' l1 hI'; (try k_sweep)) | (k_unfold; (try dsimp only)) | (k_end; kc_close) | walk1 | (dsimp only; walk1) | (leave1; walk_say "STEP leave1"; (try dsimp only)) | fail "no step")))))
    refine ne_strs_same (due_ok P8) ⟨_, (N9 _ (.tail _ (.head _))).1, rfl, _, rfl⟩ ⟨_, (N9 _ (.head _)).1, rfl, _, rfl⟩ S8 S9 (by ke_room) ?_
    rcases ho3 with ⟨e1, e2⟩ | ⟨l, ovs, oc, o', e1, e2, hm, hoi, hol⟩
    · subst e1
      ((repeat' (first | (k_here; (with_reducible show wpAny _ _ (compareOp CmpOp.NotEq (Value.ref _) (Value.ref _)) _ _ _); k_dflt (refine ne_ints_same ?_ (by is_list) (by is_list) (by l_ints) (by l_ints) (by ke_room) ?_; (first | rfl | assumption))) | (k_here; (with_reducible show wpAny _ _ (compareOp CmpOp.Eq (Value.ref _) (Value.ref _)) _ _ _); k_dflt (refine eq_ints_same ?_ (by is_list) (by is_list) (by l_ints) (by l_ints) (by ke_room) ?_; (first | rfl | assumption))) | (k_here; (with_reducible show wpAny _ _ (binaryOp _ (Value.ref _) (Value.ref _)) _ _ _); k_dflt (refine add_strs (by k_asm) (by k_asm) (by exact ⟨_, News.get (by k_asm) (by k_mem), rfl, _, rfl⟩) (by exact ⟨_, News.get (by k_asm) (by k_mem), rfl, _, rfl⟩) (by first | assumption | exact .cons _ _ .nil | exact .nil) (by first | assumption | exact .cons _ _ .nil | exact .nil) (by ((try simp only [List.length_append, List.length_map, List.length_cons, List.length_nil]); omega)) ?_); intro D' ws' h' F' N' l1 hI'; (try k_sweep)) | (k_unfold; (try dsimp only)) | (k_end; kc_close) | walk1 | (dsimp only; walk1) | (leave1; walk_say "STEP leave1"; (try dsimp only)) | fail "no step")); all_goals (try (first | (refine hQo _ _ _ _ _ _ (by k_asm) (by k_asm) ?_; intro kF kN; (try dsimp only [valOf])) | (refine hEo _ _ _ ?_; (repeat' (first | (k_here; (with_reducible show wpAny _ _ (compareOp CmpOp.NotEq (Value.ref _) (Value.ref _)) _ _ _); k_dflt (refine ne_ints_same ?_ (by is_list) (by is_list) (by l_ints) (by l_ints) (by ke_room) ?_; (first | rfl | assumption))) | (k_here; (with_reducible show wpAny _ _ (compareOp CmpOp.Eq (Value.ref _) (Value.ref _)) _ _ _); k_dflt (refine eq_ints_same ?_ (by is_list) (by is_list) (by l_ints) (by l_ints) (by ke_room) ?_; (first | rfl | assumption))) | (k_here; (with_reducible show wpAny _ _ (binaryOp _ (Value.ref _) (Value.ref _)) _ _ _); k_dflt (refine add_strs (by k_asm) (by k_asm) (by exact ⟨_, News.get (by k_asm) (by k_mem), rfl, _, rfl⟩) (by exact ⟨_, News.get (by k_asm) (by k_mem), rfl, _, rfl⟩) (by first | assumption | exact .cons _ _ .nil | exact .nil) (by first | assumption | exact .cons _ _ .nil | exact .nil) (by ((try simp only [List.length_append, List.length_map, List.length_cons, List.length_nil]); omega)) ?_); intro D' ws' h' F' N' l1 hI'; (try k_sweep)) | (k_unfold; (try dsimp only)) | (k_end; kc_close) | walk1 | (dsimp only; walk1) | (leave1; walk_say "STEP leave1"; (try dsimp only)) | fail "no step"))))))
      exact CutA.mk hQc rfl (by k_asm) (by k_asm) (fun p hp => by (repeat (first | exact hp | refine List.mem_cons_of_mem _ ?_)))
    · subst e1
      have hnn : (newestN M g1 != wName M ns old) = false := by rw [hnew o' e2]; simp
      ((repeat' (first | (k_here; (with_reducible show wpAny _ _ (compareOp CmpOp.NotEq (Value.ref _) (Value.ref _)) _ _ _); k_dflt (refine ne_ints_same ?_ (by is_list) (by is_list) (by l_ints) (by l_ints) (by ke_room) ?_; (first | rfl | assumption))) | (k_here; (with_reducible show wpAny _ _ (compareOp CmpOp.Eq (Value.ref _) (Value.ref _)) _ _ _); k_dflt (refine eq_ints_same ?_ (by is_list) (by is_list) (by l_ints) (by l_ints) (by ke_room) ?_; (first | rfl | assumption))) | (k_here; (with_reducible show wpAny _ _ (binaryOp _ (Value.ref _) (Value.ref _)) _ _ _); k_dflt (refine add_strs (by k_asm) (by k_asm) (by exact ⟨_, News.get (by k_asm) (by k_mem), rfl, _, rfl⟩) (by exact ⟨_, News.get (by k_asm) (by k_mem), rfl, _, rfl⟩) (by first | assumption | exact .cons _ _ .nil | exact .nil) (by first | assumption | exact .cons _ _ .nil | exact .nil) (by ((try simp only [List.length_append, List.length_map, List.length_cons, List.length_nil]); omega)) ?_); intro D' ws' h' F' N' l1 hI'; (try k_sweep)) | (k_unfold; (try dsimp only)) | (k_end; kc_close) | walk1 | (dsimp only; walk1) | (leave1; walk_say "STEP leave1"; (try dsimp only)) | fail "no step")); all_goals (try (first | (refine hQo _ _ _ _ _ _ (by k_asm) (by k_asm) ?_; intro kF kN; (try dsimp only [valOf])) | (refine hEo _ _ _ ?_; (repeat' (first | (k_here; (with_reducible show wpAny _ _ (compareOp CmpOp.NotEq (Value.ref _) (Value.ref _)) _ _ _); k_dflt (refine ne_ints_same ?_ (by is_list) (by is_list) (by l_ints) (by l_ints) (by ke_room) ?_; (first | rfl | assumption))) | (k_here; (with_reducible show wpAny _ _ (compareOp CmpOp.Eq (Value.ref _) (Value.ref _)) _ _ _); k_dflt (refine eq_ints_same ?_ (by is_list) (by is_list) (by l_ints) (by l_ints) (by ke_room) ?_; (first | rfl | assumption))) | (k_here; (with_reducible show wpAny _ _ (binaryOp _ (Value.ref _) (Value.ref _)) _ _ _); k_dflt (refine add_strs (by k_asm) (by k_asm) (by exact ⟨_, News.get (by k_asm) (by k_mem), rfl, _, rfl⟩) (by exact ⟨_, News.get (by k_asm) (by k_mem), rfl, _, rfl⟩) (by first | assumption | exact .cons _ _ .nil | exact .nil) (by first | assumption | exact .cons _ _ .nil | exact .nil) (by ((try simp only [List.length_append, List.length_map, List.length_cons, List.length_nil]); omega)) ?_); intro D' ws' h' F' N' l1 hI'; (try k_sweep)) | (k_unfold; (try dsimp only)) | (k_end; kc_close) | walk1 | (dsimp only; walk1) | (leave1; walk_say "STEP leave1"; (try dsimp only)) | fail "no step"))))))
      exact CutA.mk hQc rfl (by k_asm) (by k_asm) (fun p hp => by (repeat (first | exact hp | refine List.mem_cons_of_mem _ ?_)))
  rintro _ h10 tk10 rfl F10 N10
  try dsimp only
  obtain ⟨A2, hbt2⟩ := A1.again (codes' := cns ++ [9]) hN hok
  (repeat' ((fail_if_success (with_reducible show wpAny _ _ (exec (Stmt.If _ _ _ _) _) _ _ _)); first | (k_here; (with_reducible show wpAny _ _ (compareOp CmpOp.NotEq (Value.ref _) (Value.ref _)) _ _ _); k_dflt (refine ne_ints_same ?_ (by is_list) (by is_list) (by l_ints) (by l_ints) (by ke_room) ?_; (first | rfl | assumption))) | (k_here; (with_reducible show wpAny _ _ (compareOp CmpOp.Eq (Value.ref _) (Value.ref _)) _ _ _); k_dflt (refine eq_ints_same ?_ (by is_list) (by is_list) (by l_ints) (by l_ints) (by ke_room) ?_; (first | rfl | assumption))) | (k_here; (with_reducible show wpAny _ _ (binaryOp _ (Value.ref _) (Value.ref _)) _ _ _); k_dflt (refine add_strs (by k_asm) (by k_asm) (by exact ⟨_, News.get (by k_asm) (by k_mem), rfl, _, rfl⟩) (by exact ⟨_, News.get (by k_asm) (by k_mem), rfl, _, rfl⟩) (by first | assumption | exact .cons _ _ .nil | exact .nil) (by first | assumption | exact .cons _ _ .nil | exact .nil) (by ((try simp only [List.length_append, List.length_map, List.length_cons, List.length_nil]); omega)) ?_); intro D' ws' h' F' N' l1 hI'; (try k_sweep)) | (k_unfold; (try dsimp only)) | (k_end; wrow_close) | walk1 | (dsimp only; walk1) | (leave1; walk_say "STEP leave1"; try dsimp only) | fail "no step")); all_goals (try (first | (refine hQo _ _ _ _ _ _ (by k_asm) (by k_asm) ?_; intro kF kN; (try dsimp only [valOf])) | (refine hEo _ _ _ ?_; (repeat' (first | (k_here; (with_reducible show wpAny _ _ (compareOp CmpOp.NotEq (Value.ref _) (Value.ref _)) _ _ _); k_dflt (refine ne_ints_same ?_ (by is_list) (by is_list) (by l_ints) (by l_ints) (by ke_room) ?_; (first | rfl | assumption))) | (k_here; (with_reducible show wpAny _ _ (compareOp CmpOp.Eq (Value.ref _) (Value.ref _)) _ _ _); k_dflt (refine eq_ints_same ?_ (by is_list) (by is_list) (by l_ints) (by l_ints) (by ke_room) ?_; (first | rfl | assumption))) | (k_here; (with_reducible show wpAny _ _ (binaryOp _ (Value.ref _) (Value.ref _)) _ _ _); k_dflt (refine add_strs (by k_asm) (by k_asm) (by exact ⟨_, News.get (by k_asm) (by k_mem), rfl, _, rfl⟩) (by exact ⟨_, News.get (by k_asm) (by k_mem), rfl, _, rfl⟩) (by first | assumption | exact .cons _ _ .nil | exact .nil) (by first | assumption | exact .cons _ _ .nil | exact .nil) (by ((try simp only [List.length_append, List.length_map, List.length_cons, List.length_nil]); omega)) ?_); intro D' ws' h' F' N' l1 hI'; (try k_sweep)) | (k_unfold; (try dsimp only)) | (k_end; kc_close) | walk1 | (dsimp only; walk1) | (leave1; walk_say "STEP leave1"; (try dsimp only)) | fail "no step")))))
  refine cutT g1 (bkAll M g1 true ++ putOps M (cns ++ [9])) (fun fl => fl = Flow.next) F10 O3 (fun Qc hQc => ?_) ?_
  · (repeat' ((fail_if_success (with_reducible show wpAny _ _ (call (Value.ref 454) _) _ _ _)); first | (k_here; (with_reducible show wpAny _ _ (compareOp CmpOp.NotEq (Value.ref _) (Value.ref _)) _ _ _); k_dflt (refine ne_ints_same ?_ (by is_list) (by is_list) (by l_ints) (by l_ints) (by ke_room) ?_; (first | rfl | assumption))) | (k_here; (with_reducible show wpAny _ _ (compareOp CmpOp.Eq (Value.ref _) (Value.ref _)) _ _ _); k_dflt (refine eq_ints_same ?_ (by is_list) (by is_list) (by l_ints) (by l_ints) (by ke_room) ?_; (first | rfl | assumption))) | (k_here; (with_reducible show wpAny _ _ (binaryOp _ (Value.ref _) (Value.ref _)) _ _ _); k_dflt (refine add_strs (by k_asm) (by k_asm) (by exact ⟨_, News.get (by k_asm) (by k_mem), rfl, _, rfl⟩) (by exact ⟨_, News.get (by k_asm) (by k_mem), rfl, _, rfl⟩) (by first | assumption | exact .cons _ _ .nil | exact .nil) (by first | assumption | exact .cons _ _ .nil | exact .nil) (by ((try simp only [List.length_append, List.length_map, List.length_cons, List.length_nil]); omega)) ?_); intro D' ws' h' F' N' l1 hI'; (try k_sweep)) | (k_unfold; (try dsimp only)) | (k_end; wrow_close) | walk1 | (dsimp only; walk1) | (leave1; walk_say "STEP leave1"; try dsimp only) | fail "no step")); all_goals (try (first | (refine hQo _ _ _ _ _ _ (by k_asm) (by k_asm) ?_; intro kF kN; (try dsimp only [valOf])) | (refine hEo _ _ _ ?_; (repeat' (first | (k_here; (with_reducible show wpAny _ _ (compareOp CmpOp.NotEq (Value.ref _) (Value.ref _)) _ _ _); k_dflt (refine ne_ints_same ?_ (by is_list) (by is_list) (by l_ints) (by l_ints) (by ke_room) ?_; (first | rfl | assumption))) | (k_here; (with_reducible show wpAny _ _ (compareOp CmpOp.Eq (Value.ref _) (Value.ref _)) _ _ _); k_dflt (refine eq_ints_same ?_ (by is_list) (by is_list) (by l_ints) (by l_ints) (by ke_room) ?_; (first | rfl | assumption))) | (k_here; (with_reducible show wpAny _ _ (binaryOp _ (Value.ref _) (Value.ref _)) _ _ _); k_dflt (refine add_strs (by k_asm) (by k_asm) (by exact ⟨_, News.get (by k_asm) (by k_mem), rfl, _, rfl⟩) (by exact ⟨_, News.get (by k_asm) (by k_mem), rfl, _, rfl⟩) (by first | assumption | exact .cons _ _ .nil | exact .nil) (by first | assumption | exact .cons _ _ .nil | exact .nil) (by ((try simp only [List.length_append, List.length_map, List.length_cons, List.length_nil]); omega)) ?_); intro D' ws' h' F' N' l1 hI'; (try k_sweep)) | (k_unfold; (try dsimp only)) | (k_end; kc_close) | walk1 | (dsimp only; walk1) | (leave1; walk_say "STEP leave1"; (try dsimp only)) | fail "no step")))))
    have hI5 := ‹IntsAre _ (cns ++ [9])›
    obtain ⟨q1, q2⟩ := ‹_ < _ ∧ AllLt _ (T1.objs w ta ++ R3)›
    obtain ⟨O5, N5', hm5⟩ := Own.carry O3 (news_fst (by assumption)) (allLt_to q2)
    refine Call.useS (C := c_ended0 O5 H1 IM3.cons (fun e => by cases e) hm5 hI5 (by simp only [List.length_append, List.length_cons, List.length_nil]; omega) (fun e => by cases e) hbt2 hneg1) (ret := ?_); rintro _ _ h12 tk12 ⟨rfl, T2, rfl, O6, d6, H6⟩ F12 N12; (try dsimp only)
    generalize hg2 : run (bkAll M g1 true ++ putOps M (cns ++ [9])) g1 = g2 at H6 A2
    have hduP2 : (dueL (wLeft M ns old) (single || (wName M ns old == Str.ofString "/d/f~"))).Perm (leaves T2.abs) := due_perm H6 (by rw [A2.f]; rfl) A2.t A2.no A2.s
    have I6 := O6.inn
    have hii6 := I6.inst
    have hid6 := I6.dict
    have hDu6 := own_in2 O6 hD7
    clear H1 I3 hii3 hid3 hDu3 N5'
    (repeat' ((fail_if_success (with_reducible show wpAny _ _ (call (Value.ref 332) _) _ _ _)); first | (k_here; (with_reducible show wpAny _ _ (compareOp CmpOp.NotEq (Value.ref _) (Value.ref _)) _ _ _); k_dflt (refine ne_ints_same ?_ (by is_list) (by is_list) (by l_ints) (by l_ints) (by ke_room) ?_; (first | rfl | assumption))) | (k_here; (with_reducible show wpAny _ _ (compareOp CmpOp.Eq (Value.ref _) (Value.ref _)) _ _ _); k_dflt (refine eq_ints_same ?_ (by is_list) (by is_list) (by l_ints) (by l_ints) (by ke_room) ?_; (first | rfl | assumption))) | (k_here; (with_reducible show wpAny _ _ (binaryOp _ (Value.ref _) (Value.ref _)) _ _ _); k_dflt (refine add_strs (by k_asm) (by k_asm) (by exact ⟨_, News.get (by k_asm) (by k_mem), rfl, _, rfl⟩) (by exact ⟨_, News.get (by k_asm) (by k_mem), rfl, _, rfl⟩) (by first | assumption | exact .cons _ _ .nil | exact .nil) (by first | assumption | exact .cons _ _ .nil | exact .nil) (by ((try simp only [List.length_append, List.length_map, List.length_cons, List.length_nil]); omega)) ?_); intro D' ws' h' F' N' l1 hI'; (try k_sweep)) | (k_unfold; (try dsimp only)) | (k_end; wrow_close) | walk1 | (dsimp only; walk1) | (leave1; walk_say "STEP leave1"; try dsimp only) | fail "no step")); all_goals (try (first | (refine hQo _ _ _ _ _ _ (by k_asm) (by k_asm) ?_; intro kF kN; (try dsimp only [valOf])) | (refine hEo _ _ _ ?_; (repeat' (first | (k_here; (with_reducible show wpAny _ _ (compareOp CmpOp.NotEq (Value.ref _) (Value.ref _)) _ _ _); k_dflt (refine ne_ints_same ?_ (by is_list) (by is_list) (by l_ints) (by l_ints) (by ke_room) ?_; (first | rfl | assumption))) | (k_here; (with_reducible show wpAny _ _ (compareOp CmpOp.Eq (Value.ref _) (Value.ref _)) _ _ _); k_dflt (refine eq_ints_same ?_ (by is_list) (by is_list) (by l_ints) (by l_ints) (by ke_room) ?_; (first | rfl | assumption))) | (k_here; (with_reducible show wpAny _ _ (binaryOp _ (Value.ref _) (Value.ref _)) _ _ _); k_dflt (refine add_strs (by k_asm) (by k_asm) (by exact ⟨_, News.get (by k_asm) (by k_mem), rfl, _, rfl⟩) (by exact ⟨_, News.get (by k_asm) (by k_mem), rfl, _, rfl⟩) (by first | assumption | exact .cons _ _ .nil | exact .nil) (by first | assumption | exact .cons _ _ .nil | exact .nil) (by ((try simp only [List.length_append, List.length_map, List.length_cons, List.length_nil]); omega)) ?_); intro D' ws' h' F' N' l1 hI'; (try k_sweep)) | (k_unfold; (try dsimp only)) | (k_end; kc_close) | walk1 | (dsimp only; walk1) | (leave1; walk_say "STEP leave1"; (try dsimp only)) | fail "no step")))))
    refine Call.useS (C := c_listed I6 H6) (ret := ?_); rintro _ _ h13 tk13 ⟨D8, vs8, ss8, c8, rfl, rfl, l8, S8, so8, P8⟩ F13 N13; (try dsimp only)
    (repeat' ((fail_if_success (with_reducible show wpAny _ _ (call (Value.builtin _) _) _ _ _)); first | (k_here; (with_reducible show wpAny _ _ (compareOp CmpOp.NotEq (Value.ref _) (Value.ref _)) _ _ _); k_dflt (refine ne_ints_same ?_ (by is_list) (by is_list) (by l_ints) (by l_ints) (by ke_room) ?_; (first | rfl | assumption))) | (k_here; (with_reducible show wpAny _ _ (compareOp CmpOp.Eq (Value.ref _) (Value.ref _)) _ _ _); k_dflt (refine eq_ints_same ?_ (by is_list) (by is_list) (by l_ints) (by l_ints) (by ke_room) ?_; (first | rfl | assumption))) | (k_here; (with_reducible show wpAny _ _ (binaryOp _ (Value.ref _) (Value.ref _)) _ _ _); k_dflt (refine add_strs (by k_asm) (by k_asm) (by exact ⟨_, News.get (by k_asm) (by k_mem), rfl, _, rfl⟩) (by exact ⟨_, News.get (by k_asm) (by k_mem), rfl, _, rfl⟩) (by first | assumption | exact .cons _ _ .nil | exact .nil) (by first | assumption | exact .cons _ _ .nil | exact .nil) (by ((try simp only [List.length_append, List.length_map, List.length_cons, List.length_nil]); omega)) ?_); intro D' ws' h' F' N' l1 hI'; (try k_sweep)) | (k_unfold; (try dsimp only)) | (k_end; wrow_close) | walk1 | (dsimp only; walk1) | (leave1; walk_say "STEP leave1"; try dsimp only) | fail "no step")); all_goals (try (first | (refine hQo _ _ _ _ _ _ (by k_asm) (by k_asm) ?_; intro kF kN; (try dsimp only [valOf])) | (refine hEo _ _ _ ?_; (repeat' (first | (k_here; (with_reducible show wpAny _ _ (compareOp CmpOp.NotEq (Value.ref _) (Value.ref _)) _ _ _); k_dflt (refine ne_ints_same ?_ (by is_list) (by is_list) (by l_ints) (by l_ints) (by ke_room) ?_; (first | rfl | assumption))) | (k_here; (with_reducible show wpAny _ _ (compareOp CmpOp.Eq (Value.ref _) (Value.ref _)) _ _ _); k_dflt (refine eq_ints_same ?_ (by is_list) (by is_list) (by l_ints) (by l_ints) (by ke_room) ?_; (first | rfl | assumption))) | (k_here; (with_reducible show wpAny _ _ (binaryOp _ (Value.ref _) (Value.ref _)) _ _ _); k_dflt (refine add_strs (by k_asm) (by k_asm) (by exact ⟨_, News.get (by k_asm) (by k_mem), rfl, _, rfl⟩) (by exact ⟨_, News.get (by k_asm) (by k_mem), rfl, _, rfl⟩) (by first | assumption | exact .cons _ _ .nil | exact .nil) (by first | assumption | exact .cons _ _ .nil | exact .nil) (by ((try simp only [List.length_append, List.length_map, List.length_cons, List.length_nil]); omega)) ?_); intro D' ws' h' F' N' l1 hI'; (try k_sweep)) | (k_unfold; (try dsimp only)) | (k_end; kc_close) | walk1 | (dsimp only; walk1) | (leave1; walk_say "STEP leave1"; (try dsimp only)) | fail "no step")))))
    refine sorted_N_str (by k_asm) (by k_asm) ⟨_, (N13 _ (.tail _ hDu6)).1, rfl, _, rfl⟩ hS7 hv64 ?_
    intro h9 vs9 ss9 e9 F9 N9 S9 P9 so9
    have es : ss8 = ss9 := sortedS_same so8 so9 (P8.trans (hduP2.symm.trans P9.symm))
    subst es
    (repeat' ((fail_if_success (with_reducible show wpAny _ _ (compareOp _ _ _) _ _ _)); first | (k_here; (with_reducible show wpAny _ _ (compareOp CmpOp.NotEq (Value.ref _) (Value.ref _)) _ _ _); k_dflt (refine ne_ints_same ?_ (by is_list) (by is_list) (by l_ints) (by l_ints) (by ke_room) ?_; (first | rfl | assumption))) | (k_here; (with_reducible show wpAny _ _ (compareOp CmpOp.Eq (Value.ref _) (Value.ref _)) _ _ _); k_dflt (refine eq_ints_same ?_ (by is_list) (by is_list) (by l_ints) (by l_ints) (by ke_room) ?_; (first | rfl | assumption))) | (k_here; (with_reducible show wpAny _ _ (binaryOp _ (Value.ref _) (Value.ref _)) _ _ _); k_dflt (refine add_strs (by k_asm) (by k_asm) (by exact ⟨_, News.get (by k_asm) (by k_mem), rfl, _, rfl⟩) (by exact ⟨_, News.get (by k_asm) (by k_mem), rfl, _, rfl⟩) (by first | assumption | exact .cons _ _ .nil | exact .nil) (by first | assumption | exact .cons _ _ .nil | exact .nil) (by ((try simp only [List.length_append, List.length_map, List.length_cons, List.length_nil]); omega)) ?_); intro D' ws' h' F' N' l1 hI'; (try k_sweep)) | (k_unfold; (try dsimp only)) | (k_end; wrow_close) | walk1 | (dsimp only; walk1) | (leave1; walk_say "STEP leave1"; try dsimp only) | fail "no step")); all_goals (try (first | (refine hQo _ _ _ _ _ _ (by k_asm) (by k_asm) ?_; intro kF kN; (try dsimp only [valOf])) | (refine hEo _ _ _ ?_; (repeat' (first | (k_here; (with_reducible show wpAny _ _ (compareOp CmpOp.NotEq (Value.ref _) (Value.ref _)) _ _ _); k_dflt (refine ne_ints_same ?_ (by is_list) (by is_list) (by l_ints) (by l_ints) (by ke_room) ?_; (first | rfl | assumption))) | (k_here; (with_reducible show wpAny _ _ (compareOp CmpOp.Eq (Value.ref _) (Value.ref _)) _ _ _); k_dflt (refine eq_ints_same ?_ (by is_list) (by is_list) (by l_ints) (by l_ints) (by ke_room) ?_; (first | rfl | assumption))) | (k_here; (with_reducible show wpAny _ _ (binaryOp _ (Value.ref _) (Value.ref _)) _ _ _); k_dflt (refine add_strs (by k_asm) (by k_asm) (by exact ⟨_, News.get (by k_asm) (by k_mem), rfl, _, rfl⟩) (by exact ⟨_, News.get (by k_asm) (by k_mem), rfl, _, rfl⟩) (by first | assumption | exact .cons _ _ .nil | exact .nil) (by first | assumption | exact .cons _ _ .nil | exact .nil) (by ((try simp only [List.length_append, List.length_map, List.length_cons, List.length_nil]); omega)) ?_); intro D' ws' h' F' N' l1 hI'; (try k_sweep)) | (k_unfold; (try dsimp only)) | (k_end; kc_close) | walk1 | (dsimp only; walk1) | (leave1; walk_say "STEP leave1"; (try dsimp only)) | fail "no step")))))
    refine ne_strs_same (due_ok P8) ⟨_, (N9 _ (.tail _ (.head _))).1, rfl, _, rfl⟩ ⟨_, (N9 _ (.head _)).1, rfl, _, rfl⟩ S8 S9 (by ke_room) ?_
    ((repeat' (first | (k_here; (with_reducible show wpAny _ _ (compareOp CmpOp.NotEq (Value.ref _) (Value.ref _)) _ _ _); k_dflt (refine ne_ints_same ?_ (by is_list) (by is_list) (by l_ints) (by l_ints) (by ke_room) ?_; (first | rfl | assumption))) | (k_here; (with_reducible show wpAny _ _ (compareOp CmpOp.Eq (Value.ref _) (Value.ref _)) _ _ _); k_dflt (refine eq_ints_same ?_ (by is_list) (by is_list) (by l_ints) (by l_ints) (by ke_room) ?_; (first | rfl | assumption))) | (k_here; (with_reducible show wpAny _ _ (binaryOp _ (Value.ref _) (Value.ref _)) _ _ _); k_dflt (refine add_strs (by k_asm) (by k_asm) (by exact ⟨_, News.get (by k_asm) (by k_mem), rfl, _, rfl⟩) (by exact ⟨_, News.get (by k_asm) (by k_mem), rfl, _, rfl⟩) (by first | assumption | exact .cons _ _ .nil | exact .nil) (by first | assumption | exact .cons _ _ .nil | exact .nil) (by ((try simp only [List.length_append, List.length_map, List.length_cons, List.length_nil]); omega)) ?_); intro D' ws' h' F' N' l1 hI'; (try k_sweep)) | (k_unfold; (try dsimp only)) | (k_end; kc_close) | walk1 | (dsimp only; walk1) | (leave1; walk_say "STEP leave1"; (try dsimp only)) | fail "no step")); all_goals (try (first | (refine hQo _ _ _ _ _ _ (by k_asm) (by k_asm) ?_; intro kF kN; (try dsimp only [valOf])) | (refine hEo _ _ _ ?_; (repeat' (first | (k_here; (with_reducible show wpAny _ _ (compareOp CmpOp.NotEq (Value.ref _) (Value.ref _)) _ _ _); k_dflt (refine ne_ints_same ?_ (by is_list) (by is_list) (by l_ints) (by l_ints) (by ke_room) ?_; (first | rfl | assumption))) | (k_here; (with_reducible show wpAny _ _ (compareOp CmpOp.Eq (Value.ref _) (Value.ref _)) _ _ _); k_dflt (refine eq_ints_same ?_ (by is_list) (by is_list) (by l_ints) (by l_ints) (by ke_room) ?_; (first | rfl | assumption))) | (k_here; (with_reducible show wpAny _ _ (binaryOp _ (Value.ref _) (Value.ref _)) _ _ _); k_dflt (refine add_strs (by k_asm) (by k_asm) (by exact ⟨_, News.get (by k_asm) (by k_mem), rfl, _, rfl⟩) (by exact ⟨_, News.get (by k_asm) (by k_mem), rfl, _, rfl⟩) (by first | assumption | exact .cons _ _ .nil | exact .nil) (by first | assumption | exact .cons _ _ .nil | exact .nil) (by ((try simp only [List.length_append, List.length_map, List.length_cons, List.length_nil]); omega)) ?_); intro D' ws' h' F' N' l1 hI'; (try k_sweep)) | (k_unfold; (try dsimp only)) | (k_end; kc_close) | walk1 | (dsimp only; walk1) | (leave1; walk_say "STEP leave1"; (try dsimp only)) | fail "no step"))))))
    exact CutT.mk hQc rfl (by k_asm) (cb_drop (by assumption) (fun p hp => by (repeat (first | exact mem_less hp | refine List.mem_cons_of_mem _ ?_)))) ⟨T2, rfl, O6.tl, d6, by rw [hg2]; exact H6⟩
  rintro _ h11 tk11 n11 rfl F11 N11 ⟨T2, rfl, O4, d2, H2⟩
  try dsimp only
  generalize hg2 : run (bkAll M g1 true ++ putOps M (cns ++ [9])) g1 = g2 at H2 A2
  clear hg2 H1 I3 hii3 hid3 hDu3 hMT3 hcT3 A1 hf1 hno1 hnew hnin
  have hf2 := A2.f
  have I4 := O4.inn
  have hii4 := I4.inst
  have hid4 := I4.dict
  have hc4 : (cl0, listOf cvs.toArray cn') ∈ T2.objs w ta ++ R3 := List.mem_append_right _ hc3
  rcases name_cases (M := M) (old := old) hN hok with ⟨_, e⟩ | ⟨o, e0, hw, hwF, hwe⟩
  · have hne : (wName M ns old == Str.ofString "") = true := by rw [e]; decide +kernel
    ((repeat' (first | (k_here; (with_reducible show wpAny _ _ (compareOp CmpOp.NotEq (Value.ref _) (Value.ref _)) _ _ _); k_dflt (refine ne_ints_same ?_ (by is_list) (by is_list) (by l_ints) (by l_ints) (by ke_room) ?_; (first | rfl | assumption))) | (k_here; (with_reducible show wpAny _ _ (compareOp CmpOp.Eq (Value.ref _) (Value.ref _)) _ _ _); k_dflt (refine eq_ints_same ?_ (by is_list) (by is_list) (by l_ints) (by l_ints) (by ke_room) ?_; (first | rfl | assumption))) | (k_here; (with_reducible show wpAny _ _ (binaryOp _ (Value.ref _) (Value.ref _)) _ _ _); k_dflt (refine add_strs (by k_asm) (by k_asm) (by exact ⟨_, News.get (by k_asm) (by k_mem), rfl, _, rfl⟩) (by exact ⟨_, News.get (by k_asm) (by k_mem), rfl, _, rfl⟩) (by first | assumption | exact .cons _ _ .nil | exact .nil) (by first | assumption | exact .cons _ _ .nil | exact .nil) (by ((try simp only [List.length_append, List.length_map, List.length_cons, List.length_nil]); omega)) ?_); intro D' ws' h' F' N' l1 hI'; (try k_sweep)) | (k_unfold; (try dsimp only)) | (k_end; kc_close) | walk1 | (dsimp only; walk1) | (leave1; walk_say "STEP leave1"; (try dsimp only)) | fail "no step")); all_goals (try (first | (refine hQo _ _ _ _ _ _ (by k_asm) (by k_asm) ?_; intro kF kN; (try dsimp only [valOf])) | (refine hEo _ _ _ ?_; (repeat' (first | (k_here; (with_reducible show wpAny _ _ (compareOp CmpOp.NotEq (Value.ref _) (Value.ref _)) _ _ _); k_dflt (refine ne_ints_same ?_ (by is_list) (by is_list) (by l_ints) (by l_ints) (by ke_room) ?_; (first | rfl | assumption))) | (k_here; (with_reducible show wpAny _ _ (compareOp CmpOp.Eq (Value.ref _) (Value.ref _)) _ _ _); k_dflt (refine eq_ints_same ?_ (by is_list) (by is_list) (by l_ints) (by l_ints) (by ke_room) ?_; (first | rfl | assumption))) | (k_here; (with_reducible show wpAny _ _ (binaryOp _ (Value.ref _) (Value.ref _)) _ _ _); k_dflt (refine add_strs (by k_asm) (by k_asm) (by exact ⟨_, News.get (by k_asm) (by k_mem), rfl, _, rfl⟩) (by exact ⟨_, News.get (by k_asm) (by k_mem), rfl, _, rfl⟩) (by first | assumption | exact .cons _ _ .nil | exact .nil) (by first | assumption | exact .cons _ _ .nil | exact .nil) (by ((try simp only [List.length_append, List.length_map, List.length_cons, List.length_nil]); omega)) ?_); intro D' ws' h' F' N' l1 hI'; (try k_sweep)) | (k_unfold; (try dsimp only)) | (k_end; kc_close) | walk1 | (dsimp only; walk1) | (leave1; walk_say "STEP leave1"; (try dsimp only)) | fail "no step"))))))
    exact hret _ _ _ _ ⟨rfl, congrArg Value.bool hne⟩ (by k_asm) (cb_drop (by assumption) (fun p hp => by have h := List.mem_append_right (T2.objs w ta) (hs3 _ (hs2 _ hp)); (repeat (first | exact h | refine List.mem_cons_of_mem _ ?_))))
  · have hgw := A2.name o e0 hw
    rcases ho3 with ⟨e1, e2⟩ | ⟨l, ovs, oc, o', e1, e2, hm, hoi, hol⟩
    · rw [e2] at e0; cases e0
    · have e3 : o' = o := Option.some.inj (e2.symm.trans e0)
      subst e3
      subst e1
      have hm1 : (l, listOf ovs.toArray oc) ∈ T2.objs w ta ++ R3 := List.mem_append_right _ hm
      ((repeat' (first | (k_here; (with_reducible show wpAny _ _ (compareOp CmpOp.NotEq (Value.ref _) (Value.ref _)) _ _ _); k_dflt (refine ne_ints_same ?_ (by is_list) (by is_list) (by l_ints) (by l_ints) (by ke_room) ?_; (first | rfl | assumption))) | (k_here; (with_reducible show wpAny _ _ (compareOp CmpOp.Eq (Value.ref _) (Value.ref _)) _ _ _); k_dflt (refine eq_ints_same ?_ (by is_list) (by is_list) (by l_ints) (by l_ints) (by ke_room) ?_; (first | rfl | assumption))) | (k_here; (with_reducible show wpAny _ _ (binaryOp _ (Value.ref _) (Value.ref _)) _ _ _); k_dflt (refine add_strs (by k_asm) (by k_asm) (by exact ⟨_, News.get (by k_asm) (by k_mem), rfl, _, rfl⟩) (by exact ⟨_, News.get (by k_asm) (by k_mem), rfl, _, rfl⟩) (by first | assumption | exact .cons _ _ .nil | exact .nil) (by first | assumption | exact .cons _ _ .nil | exact .nil) (by ((try simp only [List.length_append, List.length_map, List.length_cons, List.length_nil]); omega)) ?_); intro D' ws' h' F' N' l1 hI'; (try k_sweep)) | (k_unfold; (try dsimp only)) | (k_end; kc_close) | walk1 | (dsimp only; walk1) | (leave1; walk_say "STEP leave1"; (try dsimp only)) | fail "no step")); all_goals (try (first | (refine hQo _ _ _ _ _ _ (by k_asm) (by k_asm) ?_; intro kF kN; (try dsimp only [valOf])) | (refine hEo _ _ _ ?_; (repeat' (first | (k_here; (with_reducible show wpAny _ _ (compareOp CmpOp.NotEq (Value.ref _) (Value.ref _)) _ _ _); k_dflt (refine ne_ints_same ?_ (by is_list) (by is_list) (by l_ints) (by l_ints) (by ke_room) ?_; (first | rfl | assumption))) | (k_here; (with_reducible show wpAny _ _ (compareOp CmpOp.Eq (Value.ref _) (Value.ref _)) _ _ _); k_dflt (refine eq_ints_same ?_ (by is_list) (by is_list) (by l_ints) (by l_ints) (by ke_room) ?_; (first | rfl | assumption))) | (k_here; (with_reducible show wpAny _ _ (binaryOp _ (Value.ref _) (Value.ref _)) _ _ _); k_dflt (refine add_strs (by k_asm) (by k_asm) (by exact ⟨_, News.get (by k_asm) (by k_mem), rfl, _, rfl⟩) (by exact ⟨_, News.get (by k_asm) (by k_mem), rfl, _, rfl⟩) (by first | assumption | exact .cons _ _ .nil | exact .nil) (by first | assumption | exact .cons _ _ .nil | exact .nil) (by ((try simp only [List.length_append, List.length_map, List.length_cons, List.length_nil]); omega)) ?_); intro D' ws' h' F' N' l1 hI'; (try k_sweep)) | (k_unfold; (try dsimp only)) | (k_end; kc_close) | walk1 | (dsimp only; walk1) | (leave1; walk_say "STEP leave1"; (try dsimp only)) | fail "no step"))))))
      exact hret _ _ _ _ ⟨rfl, rfl⟩ (by k_asm) (cb_drop (by assumption) (fun p hp => by have h := List.mem_append_right (T2.objs w ta) (hs3 _ (hs2 _ hp)); (repeat (first | exact h | refine List.mem_cons_of_mem _ ?_))))
end
local macro_rules | `(tactic| walk_at "no such step 1") => `(tactic| fail)
local macro_rules | `(tactic| walk_at "no such step 2") => `(tactic| fail)

theorem top_L2 : True := by
  w_top off
  trivial
section
local macro_rules | `(tactic| k_qdec) => `(tactic| decide +kernel)
section
local macro_rules | `(tactic| walk_at "CompSrc") => `(tactic| (k_here; k_dflt (refine compSrc_deck rfl ‹_› ‹_› (by k_all) ‹_› ‹_› ‹_› ‹_› (fun i y => ∃ n t, y = Value.int n t ∧ 4 * i + 1 ≤ n ∧ n ≤ 4 * i + 4) ?_ ?_)))
set_option maxRecDepth 100000 in
set_option maxHeartbeats 40000000 in
theorem law_holds : PySem.Challenge.rw_np0075_01.Holds := hd (by
  w_strict (
    k_go0
    (all_goals try k_fold)
    rename World => w
    have hSq : IsBase (‹Shared› : Shared) := trivial
    ((repeat' ((fail_if_success (with_reducible show wpAny _ _ (exec (Stmt.Assign [PySem.Expr.Name (Str.ofString "old") _] _ _) _) _ _ _)); first | (k_here; (with_reducible show wpAny _ _ (compareOp CmpOp.Eq (Value.ref _) (Value.ref _)) _ _ _); k_dflt (refine eq_ints_same ?_ (by is_list) (by is_list) (by l_ints) (by l_ints) (by ke_room) ?_; (first | rfl | assumption))) | (exact absurd ‹way = 0› hwn) | (k_unfold; (try dsimp only)) | (k_end; wrow_close) | walk1 | (dsimp only; walk1) | (leave1; walk_say "STEP leave1"; try dsimp only) | fail "no step")); all_goals (try (first | (refine hQo _ _ _ _ _ _ (by k_asm) (by k_asm) ?_; intro kF kN; (try dsimp only [valOf])) | (refine hEo _ _ _ ?_; (repeat' (first | (k_here; (with_reducible show wpAny _ _ (compareOp CmpOp.Eq (Value.ref _) (Value.ref _)) _ _ _); k_dflt (refine eq_ints_same ?_ (by is_list) (by is_list) (by l_ints) (by l_ints) (by ke_room) ?_; (first | rfl | assumption))) | (exact absurd ‹way = 0› hwn) | (k_unfold; (try dsimp only)) | (k_end; kc_close) | walk1 | (dsimp only; walk1) | (leave1; walk_say "STEP leave1"; (try dsimp only)) | fail "no step"))))))
    have hD0 := law_deck (by assumption)
    obtain ⟨N0, K0⟩ := news_03 ‹News _ _ _ [(_, LCg.lst ys), _, _]› (by assumption)
    refine cutK1 (Str.ofString "old") (fun v X => ∃ old, OldIs X v old) (by assumption) N0 K0 (fun Qc hQc => ?_) ?_
    · have hX := K0.off
      ((repeat' (first | (k_here; (with_reducible show wpAny _ _ (compareOp CmpOp.Eq (Value.ref _) (Value.ref _)) _ _ _); k_dflt (refine eq_ints_same ?_ (by is_list) (by is_list) (by l_ints) (by l_ints) (by ke_room) ?_; (first | rfl | assumption))) | (exact absurd ‹way = 0› hwn) | (k_unfold; (try dsimp only)) | (k_end; kc_close) | walk1 | (dsimp only; walk1) | (leave1; walk_say "STEP leave1"; (try dsimp only)) | fail "no step")); all_goals (try (first | (refine hQo _ _ _ _ _ _ (by k_asm) (by k_asm) ?_; intro kF kN; (try dsimp only [valOf])) | (refine hEo _ _ _ ?_; (repeat' (first | (k_here; (with_reducible show wpAny _ _ (compareOp CmpOp.Eq (Value.ref _) (Value.ref _)) _ _ _); k_dflt (refine eq_ints_same ?_ (by is_list) (by is_list) (by l_ints) (by l_ints) (by ke_room) ?_; (first | rfl | assumption))) | (exact absurd ‹way = 0› hwn) | (k_unfold; (try dsimp only)) | (k_end; kc_close) | walk1 | (dsimp only; walk1) | (leave1; walk_say "STEP leave1"; (try dsimp only)) | fail "no step"))))))
      · exact CutK1.mk hQc rfl (by k_asm) rfl (fun y hy => by simp only [frU, if_neg hy]) (by k_asm) (fun p hp => hp) (by assumption) K0.self ⟨none, .inl ⟨rfl, rfl⟩⟩
      · exact CutK1.mk hQc rfl (by k_asm) rfl (fun y hy => by simp only [frU, if_neg hy]) (by k_asm) mem_swap2 (by assumption) (K0.self.cons (by assumption) (by assumption)) ⟨some _, .inr ⟨_, _, _, _, rfl, rfl, .head _, by assumption, by omega⟩⟩
    intro ov h1 tk1 dvs1 dns1 dc1 X1 F1 N1 D1 K1 hold
    obtain ⟨old, ho⟩ := hold
    try dsimp only
    have hcell := K1.sub _ (.head _)
    clear N0 K0 hD0
    (repeat' ((fail_if_success (with_reducible show wpAny _ _ (exec (Stmt.Assign _ _ _) _) _ _ _)); first | (k_here; (with_reducible show wpAny _ _ (compareOp CmpOp.Eq (Value.ref _) (Value.ref _)) _ _ _); k_dflt (refine eq_ints_same ?_ (by is_list) (by is_list) (by l_ints) (by l_ints) (by ke_room) ?_; (first | rfl | assumption))) | (exact absurd ‹way = 0› hwn) | (k_unfold; (try dsimp only)) | (k_end; wrow_close) | walk1 | (dsimp only; walk1) | (leave1; walk_say "STEP leave1"; try dsimp only) | fail "no step")); all_goals (try (first | (refine hQo _ _ _ _ _ _ (by k_asm) (by k_asm) ?_; intro kF kN; (try dsimp only [valOf])) | (refine hEo _ _ _ ?_; (repeat' (first | (k_here; (with_reducible show wpAny _ _ (compareOp CmpOp.Eq (Value.ref _) (Value.ref _)) _ _ _); k_dflt (refine eq_ints_same ?_ (by is_list) (by is_list) (by l_ints) (by l_ints) (by ke_room) ?_; (first | rfl | assumption))) | (exact absurd ‹way = 0› hwn) | (k_unfold; (try dsimp only)) | (k_end; kc_close) | walk1 | (dsimp only; walk1) | (leave1; walk_say "STEP leave1"; (try dsimp only)) | fail "no step")))))
    refine cutK2 (Str.ofString "numbers") (Str.ofString "is_single") (fun v v2 X => ∃ nl nvs ns nc single, v = .ref nl ∧ v2 = .bool single ∧ (nl, listOf nvs.toArray nc) ∈ X ∧ IntsAre nvs ns ∧ Nums ns) F1 N1 K1 (fun Qc hQc => ?_) ?_
    · have hX := K1.off
      ((repeat' (first | (k_here; (with_reducible show wpAny _ _ (compareOp CmpOp.Eq (Value.ref _) (Value.ref _)) _ _ _); k_dflt (refine eq_ints_same ?_ (by is_list) (by is_list) (by l_ints) (by l_ints) (by ke_room) ?_; (first | rfl | assumption))) | (exact absurd ‹way = 0› hwn) | (k_unfold; (try dsimp only)) | (k_end; kc_close) | walk1 | (dsimp only; walk1) | (leave1; walk_say "STEP leave1"; (try dsimp only)) | fail "no step")); all_goals (try (first | (refine hQo _ _ _ _ _ _ (by k_asm) (by k_asm) ?_; intro kF kN; (try dsimp only [valOf])) | (refine hEo _ _ _ ?_; (repeat' (first | (k_here; (with_reducible show wpAny _ _ (compareOp CmpOp.Eq (Value.ref _) (Value.ref _)) _ _ _); k_dflt (refine eq_ints_same ?_ (by is_list) (by is_list) (by l_ints) (by l_ints) (by ke_room) ?_; (first | rfl | assumption))) | (exact absurd ‹way = 0› hwn) | (k_unfold; (try dsimp only)) | (k_end; kc_close) | walk1 | (dsimp only; walk1) | (leave1; walk_say "STEP leave1"; (try dsimp only)) | fail "no step"))))))
      · exact EndD.mk ⟨_, _, rfl, by omega, by omega⟩ (by k_asm) (by k_asm) (by k_asm)
      · obtain ⟨ns, hi5, hN5, hlen5⟩ := turns_nums ‹AllTurns _ _ _› (by omega)
        have hfew5 := hN5.ok.few
        ((repeat' (first | (k_here; (with_reducible show wpAny _ _ (compareOp CmpOp.Eq (Value.ref _) (Value.ref _)) _ _ _); k_dflt (refine eq_ints_same ?_ (by is_list) (by is_list) (by l_ints) (by l_ints) (by ke_room) ?_; (first | rfl | assumption))) | (exact absurd ‹way = 0› hwn) | (k_unfold; (try dsimp only)) | (k_end; kc_close) | walk1 | (dsimp only; walk1) | (leave1; walk_say "STEP leave1"; (try dsimp only)) | fail "no step")); all_goals (try (first | (refine hQo _ _ _ _ _ _ (by k_asm) (by k_asm) ?_; intro kF kN; (try dsimp only [valOf])) | (refine hEo _ _ _ ?_; (repeat' (first | (k_here; (with_reducible show wpAny _ _ (compareOp CmpOp.Eq (Value.ref _) (Value.ref _)) _ _ _); k_dflt (refine eq_ints_same ?_ (by is_list) (by is_list) (by l_ints) (by l_ints) (by ke_room) ?_; (first | rfl | assumption))) | (exact absurd ‹way = 0› hwn) | (k_unfold; (try dsimp only)) | (k_end; kc_close) | walk1 | (dsimp only; walk1) | (leave1; walk_say "STEP leave1"; (try dsimp only)) | fail "no step"))))))
        have e5 := ksm_same ‹List.Perm _ ns› (by assumption) (hN5.up.imp fun h => Int.le_of_lt h)
        subst e5
        clear hi5
        have l5 := ‹_ < _ ∧ _ < _ ∧ AllLt _ X1›
        exact CutK2.mk hQc rfl (by k_asm) rfl rfl (fun y y1 y2 => by simp only [frU, if_neg y1, if_neg y2]) (by k_asm) pick4 (by assumption) (K1.self.cons (allLt_ne l5.2.2) (Nat.ne_of_lt l5.2.1)) ⟨_, _, _, _, _, rfl, rfl, .head _, by assumption, hN5⟩
    intro nvv sgv h2 tk2 dvs2 dns2 dc2 X2 F2 N2 D2 K2 hnum
    obtain ⟨nl, nvs, ns, nc, single, rfl, rfl, hnm, hni, hN⟩ := hnum
    try dsimp only
    replace hcell := K2.sub _ hcell
    replace ho := ho.sub K2.sub
    clear F1 N1 D1 K1
    (repeat' ((fail_if_success (with_reducible show wpAny _ _ (exec (Stmt.Assign _ _ _) _) _ _ _)); first | (k_here; (with_reducible show wpAny _ _ (compareOp CmpOp.Eq (Value.ref _) (Value.ref _)) _ _ _); k_dflt (refine eq_ints_same ?_ (by is_list) (by is_list) (by l_ints) (by l_ints) (by ke_room) ?_; (first | rfl | assumption))) | (exact absurd ‹way = 0› hwn) | (k_unfold; (try dsimp only)) | (k_end; wrow_close) | walk1 | (dsimp only; walk1) | (leave1; walk_say "STEP leave1"; try dsimp only) | fail "no step")); all_goals (try (first | (refine hQo _ _ _ _ _ _ (by k_asm) (by k_asm) ?_; intro kF kN; (try dsimp only [valOf])) | (refine hEo _ _ _ ?_; (repeat' (first | (k_here; (with_reducible show wpAny _ _ (compareOp CmpOp.Eq (Value.ref _) (Value.ref _)) _ _ _); k_dflt (refine eq_ints_same ?_ (by is_list) (by is_list) (by l_ints) (by l_ints) (by ke_room) ?_; (first | rfl | assumption))) | (exact absurd ‹way = 0› hwn) | (k_unfold; (try dsimp only)) | (k_end; kc_close) | walk1 | (dsimp only; walk1) | (leave1; walk_say "STEP leave1"; (try dsimp only)) | fail "no step")))))
    refine cutK3 (Str.ofString "way") (Str.ofString "oldest") (Str.ofString "newest") (fun v v2 v3 _ => ∃ a b c t1 t2 t3, v = .int a t1 ∧ v2 = .int b t2 ∧ v3 = .int c t3 ∧ (0 ≤ a ∧ a ≤ 3) ∧ (0 ≤ b ∧ b ≤ 2) ∧ (0 ≤ c ∧ c ≤ 2)) F2 N2 K2 (fun Qc hQc => ?_) ?_
    · have hX := K2.off
      ((repeat' (first | (k_here; (with_reducible show wpAny _ _ (compareOp CmpOp.Eq (Value.ref _) (Value.ref _)) _ _ _); k_dflt (refine eq_ints_same ?_ (by is_list) (by is_list) (by l_ints) (by l_ints) (by ke_room) ?_; (first | rfl | assumption))) | (exact absurd ‹way = 0› hwn) | (k_unfold; (try dsimp only)) | (k_end; kc_close) | walk1 | (dsimp only; walk1) | (leave1; walk_say "STEP leave1"; (try dsimp only)) | fail "no step")); all_goals (try (first | (refine hQo _ _ _ _ _ _ (by k_asm) (by k_asm) ?_; intro kF kN; (try dsimp only [valOf])) | (refine hEo _ _ _ ?_; (repeat' (first | (k_here; (with_reducible show wpAny _ _ (compareOp CmpOp.Eq (Value.ref _) (Value.ref _)) _ _ _); k_dflt (refine eq_ints_same ?_ (by is_list) (by is_list) (by l_ints) (by l_ints) (by ke_room) ?_; (first | rfl | assumption))) | (exact absurd ‹way = 0› hwn) | (k_unfold; (try dsimp only)) | (k_end; kc_close) | walk1 | (dsimp only; walk1) | (leave1; walk_say "STEP leave1"; (try dsimp only)) | fail "no step"))))))
      exact CutK3.mk hQc rfl (by k_asm) rfl rfl rfl (fun y a b c => by simp only [frU, if_neg a, if_neg b, if_neg c]) (by k_asm) (fun p hp => .tail _ (.tail _ hp)) (by assumption) K2.self ⟨_, _, _, _, _, _, rfl, rfl, rfl, lit4 _, ⟨by assumption, by omega⟩, ⟨by assumption, by omega⟩⟩
    intro wv ov2 nv3 h3 tk3 dvs3 dns3 dc3 X3 F3 N3 D3 K3 hway
    obtain ⟨way, oldest, newest, wt, ot, nt, rfl, rfl, rfl, hw, hol, hnw⟩ := hway
    try dsimp only
    replace hcell := K3.sub _ hcell
    replace ho := ho.sub K3.sub
    clear F2 N2 D2 K2
    replace hnm := K3.sub _ hnm
    (repeat' ((fail_if_success (with_reducible show wpAny _ _ (exec (Stmt.Assign _ _ _) _) _ _ _)); first | (k_here; (with_reducible show wpAny _ _ (compareOp CmpOp.Eq (Value.ref _) (Value.ref _)) _ _ _); k_dflt (refine eq_ints_same ?_ (by is_list) (by is_list) (by l_ints) (by l_ints) (by ke_room) ?_; (first | rfl | assumption))) | (exact absurd ‹way = 0› hwn) | (k_unfold; (try dsimp only)) | (k_end; wrow_close) | walk1 | (dsimp only; walk1) | (leave1; walk_say "STEP leave1"; try dsimp only) | fail "no step")); all_goals (try (first | (refine hQo _ _ _ _ _ _ (by k_asm) (by k_asm) ?_; intro kF kN; (try dsimp only [valOf])) | (refine hEo _ _ _ ?_; (repeat' (first | (k_here; (with_reducible show wpAny _ _ (compareOp CmpOp.Eq (Value.ref _) (Value.ref _)) _ _ _); k_dflt (refine eq_ints_same ?_ (by is_list) (by is_list) (by l_ints) (by l_ints) (by ke_room) ?_; (first | rfl | assumption))) | (exact absurd ‹way = 0› hwn) | (k_unfold; (try dsimp only)) | (k_end; kc_close) | walk1 | (dsimp only; walk1) | (leave1; walk_say "STEP leave1"; (try dsimp only)) | fail "no step")))))
    refine cutK1 (Str.ofString "manner") (fun v X => ∃ ma M, v = .ref ma ∧ ManIn w X ma M ∧ M.way = way) F3 N3 K3 (fun Qc hQc => ?_) ?_
    · have hX := K3.off
      ((repeat' (first | (k_here; (with_reducible show wpAny _ _ (compareOp CmpOp.Eq (Value.ref _) (Value.ref _)) _ _ _); k_dflt (refine eq_ints_same ?_ (by is_list) (by is_list) (by l_ints) (by l_ints) (by ke_room) ?_; (first | rfl | assumption))) | (exact absurd ‹way = 0› hwn) | (k_unfold; (try dsimp only)) | (k_end; kc_close) | walk1 | (dsimp only; walk1) | (leave1; walk_say "STEP leave1"; (try dsimp only)) | fail "no step")); all_goals (try (first | (refine hQo _ _ _ _ _ _ (by k_asm) (by k_asm) ?_; intro kF kN; (try dsimp only [valOf])) | (refine hEo _ _ _ ?_; (repeat' (first | (k_here; (with_reducible show wpAny _ _ (compareOp CmpOp.Eq (Value.ref _) (Value.ref _)) _ _ _); k_dflt (refine eq_ints_same ?_ (by is_list) (by is_list) (by l_ints) (by l_ints) (by ke_room) ?_; (first | rfl | assumption))) | (exact absurd ‹way = 0› hwn) | (k_unfold; (try dsimp only)) | (k_end; kc_close) | walk1 | (dsimp only; walk1) | (leave1; walk_say "STEP leave1"; (try dsimp only)) | fail "no step"))))))
      have l5 := ‹_ < _ ∧ AllLt _ X3›
      exact CutK1.mk hQc rfl (by k_asm) rfl (fun y hy => by simp only [frU, if_neg hy]) (by k_asm) pick3 (by assumption) (K3.self.cons2 l5 (by assumption)) ⟨_, ⟨_, _, _, _, _, _, _, _, _, _, _, _, _, _, _⟩, rfl, ⟨⟨hw, hol, hnw⟩, .head _, .tail _ (.head _)⟩, rfl⟩
    intro mv h4 tk4 dvs4 dns4 dc4 X4 F4 N4 D4 K4 hman
    obtain ⟨ma, M, rfl, IM, hMw⟩ := hman
    try dsimp only
    replace hcell := K4.sub _ hcell
    replace ho := ho.sub K4.sub
    clear F3 N3 D3 K3
    replace hnm := K4.sub _ hnm
    (repeat' ((fail_if_success (with_reducible show wpAny _ _ (exec (Stmt.Assign _ _ _) _) _ _ _)); first | (k_here; (with_reducible show wpAny _ _ (compareOp CmpOp.Eq (Value.ref _) (Value.ref _)) _ _ _); k_dflt (refine eq_ints_same ?_ (by is_list) (by is_list) (by l_ints) (by l_ints) (by ke_room) ?_; (first | rfl | assumption))) | (exact absurd ‹way = 0› hwn) | (k_unfold; (try dsimp only)) | (k_end; wrow_close) | walk1 | (dsimp only; walk1) | (leave1; walk_say "STEP leave1"; try dsimp only) | fail "no step")); all_goals (try (first | (refine hQo _ _ _ _ _ _ (by k_asm) (by k_asm) ?_; intro kF kN; (try dsimp only [valOf])) | (refine hEo _ _ _ ?_; (repeat' (first | (k_here; (with_reducible show wpAny _ _ (compareOp CmpOp.Eq (Value.ref _) (Value.ref _)) _ _ _); k_dflt (refine eq_ints_same ?_ (by is_list) (by is_list) (by l_ints) (by l_ints) (by ke_room) ?_; (first | rfl | assumption))) | (exact absurd ‹way = 0› hwn) | (k_unfold; (try dsimp only)) | (k_end; kc_close) | walk1 | (dsimp only; walk1) | (leave1; walk_say "STEP leave1"; (try dsimp only)) | fail "no step")))))
    refine cutK2 (Str.ofString "codes") (Str.ofString "steps") (fun v v2 X => ∃ cl cvs cns cn' st t, v = .ref cl ∧ v2 = .int st t ∧ (cl, listOf cvs.toArray cn') ∈ X ∧ IntsAre cvs cns ∧ cns.length ≤ 500 ∧ 0 ≤ st) F4 N4 K4 (fun Qc hQc => ?_) ?_
    · have hX := K4.off
      ((repeat' (first | (k_here; (with_reducible show wpAny _ _ (compareOp CmpOp.Eq (Value.ref _) (Value.ref _)) _ _ _); k_dflt (refine eq_ints_same ?_ (by is_list) (by is_list) (by l_ints) (by l_ints) (by ke_room) ?_; (first | rfl | assumption))) | (exact absurd ‹way = 0› hwn) | (k_unfold; (try dsimp only)) | (k_end; kc_close) | walk1 | (dsimp only; walk1) | (leave1; walk_say "STEP leave1"; (try dsimp only)) | fail "no step")); all_goals (try (first | (refine hQo _ _ _ _ _ _ (by k_asm) (by k_asm) ?_; intro kF kN; (try dsimp only [valOf])) | (refine hEo _ _ _ ?_; (repeat' (first | (k_here; (with_reducible show wpAny _ _ (compareOp CmpOp.Eq (Value.ref _) (Value.ref _)) _ _ _); k_dflt (refine eq_ints_same ?_ (by is_list) (by is_list) (by l_ints) (by l_ints) (by ke_room) ?_; (first | rfl | assumption))) | (exact absurd ‹way = 0› hwn) | (k_unfold; (try dsimp only)) | (k_end; kc_close) | walk1 | (dsimp only; walk1) | (leave1; walk_say "STEP leave1"; (try dsimp only)) | fail "no step"))))))
      have l5 := ‹_ < _ ∧ _ < _ ∧ _ < _ ∧ AllLt _ X4›
      exact CutK2.mk hQc rfl (by k_asm) rfl rfl (fun y y1 y2 => by simp only [frU, if_neg y1, if_neg y2]) (by k_asm) pick5 (by assumption) (K4.self.cons (allLt_ne l5.2.2.2) (Nat.ne_of_lt l5.2.2.1)) ⟨_, _, _, _, _, _, rfl, rfl, .head _, ‹IntsAre _ (_ ++ [7])›, (by simp only [List.length_append, List.length_cons, List.length_nil]; omega), by assumption⟩
    intro cv sv h5 tk5 dvs5 dns5 dc5 X5 F5 N5 D5 K5 hcod
    obtain ⟨cl, cvs, cns, cn', st, stt, rfl, rfl, hcm, hci, hcl, hst⟩ := hcod
    try dsimp only
    replace IM := IM.sub K5.sub
    replace ho := ho.sub K5.sub
    replace hnm := K5.sub _ hnm
    clear F4 N4 D4 K4
    have N6 : News _ _ _ X5 := cb_drop N5 fun p hp => List.mem_cons_of_mem _ hp
    have hR := K5.nd
    clear hcell N5 D5 K5
    (repeat' ((fail_if_success (with_reducible show wpAny _ _ (call (Value.ref 464) _) _ _ _)); first | (k_here; (with_reducible show wpAny _ _ (compareOp CmpOp.Eq (Value.ref _) (Value.ref _)) _ _ _); k_dflt (refine eq_ints_same ?_ (by is_list) (by is_list) (by l_ints) (by l_ints) (by ke_room) ?_; (first | rfl | assumption))) | (exact absurd ‹way = 0› hwn) | (k_unfold; (try dsimp only)) | (k_end; wrow_close) | walk1 | (dsimp only; walk1) | (leave1; walk_say "STEP leave1"; try dsimp only) | fail "no step")); all_goals (try (first | (refine hQo _ _ _ _ _ _ (by k_asm) (by k_asm) ?_; intro kF kN; (try dsimp only [valOf])) | (refine hEo _ _ _ ?_; (repeat' (first | (k_here; (with_reducible show wpAny _ _ (compareOp CmpOp.Eq (Value.ref _) (Value.ref _)) _ _ _); k_dflt (refine eq_ints_same ?_ (by is_list) (by is_list) (by l_ints) (by l_ints) (by ke_room) ?_; (first | rfl | assumption))) | (exact absurd ‹way = 0› hwn) | (k_unfold; (try dsimp only)) | (k_end; kc_close) | walk1 | (dsimp only; walk1) | (leave1; walk_say "STEP leave1"; (try dsimp only)) | fail "no step")))))
    refine Call.useS (C := c_whole hR IM ho hnm hni hN hcm hci hcl) (ret := ?_); rintro _ _ h7 tk7 ⟨en7, rfl⟩ F7 N7; (try dsimp only)
    rw [en7] at N7
    clear en7
    (repeat' ((fail_if_success (with_reducible show wpAny _ _ (call (Value.ref 447) _) _ _ _)); first | (k_here; (with_reducible show wpAny _ _ (compareOp CmpOp.Eq (Value.ref _) (Value.ref _)) _ _ _); k_dflt (refine eq_ints_same ?_ (by is_list) (by is_list) (by l_ints) (by l_ints) (by ke_room) ?_; (first | rfl | assumption))) | (exact absurd ‹way = 0› hwn) | (k_unfold; (try dsimp only)) | (k_end; wrow_close) | walk1 | (dsimp only; walk1) | (leave1; walk_say "STEP leave1"; try dsimp only) | fail "no step")); all_goals (try (first | (refine hQo _ _ _ _ _ _ (by k_asm) (by k_asm) ?_; intro kF kN; (try dsimp only [valOf])) | (refine hEo _ _ _ ?_; (repeat' (first | (k_here; (with_reducible show wpAny _ _ (compareOp CmpOp.Eq (Value.ref _) (Value.ref _)) _ _ _); k_dflt (refine eq_ints_same ?_ (by is_list) (by is_list) (by l_ints) (by l_ints) (by ke_room) ?_; (first | rfl | assumption))) | (exact absurd ‹way = 0› hwn) | (k_unfold; (try dsimp only)) | (k_end; kc_close) | walk1 | (dsimp only; walk1) | (leave1; walk_say "STEP leave1"; (try dsimp only)) | fail "no step")))))
    refine Call.useS (C := c_tree hR ho hnm hni hN.ok) (ret := ?_); rintro _ _ h8 tk8 ⟨ta, T, rfl, rfl, O, hl0, H⟩ F8 N8; (try dsimp only)
    have hok := IM.ok
    generalize hg : run (treeOps old ns single) noFiles = g at H
    obtain ⟨A1, hbt, hng⟩ := whole_facts (codes := cns) hN hok hg
    have hNg : NumsOk (nums g) := by rw [hng]; exact hN.ok
    obtain ⟨hne, ha1, ha2⟩ := O.apart
    have N9 : News _ _ _ ((ta, instObj 410 T.dt) :: (T.dt, dictOf (selfDict w T.clock T.left T.de T.k0 T.k1 T.k2 T.k3 T.k4) 3) :: T.tail w X5) := N8
    clear N8
    (repeat' ((fail_if_success (with_reducible show wpAny _ _ (exec (Stmt.Assign [PySem.Expr.Name (Str.ofString "is_done") _] _ _) _) _ _ _)); first | (k_here; (with_reducible show wpAny _ _ (compareOp CmpOp.Eq (Value.ref _) (Value.ref _)) _ _ _); k_dflt (refine eq_ints_same ?_ (by is_list) (by is_list) (by l_ints) (by l_ints) (by ke_room) ?_; (first | rfl | assumption))) | (exact absurd ‹way = 0› hwn) | (k_unfold; (try dsimp only)) | (k_end; wrow_close) | walk1 | (dsimp only; walk1) | (leave1; walk_say "STEP leave1"; try dsimp only) | fail "no step")); all_goals (try (first | (refine hQo _ _ _ _ _ _ (by k_asm) (by k_asm) ?_; intro kF kN; (try dsimp only [valOf])) | (refine hEo _ _ _ ?_; (repeat' (first | (k_here; (with_reducible show wpAny _ _ (compareOp CmpOp.Eq (Value.ref _) (Value.ref _)) _ _ _); k_dflt (refine eq_ints_same ?_ (by is_list) (by is_list) (by l_ints) (by l_ints) (by ke_room) ?_; (first | rfl | assumption))) | (exact absurd ‹way = 0› hwn) | (k_unfold; (try dsimp only)) | (k_end; kc_close) | walk1 | (dsimp only; walk1) | (leave1; walk_say "STEP leave1"; (try dsimp only)) | fail "no step")))))
    have N10 : News _ _ _ ((T.ticked T.clock st T.k1 stt).objs w ta ++ X5) := ‹News _ _ _ ((ta, _) :: (T.dt, _) :: T.tail w X5)›
    have O2 := O.ticked T.clock st T.k1 stt
    have H2 : Has (T.ticked T.clock st T.k1 stt).abs g := H
    have hl2 : (T.ticked T.clock st T.k1 stt).left = st := rfl
    generalize T.ticked T.clock st T.k1 stt = T2 at N10 O2 H2 hl2
    (try clear N9)
    (repeat' ((fail_if_success (with_reducible show wpAny _ _ (call (Value.ref 454) _) _ _ _)); first | (k_here; (with_reducible show wpAny _ _ (compareOp CmpOp.Eq (Value.ref _) (Value.ref _)) _ _ _); k_dflt (refine eq_ints_same ?_ (by is_list) (by is_list) (by l_ints) (by l_ints) (by ke_room) ?_; (first | rfl | assumption))) | (exact absurd ‹way = 0› hwn) | (k_unfold; (try dsimp only)) | (k_end; wrow_close) | walk1 | (dsimp only; walk1) | (leave1; walk_say "STEP leave1"; try dsimp only) | fail "no step")); all_goals (try (first | (refine hQo _ _ _ _ _ _ (by k_asm) (by k_asm) ?_; intro kF kN; (try dsimp only [valOf])) | (refine hEo _ _ _ ?_; (repeat' (first | (k_here; (with_reducible show wpAny _ _ (compareOp CmpOp.Eq (Value.ref _) (Value.ref _)) _ _ _); k_dflt (refine eq_ints_same ?_ (by is_list) (by is_list) (by l_ints) (by l_ints) (by ke_room) ?_; (first | rfl | assumption))) | (exact absurd ‹way = 0› hwn) | (k_unfold; (try dsimp only)) | (k_end; kc_close) | walk1 | (dsimp only; walk1) | (leave1; walk_say "STEP leave1"; (try dsimp only)) | fail "no step")))))
    refine CallE.use (by k_asm) (by k_asm) (by k_asm) (by k_asm) (by k_asm) (by k_asm) (by k_asm) (by first | exact rfl | assumption) (c_ended1 O2 H2 IM (fun _ => hNg) hcm hci (by omega) (fun _ => tree_hex hN hok hg) hbt) (by ktr_room) (by ktr_units) ?_
    rintro r h11 tk11 n11 (⟨rfl, T3, rfl, O3, d3, H3⟩ | ⟨rfl, T3, rfl, O3, hx0, hx1, H3⟩) F11 N11
    · generalize hg1 : run (bkAll M g false ++ putOps M cns) g = g1 at H3 A1
      obtain ⟨hne3, ha13, ha23⟩ := O3.apart
      have N12 : News _ _ _ ((ta, instObj 410 T3.dt) :: (T3.dt, dictOf (selfDict w T3.clock T3.left T3.de T3.k0 T3.k1 T3.k2 T3.k3 T3.k4) 3) :: T3.tail w X5) := N11
      (try clear N11)
      (try clear N10)
      clear H2 H O2
      (repeat' ((fail_if_success (with_reducible show wpAny _ _ (exec (Stmt.If _ _ _ _) _) _ _ _)); first | (k_here; (with_reducible show wpAny _ _ (compareOp CmpOp.Eq (Value.ref _) (Value.ref _)) _ _ _); k_dflt (refine eq_ints_same ?_ (by is_list) (by is_list) (by l_ints) (by l_ints) (by ke_room) ?_; (first | rfl | assumption))) | (exact absurd ‹way = 0› hwn) | (k_unfold; (try dsimp only)) | (k_end; wrow_close) | walk1 | (dsimp only; walk1) | (leave1; walk_say "STEP leave1"; try dsimp only) | fail "no step")); all_goals (try (first | (refine hQo _ _ _ _ _ _ (by k_asm) (by k_asm) ?_; intro kF kN; (try dsimp only [valOf])) | (refine hEo _ _ _ ?_; (repeat' (first | (k_here; (with_reducible show wpAny _ _ (compareOp CmpOp.Eq (Value.ref _) (Value.ref _)) _ _ _); k_dflt (refine eq_ints_same ?_ (by is_list) (by is_list) (by l_ints) (by l_ints) (by ke_room) ?_; (first | rfl | assumption))) | (exact absurd ‹way = 0› hwn) | (k_unfold; (try dsimp only)) | (k_end; kc_close) | walk1 | (dsimp only; walk1) | (leave1; walk_say "STEP leave1"; (try dsimp only)) | fail "no step")))))
      rename News _ _ _ ((ta, _) :: (T3.dt, _) :: Ft.tail w T3 X5) => Nold
      obtain ⟨l4, t4, N13⟩ := set_left T3 Nold
      clear Nold
      have O4 := O3.ticked T3.clock l4 T3.k1 t4
      have H4 : Has (T3.ticked T3.clock l4 T3.k1 t4).abs g1 := H3
      generalize T3.ticked T3.clock l4 T3.k1 t4 = T4 at N13 O4 H4
      have hf1 := A1.f
      have hfF : Str.ofString "/d/f" ∈ Fs := leaf_two.2.2.1
      have I4 := O4.inn
      have hii4 := I4.inst
      have hid4 := I4.dict
      have hcm4 : (cl, listOf cvs.toArray cn') ∈ T4.objs w ta ++ X5 := List.mem_append_right _ hcm
      (try clear N12)
      ((repeat' (first | (k_here; (with_reducible show wpAny _ _ (compareOp CmpOp.Eq (Value.ref _) (Value.ref _)) _ _ _); k_dflt (refine eq_ints_same ?_ (by is_list) (by is_list) (by l_ints) (by l_ints) (by ke_room) ?_; (first | rfl | assumption))) | (exact absurd ‹way = 0› hwn) | (k_unfold; (try dsimp only)) | (k_end; kc_close) | walk1 | (dsimp only; walk1) | (leave1; walk_say "STEP leave1"; (try dsimp only)) | fail "no step")); all_goals (try (first | (refine hQo _ _ _ _ _ _ (by k_asm) (by k_asm) ?_; intro kF kN; (try dsimp only [valOf])) | (refine hEo _ _ _ ?_; (repeat' (first | (k_here; (with_reducible show wpAny _ _ (compareOp CmpOp.Eq (Value.ref _) (Value.ref _)) _ _ _); k_dflt (refine eq_ints_same ?_ (by is_list) (by is_list) (by l_ints) (by l_ints) (by ke_room) ?_; (first | rfl | assumption))) | (exact absurd ‹way = 0› hwn) | (k_unfold; (try dsimp only)) | (k_end; kc_close) | walk1 | (dsimp only; walk1) | (leave1; walk_say "STEP leave1"; (try dsimp only)) | fail "no step"))))))
    · have E1 := early (codes := cns) hN hok hg (k := T2.left.toNat) (by omega)
      generalize hg1 : run ((bkAll M g false ++ putOps M cns).take T2.left.toNat) g = g1 at H3 E1
      obtain ⟨hne3, ha13, ha23⟩ := O3.apart
      have N12 : News _ _ _ ((ta, instObj 410 T3.dt) :: (T3.dt, dictOf (selfDict w T3.clock T3.left T3.de T3.k0 T3.k1 T3.k2 T3.k3 T3.k4) 3) :: T3.tail w X5) := N11
      (try clear N11)
      (try clear N10)
      clear H2 H O2
      (repeat' ((fail_if_success (with_reducible show wpAny _ _ (exec (Stmt.If _ _ _ _) _) _ _ _)); first | (k_here; (with_reducible show wpAny _ _ (compareOp CmpOp.Eq (Value.ref _) (Value.ref _)) _ _ _); k_dflt (refine eq_ints_same ?_ (by is_list) (by is_list) (by l_ints) (by l_ints) (by ke_room) ?_; (first | rfl | assumption))) | (exact absurd ‹way = 0› hwn) | (k_unfold; (try dsimp only)) | (k_end; wrow_close) | walk1 | (dsimp only; walk1) | (leave1; walk_say "STEP leave1"; try dsimp only) | fail "no step")); all_goals (try (first | (refine hQo _ _ _ _ _ _ (by k_asm) (by k_asm) ?_; intro kF kN; (try dsimp only [valOf])) | (refine hEo _ _ _ ?_; (repeat' (first | (k_here; (with_reducible show wpAny _ _ (compareOp CmpOp.Eq (Value.ref _) (Value.ref _)) _ _ _); k_dflt (refine eq_ints_same ?_ (by is_list) (by is_list) (by l_ints) (by l_ints) (by ke_room) ?_; (first | rfl | assumption))) | (exact absurd ‹way = 0› hwn) | (k_unfold; (try dsimp only)) | (k_end; kc_close) | walk1 | (dsimp only; walk1) | (leave1; walk_say "STEP leave1"; (try dsimp only)) | fail "no step")))))
      rename News _ _ _ ((ta, _) :: (T3.dt, _) :: Ft.tail w T3 X5) => Nold
      obtain ⟨l4, t4, N13⟩ := set_left T3 Nold
      clear Nold
      have O4 := O3.ticked T3.clock l4 T3.k1 t4
      have H4 : Has (T3.ticked T3.clock l4 T3.k1 t4).abs g1 := H3
      generalize T3.ticked T3.clock l4 T3.k1 t4 = T4 at N13 O4 H4
      have hfF : Str.ofString "/d/f" ∈ Fs := leaf_two.2.2.1
      have hfU := (Fs_U _ hfF).1
      have I4 := O4.inn
      have hii4 := I4.inst
      have hid4 := I4.dict
      have hcm4 : (cl, listOf cvs.toArray cn') ∈ T4.objs w ta ++ X5 := List.mem_append_right _ hcm
      have hD4 : Str.ofString "/d/f" = Str.ofString "/" ∨ Dirs T4 := .inr (H4.dirs O4.ok.all)
      have hMT4 : ManIn w (T4.objs w ta ++ X5) ma M := IM.sub fun p hp => List.mem_append_right _ hp
      have hmi4 := hMT4.inst
      have hmd4 := hMT4.dict
      unfold manDict at hmd4
      have hfew4 := E1.few
      (try clear N12)
      (repeat' ((fail_if_success (with_reducible show wpAny _ _ (exec (Stmt.Assign _ _ _) _) _ _ _)); first | (k_here; (with_reducible show wpAny _ _ (compareOp CmpOp.Eq (Value.ref _) (Value.ref _)) _ _ _); k_dflt (refine eq_ints_same ?_ (by is_list) (by is_list) (by l_ints) (by l_ints) (by ke_room) ?_; (first | rfl | assumption))) | (exact absurd ‹way = 0› hwn) | (k_unfold; (try dsimp only)) | (k_end; wrow_close) | walk1 | (dsimp only; walk1) | (leave1; walk_say "STEP leave1"; try dsimp only) | fail "no step")); all_goals (try (first | (refine hQo _ _ _ _ _ _ (by k_asm) (by k_asm) ?_; intro kF kN; (try dsimp only [valOf])) | (refine hEo _ _ _ ?_; (repeat' (first | (k_here; (with_reducible show wpAny _ _ (compareOp CmpOp.Eq (Value.ref _) (Value.ref _)) _ _ _); k_dflt (refine eq_ints_same ?_ (by is_list) (by is_list) (by l_ints) (by l_ints) (by ke_room) ?_; (first | rfl | assumption))) | (exact absurd ‹way = 0› hwn) | (k_unfold; (try dsimp only)) | (k_end; kc_close) | walk1 | (dsimp only; walk1) | (leave1; walk_say "STEP leave1"; (try dsimp only)) | fail "no step")))))
      refine cutO (Str.ofString "own") (g1 nF) (by k_asm) N13 (fun Qc hQc => ?_) ?_
      · cases hgf : g1 nF with
        | none =>
          rw [hgf] at hQc
          have hpl : plainAt T4 (Str.ofString "/d/f") = false := (plainAt_has H4 hfF).trans (by rw [hgf]; rfl)
          ((repeat' (first | (k_here; (with_reducible show wpAny _ _ (compareOp CmpOp.Eq (Value.ref _) (Value.ref _)) _ _ _); k_dflt (refine eq_ints_same ?_ (by is_list) (by is_list) (by l_ints) (by l_ints) (by ke_room) ?_; (first | rfl | assumption))) | (exact absurd ‹way = 0› hwn) | (k_unfold; (try dsimp only)) | (k_end; kc_close) | walk1 | (dsimp only; walk1) | (leave1; walk_say "STEP leave1"; (try dsimp only)) | fail "no step")); all_goals (try (first | (refine hQo _ _ _ _ _ _ (by k_asm) (by k_asm) ?_; intro kF kN; (try dsimp only [valOf])) | (refine hEo _ _ _ ?_; (repeat' (first | (k_here; (with_reducible show wpAny _ _ (compareOp CmpOp.Eq (Value.ref _) (Value.ref _)) _ _ _); k_dflt (refine eq_ints_same ?_ (by is_list) (by is_list) (by l_ints) (by l_ints) (by ke_room) ?_; (first | rfl | assumption))) | (exact absurd ‹way = 0› hwn) | (k_unfold; (try dsimp only)) | (k_end; kc_close) | walk1 | (dsimp only; walk1) | (leave1; walk_say "STEP leave1"; (try dsimp only)) | fail "no step"))))))
          exact CutO.mk hQc rfl (by k_asm) rfl (fun y hy => by simp only [frU, if_neg hy]) (by k_asm) (fun p hp => hp) (.inl ⟨rfl, rfl⟩)
        | some c =>
          rw [hgf] at hQc
          have hpl : plainAt T4 (Str.ofString "/d/f") = true := (plainAt_has H4 hfF).trans (by rw [hgf]; rfl)
          ((repeat' (first | (k_here; (with_reducible show wpAny _ _ (compareOp CmpOp.Eq (Value.ref _) (Value.ref _)) _ _ _); k_dflt (refine eq_ints_same ?_ (by is_list) (by is_list) (by l_ints) (by l_ints) (by ke_room) ?_; (first | rfl | assumption))) | (exact absurd ‹way = 0› hwn) | (k_unfold; (try dsimp only)) | (k_end; kc_close) | walk1 | (dsimp only; walk1) | (leave1; walk_say "STEP leave1"; (try dsimp only)) | fail "no step")); all_goals (try (first | (refine hQo _ _ _ _ _ _ (by k_asm) (by k_asm) ?_; intro kF kN; (try dsimp only [valOf])) | (refine hEo _ _ _ ?_; (repeat' (first | (k_here; (with_reducible show wpAny _ _ (compareOp CmpOp.Eq (Value.ref _) (Value.ref _)) _ _ _); k_dflt (refine eq_ints_same ?_ (by is_list) (by is_list) (by l_ints) (by l_ints) (by ke_room) ?_; (first | rfl | assumption))) | (exact absurd ‹way = 0› hwn) | (k_unfold; (try dsimp only)) | (k_end; kc_close) | walk1 | (dsimp only; walk1) | (leave1; walk_say "STEP leave1"; (try dsimp only)) | fail "no step"))))))
          exact CutO.mk hQc rfl (by k_asm) rfl (fun y hy => by simp only [frU, if_neg hy]) (by k_asm) (fun p hp => .tail _ hp) (OwnIs.list (.head _) (by assumption))
      intro v h14 tk14 X14 F14 N14 s14 ow
      try dsimp only
      have I14 := I4.over s14
      have hii14 := I14.inst
      have hid14 := I14.dict
      have hMT14 := hMT4.sub s14
      have hmi14 := hMT14.inst
      have hmd14 := hMT14.dict
      unfold manDict at hmd14
      have hcm14 := s14 _ hcm4
      have hEc := OwnIs.list hcm14 hci
      have hsX : ∀ p ∈ X5, p ∈ X14 := fun p hp => s14 _ (List.mem_append_right _ hp)
      clear I4 hii4 hid4 hMT4 hmi4 hmd4 hcm4 N13 hD4 hfU hcm hnm hni hR IM hbt hng hNg hg hg1 A1 hne ha1 ha2 hne3 ha13 ha23 O3 H3 O
      rcases ho with ⟨e1, e2⟩ | ⟨l, ovs, oc, o, e1, e2, hm, hoi, holn⟩
      · rw [e1] at F14
        (repeat' ((fail_if_success (with_reducible show wpAny _ _ (compareOp CmpOp.In _ _) _ _ _)); first | (k_here; (with_reducible show wpAny _ _ (compareOp CmpOp.Eq (Value.ref _) (Value.ref _)) _ _ _); k_dflt (refine eq_ints_same ?_ (by is_list) (by is_list) (by l_ints) (by l_ints) (by ke_room) ?_; (first | rfl | assumption))) | (exact absurd ‹way = 0› hwn) | (k_unfold; (try dsimp only)) | (k_end; wrow_close) | walk1 | (dsimp only; walk1) | (leave1; walk_say "STEP leave1"; try dsimp only) | fail "no step")); all_goals (try (first | (refine hQo _ _ _ _ _ _ (by k_asm) (by k_asm) ?_; intro kF kN; (try dsimp only [valOf])) | (refine hEo _ _ _ ?_; (repeat' (first | (k_here; (with_reducible show wpAny _ _ (compareOp CmpOp.Eq (Value.ref _) (Value.ref _)) _ _ _); k_dflt (refine eq_ints_same ?_ (by is_list) (by is_list) (by l_ints) (by l_ints) (by ke_room) ?_; (first | rfl | assumption))) | (exact absurd ‹way = 0› hwn) | (k_unfold; (try dsimp only)) | (k_end; kc_close) | walk1 | (dsimp only; walk1) | (leave1; walk_say "STEP leave1"; (try dsimp only)) | fail "no step")))))
        refine in_three (by k_asm) (.head _) (.inl ⟨rfl, rfl⟩) (OwnIs.list (vs := []) (.tail _ (.head _)) .nil) (OwnIs.list (.tail _ (.tail _ hcm14)) hci) (ow.sub (fun p hp => .tail _ (.tail _ hp))) (by ke_room) (E1.e0 e2) ?_
        ((repeat' (first | (k_here; (with_reducible show wpAny _ _ (compareOp CmpOp.Eq (Value.ref _) (Value.ref _)) _ _ _); k_dflt (refine eq_ints_same ?_ (by is_list) (by is_list) (by l_ints) (by l_ints) (by ke_room) ?_; (first | rfl | assumption))) | (exact absurd ‹way = 0› hwn) | (k_unfold; (try dsimp only)) | (k_end; kc_close) | walk1 | (dsimp only; walk1) | (leave1; walk_say "STEP leave1"; (try dsimp only)) | fail "no step")); all_goals (try (first | (refine hQo _ _ _ _ _ _ (by k_asm) (by k_asm) ?_; intro kF kN; (try dsimp only [valOf])) | (refine hEo _ _ _ ?_; (repeat' (first | (k_here; (with_reducible show wpAny _ _ (compareOp CmpOp.Eq (Value.ref _) (Value.ref _)) _ _ _); k_dflt (refine eq_ints_same ?_ (by is_list) (by is_list) (by l_ints) (by l_ints) (by ke_room) ?_; (first | rfl | assumption))) | (exact absurd ‹way = 0› hwn) | (k_unfold; (try dsimp only)) | (k_end; kc_close) | walk1 | (dsimp only; walk1) | (leave1; walk_say "STEP leave1"; (try dsimp only)) | fail "no step"))))))
      · rw [e1] at F14
        have hm14 := hsX _ hm
        have hEo := OwnIs.list hm14 hoi
        cases hpr : M.precious with
        | true =>
          rw [hpr] at hmd14
          (repeat' ((fail_if_success (with_reducible show wpAny _ _ (compareOp CmpOp.In _ _) _ _ _)); first | (k_here; (with_reducible show wpAny _ _ (compareOp CmpOp.Eq (Value.ref _) (Value.ref _)) _ _ _); k_dflt (refine eq_ints_same ?_ (by is_list) (by is_list) (by l_ints) (by l_ints) (by ke_room) ?_; (first | rfl | assumption))) | (exact absurd ‹way = 0› hwn) | (k_unfold; (try dsimp only)) | (k_end; wrow_close) | walk1 | (dsimp only; walk1) | (leave1; walk_say "STEP leave1"; try dsimp only) | fail "no step")); all_goals (try (first | (refine hQo _ _ _ _ _ _ (by k_asm) (by k_asm) ?_; intro kF kN; (try dsimp only [valOf])) | (refine hEo _ _ _ ?_; (repeat' (first | (k_here; (with_reducible show wpAny _ _ (compareOp CmpOp.Eq (Value.ref _) (Value.ref _)) _ _ _); k_dflt (refine eq_ints_same ?_ (by is_list) (by is_list) (by l_ints) (by l_ints) (by ke_room) ?_; (first | rfl | assumption))) | (exact absurd ‹way = 0› hwn) | (k_unfold; (try dsimp only)) | (k_end; kc_close) | walk1 | (dsimp only; walk1) | (leave1; walk_say "STEP leave1"; (try dsimp only)) | fail "no step")))))
          refine in_two (by k_asm) (.head _) (hEo.sub (fun p hp => .tail _ hp)) (hEc.sub (fun p hp => .tail _ hp)) (ow.sub (fun p hp => .tail _ hp)) (by ke_room) ?_
          intro r hr
          have hr1 := hr (E1.e1 o e2 hpr)
          subst hr1
          ((repeat' (first | (k_here; (with_reducible show wpAny _ _ (compareOp CmpOp.Eq (Value.ref _) (Value.ref _)) _ _ _); k_dflt (refine eq_ints_same ?_ (by is_list) (by is_list) (by l_ints) (by l_ints) (by ke_room) ?_; (first | rfl | assumption))) | (exact absurd ‹way = 0› hwn) | (k_unfold; (try dsimp only)) | (k_end; kc_close) | walk1 | (dsimp only; walk1) | (leave1; walk_say "STEP leave1"; (try dsimp only)) | fail "no step")); all_goals (try (first | (refine hQo _ _ _ _ _ _ (by k_asm) (by k_asm) ?_; intro kF kN; (try dsimp only [valOf])) | (refine hEo _ _ _ ?_; (repeat' (first | (k_here; (with_reducible show wpAny _ _ (compareOp CmpOp.Eq (Value.ref _) (Value.ref _)) _ _ _); k_dflt (refine eq_ints_same ?_ (by is_list) (by is_list) (by l_ints) (by l_ints) (by ke_room) ?_; (first | rfl | assumption))) | (exact absurd ‹way = 0› hwn) | (k_unfold; (try dsimp only)) | (k_end; kc_close) | walk1 | (dsimp only; walk1) | (leave1; walk_say "STEP leave1"; (try dsimp only)) | fail "no step"))))))
        | false =>
          rw [hpr] at hmd14
          by_cases hw0 : M.way = 0
          · have hway0 : way = 0 := hMw.symm.trans hw0
            rw [hway0] at F14
            ((repeat' (first | (k_here; (with_reducible show wpAny _ _ (compareOp CmpOp.Eq (Value.ref _) (Value.ref _)) _ _ _); k_dflt (refine eq_ints_same ?_ (by is_list) (by is_list) (by l_ints) (by l_ints) (by ke_room) ?_; (first | rfl | assumption))) | (exact absurd ‹way = 0› hwn) | (k_unfold; (try dsimp only)) | (k_end; kc_close) | walk1 | (dsimp only; walk1) | (leave1; walk_say "STEP leave1"; (try dsimp only)) | fail "no step")); all_goals (try (first | (refine hQo _ _ _ _ _ _ (by k_asm) (by k_asm) ?_; intro kF kN; (try dsimp only [valOf])) | (refine hEo _ _ _ ?_; (repeat' (first | (k_here; (with_reducible show wpAny _ _ (compareOp CmpOp.Eq (Value.ref _) (Value.ref _)) _ _ _); k_dflt (refine eq_ints_same ?_ (by is_list) (by is_list) (by l_ints) (by l_ints) (by ke_room) ?_; (first | rfl | assumption))) | (exact absurd ‹way = 0› hwn) | (k_unfold; (try dsimp only)) | (k_end; kc_close) | walk1 | (dsimp only; walk1) | (leave1; walk_say "STEP leave1"; (try dsimp only)) | fail "no step"))))))
          · have hwn : way ≠ 0 := fun q => hw0 (hMw.trans q)
            (repeat' ((fail_if_success (with_reducible show wpAny _ _ (compareOp CmpOp.In _ _) _ _ _)); first | (k_here; (with_reducible show wpAny _ _ (compareOp CmpOp.Eq (Value.ref _) (Value.ref _)) _ _ _); k_dflt (refine eq_ints_same ?_ (by is_list) (by is_list) (by l_ints) (by l_ints) (by ke_room) ?_; (first | rfl | assumption))) | (exact absurd ‹way = 0› hwn) | (k_unfold; (try dsimp only)) | (k_end; wrow_close) | walk1 | (dsimp only; walk1) | (leave1; walk_say "STEP leave1"; try dsimp only) | fail "no step")); all_goals (try (first | (refine hQo _ _ _ _ _ _ (by k_asm) (by k_asm) ?_; intro kF kN; (try dsimp only [valOf])) | (refine hEo _ _ _ ?_; (repeat' (first | (k_here; (with_reducible show wpAny _ _ (compareOp CmpOp.Eq (Value.ref _) (Value.ref _)) _ _ _); k_dflt (refine eq_ints_same ?_ (by is_list) (by is_list) (by l_ints) (by l_ints) (by ke_room) ?_; (first | rfl | assumption))) | (exact absurd ‹way = 0› hwn) | (k_unfold; (try dsimp only)) | (k_end; kc_close) | walk1 | (dsimp only; walk1) | (leave1; walk_say "STEP leave1"; (try dsimp only)) | fail "no step")))))
            refine in_two (by k_asm) (.head _) (hEo.sub (fun p hp => .tail _ hp)) (hEc.sub (fun p hp => .tail _ hp)) (ow.sub (fun p hp => .tail _ hp)) (by ke_room) ?_
            intro r hr
            rcases E1.e2 o e2 hw0 with q | ⟨q1, q2⟩
            · have hr1 := hr q
              subst hr1
              ((repeat' (first | (k_here; (with_reducible show wpAny _ _ (compareOp CmpOp.Eq (Value.ref _) (Value.ref _)) _ _ _); k_dflt (refine eq_ints_same ?_ (by is_list) (by is_list) (by l_ints) (by l_ints) (by ke_room) ?_; (first | rfl | assumption))) | (exact absurd ‹way = 0› hwn) | (k_unfold; (try dsimp only)) | (k_end; kc_close) | walk1 | (dsimp only; walk1) | (leave1; walk_say "STEP leave1"; (try dsimp only)) | fail "no step")); all_goals (try (first | (refine hQo _ _ _ _ _ _ (by k_asm) (by k_asm) ?_; intro kF kN; (try dsimp only [valOf])) | (refine hEo _ _ _ ?_; (repeat' (first | (k_here; (with_reducible show wpAny _ _ (compareOp CmpOp.Eq (Value.ref _) (Value.ref _)) _ _ _); k_dflt (refine eq_ints_same ?_ (by is_list) (by is_list) (by l_ints) (by l_ints) (by ke_room) ?_; (first | rfl | assumption))) | (exact absurd ‹way = 0› hwn) | (k_unfold; (try dsimp only)) | (k_end; kc_close) | walk1 | (dsimp only; walk1) | (leave1; walk_say "STEP leave1"; (try dsimp only)) | fail "no step"))))))
            · have q3 : (newestN M g1 != Str.ofString "") = true := by unfold bne; rw [q1]; rfl
              have qF := newest_Fs E1.few q1
              cases r with
              | true => ((repeat' (first | (k_here; (with_reducible show wpAny _ _ (compareOp CmpOp.Eq (Value.ref _) (Value.ref _)) _ _ _); k_dflt (refine eq_ints_same ?_ (by is_list) (by is_list) (by l_ints) (by l_ints) (by ke_room) ?_; (first | rfl | assumption))) | (exact absurd ‹way = 0› hwn) | (k_unfold; (try dsimp only)) | (k_end; kc_close) | walk1 | (dsimp only; walk1) | (leave1; walk_say "STEP leave1"; (try dsimp only)) | fail "no step")); all_goals (try (first | (refine hQo _ _ _ _ _ _ (by k_asm) (by k_asm) ?_; intro kF kN; (try dsimp only [valOf])) | (refine hEo _ _ _ ?_; (repeat' (first | (k_here; (with_reducible show wpAny _ _ (compareOp CmpOp.Eq (Value.ref _) (Value.ref _)) _ _ _); k_dflt (refine eq_ints_same ?_ (by is_list) (by is_list) (by l_ints) (by l_ints) (by ke_room) ?_; (first | rfl | assumption))) | (exact absurd ‹way = 0› hwn) | (k_unfold; (try dsimp only)) | (k_end; kc_close) | walk1 | (dsimp only; walk1) | (leave1; walk_say "STEP leave1"; (try dsimp only)) | fail "no step"))))))
              | false => ((repeat' (first | (k_here; (with_reducible show wpAny _ _ (compareOp CmpOp.Eq (Value.ref _) (Value.ref _)) _ _ _); k_dflt (refine eq_ints_same ?_ (by is_list) (by is_list) (by l_ints) (by l_ints) (by ke_room) ?_; (first | rfl | assumption))) | (exact absurd ‹way = 0› hwn) | (k_unfold; (try dsimp only)) | (k_end; kc_close) | walk1 | (dsimp only; walk1) | (leave1; walk_say "STEP leave1"; (try dsimp only)) | fail "no step")); all_goals (try (first | (refine hQo _ _ _ _ _ _ (by k_asm) (by k_asm) ?_; intro kF kN; (try dsimp only [valOf])) | (refine hEo _ _ _ ?_; (repeat' (first | (k_here; (with_reducible show wpAny _ _ (compareOp CmpOp.Eq (Value.ref _) (Value.ref _)) _ _ _); k_dflt (refine eq_ints_same ?_ (by is_list) (by is_list) (by l_ints) (by l_ints) (by ke_room) ?_; (first | rfl | assumption))) | (exact absurd ‹way = 0› hwn) | (k_unfold; (try dsimp only)) | (k_end; kc_close) | walk1 | (dsimp only; walk1) | (leave1; walk_say "STEP leave1"; (try dsimp only)) | fail "no step"))))))
    ))
end
local macro_rules | `(tactic| walk_at "no such step 1") => `(tactic| fail)
local macro_rules | `(tactic| walk_at "no such step 2") => `(tactic| fail)
end
local macro_rules | `(tactic| walk_at "no such step 0") => `(tactic| fail)
local macro_rules | `(tactic| walk_at "no such step 1") => `(tactic| fail)
local macro_rules | `(tactic| walk_at "no such step 2") => `(tactic| fail)
local macro_rules | `(tactic| walk_at "no such step 3") => `(tactic| fail)
local macro_rules | `(tactic| walk_at "no such step 4") => `(tactic| fail)

end Mine
theorem PySem.Challenge.cw_np0075_01_holds : PySem.Challenge.rw_np0075_01.Holds :=
  Mine.law_holds
