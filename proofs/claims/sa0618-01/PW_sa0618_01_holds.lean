import PyProof.Rows.All
import Wide.All
import OpenK.AllK
import Wide.FinOn
import PySem.Challenge.RW_sa0618_01
set_option Elab.async false
set_option compiler.extract_closed false
section
open PySem PySem.W PyProof.Rows
set_option maxRecDepth 100000
set_option maxHeartbeats 16000000
namespace Mine
/-- the statements that the head looks at: all but the five that say where a file begins -/
def pick : List Stmt → List Stmt
  | [a0, _, a2, a3, a4, _, a6, a7, a8, a9, a10, a11, _, a13, _, a15, _, a17, a18, a19, a20, a21, a22, a23, a24, a25] => [a0, a2, a3, a4, a6, a7, a8, a9, a10, a11, a13, a15, a17, a18, a19, a20, a21, a22, a23, a24, a25]
  | l => l
noncomputable def view : Program := { PySem.Challenge.rw_sa0618_01.row.toRowW.prog with main := { PySem.Challenge.rw_sa0618_01.row.toRowW.prog.main with body := pick PySem.Challenge.rw_sa0618_01.row.toRowW.prog.main.body } }
/-- topRun over a tree of objects -/
noncomputable def topRunT (ok : Nat → Option Value → Thread → Bool) (st : SharedT → Thread → Option (SharedT × Thread)) (n₀ : Nat) (ann : Option Value) : Nat → SharedT → Thread → Option SharedT
  | 0, _, _ => none
  | n + 1, s, t => match through t with
    | true => some s
    | false => match ok n₀ ann t with
      | false => none
      | true => match st s t with
        | some x => topRunT ok st n₀ ann n x.1 x.2
        | none => none
theorem topRun_of {p : Program} {w : World} {n₀ : Nat} {ann : Option Value} : ∀ {n : Nat} {s s' : SharedT} {t : Thread}, topRunT stepOk (stepT (denote treeTable) p w) n₀ ann n s t = some s' → topRun treeTable p w n₀ ann n s.abs t = some s'.abs
  | 0, _, _, _, h => by cases h
  | n + 1, s, s', t, h => by
    unfold topRunT at h
    unfold topRun
    cases he : through t with
    | true => rw [he] at h; cases h; rfl
    | false =>
      rw [he] at h
      cases hk : stepOk n₀ ann t with
      | false => rw [hk] at h; cases h
      | true =>
        rw [hk] at h
        cases hs : stepT (denote treeTable) p w s t with
        | none => rw [hs] at h; cases h
        | some x => rw [hs] at h; rw [stepT_spec hs]; exact topRun_of h
/-- the same by the library's quick twins -/
noncomputable def topRunQ (p : Program) (w : World) : Nat → Option Value → Nat → SharedT → Thread → Option SharedT := topRunT Fast.tw6613529449190102663 (Fast.tw10156331382660048174 (Fast.tw11892475500146522536 Fast.tw14364793385576792824) p w)
theorem topRunQ_eq (p : Program) (w : World) : topRunQ p w = topRunT stepOk (stepT (denote treeTable) p w) := by
  unfold topRunQ
  rw [← Fast.te6613529449190102663, ← Fast.te10156331382660048174, ← Fast.te11892475500146522536, ← Fast.te14364793385576792824]
/-- the tree of a list: every place is laid in order -/
noncomputable def treeOf (l : List Obj) : BT := (l.foldl (fun (x : BT × Nat) o => (x.1.ins x.2 o, x.2 + 1)) (BT.nil, 0)).1
theorem treeOf_boot (w : World) : absHeap (treeOf (boot_heap w.params).objs.toList) (boot_heap w.params).objs.size (boot_heap w.params).life = boot_heap w.params := by kernel_rfl
noncomputable def bootT (w : World) (os : OsState) : SharedT := ⟨treeOf (boot_heap w.params).objs.toList, (boot_heap w.params).objs.size, (boot_heap w.params).life, Array.mk [], boot_drawn, boot_toks, os⟩
theorem bootT_abs (w : World) (os : OsState) : (bootT w os).abs = ⟨boot_heap w.params, Array.mk [], boot_drawn, boot_toks, os⟩ := by
  unfold bootT SharedT.abs
  rw [treeOf_boot]
theorem topFrom_of {p : Program} {w : World} {N : Nat} {s₀ s₁ : Shared} (r1 : (s₀.heap.isNs mainGlobals && s₀.gens.size == 0) = true) (r5 : topRun treeTable p w s₀.heap.objs.size (s₀.heap.nsMap mainGlobals "__annotations__") N s₀ (topStub p) = some s₁)
    (l1 : (staticsOk (importedModules p.main.body) s₀.heap s₁.heap && namesBound p s₁.heap && gensDone s₁ && laidKept s₀.heap s₁.heap) = true) : topFrom treeTable p w N s₀ = some s₁ := by
  unfold topFrom
  rw [r1, r5]
  dsimp only [Option.bind_some]
  rw [l1]
/-- a head by one run over a tree of objects, from the boot that the library has laid -/
theorem ends_of_tree {p : Program} {N : Nat} {β : Type} {L : Shared → β} {v : World → β}
    (open_ : ∀ w : World, (fencedOpening treeTable p w N).map (fun s => (s.heap, s.gens, s.drawn, s.toks)) = some (boot_heap w.params, Array.mk [], boot_drawn, boot_toks))
    (run : ∀ (w : World), (fun os => ((boot_heap w.params).isNs mainGlobals, (topRunQ p w (boot_heap w.params).objs.size ((boot_heap w.params).nsMap mainGlobals "__annotations__") N (bootT w os) (topStub p)).map (fun s =>
        ((staticsOk (importedModules p.main.body) (boot_heap w.params) s.abs.heap && namesBound p s.abs.heap && gensDone s.abs && laidKept (boot_heap w.params) s.abs.heap), L s.abs)))) = fun _ => (true, some (true, v w)))
    (w : World) : (openEnds treeTable p w N).map L = some (v w) := by
  obtain ⟨⟨h, gs, d, k, os⟩, e, e'⟩ := Option.map_eq_some_iff.mp (open_ w)
  have e4 : (⟨h, gs, d, k, os⟩ : Shared) = ⟨boot_heap w.params, Array.mk [], boot_drawn, boot_toks, os⟩ := by cases e'; rfl
  rw [e4] at e
  obtain ⟨r1, r2⟩ := Prod.mk.inj (congrFun (run w) os)
  obtain ⟨s₁, r3, r4⟩ := Option.map_eq_some_iff.mp r2
  obtain ⟨l1, l2⟩ := Prod.mk.inj r4
  rw [topRunQ_eq] at r3
  have r5 := topRun_of r3
  rw [bootT_abs] at r5
  unfold openEnds
  rw [e]
  show (topFrom treeTable p w N _).map L = _
  rw [topFrom_of (s₀ := ⟨boot_heap w.params, Array.mk [], boot_drawn, boot_toks, os⟩) (s₁ := s₁.abs) (by show ((boot_heap w.params).isNs mainGlobals && true) = true; rw [r1]; rfl) r5 l1]
  exact congrArg some l2
theorem law_row : PySem.Challenge.rw_sa0618_01.row.wellSaid = true := by rw [Fast.te17960256430627541270]; kernel_rfl
theorem law_said : PySem.Challenge.rw_sa0618_01.wellSaid = true := by
  unfold OpenLaw.wellSaid
  rw [law_row, Fast.te8326940854005059898, Fast.te17119622794617984870]
  kernel_rfl
end Mine
-- the head by one run over a tree of objects: the pieces would be right, too, but lay 19 MB of twin equations
local macro_rules | `(tactic| o_head $H) => `(tactic| (
  refine holds_open (q := Mine.view) (loose := [Str.ofString "ROUND"]) (Xt := fun s => xlAt Mine.view [(Str.ofString "ROUND", WData.int 4294967296)] s && recOk (RowW.records (OpenRow.toRowW PySem.Challenge.rw_sa0618_01.row)) s) (XP := XL Mine.view [(Str.ofString "ROUND", WData.int 4294967296)]) (Yf := Hook.obs $H) (Ya := Hook.val $H) (YP := Hook.says $H) (N := 4170) ?hl (Hook.of $H) (Hook.keeps $H) (fun s e => xl_of s (Bool.and_eq_true_iff.mp e).1) XL.keeps (by rfl) (by rfl) (by rfl) (fun s e => recFacts_of (Bool.and_eq_true_iff.mp e).2) (by rfl) (by first | assumption | decide +kernel) (by decide +kernel) ⟨rfl, rfl, rfl, rfl, rfl, by decide +kernel⟩ ?hw ?hc
  case hl => exact Mine.ends_of_tree (boot_open (by kernel_rfl) (by decide) (fun s => by kernel_rfl)) (by intro w; kernel_rfl)))
local macro_rules | `(tactic| o_law) => `(tactic| refine holds_law Mine.law_said fun said => ?_)
namespace Mine
open_top hd for PySem.Challenge.rw_sa0618_01
end Mine
end
section
open PySem PySem.W PyProof.Rows PySem.Calls
set_option maxRecDepth 100000
local macro_rules | `(tactic| k_room) => `(tactic| (show _ < recursionLimit; (try simp only [depth_under_make, depth_under_kw, depth_in1, depth_deeper, depth_caller]); (unfold recursionLimit); omega))
local macro_rules | `(tactic| walk_at "mine enter") => `(tactic| ((case k6 | k7 => k_is); (case k8 => k_room); (case k9 => exact BindsTo.of_eq rfl); (case c5 => decide); (case kB => exact locs rfl); (case c2 | c3 | c4 => exact rfl)))
namespace Mine

/-- what stays through a call: everything but S -/
def Keeps (S : List Addr) (h h' : Heap) : Prop := h.objs.size ≤ h'.objs.size ∧ ∀ b o, b ∉ S → h.get? b = some o → h'.get? b = some o
theorem Keeps.refl (S : List Addr) (h : Heap) : Keeps S h h := ⟨Nat.le_refl _, fun _ _ _ e => e⟩
theorem Keeps.trans {S : List Addr} {h h' h'' : Heap} (x : Keeps S h h') (y : Keeps S h' h'') : Keeps S h h'' :=
  ⟨Nat.le_trans x.1 y.1, fun b o n e => y.2 b o n (x.2 b o n e)⟩

noncomputable abbrev Ar (dp un : Nat) (fr : Option (List Env)) (gd : Option (List Code)) : Around := { handled := none, depth := dp, frames := fr, guards := gd, units := un }

structure Wd (w : World) (mean : ExcName → Option Value) (mg mb : Str → Option Value) (h : Heap) : Prop where
  X : (Mine.hd.heap_1 w.params).In h
  T : Top topProg (looseW Mine.view [Str.ofString "ROUND"] ++ List.map (fun x => x.name) (recsOf Mine.view) ++ List.map (fun x => x.fst) (litsOf Mine.view) ++ List.map (fun x => x.name) (clssOf Mine.view (looseW Mine.view [Str.ofString "ROUND"]))) mean mg mb h

theorem Wd.keeps {w : World} {mean : ExcName → Option Value} {mg mb : Str → Option Value} {h h' : Heap} (G : Wd w mean mg mb h) (k : h.StaysIn h') : Wd w mean mg mb h' :=
  ⟨G.X.keeps k, G.T.keeps k⟩

theorem stays_hide {h₀ h : Heap} {as : List Addr} (k : h₀.StaysIn h) (n : ∀ a ∈ as, h₀.get? a = none) : h₀.StaysIn (hideAll h as) := fun b o e =>
  hideAll_get as (k b o e) fun q => by rw [n b q] at e; cases e

theorem keeps_of_fr {s h' : Heap} {L : Addr} {m : Str → Option Value} {as : List Addr} (F : Fr (hideAll s as) L h' m) : Keeps as s h' := by
  refine ⟨?_, fun b o n e => F.keep b o (hideAll_get as e n)⟩
  have h1 := F.above
  rw [hideAll_size] at h1
  obtain ⟨o, _, _, ho, _⟩ := F.ns
  exact Nat.le_trans h1 (Nat.le_of_lt (Heap.lt_size ho))

section
variable {w : World} {A : Around} {s : Shared} {h₀ : Heap} {mean : ExcName → Option Value} {mg mb : Str → Option Value} {R : Result → Shared → Prop}
  {name qual : Str} {params : Arguments} {body : List Stmt} {scope : Scope} {dV kV doc pm cdv ct oc : Value} {an od : Option Addr} {osl : Array (Option Value)} {f : Addr} {args : Args} {binds : List (Str × Value)}
theorem enter (hide : List (Addr × Obj)) (G : Wd w mean mg mb h₀) (O : h₀.StaysIn s.heap) (hN : ∀ p ∈ hide, s.heap.get? p.1 = some p.2 ∧ h₀.get? p.1 = none)
    (ho : (Mine.hd.heap_1 w.params).lookup f = some ⟨oc, od, .func (fnOf name qual params body scope dV kV doc pm an cdv ct), osl⟩) (hcd : codeIn (Mine.hd.heap_1 w.params) cdv qual = true) (hroom : A.depth < recursionLimit)
    (hbind : BindsTo s (fnOf name qual params body scope dV kV doc pm an cdv ct) args binds) (hloc : ∀ y ∈ binds, scope.names.lookup y.1 = some .local)
    (h : ∀ g L h₁, g = hideAll s.heap (hide.map (·.1)) → L = s.heap.objs.size → Fr g L h₁ (fun y => binds.reverse.lookup y) → News g L h₁ hide → (∀ p ∈ hide, p.1 < L) → h₀.StaysIn g → (Mine.hd.heap_1 w.params).In g → Top topProg (looseW Mine.view [Str.ofString "ROUND"] ++ List.map (fun x => x.name) (recsOf Mine.view) ++ List.map (fun x => x.fst) (litsOf Mine.view) ++ List.map (fun x => x.name) (clssOf Mine.view (looseW Mine.view [Str.ofString "ROUND"]))) mean mg mb g →
      wpAny (model PySem.Challenge.rw_sa0618_01.row.prog w) (A.deeper (envOf qual scope L f cdv)) (execs body (envOf qual scope L f cdv))
        (fun fl s' => R (.ok (.ret (match fl with | .ret v => v | _ => .none))) s')
        (fun e s' => wpAny (model PySem.Challenge.rw_sa0618_01.row.prog w) (A.deeper (envOf qual scope L f cdv)) (leaving (envOf qual scope L f cdv) e) (fun _ s'' => R (.error e) s'') (fun e' s'' => R (.error e') s'') s')
        { s with heap := h₁, toks := s.toks + binds.length })
    (hcell : ∀ x ∈ scope.names, x.2 ≠ .cell) (hco : scope.isCoroutine = false := by rfl) (hgen : scope.isGenerator = false := by rfl) (hk : scope.kind = .function := by rfl) :
    codeAny (model PySem.Challenge.rw_sa0618_01.row.prog w) A (.call (.ref f) args) R s := by
  have X := G.X.keeps O
  refine codeAny_call_def (fd := fnOf name qual params body scope dV kV doc pm an cdv ct) (body := body) (binds := binds) hroom (X _ _ ho) rfl (G.T.nolimit.keeps O) (codeRec_of X hcd) rfl hbind hcell hloc (fun h₁ hns hk₁ => ?_) hco hgen hk
  have hn : ∀ a ∈ hide.map (·.1), h₀.get? a = none := fun a ha => by
    obtain ⟨p, hp, rfl⟩ := List.mem_map.mp ha
    exact (hN p hp).2
  have st := stays_hide O hn
  have G' := G.keeps st
  exact h (hideAll s.heap (hide.map (·.1))) s.heap.objs.size h₁ rfl rfl ⟨hns, fun b o e => hk₁ b o (of_hideAll _ e), Nat.le_of_eq (hideAll_size _ _)⟩
    (fun p hp => ⟨hk₁ _ _ (hN p hp).1, Nat.ne_of_lt (Heap.lt_size (hN p hp).1), hideAll_none _ (List.mem_map_of_mem hp)⟩) (fun p hp => Heap.lt_size (hN p hp).1) st G'.X G'.T

theorem enter_ret (hide : List (Addr × Obj)) (G : Wd w mean mg mb h₀) (O : h₀.StaysIn s.heap) (hN : ∀ p ∈ hide, s.heap.get? p.1 = some p.2 ∧ h₀.get? p.1 = none)
    (ho : (Mine.hd.heap_1 w.params).lookup f = some ⟨oc, od, .func (fnOf name qual params body scope dV kV doc pm an cdv ct), osl⟩) (hcd : codeIn (Mine.hd.heap_1 w.params) cdv qual = true) (hroom : A.depth < recursionLimit)
    (hbind : BindsTo s (fnOf name qual params body scope dV kV doc pm an cdv ct) args binds) (hloc : ∀ y ∈ binds, scope.names.lookup y.1 = some .local)
    (h : ∀ g L h₁, g = hideAll s.heap (hide.map (·.1)) → L = s.heap.objs.size → Fr g L h₁ (fun y => binds.reverse.lookup y) → News g L h₁ hide → (∀ p ∈ hide, p.1 < L) → h₀.StaysIn g → (Mine.hd.heap_1 w.params).In g → Top topProg (looseW Mine.view [Str.ofString "ROUND"] ++ List.map (fun x => x.name) (recsOf Mine.view) ++ List.map (fun x => x.fst) (litsOf Mine.view) ++ List.map (fun x => x.name) (clssOf Mine.view (looseW Mine.view [Str.ofString "ROUND"]))) mean mg mb g →
      wpAny (model PySem.Challenge.rw_sa0618_01.row.prog w) (A.deeper (envOf qual scope L f cdv)) (execs body (envOf qual scope L f cdv))
        (fun fl s' => R (.ok (.ret (match fl with | .ret v => v | _ => .none))) s') (fun _ _ => False)
        { s with heap := h₁, toks := s.toks + binds.length })
    (hcell : ∀ x ∈ scope.names, x.2 ≠ .cell) (hco : scope.isCoroutine = false := by rfl) (hgen : scope.isGenerator = false := by rfl) (hk : scope.kind = .function := by rfl) :
    codeAny (model PySem.Challenge.rw_sa0618_01.row.prog w) A (.call (.ref f) args) R s :=
  enter hide G O hN ho hcd hroom hbind hloc (fun g L h₁ e1 e2 F N l st X T => wpAny_mono (h g L h₁ e1 e2 F N l st X T) (fun _ _ x => x) (fun _ _ x => x.elim)) hcell hco hgen hk
end

section
variable {g h h' : Heap} {L d : Addr} {m : Str → Option Value} {news : List (Addr × Obj)} {o o' : Obj} {u : Obj → List (Addr × Obj)} {S : List Addr}
theorem fr_keeps (F : Fr g L h m) (k : Keeps S h h') (hL : L ∉ S) (hS : ∀ a ∈ S, g.get? a = none) : Fr g L h' m := by
  obtain ⟨⟨oL, es, ep, hl, r⟩, kp, ab⟩ := F
  refine ⟨⟨oL, es, ep, k.2 _ _ hL hl, r⟩, fun b o e => k.2 _ _ (fun q => ?_) (kp b o e), ab⟩
  rw [hS b q] at e; cases e
theorem news_keeps (N : News g L h news) (k : Keeps S h h') (hS : ∀ p ∈ news, p.1 ∉ S) : News g L h' news := fun p hp =>
  ⟨k.2 _ _ (hS p hp) (N p hp).1, (N p hp).2⟩
theorem updF_mem (U : UpdF d o news u) : (d, o) ∈ news := by
  obtain ⟨pre, post, rfl, _⟩ := U.split
  exact List.mem_append_right _ (.head _)
theorem fr_upd (F : Fr g L h m) (N : News g L h news) (U : UpdF d o news u) (k : Keeps [d] h h') : Fr g L h' m := by
  have hm := N _ (updF_mem U)
  exact fr_keeps F k (fun q => hm.2.1 (List.mem_singleton.mp q).symm) (fun a q => by rw [List.mem_singleton.mp q]; exact hm.2.2)
theorem news_updF (N : News g L h news) (U : UpdF d o news u) (k : Keeps [d] h h') (ho : h'.get? d = some o') : News g L h' (u o') := by
  have hm := N _ (updF_mem U)
  obtain ⟨pre, post, rfl, hg, a, b⟩ := U.split
  rw [hg]
  intro p hp
  rcases List.mem_append.mp hp with q | q
  · exact ⟨k.2 _ _ (fun z => a p q (List.mem_singleton.mp z)) (N p (List.mem_append_left _ q)).1, (N p (List.mem_append_left _ q)).2⟩
  · rcases List.mem_cons.mp q with rfl | q
    · exact ⟨ho, hm.2⟩
    · exact ⟨k.2 _ _ (fun z => b p q (List.mem_singleton.mp z)) (N p (List.mem_append_right _ (.tail _ q))).1, (N p (List.mem_append_right _ (.tail _ q))).2⟩
end
end Mine
namespace Mine
def Cells (h : Heap) (c : Addr) : Prop := ∃ vs ns, h.IsList c vs.toArray ∧ IntsAre vs ns ∧ (∀ n ∈ ns, (0 : Int) ≤ n ∧ n < 1000003) ∧ ns.length ≤ 63
abbrev wellO (c : Addr) (p : Int) (tp : Tok) (q : Int) (tq : Tok) (n : Nat) : Obj := listOf [Value.ref c, .int p tp, .int q tq].toArray n

set_option maxHeartbeats 8000000 in
theorem draw_spec {w : World} {mean : ExcName → Option Value} {mg mb : Str → Option Value} {h₀ : Heap} {dp un : Nat} {fr : Option (List Env)} {gd : Option (List Code)} {s : Shared} {wl c : Addr} {p q size : Int} {tp tq t : Tok} {n : Nat} {Q E : Value → Shared → Prop}
    (hroom : dp < 900) (G : Wd w mean mg mb h₀) (O : h₀.StaysIn s.heap) (hw : s.heap.get? wl = some (wellO c p tp q tq n)) (hw0 : h₀.get? wl = none) (hc : Cells s.heap c) (hne : c ≠ wl)
    (hp : 0 ≤ p) (hq0 : 0 ≤ q) (hq1 : q < 1009) (hs0 : 0 < size) (hs1 : size ≤ 1000)
    (hQ : ∀ h' v tv p' tp' q' tq' tk, Keeps [wl] s.heap h' → h'.get? wl = some (wellO c p' tp' q' tq' n) → 0 ≤ p' → 0 ≤ q' → q' < 1009 → 0 ≤ v → v < size → Q (.int v tv) { s with heap := h', toks := tk }) :
    wpAny (model PySem.Challenge.rw_sa0618_01.row.prog w) (Ar dp un fr gd) (call (.ref 194) [.ref wl, .int size t]) Q E s := by
  have hK : ∃ k, k = (Mine.hd.heap_1 w.params) := ⟨_, rfl⟩
  revert hK
  k_fill
  w_top off
  intro hK
  obtain ⟨vs, ns, hl, hi, hb, hlen⟩ := hc
  refine wpAny_call ?_
  refine' enter_ret (binds := [(Str.ofString "well", .ref wl), (Str.ofString "size", .int size t)]) [(wl, wellO c p tp q tq n)] G O ?kN ?k6 ?k7 ?k8 ?k9 ?kB ?_ ?c5 ?c2 ?c3 ?c4
  walk_at "mine enter"
  (case kN =>
    intro x hx
    rcases List.mem_singleton.mp hx with rfl
    exact ⟨hw, hw0⟩)
  intro g L h₁ eg eL F N l st X T
  have hlg : g.IsList c vs.toArray := by
    obtain ⟨o, ho, r⟩ := hl
    refine ⟨o, ?_, r⟩
    rw [eg]
    exact hideAll_get _ ho (by simpa using hne)
  (show wpAny _ _ _ _ _ _)
  k_fold
  k_steps
  all_goals
    (with_reducible rename Fr _ _ _ _ => F9)
    (with_reducible rename News _ _ _ _ => N9)
    subst eg
    refine hQ _ _ _ _ _ _ _ _ (keeps_of_fr F9) (N9.get (by k_mem)) ?_ ?_ ?_ ?_ ?_
    all_goals first | omega | exact fmod_lo _ (by omega) | exact fmod_hi _ (by omega)

theorem Cells.keeps {h h' : Heap} {c : Addr} (x : Cells h c) (k : h.StaysIn h') : Cells h' c := by
  obtain ⟨vs, ns, ⟨o, ho, r⟩, z⟩ := x
  exact ⟨vs, ns, ⟨o, k _ _ ho, r⟩, z⟩
theorem Cells.ne {h : Heap} {c wl : Addr} {p q : Int} {tp tq : Tok} {n : Nat} (x : Cells h c) (hw : h.get? wl = some (wellO c p tp q tq n)) : c ≠ wl := by
  obtain ⟨vs, ns, ⟨o, ho, _, k, hd⟩, hi, _⟩ := x
  rintro rfl
  rw [hw] at ho
  cases ho
  cases hd
  cases hi

theorem draw_K {w : World} {mean : ExcName → Option Value} {mg mb : Str → Option Value} {g : Heap} {L : Addr} {m : Str → Option Value} {news : List (Addr × Obj)} {u : Obj → List (Addr × Obj)}
    {dp un : Nat} {fr : Option (List Env)} {gd : Option (List Code)} {s : Shared} {wl c : Addr} {p q size : Int} {tp tq t : Tok} {n : Nat} {Q E : Value → Shared → Prop}
    (F : Fr g L s.heap m) (N : News g L s.heap news) (X : (Mine.hd.heap_1 w.params).In g) (T : Top topProg (looseW Mine.view [Str.ofString "ROUND"] ++ List.map (fun x => x.name) (recsOf Mine.view) ++ List.map (fun x => x.fst) (litsOf Mine.view) ++ List.map (fun x => x.name) (clssOf Mine.view (looseW Mine.view [Str.ofString "ROUND"]))) mean mg mb g) (U : UpdF wl (wellO c p tp q tq n) news u) (hc : Cells s.heap c)
    (hroom : dp < 900) (hp : 0 ≤ p) (hq0 : 0 ≤ q) (hq1 : q < 1009) (hs0 : 0 < size) (hs1 : size ≤ 1000)
    (hQ : ∀ h' v tv p' tp' q' tq' tk, Fr g L h' m → News g L h' (u (wellO c p' tp' q' tq' n)) → 0 ≤ p' → 0 ≤ q' → q' < 1009 → 0 ≤ v → v < size → Q (.int v tv) { s with heap := h', toks := tk }) :
    wpAny (model PySem.Challenge.rw_sa0618_01.row.prog w) (Ar dp un fr gd) (call (.ref 194) [.ref wl, .int size t]) Q E s := by
  have hm := N _ (updF_mem U)
  exact draw_spec hroom ⟨X, T⟩ F.keep hm.1 hm.2.2 hc (hc.ne hm.1) hp hq0 hq1 hs0 hs1 fun h' v tv p' tp' q' tq' tk k ho x1 x2 x3 x4 x5 =>
    hQ h' v tv p' tp' q' tq' tk (fr_upd F N U k) (news_updF N U k ho) x1 x2 x3 x4 x5
end Mine
namespace Mine
/-- the values of an int dict -/
def IntsAt (kvs : List (Int × Value)) (f : Int → Option Int) : Prop := ∀ k, match f k with | some i => ∃ t, valueAt kvs k = some (.int i t) | none => valueAt kvs k = none
def IDictO (w : World) (o : Obj) (f : Int → Option Int) (B : Nat) : Prop := ∃ kvs, o.IsDictOf (intKind PySem.Challenge.rw_sa0618_01.row.prog w) kvs ∧ IntsAt kvs f ∧ kvs.length ≤ B
def IDict (w : World) (h : Heap) (d : Addr) (f : Int → Option Int) (B : Nat) : Prop := (d == sysModules) = false ∧ ∃ o, h.get? d = some o ∧ IDictO w o f B
def OptAt (y : Option Int) (v : Value) : Prop := match y with | some i => ∃ ti, v = .int i ti | none => v = .none
def upd (f : Int → Option Int) (k i : Int) : Int → Option Int := fun x => if x = k then some i else f x
def del (f : Int → Option Int) (k : Int) : Int → Option Int := fun x => if x = k then none else f x

theorem IDict.keeps {w : World} {h h' : Heap} {d : Addr} {f : Int → Option Int} {B : Nat} (x : IDict w h d f B) (k : ∀ b o, h.get? b = some o → h'.get? b = some o) : IDict w h' d f B :=
  let ⟨l, o, e, r⟩ := x; ⟨l, o, k _ _ e, r⟩
theorem IDict.keepsS {w : World} {h h' : Heap} {d : Addr} {f : Int → Option Int} {B : Nat} {S : List Addr} (x : IDict w h d f B) (k : Keeps S h h') (n : d ∉ S) : IDict w h' d f B :=
  let ⟨l, o, e, r⟩ := x; ⟨l, o, k.2 _ _ n e, r⟩
theorem IDict.of_news {w : World} {g h : Heap} {L d : Addr} {news : List (Addr × Obj)} {o : Obj} {f : Int → Option Int} {B : Nat} (N : News g L h news) (hm : (d, o) ∈ news) (i : IDictO w o f B) (l : (d == sysModules) = false) : IDict w h d f B := ⟨l, o, N.get hm, i⟩
theorem IDictO.mono {w : World} {o : Obj} {f : Int → Option Int} {B B' : Nat} (x : IDictO w o f B) (h : B ≤ B') : IDictO w o f B' := let ⟨k, a, b, c⟩ := x; ⟨k, a, b, Nat.le_trans c h⟩
theorem IDict.mono {w : World} {h : Heap} {d : Addr} {f : Int → Option Int} {B B' : Nat} (x : IDict w h d f B) (l : B ≤ B') : IDict w h d f B' := let ⟨a, o, b, c⟩ := x; ⟨a, o, b, c.mono l⟩

theorem IntsAt.isSome {kvs : List (Int × Value)} {f : Int → Option Int} (x : IntsAt kvs f) (k : Int) : (valueAt kvs k).isSome = (f k).isSome := by
  have := x k
  cases e : f k with
  | none => rw [e] at this; rw [this]; rfl
  | some i => rw [e] at this; obtain ⟨t, q⟩ := this; rw [q]; rfl
theorem IntsAt.at_ {kvs : List (Int × Value)} {f : Int → Option Int} (x : IntsAt kvs f) {k i : Int} (e : f k = some i) : ∃ t, valueAt kvs k = some (.int i t) := by
  have := x k
  rw [e] at this; exact this
theorem IntsAt.off {kvs : List (Int × Value)} {f : Int → Option Int} (x : IntsAt kvs f) {k : Int} (e : f k = none) : valueAt kvs k = none := by
  have := x k
  rw [e] at this; exact this
theorem IntsAt.empty : IntsAt [] (fun _ => none) := fun _ => rfl

theorem valueAt_nil (k : Int) : valueAt ([] : List (Int × Value)) k = none := rfl
theorem valueAt_cons (a : Int × Value) (r : List (Int × Value)) (k : Int) : valueAt (a :: r) k = if a.1 = k then some a.2 else valueAt r k := by
  unfold valueAt
  rw [List.find?_cons]
  by_cases h : a.1 = k
  · simp [h]
  · simp [h]
theorem valueAt_append (l r : List (Int × Value)) (k : Int) : valueAt (l ++ r) k = (valueAt l k).or (valueAt r k) := by
  unfold valueAt
  rw [List.find?_append]
  cases List.find? (fun kv => decide (kv.1 = k)) l <;> rfl
theorem valueAt_map (kvs : List (Int × Value)) (k : Int) (v : Value) (x : Int) : valueAt (kvs.map fun kv => if kv.1 = k then (kv.1, v) else kv) x = if x = k then (valueAt kvs x).map (fun _ => v) else valueAt kvs x := by
  induction kvs with
  | nil => simp [valueAt_nil]
  | cons a r ih =>
    rw [List.map_cons, valueAt_cons, valueAt_cons, ih]
    by_cases h1 : a.1 = k
    · rw [if_pos h1]
      by_cases h2 : x = k
      · subst h2; simp [h1]
      · have : ¬ a.1 = x := fun e => h2 (by rw [← e, h1])
        simp [h2, this]
    · rw [if_neg h1]
      by_cases h2 : x = k
      · subst h2; simp [h1]
      · simp [h2]
theorem any_iff (kvs : List (Int × Value)) (k : Int) : (kvs.any fun kv => kv.1 = k) = (valueAt kvs k).isSome := by
  induction kvs with
  | nil => rfl
  | cons a r ih =>
    rw [List.any_cons, valueAt_cons, ih]
    by_cases h : a.1 = k <;> simp [h]
theorem valueAt_stored (kvs : List (Int × Value)) (k : Int) (v : Value) (x : Int) : valueAt (stored kvs k v) x = if x = k then some v else valueAt kvs x := by
  unfold stored
  rw [any_iff]
  by_cases h : (valueAt kvs k).isSome = true
  · rw [if_pos h, valueAt_map]
    by_cases e : x = k
    · subst e
      rw [if_pos rfl, if_pos rfl]
      obtain ⟨y, hy⟩ := Option.isSome_iff_exists.mp h
      rw [hy]; rfl
    · rw [if_neg e, if_neg e]
  · rw [if_neg h, valueAt_append, valueAt_cons, valueAt_nil]
    by_cases e : x = k
    · subst e
      have : valueAt kvs x = none := by simpa using h
      simp [this]
    · have : ¬ k = x := fun q => e q.symm
      simp [e, this]
theorem valueAt_without (kvs : List (Int × Value)) (k x : Int) : valueAt (without kvs k) x = if x = k then none else valueAt kvs x := by
  unfold without
  induction kvs with
  | nil => simp [valueAt_nil]
  | cons a r ih =>
    rw [List.filter_cons, valueAt_cons]
    by_cases h1 : a.1 = k
    · simp only [ne_eq, h1, not_true_eq_false, decide_false, Bool.false_eq_true, if_false]
      rw [ih]
      by_cases e : x = k
      · simp [e]
      · have : ¬ k = x := fun q => e q.symm
        simp [e, this]
    · simp only [ne_eq, h1, not_false_eq_true, decide_true, if_true]
      rw [valueAt_cons, ih]
      by_cases e : a.1 = x
      · have : ¬ x = k := fun q => h1 (by rw [e, q])
        simp [e, this]
      · simp [e]
theorem stored_length (kvs : List (Int × Value)) (k : Int) (v : Value) : (stored kvs k v).length ≤ kvs.length + 1 := by
  unfold stored
  split <;> simp
theorem without_length (kvs : List (Int × Value)) (k : Int) : (without kvs k).length ≤ kvs.length := List.length_filter_le _ _

theorem IntsAt.set {kvs : List (Int × Value)} {f : Int → Option Int} (x : IntsAt kvs f) (k i : Int) (t : Tok) : IntsAt (stored kvs k (.int i t)) (upd f k i) := by
  intro y
  unfold upd
  rw [valueAt_stored]
  by_cases e : y = k
  · simp only [if_pos e]; exact ⟨t, rfl⟩
  · simp only [if_neg e]; exact x y
theorem IntsAt.del {kvs : List (Int × Value)} {f : Int → Option Int} (x : IntsAt kvs f) (k : Int) : IntsAt (without kvs k) (del f k) := by
  intro y
  unfold Mine.del
  rw [valueAt_without]
  by_cases e : y = k
  · simp only [if_pos e]
  · simp only [if_neg e]; exact x y
theorem IDictO.set {w : World} {o o' : Obj} {f : Int → Option Int} {B : Nat} {kvs : List (Int × Value)} {k i : Int} {t : Tok} (h : o'.IsDictOf (intKind PySem.Challenge.rw_sa0618_01.row.prog w) (stored kvs k (.int i t))) (x : IntsAt kvs f) (l : kvs.length ≤ B) : IDictO w o' (upd f k i) (B + 1) :=
  ⟨_, h, x.set k i t, Nat.le_trans (stored_length _ _ _) (Nat.add_le_add_right l 1)⟩

section
variable {w : World} {A : Around} {E : Value → Shared → Prop} {s : Shared} {d : Addr} {f : Int → Option Int} {B : Nat} {k : Int} {t : Tok}
theorem IDict.dictOf {h : Heap} (I : IDict w h d f B) : (d == sysModules) = false ∧ ∃ kvs, h.DictOf (intKind PySem.Challenge.rw_sa0618_01.row.prog w) d kvs ∧ IntsAt kvs f ∧ kvs.length ≤ B := by
  obtain ⟨l, o, e, kvs, a, b, c⟩ := I
  exact ⟨l, kvs, Heap.dictOf_iff.mpr ⟨o, e, a⟩, b, c⟩
theorem idict_in {Q : Value → Shared → Prop} (I : IDict w s.heap d f B) (h : Q (.bool (f k).isSome) { s with toks := s.toks + 1 }) : wpAny (model PySem.Challenge.rw_sa0618_01.row.prog w) A (compareOp .In (.int k t) (.ref d)) Q E s := by
  obtain ⟨l, kvs, hd, hi, _⟩ := I.dictOf
  exact wpAny_in_of (intKind_is _ _ _ _) l hd.mapOf (by rw [hi.isSome]; exact h)
theorem idict_in_f {Q : Value → Shared → Prop} (e : f k = none) (I : IDict w s.heap d f B) (h : Q (.bool false) { s with toks := s.toks + 1 }) : wpAny (model PySem.Challenge.rw_sa0618_01.row.prog w) A (compareOp .In (.int k t) (.ref d)) Q E s := idict_in I (by rw [e]; exact h)
theorem idict_notin {Q : Value → Shared → Prop} (I : IDict w s.heap d f B) (h : Q (.bool (!(f k).isSome)) { s with toks := s.toks + 1 }) : wpAny (model PySem.Challenge.rw_sa0618_01.row.prog w) A (compareOp .NotIn (.int k t) (.ref d)) Q E s := by
  obtain ⟨l, kvs, hd, hi, _⟩ := I.dictOf
  exact wpAny_notIn_of (intKind_is _ _ _ _) l hd.mapOf (by rw [hi.isSome]; exact h)
theorem idict_getItem {Q : Value → Shared → Prop} (I : IDict w s.heap d f B) (hk : (f k).isSome = true) (h : ∀ i ti, f k = some i → Q (.int i ti) { s with toks := s.toks + 1 }) : wpAny (model PySem.Challenge.rw_sa0618_01.row.prog w) A (getItem (.ref d) (.int k t)) Q E s := by
  obtain ⟨l, kvs, hd, hi, _⟩ := I.dictOf
  obtain ⟨i, e⟩ := Option.isSome_iff_exists.mp hk
  obtain ⟨ti, q⟩ := hi.at_ e
  exact wpAny_getItem_of (intKind_is _ _ _ _) hd.mapOf q (h i ti e)
theorem idict_item {value slice : PySem.Expr} {Q : Value → Shared → Prop} (I : IDict w s.heap d f B) (hk : (f k).isSome = true) (h : ∀ i ti, f k = some i → Q (.int i ti) { s with toks := s.toks + 1 })
    (hs : subscripted slice false (.ref d) (.int k t) = operate [.ref d, .int k t] (getItem (.ref d) (.int k t)) := by with_unfolding_all rfl) :
    wpAny (model PySem.Challenge.rw_sa0618_01.row.prog w) A (subscriptTail value slice (.ref d) (.int k t)) Q E s := by
  obtain ⟨l, kvs, hd, hi, _⟩ := I.dictOf
  exact tail_any hd.typeIs slot_dict_getitem.lookup (idict_getItem I hk h) hs
theorem idict_getMeth {pl : Sem Bool} {Q : Value × List Value → Shared → Prop} (I : IDict w s.heap d f B) (h : Q (.builtin "dict.get", [.ref d]) s) : wpAny (model PySem.Challenge.rw_sa0618_01.row.prog w) A (getMethod (.ref d) "get" pl) Q E s := by
  obtain ⟨l, kvs, hd, hi, _⟩ := I.dictOf
  exact getMethod_builtin hd.typeIs PySem.F.plainAttrs_dict PySem.F.slot_dict_get PySem.F.type_dict_get hd.mapOf.noDict h
theorem idict_popMeth {pl : Sem Bool} {Q : Value × List Value → Shared → Prop} (I : IDict w s.heap d f B) (h : Q (.builtin "dict.pop", [.ref d]) s) : wpAny (model PySem.Challenge.rw_sa0618_01.row.prog w) A (getMethod (.ref d) "pop" pl) Q E s := by
  obtain ⟨l, kvs, hd, hi, _⟩ := I.dictOf
  exact getMethod_builtin hd.typeIs PySem.F.plainAttrs_dict PySem.F.slot_dict_pop PySem.F.type_dict_pop hd.mapOf.noDict h
theorem idict_get1 {Q : Value → Shared → Prop} (I : IDict w s.heap d f B) (h : ∀ v, OptAt (f k) v → Q v { s with toks := s.toks + 1 }) :
    wpAny (model PySem.Challenge.rw_sa0618_01.row.prog w) A (call (.builtin "dict.get") [.ref d, .int k t]) Q E s := by
  obtain ⟨l, kvs, hd, hi, _⟩ := I.dictOf
  refine call_meetsIn PySem.F.slot_dict_get hd.typeIs PySem.F.entry_dict_get (PySem.F.args_dict_get_2 _ _) (meets_dict_get (intKind PySem.Challenge.rw_sa0618_01.row.prog w) d (intKind_is _ _ _ _) l) ⟨_, hd.mapOf, ?_⟩
  refine h _ ?_
  have := hi k
  cases e : f k with
  | none => rw [e] at this; rw [this]; rfl
  | some i => rw [e] at this; obtain ⟨ti, q⟩ := this; rw [q]; exact ⟨ti, rfl⟩
theorem idict_get2 {dv : Int} {dt : Tok} {Q : Value → Shared → Prop} (I : IDict w s.heap d f B) (h : ∀ ti, Q (.int ((f k).getD dv) ti) { s with toks := s.toks + 1 }) :
    wpAny (model PySem.Challenge.rw_sa0618_01.row.prog w) A (call (.builtin "dict.get") [.ref d, .int k t, .int dv dt]) Q E s := by
  obtain ⟨l, kvs, hd, hi, _⟩ := I.dictOf
  refine call_meetsIn PySem.F.slot_dict_get hd.typeIs PySem.F.entry_dict_get (PySem.F.args_dict_get_3 _ _ _) (meets_dict_get_default (intKind PySem.Challenge.rw_sa0618_01.row.prog w) d (intKind_is _ _ _ _) l (.int dv dt)) ⟨_, hd.mapOf, ?_⟩
  have := hi k
  cases e : f k with
  | none => rw [e] at this; rw [this]; have := h dt; rw [e] at this; exact this
  | some i => rw [e] at this; obtain ⟨ti, q⟩ := this; rw [q]; have := h ti; rw [e] at this; exact this
section
variable {g : Heap} {L : Addr} {m : Str → Option Value} {news : List (Addr × Obj)} {o : Obj} {u : Obj → List (Addr × Obj)}
theorem idict_set {i : Int} {ti : Tok} {Q : Unit → Shared → Prop} (F : Fr g L s.heap m) (N : News g L s.heap news) (U : UpdF d o news u) (I : IDictO w o f B) (hB : B ≤ 1000)
    (h : ∀ h' o', Fr g L h' m → News g L h' (u o') → IDictO w o' (upd f k i) (B + 1) → Q () { s with heap := h', toks := s.toks + 1 }) : wpAny (model PySem.Challenge.rw_sa0618_01.row.prog w) A (setItem (.ref d) (.int k t) (.int i ti)) Q E s := by
  obtain ⟨kvs, hd, hi, hl⟩ := I
  exact kda_set F N U hd (intKind_is _ _ _ _) (by rw [sizeLine_eq]; omega) fun h' o' F' N' hd' => h h' o' F' N' (IDictO.set (o := o) hd' hi hl)
theorem idict_pop2 {Q : Value → Shared → Prop} (F : Fr g L s.heap m) (N : News g L s.heap news) (U : UpdF d o news u) (I : IDictO w o f B) (lo : (d == sysModules) = false) (hB : B ≤ 1000)
    (h : ∀ h' o' v, (v = .none ∨ ∃ i ti, v = .int i ti) → Fr g L h' m → News g L h' (u o') → IDictO w o' (del f k) B → Q v { s with heap := h', toks := s.toks + 1 }) : wpAny (model PySem.Challenge.rw_sa0618_01.row.prog w) A (call (.builtin "dict.pop") [.ref d, .int k t, .none]) Q E s := by
  obtain ⟨kvs, hd, hi, hl⟩ := I
  have hm := N _ (updF_mem U)
  have hD : s.heap.DictOf (intKind PySem.Challenge.rw_sa0618_01.row.prog w) d kvs := Heap.dictOf_iff.mpr ⟨o, hm.1, hd⟩
  cases e : f k with
  | none =>
    refine call_meetsIn PySem.F.slot_dict_pop hD.typeIs PySem.F.entry_dict_pop (PySem.F.args_dict_pop_3 _ _ _) (meets_dict_pop_default (intKind PySem.Challenge.rw_sa0618_01.row.prog w) d (intKind_is _ _ _ _) lo rfl .none) ⟨_, hD, hi.off e, ?_⟩
    have hu : u o = news := by
      obtain ⟨pre, post, q, hg, _, _⟩ := U.split
      rw [hg, q]
    refine h s.heap o .none (.inl rfl) F (by rw [hu]; exact N) ⟨kvs, hd, fun x => ?_, hl⟩
    unfold del
    by_cases q : x = k
    · simp only [if_pos q]; rw [q]; exact hi.off e
    · simp only [if_neg q]; exact hi x
  | some i =>
    obtain ⟨ti, q⟩ := hi.at_ e
    refine call_meetsIn PySem.F.slot_dict_pop hD.typeIs PySem.F.entry_dict_pop (PySem.F.args_dict_pop_3 _ _ _) (meets_dict_pop_there (intKind PySem.Challenge.rw_sa0618_01.row.prog w) d (intKind_is _ _ _ _) [.none] (.inr ⟨_, rfl⟩) rfl) ⟨kvs, _, hD, (by rw [sizeLine_eq]; omega), q, fun h' hmm hs => ?_⟩
    obtain ⟨pre, post, q, hg, a, b⟩ := U.split
    subst q
    obtain ⟨o', ho', hd'⟩ := Heap.dictOf_iff.mp hmm
    exact h h' o' _ (.inr ⟨i, ti, rfl⟩) (F.change hs hm.2.1 hm.2.2) (hg o' ▸ N.setIn a b hs ho') ⟨_, hd', hi.del k, Nat.le_trans (without_length _ _) hl⟩
end
end
end Mine
section
local macro_rules | `(tactic| walk_at "mine dict") => `(tactic| first
  | (refine' Mine.IDict.of_news ?mdN ?mdm ?mdi ?mdl; (case mdN => k_asm); (case mdm => k_mem); (case mdi | mdl => k_asm))
  | exact Mine.IDict.keeps (by k_asm) (Fr.keep (by k_asm))
  | k_asm)
local macro_rules | `(tactic| walk_at "compareOp NotIn int ref") => `(tactic| k_dflt (refine' Mine.idict_notin ?I ?_; (case I => walk_at "mine dict"); k_whole))
local macro_rules | `(tactic| walk_at "mine item") => `(tactic| k_dflt (refine' Mine.idict_item ?I ?hk ?_ ?hs; (case I => walk_at "mine dict"); (case hs => with_unfolding_all rfl); (case hk => walk_at "mine there"); k_whole; intro i ti ei))
local macro_rules | `(tactic| walk_at "mine there") => `(tactic| first | assumption | (simp_all; done))
local macro_rules | `(tactic| walk_at "subscriptTail Name BinOp ref int") => `(tactic| walk_at "mine item")
namespace Mine
def wordOf (f : Int → Option Int) (a : Int) : Int := match f a, f (a + 1), f (a + 2), f (a + 3) with
  | some x0, some x1, some x2, some x3 => x0 + x1 * 256 + x2 * 65536 + x3 * 16777216
  | _, _, _, _ => -1

section
variable {f : Int → Option Int} {a x0 x1 x2 x3 : Int}
theorem word_eq (h0 : f (a + (0 + ((0 : Nat) : Int))) = some x0) (h1 : f (a + (0 + ((0 + 1 : Nat) : Int))) = some x1) (h2 : f (a + (0 + ((0 + 1 + 1 : Nat) : Int))) = some x2) (h3 : f (a + (0 + ((0 + 1 + 1 + 1 : Nat) : Int))) = some x3) :
    wordOf f a = 0 + x0 * 256 ^ (0 + ((0 : Nat) : Int)).toNat + x1 * 256 ^ (0 + ((0 + 1 : Nat) : Int)).toNat + x2 * 256 ^ (0 + ((0 + 1 + 1 : Nat) : Int)).toNat + x3 * 256 ^ (0 + ((0 + 1 + 1 + 1 : Nat) : Int)).toNat := by
  have e0 : a + (0 + ((0 : Nat) : Int)) = a := by omega
  have e1 : a + (0 + ((0 + 1 : Nat) : Int)) = a + 1 := by omega
  have e2 : a + (0 + ((0 + 1 + 1 : Nat) : Int)) = a + 2 := by omega
  have e3 : a + (0 + ((0 + 1 + 1 + 1 : Nat) : Int)) = a + 3 := by omega
  rw [e0] at h0; rw [e1] at h1; rw [e2] at h2; rw [e3] at h3
  unfold wordOf
  rw [h0, h1, h2, h3]
  show _ = 0 + x0 * 1 + x1 * 256 + x2 * 65536 + x3 * 16777216
  simp only
  omega
theorem word_off (h : f a = none ∨ f (a + 1) = none ∨ f (a + 2) = none ∨ f (a + 3) = none) : wordOf f a = -1 := by
  unfold wordOf
  split
  · rename_i e0 e1 e2 e3
    rw [e0, e1, e2, e3] at h
    simp at h
  · rfl
theorem word_off0 (h : (f (a + (0 + ((0 : Nat) : Int)))).isSome = false) : wordOf f a = -1 := by
  have e0 : a + (0 + ((0 : Nat) : Int)) = a := by omega
  rw [e0] at h
  exact word_off (.inl (by simpa using h))
theorem word_off1 (h : (f (a + (0 + ((0 + 1 : Nat) : Int)))).isSome = false) : wordOf f a = -1 := by
  have e1 : a + (0 + ((0 + 1 : Nat) : Int)) = a + 1 := by omega
  rw [e1] at h
  exact word_off (.inr (.inl (by simpa using h)))
theorem word_off2 (h : (f (a + (0 + ((0 + 1 + 1 : Nat) : Int)))).isSome = false) : wordOf f a = -1 := by
  have e1 : a + (0 + ((0 + 1 + 1 : Nat) : Int)) = a + 2 := by omega
  rw [e1] at h
  exact word_off (.inr (.inr (.inl (by simpa using h))))
theorem word_off3 (h : (f (a + (0 + ((0 + 1 + 1 + 1 : Nat) : Int)))).isSome = false) : wordOf f a = -1 := by
  have e1 : a + (0 + ((0 + 1 + 1 + 1 : Nat) : Int)) = a + 3 := by omega
  rw [e1] at h
  exact word_off (.inr (.inr (.inr (by simpa using h))))
theorem word_nonneg (hf : ∀ k i, f k = some i → 0 ≤ i ∧ i < 256) : wordOf f a = -1 ∨ (0 ≤ wordOf f a ∧ wordOf f a < 4294967296) := by
  unfold wordOf
  split
  · rename_i e0 e1 e2 e3
    have := hf _ _ e0
    have := hf _ _ e1
    have := hf _ _ e2
    have := hf _ _ e3
    right
    constructor <;> omega
  · exact .inl rfl
end

set_option maxHeartbeats 8000000 in
theorem word_spec {w : World} {mean : ExcName → Option Value} {mg mb : Str → Option Value} {h₀ : Heap} {dp un : Nat} {fr : Option (List Env)} {gd : Option (List Code)} {s : Shared} {mem : Addr} {f : Int → Option Int} {B : Nat} {a : Int} {t : Tok} {Q E : Value → Shared → Prop}
    (hroom : dp < 900) (G : Wd w mean mg mb h₀) (O : h₀.StaysIn s.heap) (I : IDict w s.heap mem f B) (hf : ∀ k i, f k = some i → 0 ≤ i ∧ i < 256)
    (hQ : ∀ h' tv tk, Keeps [] s.heap h' → Q (.int (wordOf f a) tv) { s with heap := h', toks := tk }) :
    wpAny (model PySem.Challenge.rw_sa0618_01.row.prog w) (Ar dp un fr gd) (call (.ref 208) [.ref mem, .int a t]) Q E s := by
  have hK : ∃ k, k = (Mine.hd.heap_1 w.params) := ⟨_, rfl⟩
  revert hK
  k_fill
  w_top off
  intro hK
  refine wpAny_call ?_
  refine' enter_ret (binds := [(Str.ofString "memory", .ref mem), (Str.ofString "address", .int a t)]) [] G O ?kN ?k6 ?k7 ?k8 ?k9 ?kB ?_ ?c5 ?c2 ?c3 ?c4
  walk_at "mine enter"
  (case kN => intro x hx; cases hx)
  intro g L h₁ eg eL F N l st X T
  have Ig : IDict w g mem f B := by rw [eg]; exact I
  clear I
  (show wpAny _ _ _ _ _ _)
  k_fold
  k_steps
  all_goals
    (with_reducible rename Fr _ _ _ _ => F9)
    subst eg
    have k9 := keeps_of_fr F9
    first
    | (have e9 := word_eq (f := f) (a := a) (by assumption) (by assumption) (by assumption) (by assumption); rw [e9] at hQ; exact hQ _ _ _ k9)
    | (have e9 := word_off0 (f := f) (a := a) (by assumption); rw [e9] at hQ; exact hQ _ _ _ k9)
    | (have e9 := word_off1 (f := f) (a := a) (by assumption); rw [e9] at hQ; exact hQ _ _ _ k9)
    | (have e9 := word_off2 (f := f) (a := a) (by assumption); rw [e9] at hQ; exact hQ _ _ _ k9)
    | (have e9 := word_off3 (f := f) (a := a) (by assumption); rw [e9] at hQ; exact hQ _ _ _ k9)

theorem word_K {w : World} {mean : ExcName → Option Value} {mg mb : Str → Option Value} {g : Heap} {L : Addr} {m : Str → Option Value} {news : List (Addr × Obj)} {dp un : Nat} {fr : Option (List Env)} {gd : Option (List Code)} {s : Shared} {mem : Addr} {f : Int → Option Int} {B : Nat} {a : Int} {t : Tok} {Q E : Value → Shared → Prop}
    (F : Fr g L s.heap m) (N : News g L s.heap news) (X : (Mine.hd.heap_1 w.params).In g) (T : Top topProg (looseW Mine.view [Str.ofString "ROUND"] ++ List.map (fun x => x.name) (recsOf Mine.view) ++ List.map (fun x => x.fst) (litsOf Mine.view) ++ List.map (fun x => x.name) (clssOf Mine.view (looseW Mine.view [Str.ofString "ROUND"]))) mean mg mb g) (I : IDict w s.heap mem f B) (hf : ∀ k i, f k = some i → 0 ≤ i ∧ i < 256) (hroom : dp < 900)
    (hQ : ∀ h' tv tk, Fr g L h' m → News g L h' news → Q (.int (wordOf f a) tv) { s with heap := h', toks := tk }) :
    wpAny (model PySem.Challenge.rw_sa0618_01.row.prog w) (Ar dp un fr gd) (call (.ref 208) [.ref mem, .int a t]) Q E s :=
  word_spec hroom ⟨X, T⟩ F.keep I hf fun h' tv tk k => hQ h' tv tk (fr_keeps F k (by simp) (by simp)) (news_keeps N k (by simp))
end Mine
end
section
local macro_rules | `(tactic| walk_at "mine dict") => `(tactic| first
  | (refine' Mine.IDict.of_news ?mdN ?mdm ?mdi ?mdl; (case mdN => k_asm); (case mdm => k_mem); (case mdi | mdl => k_asm))
  | exact Mine.IDict.keeps (by k_asm) (Fr.keep (by k_asm))
  | k_asm)
local macro_rules | `(tactic| walk_at "compareOp In int ref") => `(tactic| k_dflt (first | (refine' Mine.idict_in_f ?e ?I ?_; (case I => walk_at "mine dict"); (case e => assumption); k_whole) | (refine' Mine.idict_in ?I ?_; (case I => walk_at "mine dict"); k_whole)))
local macro_rules | `(tactic| walk_at "compareOp NotIn int ref") => `(tactic| k_dflt (refine' Mine.idict_notin ?I ?_; (case I => walk_at "mine dict"); k_whole))
local macro_rules | `(tactic| walk_at "mine item") => `(tactic| k_dflt (refine' Mine.idict_item ?I ?hk ?_ ?hs; (case I => walk_at "mine dict"); (case hs => with_unfolding_all rfl); (case hk => walk_at "mine there"); k_whole; intro i ti ei))
local macro_rules | `(tactic| walk_at "mine there") => `(tactic| first | assumption | (simp_all; done))
local macro_rules | `(tactic| walk_at "subscriptTail Name Name ref int") => `(tactic| walk_at "mine item") | `(tactic| walk_at "subscriptTail Name BinOp ref int") => `(tactic| walk_at "mine item") | `(tactic| walk_at "subscriptTail Attribute Name Name ref int") => `(tactic| walk_at "mine item")
local macro_rules | `(tactic| walk_at "getItem ref int") => `(tactic| k_dflt (refine' Mine.idict_getItem ?I ?hk ?_; (case I => walk_at "mine dict"); (case hk => walk_at "mine there"); k_whole; intro i ti ei))
local macro_rules | `(tactic| walk_at "getMethod ref") => `(tactic| ((with_reducible show wpAny _ _ (getMethod (Value.ref _) (Str.ofString "get") _) _ _ _); k_dflt (refine' Mine.idict_getMeth ?I ?_; (case I => walk_at "mine dict"); k_whole)))
local macro_rules | `(tactic| walk_at "getMethod ref") => `(tactic| ((with_reducible show wpAny _ _ (getMethod (Value.ref _) (Str.ofString "pop") _) _ _ _); k_dflt (refine' Mine.idict_popMeth ?I ?_; (case I => walk_at "mine dict"); k_whole)))
local macro_rules | `(tactic| walk_at "call builtin:dict.get") => `(tactic| k_dflt (first
  | ((with_reducible show wpAny _ _ (call (Value.builtin "dict.get") [Value.ref _, Value.int _ _]) _ _ _); refine' Mine.idict_get1 ?I ?_; (case I => walk_at "mine dict"); k_whole; intro v hv)
  | ((with_reducible show wpAny _ _ (call (Value.builtin "dict.get") [Value.ref _, Value.int _ _, Value.int _ _]) _ _ _); refine' Mine.idict_get2 ?I ?_; (case I => walk_at "mine dict"); k_whole; intro ti)))
local macro_rules | `(tactic| walk_at "setItem ref int int") => `(tactic| k_dflt (refine' Mine.idict_set ?F ?N ?U ?I ?B ?_; (case F | N => k_asm); (case U => k_updF); (case I => k_asm); (case B => omega); k_whole; intro h' o' F' N' I'; (try dsimp only at N')))
local macro_rules | `(tactic| walk_at "call builtin:dict.pop") => `(tactic| k_dflt (refine' Mine.idict_pop2 ?F ?N ?U ?I ?l ?B ?_; (case F | N => k_asm); (case U => k_updF); (case I | l => k_asm); (case B => omega); k_whole; intro h' o' v' hv' F' N' I'; (try dsimp only at N')))
namespace Mine
def over : List Str → (Str → Option Value) → (Str → Option Value) → Str → Option Value
  | [], _, m, y => m y
  | a :: r, u, m, y => if y = a then u y else over r u m y
theorem upd_all {P : Int → Prop} {f : Int → Option Int} {k₀ v : Int} (hf : ∀ k i, f k = some i → P i) (hv : P v) : ∀ k i, upd f k₀ v k = some i → P i := by
  intro k i e
  unfold upd at e
  split at e
  · cases e; exact hv
  · exact hf k i e
theorem not_mem1 {a b : Nat} (h : a ≠ b) : a ∉ [b] := by simpa using h
theorem ne_of_news {g h : Heap} {L a b : Addr} {o o' : Obj} {news : List (Addr × Obj)} (N : News g L h news) (m1 : (a, o) ∈ news) (m2 : (b, o') ∈ news) (c : o.cls ≠ o'.cls) : @Ne Nat a b := by
  rintro rfl
  have h1 := N.get m1
  rw [N.get m2] at h1
  exact c (congrArg Obj.cls (Option.some.inj h1).symm)
theorem IDictO.cls {w : World} {o : Obj} {f : Int → Option Int} {B : Nat} (x : IDictO w o f B) : o.cls = .type "dict" := by
  obtain ⟨kvs, ⟨_, _, h, _⟩, _⟩ := x
  exact h.1
def Stop (P : Prop) : Prop := P
theorem Stop.of {P : Prop} (h : Stop P) : P := h
def AllNe (d : Addr) : List (Addr × Obj) → Prop
  | [] => True
  | p :: r => @Ne Nat p.1 d ∧ AllNe d r
theorem allNe_of {d : Addr} : ∀ {l : List (Addr × Obj)}, (∀ p ∈ l, p.1 ≠ d) → AllNe d l
  | [], _ => trivial
  | p :: _, h => ⟨h p (.head _), allNe_of fun q hq => h q (.tail _ hq)⟩
theorem dict_new {w : World} {o : Obj} (h : o.IsDictOf (intKind PySem.Challenge.rw_sa0618_01.row.prog w) []) : IDictO w o (fun _ => none) 0 := ⟨[], h, IntsAt.empty, Nat.le_refl _⟩
/-- a made object is new to the heap at the entry -/
theorem fresh_of {sh h : Heap} {L a : Addr} {o : Obj} {as : List Addr} {news : List (Addr × Obj)} (N : News (hideAll sh as) L h news) (hm : (a, o) ∈ news) (n : a ∉ as) : sh.get? a = none := by
  cases q : sh.get? a with
  | none => rfl
  | some o' => have := (N _ hm).2.2; rw [hideAll_get as q n] at this; cases this
def TurnEnd (g : Heap) (L I : Addr) (oI : Obj) (K : List (Addr × Obj)) (x : Str) (X : List Str) (m₀ : Str → Option Value) (R : List (Addr × Obj) → Prop) (s₁ s₂ : Shared) : Prop :=
  ∃ h' tk m' news' nx, s₂ = { s₁ with heap := h', toks := tk } ∧ Fr g L h' m' ∧ News g L h' news' ∧ (∀ p ∈ nx, p ∈ news') ∧ (∀ p ∈ (I, oI) :: K, p ∈ news') ∧ (∀ p ∈ nx, p.1 ≠ I) ∧ R nx ∧ ∀ z, z ≠ x → z ∉ X → m' z = m₀ z
theorem TurnEnd.intro {g : Heap} {L I : Addr} {oI : Obj} {K : List (Addr × Obj)} {x : Str} {X : List Str} {m₀ : Str → Option Value} {R : List (Addr × Obj) → Prop} {s₁ : Shared} {h' : Heap} {tk : Nat} {m' : Str → Option Value} {news' : List (Addr × Obj)} (nx : List (Addr × Obj))
    (F : Fr g L h' m') (N : News g L h' news') (hR : R nx) (hn : ∀ p ∈ nx, p ∈ news') (hk : ∀ p ∈ (I, oI) :: K, p ∈ news') (hI : ∀ p ∈ nx, p.1 ≠ I) (hm : ∀ z, z ≠ x → z ∉ X → m' z = m₀ z) : TurnEnd g L I oI K x X m₀ R s₁ { s₁ with heap := h', toks := tk } :=
  ⟨h', tk, m', news', nx, rfl, F, N, hn, hk, hI, hR, hm⟩
def TurnPost (g : Heap) (L I : Addr) (oI : Obj) (K : List (Addr × Obj)) (x : Str) (X : List Str) (m₀ : Str → Option Value) (R : List (Addr × Obj) → Prop) (s₁ : Shared) (Q : Flow → Shared → Prop) (f : Flow) (s₂ : Shared) : Prop := match f with
  | .ret v => Q (.ret v) s₂
  | .brk => Q .next s₂
  | _ => TurnEnd g L I oI K x X m₀ R s₁ s₂

section
variable {prog : Program} {w : World} {A : Around} {E : Value → Shared → Prop} {s : Shared} {env : Env} {g : Heap} {x : Str} {body : List Stmt} {Q : Flow → Shared → Prop}
theorem loop_gen2 {I : Addr} {fp : List Addr} {n : Nat} {P : Nat → Value → Prop} {St : Nat → Heap → Prop} {m₀ : Str → Option Value} (nx₀ K : List (Addr × Obj)) (X : List Str) (R : Nat → List (Addr × Obj) → Prop)
    (W : Walks prog w A I fp [I] n P St) (hLf : env.locals ∉ fp) (hI0 : g.get? I = none) (hSt : ∀ i h, St i h → ∃ o, h.get? I = some o) (hfp : ∀ b ∈ fp, b = I ∨ (∃ o, g.get? b = some o) ∨ ∃ o, (b, o) ∈ K) (hIn : ∀ p ∈ nx₀ ++ K, p.1 ≠ I)
    (hst : St 0 s.heap) (F : Fr g env.locals s.heap m₀) (N : News g env.locals s.heap (nx₀ ++ K)) (hR : R 0 nx₀)
    (turn : ∀ i v u nx h tk oI, i < n → St (i + 1) h → P i v → R i nx → (∀ p ∈ nx, p.1 ≠ I) → Fr g env.locals h (fun y => if y = x then some v else over X u m₀ y) → News g env.locals h (nx ++ (I, oI) :: K) →
      wpAny (model prog w) A (execs body env) (TurnPost g env.locals I oI K x X m₀ (R (i + 1)) { s with heap := h, toks := tk } Q) E { s with heap := h, toks := tk })
    (done : ∀ u nx h tk, R n nx → Fr g env.locals h (over (x :: X) u m₀) → News g env.locals h (nx ++ K) → Q .next { s with heap := h, toks := tk }) :
    LoopAtV prog w A g env x body Q E (.ref I) s := by
  let J : Nat → (Str → Option Value) → List (Addr × Obj) → Prop := fun i m₁ news₁ => (∃ nx, news₁ = nx ++ K ∧ R i nx) ∧ ∀ z, z ≠ x → z ∉ X → m₁ z = m₀ z
  refine ⟨I, fp, [I], n, P, St, m₀, nx₀ ++ K, J, rfl, W, hLf, (fun b hb => by rw [List.mem_singleton.mp hb]; exact hI0), (fun p hp q => hIn p hp (List.mem_singleton.mp q)), hst, F, N, ⟨⟨nx₀, rfl, hR⟩, fun _ _ _ => rfl⟩, ?_, ?_⟩
  · rintro i v m₁ news₁ s₁ own ⟨hh', tk', rfl⟩ hin hP ⟨⟨nx, rfl, hJ⟩, hm⟩ hoff hown hget hall hst₁ F₁ N₁
    obtain ⟨oI, hoI⟩ := hSt _ _ hst₁
    have hIfp : I ∈ fp := W.sub _ (List.mem_singleton.mpr rfl)
    have hIown : (I, oI) ∈ own := hall I hIfp hI0 oI hoI
    have hF : Fr g env.locals hh' (fun y => if y = x then some v else over X m₁ m₀ y) := by
      have e : (fun y => if y = x then some v else over X m₁ m₀ y) = fun y => if y = x then some v else m₁ y := by
        funext y
        by_cases q : y = x
        · simp [q]
        · rw [if_neg q, if_neg q]
          by_cases hX : y ∈ X
          · clear turn done hm hall hown hget
            have : ∀ l : List Str, y ∈ l → over l m₁ m₀ y = m₁ y := by
              intro l
              induction l with
              | nil => intro h; cases h
              | cons c l ihl =>
                intro hl
                unfold over
                by_cases e3 : y = c
                · rw [if_pos e3]
                · rw [if_neg e3]
                  exact ihl ((List.mem_cons.mp hl).resolve_left e3)
            exact this X hX
          · have : ∀ l : List Str, y ∉ l → over l m₁ m₀ y = m₀ y := by
              intro l
              induction l with
              | nil => intro _; rfl
              | cons c l ihl =>
                intro hl
                unfold over
                rw [if_neg (fun q => hl (List.mem_cons.mpr (.inl q))), ihl fun q => hl (List.mem_cons_of_mem _ q)]
            rw [this X hX]
            exact (hm y q hX).symm
      rw [e]; exact F₁
    have hN : News g env.locals hh' (nx ++ (I, oI) :: K) := fun p hp => by
      rcases List.mem_append.mp hp with q | q
      · exact N₁ p (List.mem_append_right _ (List.mem_append_left _ q))
      · rcases List.mem_cons.mp q with rfl | q
        · exact N₁ _ (List.mem_append_left _ hIown)
        · exact N₁ p (List.mem_append_right _ (List.mem_append_right _ q))
    have hsub : ∀ p ∈ own, p ∈ (I, oI) :: K := by
      intro p hp
      rcases hfp _ (hown p hp) with e | ⟨o, e⟩ | ⟨o, e⟩
      · have := hget p hp
        rw [e, hoI] at this
        exact List.mem_cons.mpr (.inl (Prod.ext e (Option.some.inj this).symm))
      · rw [(N₁ p (List.mem_append_left _ hp)).2.2] at e; cases e
      · have h1 := hget p hp
        have h2 := (hN (p.1, o) (List.mem_append_right _ (.tail _ e))).1
        have h3 : some p.2 = some o := h1.symm.trans h2
        have : p = (p.1, o) := Prod.ext rfl (Option.some.inj h3)
        rw [this]; exact .tail _ e
    refine wpAny_mono (turn i v m₁ nx hh' tk' oI hin hst₁ hP hJ (fun p hp q => hoff p (List.mem_append_left _ hp) (List.mem_singleton.mpr q)) hF hN) (fun f s₂ p => ?_) fun _ _ e => e
    have fin : TurnEnd g env.locals I oI K x X m₀ (R (i + 1)) { s with heap := hh', toks := tk' } s₂ → LoopStepU g env.locals [I] own (J (i + 1)) { s with heap := hh', toks := tk' } .next s₂ := by
      rintro ⟨h', tk, m', news', nx', e, F', N', hn, hk, hI', hR', hm'⟩
      refine ⟨rfl, h', tk, m', nx' ++ K, e, F', fun p hp => ?_, fun p hp hq => ?_, ⟨nx', rfl, hR'⟩, hm'⟩
      · rcases List.mem_append.mp hp with q | q
        · exact N' p (hk p (hsub p q))
        · rcases List.mem_append.mp q with q | q
          · exact N' p (hn p q)
          · exact N' p (hk p (.tail _ q))
      · rcases List.mem_append.mp hp with q | q
        · exact hI' p q (List.mem_singleton.mp hq)
        · exact hoff p (List.mem_append_right _ q) hq
    cases f with
    | ret v => exact .ret p
    | brk => exact .brk p
    | next => exact .next (fin p)
    | cont => exact .cont (fin p)
  · rintro h' tk m' news' F' N' _ ⟨⟨nx, rfl, hJ⟩, hm⟩
    have e : over (x :: X) m' m₀ = m' := by
      funext y
      have h2 : ∀ z, z ∉ x :: X → m' z = m₀ z := fun z hz => hm z (fun q => hz (List.mem_cons.mpr (.inl q))) fun q => hz (List.mem_cons_of_mem _ q)
      by_cases hX : y ∈ x :: X
      · have : ∀ l : List Str, y ∈ l → over l m' m₀ y = m' y := by
          intro l
          induction l with
          | nil => intro h; cases h
          | cons c l ihl =>
            intro hl
            unfold over
            by_cases e3 : y = c
            · rw [if_pos e3]
            · rw [if_neg e3]
              exact ihl ((List.mem_cons.mp hl).resolve_left e3)
        exact this _ hX
      · have : ∀ l : List Str, y ∉ l → over l m' m₀ y = m₀ y := by
          intro l
          induction l with
          | nil => intro _; rfl
          | cons c l ihl =>
            intro hl
            unfold over
            rw [if_neg (fun q => hl (List.mem_cons.mpr (.inl q))), ihl fun q => hl (List.mem_cons_of_mem _ q)]
        rw [this _ hX]
        exact (h2 y hX).symm
    exact done m' nx h' tk hJ (by rw [e]; exact F') N'

theorem loop_gen {I : Addr} {fp : List Addr} {n : Nat} {P : Nat → Value → Prop} {St : Nat → Heap → Prop} {m₀ : Str → Option Value} (nx₀ K : List (Addr × Obj)) (X : List Str) (R : Nat → List (Addr × Obj) → Prop)
    (W : Walks prog w A I fp [I] n P St) (hLf : env.locals ∉ fp) (hI0 : g.get? I = none) (hSt : ∀ i h, St i h → ∃ o, h.get? I = some o) (hfp : ∀ b ∈ fp, b = I ∨ (∃ o, g.get? b = some o) ∨ ∃ o, (b, o) ∈ K) (hIn : ∀ p ∈ nx₀ ++ K, p.1 ≠ I)
    (hst : St 0 s.heap) (F : Fr g env.locals s.heap m₀) (N : News g env.locals s.heap (nx₀ ++ K)) (hR : R 0 nx₀)
    (turn : ∀ i v u nx h tk oI, i < n → P i v → R i nx → (∀ p ∈ nx, p.1 ≠ I) → Fr g env.locals h (fun y => if y = x then some v else over X u m₀ y) → News g env.locals h (nx ++ (I, oI) :: K) →
      wpAny (model prog w) A (execs body env) (TurnPost g env.locals I oI K x X m₀ (R (i + 1)) { s with heap := h, toks := tk } Q) E { s with heap := h, toks := tk })
    (done : ∀ u nx h tk, R n nx → Fr g env.locals h (over (x :: X) u m₀) → News g env.locals h (nx ++ K) → Q .next { s with heap := h, toks := tk }) :
    LoopAtV prog w A g env x body Q E (.ref I) s :=
  loop_gen2 nx₀ K X R W hLf hI0 hSt hfp hIn hst F N hR (fun i v u nx h tk oI hi _ => turn i v u nx h tk oI hi) done

theorem loop_range2 {r : Addr} {b₀ : Int} {t₀ u₀ v₀ : Tok} {n : Nat} {m₀ : Str → Option Value} (nx₀ : List (Addr × Obj)) (X : List Str) (R : Nat → List (Addr × Obj) → Prop)
    (hh : A.handled = none) (hr : IsRange s.heap r 0 b₀ 1 t₀ u₀ v₀) (hsmall : Builtin.Range.small 0 b₀ 1 = true) (hn : Builtin.Range.rangeSize 0 b₀ 1 = (n : Int)) (F : Fr g env.locals s.heap m₀) (N : News g env.locals s.heap nx₀) (hR : R 0 nx₀)
    (turn : ∀ (I : Addr) i t u nx h tk oI, i < n → oI.cls = .type "range_iterator" → R i nx → (∀ p ∈ nx, p.1 ≠ I) → Fr g env.locals h (fun y => if y = x then some (.int (i : Nat) t) else over X u m₀ y) → News g env.locals h (nx ++ [(I, oI)]) →
      wpAny (model prog w) A (execs body env) (TurnPost g env.locals I oI [] x X m₀ (R (i + 1)) { s with heap := h, toks := tk } Q) E { s with heap := h, toks := tk })
    (done : ∀ u nx h tk, R n nx → Fr g env.locals h (over (x :: X) u m₀) → News g env.locals h nx → Q .next { s with heap := h, toks := tk }) :
    wpAny (model prog w) A (pyIter (.ref r)) (fun it s₂ => LoopAtV prog w A g env x body Q E it s₂) E s := by
  refine wpAny_pyIter_range hr hsmall ?_
  have W : Walks prog w A s.heap.objs.size [s.heap.objs.size] [s.heap.objs.size] n (fun i v => ∃ t, v = .int (0 + i * 1) t)
      (fun i h => IsRangeIter h s.heap.objs.size (0 + (i : Nat) * 1) ((n : Int) - (i : Nat)) 1) := Walks.range hh _ 0 1 n
  refine loop_gen2 (I := s.heap.objs.size) nx₀ [] X R W ?_ (next_is_new F) (fun i h hi => ⟨_, hi⟩) (fun b hb => .inl (List.mem_singleton.mp hb)) ?_ (by show IsRangeIter _ _ _ _ _; rw [hn]; simpa using Heap.get?_push_size _ rfl) (F.push _) ?_ hR ?_ ?_
  · intro hm
    exact absurd F.ns.lt ((List.mem_singleton.mp hm) ▸ Nat.lt_irrefl _)
  · intro p hp hI
    rw [List.append_nil] at hp
    exact absurd (Heap.lt_size (N p hp).1) (hI ▸ Nat.lt_irrefl _)
  · intro p hp
    rw [List.append_nil] at hp
    exact ⟨Heap.get?_push_of_some _ (N p hp).1, (N p hp).2⟩
  · rintro i v u nx h tk oI hi hst ⟨t, rfl⟩ hR' hI F' N'
    have hcl : oI.cls = .type "range_iterator" := by
      have e1 := (N' (s.heap.objs.size, oI) (List.mem_append_right _ (.head _))).1
      have e2 : h.get? s.heap.objs.size = _ := hst
      rw [e2] at e1
      exact (congrArg Obj.cls (Option.some.inj e1)).symm
    have e : (0 : Int) + (i : Int) * 1 = (i : Nat) := by omega
    rw [e] at F'
    exact turn _ i t u nx h tk oI hi hcl hR' hI F' N'
  · intro u nx h tk hR' F' N'
    rw [List.append_nil] at N'
    exact done u nx h tk hR' F' N'

theorem loop_range {r : Addr} {b₀ : Int} {t₀ u₀ v₀ : Tok} {n : Nat} {m₀ : Str → Option Value} (nx₀ : List (Addr × Obj)) (X : List Str) (R : Nat → List (Addr × Obj) → Prop)
    (hh : A.handled = none) (hr : IsRange s.heap r 0 b₀ 1 t₀ u₀ v₀) (hsmall : Builtin.Range.small 0 b₀ 1 = true) (hn : Builtin.Range.rangeSize 0 b₀ 1 = (n : Int)) (F : Fr g env.locals s.heap m₀) (N : News g env.locals s.heap nx₀) (hR : R 0 nx₀)
    (turn : ∀ (I : Addr) i t u nx h tk oI, i < n → R i nx → (∀ p ∈ nx, p.1 ≠ I) → Fr g env.locals h (fun y => if y = x then some (.int (i : Nat) t) else over X u m₀ y) → News g env.locals h (nx ++ [(I, oI)]) →
      wpAny (model prog w) A (execs body env) (TurnPost g env.locals I oI [] x X m₀ (R (i + 1)) { s with heap := h, toks := tk } Q) E { s with heap := h, toks := tk })
    (done : ∀ u nx h tk, R n nx → Fr g env.locals h (over (x :: X) u m₀) → News g env.locals h nx → Q .next { s with heap := h, toks := tk }) :
    wpAny (model prog w) A (pyIter (.ref r)) (fun it s₂ => LoopAtV prog w A g env x body Q E it s₂) E s :=
  loop_range2 nx₀ X R hh hr hsmall hn F N hR (fun I i t u nx h tk oI hi _ => turn I i t u nx h tk oI hi) done

theorem loop_range_d {r : Addr} {b₀ : Int} {t₀ u₀ v₀ : Tok} {n : Nat} {m₀ : Str → Option Value} {d : Addr} {o : Obj} {rest : List (Addr × Obj)} (X : List Str) (Pd : Nat → Obj → Prop)
    (hh : A.handled = none) (hr : IsRange s.heap r 0 b₀ 1 t₀ u₀ v₀) (hsmall : Builtin.Range.small 0 b₀ 1 = true) (hn : Builtin.Range.rangeSize 0 b₀ 1 = (n : Int)) (F : Fr g env.locals s.heap m₀) (N : News g env.locals s.heap ((d, o) :: rest)) (hR : Pd 0 o)
    (turn : ∀ (I : Addr) i t u o' h tk oI, i < n → Pd i o' → d ≠ I → (∀ p ∈ rest, p.1 ≠ I) → Fr g env.locals h (fun y => if y = x then some (.int (i : Nat) t) else over X u m₀ y) → News g env.locals h ((d, o') :: (rest ++ [(I, oI)])) →
      wpAny (model prog w) A (execs body env) (TurnPost g env.locals I oI [] x X m₀ (fun nx => ∃ o', nx = (d, o') :: rest ∧ Pd (i + 1) o') { s with heap := h, toks := tk } Q) E { s with heap := h, toks := tk })
    (done : ∀ u o' h tk, Pd n o' → Fr g env.locals h (over (x :: X) u m₀) → News g env.locals h ((d, o') :: rest) → Q .next { s with heap := h, toks := tk }) :
    wpAny (model prog w) A (pyIter (.ref r)) (fun it s₂ => LoopAtV prog w A g env x body Q E it s₂) E s := by
  refine loop_range ((d, o) :: rest) X (fun i nx => ∃ o', nx = (d, o') :: rest ∧ Pd i o') hh hr hsmall hn F N ⟨o, rfl, hR⟩ ?_ ?_
  · rintro I i t u nx h tk oI hi ⟨o', rfl, hP⟩ hI F' N'
    exact turn I i t u o' h tk oI hi hP (hI _ (.head _)) (fun p hp => hI p (.tail _ hp)) F' N'
  · rintro u nx h tk ⟨o', rfl, hP⟩ F' N'
    exact done u o' h tk hP F' N'
end
end Mine
section
local macro_rules | `(tactic| walk_at "mine room") => `(tactic| ((try simp only [depth_under_make, depth_under_kw, depth_in1, depth_deeper, depth_caller]); (try dsimp only [Mine.Ar]); omega))
local macro_rules | `(tactic| walk_at "mine cells") => `(tactic| first | exact Mine.Cells.keeps (by k_asm) (Fr.keep (by k_asm)) | k_asm)
local macro_rules | `(tactic| walk_at "call ref") => `(tactic| ((with_reducible show wpAny _ _ (call (Value.ref 194) _) _ _ _); k_dflt (refine' Mine.draw_K ?F ?N ?X ?T ?U ?hc ?hr ?hp ?hq0 ?hq1 ?hs0 ?hs1 ?_; (case F | N | X | T => k_asm); (case U => k_updF); (case hc => walk_at "mine cells"); (case hr => walk_at "mine room"); (case hp | hq0 | hq1 | hs0 | hs1 => omega); k_whole; intro h' v' tv' p' tp' q' tq' tk' F' N' hp' hq0' hq1' hv0' hv1'; (try dsimp only at N'))))
local macro_rules | `(tactic| walk_at "call ref") => `(tactic| ((with_reducible show wpAny _ _ (call (Value.ref 208) _) _ _ _); k_dflt (refine' Mine.word_K ?F ?N ?X ?T ?I ?hf ?hr ?_; (case F | N | X | T => k_asm); (case I => walk_at "mine dict"); (case hf => k_asm); (case hr => walk_at "mine room"); k_whole; intro h' tv' tk' F' N')))
local macro_rules | `(tactic| walk_at "pyIter ref") => `(tactic| ((with_reducible show wpAny _ _ (pyIter (Value.ref _)) (fun it s₂ => LoopAtV _ _ _ _ _ _ _ _ _ it s₂) _ _); refine Mine.Stop.of ?_))
local macro_rules | `(tactic| walk_at "mine sub") => `(tactic| first | exact List.forall_mem_nil _ | (refine' List.forall_mem_cons.mpr ⟨?a, ?b⟩; (case a => k_mem); (case b => walk_at "mine sub")))
local macro_rules | `(tactic| walk_at "mine map") => `(tactic| (intro z h1 h2; (try simp only [List.mem_cons, List.not_mem_nil, or_false, not_or] at h2); simp [Mine.over, h1, h2]))
namespace Mine
theorem menu2 {v : Int} (h0 : 0 ≤ v) (h1 : v < 2) : ([4096, 4294967272] : List Int).getD v.toNat 0 = 4096 ∨ ([4096, 4294967272] : List Int).getD v.toNat 0 = 4294967272 := by
  have : v = 0 ∨ v = 1 := by omega
  rcases this with rfl | rfl
  · exact .inl rfl
  · exact .inr rfl
set_option maxHeartbeats 8000000 in
theorem memory_spec {w : World} {mean : ExcName → Option Value} {mg mb : Str → Option Value} {h₀ : Heap} {dp un : Nat} {fr : Option (List Env)} {gd : Option (List Code)} {s : Shared} {wl c : Addr} {p q : Int} {tp tq : Tok} {n : Nat} {Q E : Value → Shared → Prop}
    (hroom : dp < 800) (G : Wd w mean mg mb h₀) (O : h₀.StaysIn s.heap) (hw : s.heap.get? wl = some (wellO c p tp q tq n)) (hw0 : h₀.get? wl = none) (hc : Cells s.heap c)
    (hp : 0 ≤ p) (hq0 : 0 ≤ q) (hq1 : q < 1009)
    (hQ : ∀ h' base tb t0 mem om f p' tp' q' tq' tk, Keeps [wl] s.heap h' → h'.get? wl = some (wellO c p' tp' q' tq' n) → 0 ≤ p' → 0 ≤ q' → q' < 1009 → (base = 4096 ∨ base = 4294967272) →
      h'.get? t0 = some { cls := .type "tuple", data := .seq [Value.int base tb, .ref mem].toArray } → s.heap.get? t0 = none → s.heap.get? mem = none → h'.get? mem = some om → (mem == sysModules) = false → IDictO w om f 40 →
      (∀ k i, f k = some i → 0 ≤ i ∧ i < 256) → Q (.ref t0) { s with heap := h', toks := tk }) :
    wpAny (model PySem.Challenge.rw_sa0618_01.row.prog w) (Ar dp un fr gd) (call (.ref 201) [.ref wl]) Q E s := by
  have hK : ∃ k, k = (Mine.hd.heap_1 w.params) := ⟨_, rfl⟩
  revert hK
  k_fill
  w_top off
  intro hK
  refine wpAny_call ?_
  refine' enter_ret (binds := [(Str.ofString "well", .ref wl)]) [(wl, wellO c p tp q tq n)] G O ?kN ?k6 ?k7 ?k8 ?k9 ?kB ?_ ?c5 ?c2 ?c3 ?c4
  walk_at "mine enter"
  (case kN =>
    intro x hx
    rcases List.mem_singleton.mp hx with rfl
    exact ⟨hw, hw0⟩)
  intro g L h₁ eg eL F N l st X T
  have hcg : Cells g c := by
    obtain ⟨vs, ns, ⟨o, ho, r⟩, z⟩ := id hc
    refine ⟨vs, ns, ⟨o, ?_, r⟩, z⟩
    rw [eg]
    exact hideAll_get _ ho (by simpa using hc.ne hw)
  (show wpAny _ _ _ _ _ _)
  k_fold
  k_steps
  all_goals
    unfold Stop
    (with_reducible rename Fr _ _ _ _ => F1)
    (with_reducible rename News _ _ _ _ => N1)
    (with_reducible rename IsRange _ _ _ _ _ _ _ _ => r1)
    (with_reducible rename Obj.IsDictOf (intKind _ _) _ [] => d1)
    refine loop_range_d (n := 40) [] (fun i o => ∃ f, IDictO w o f i ∧ ∀ k v, f k = some v → 0 ≤ v ∧ v < 256) rfl r1 rfl rfl F1 N1 ⟨_, dict_new d1, by simp⟩ ?_ ?_
    · intro I i t u o' h tk oI hi hP hdI hrI F2 N2
      obtain ⟨f, If, hf⟩ := hP
      replace hdI := neN hdI
      have hrI := allNe_of hrI
      simp only [AllNe, and_true] at hrI
      simp only [List.cons_append, List.nil_append] at N2
      clear F1 N1 r1 d1
      k_steps
      all_goals
        (with_reducible rename Fr _ _ _ _ => F9)
        (with_reducible rename News _ _ _ _ => N9)
        (with_reducible rename IDictO _ _ _ _ => I9)
        first
        | exact TurnEnd.intro (oI := oI) _ F9 N9 ⟨_, rfl, _, I9, upd_all hf ⟨fmod_lo _ (by omega), fmod_hi _ (by omega)⟩⟩ (by walk_at "mine sub") (by walk_at "mine sub") (by k_all) (by walk_at "mine map")
        | exact TurnEnd.intro (oI := oI) _ F9 N9 ⟨_, rfl, _, I9.mono (Nat.le_succ _), hf⟩ (by walk_at "mine sub") (by walk_at "mine sub") (by k_all) (by walk_at "mine map")
    · intro u o' h tk hP F2 N2
      obtain ⟨f, If, hf⟩ := hP
      clear F1 N1 r1 d1
      k_steps
      all_goals
        (with_reducible rename Fr _ _ _ _ => F9)
        (with_reducible rename News _ _ _ _ => N9)
        subst eg
        refine hQ _ _ _ _ _ _ _ _ _ _ _ _ (keeps_of_fr F9) (N9.get (by k_mem)) (by omega) (by omega) (by omega) ?_ (N9.get (by k_mem)) (fresh_of N9 (by k_mem) (not_mem1 (ne_of_news N9 (by k_mem) (by k_mem) (by simp)))) (fresh_of N9 (by k_mem) (not_mem1 (ne_of_news N9 (by k_mem) (by k_mem) (by rw [If.cls]; simp)))) (N9.get (by k_mem)) (by k_asm) If hf
        exact menu2 (by assumption) (by assumption)
end Mine
namespace Mine
inductive Kd where
  | offset | valOffset | register | same | undefined
def Kd.text : Kd → Str
  | .offset => Str.ofString "offset"
  | .valOffset => Str.ofString "val_offset"
  | .register => Str.ofString "register"
  | .same => Str.ofString "same"
  | .undefined => Str.ofString "undefined"
abbrev ruleObj (kd : Kd) (v : Int) (tk tv : Tok) (n : Nat) : Obj := { cls := .type "tuple", data := .seq [Value.str kd.text tk, .int v tv].toArray n }
def RulesAt (kvs : List (Int × Value)) (tups : List (Addr × Obj)) (ρ : Int → Option (Kd × Int)) : Prop :=
  ∀ k, match ρ k with | some (kd, v) => ∃ t tk tv n, valueAt kvs k = some (.ref t) ∧ (t, ruleObj kd v tk tv n) ∈ tups | none => valueAt kvs k = none
def RDictO (w : World) (o : Obj) (tups : List (Addr × Obj)) (ρ : Int → Option (Kd × Int)) (B : Nat) : Prop := ∃ kvs, o.IsDictOf (intKind PySem.Challenge.rw_sa0618_01.row.prog w) kvs ∧ RulesAt kvs tups ρ ∧ kvs.length ≤ B
def RDict (w : World) (h : Heap) (d : Addr) (ρ : Int → Option (Kd × Int)) (B : Nat) : Prop := (d == sysModules) = false ∧ ∃ o tups, h.get? d = some o ∧ RDictO w o tups ρ B ∧ ∀ p ∈ tups, h.get? p.1 = some p.2
theorem RDict.keeps {w : World} {h h' : Heap} {d : Addr} {ρ : Int → Option (Kd × Int)} {B : Nat} (x : RDict w h d ρ B) (k : ∀ b o, h.get? b = some o → h'.get? b = some o) : RDict w h' d ρ B :=
  let ⟨l, o, t, e, r, q⟩ := x; ⟨l, o, t, k _ _ e, r, fun p hp => k _ _ (q p hp)⟩
theorem RDict.dictOf {w : World} {h : Heap} {d : Addr} {ρ : Int → Option (Kd × Int)} {B : Nat} (x : RDict w h d ρ B) : (d == sysModules) = false ∧ ∃ kvs, h.DictOf (intKind PySem.Challenge.rw_sa0618_01.row.prog w) d kvs ∧ kvs.length ≤ B ∧
    ∀ k, match ρ k with | some (kd, v) => ∃ t tk tv n, valueAt kvs k = some (.ref t) ∧ h.get? t = some (ruleObj kd v tk tv n) | none => valueAt kvs k = none := by
  obtain ⟨l, o, t, e, ⟨kvs, a, b, c⟩, q⟩ := x
  refine ⟨l, kvs, Heap.dictOf_iff.mpr ⟨o, e, a⟩, c, fun k => ?_⟩
  have := b k
  cases r : ρ k with
  | none => rw [r] at this; exact this
  | some y => rw [r] at this; obtain ⟨t, tk, tv, n, h1, h2⟩ := this; exact ⟨t, tk, tv, n, h1, q _ h2⟩
section
variable {w : World} {A : Around} {E : Value → Shared → Prop} {s : Shared} {d : Addr} {ρ : Int → Option (Kd × Int)} {B : Nat} {k : Int} {t : Tok} {r : Kd × Int}
theorem rdict_in {Q : Value → Shared → Prop} (I : RDict w s.heap d ρ B) (h : Q (.bool (ρ k).isSome) { s with toks := s.toks + 1 }) : wpAny (model PySem.Challenge.rw_sa0618_01.row.prog w) A (compareOp .In (.int k t) (.ref d)) Q E s := by
  obtain ⟨l, kvs, hd, _, hi⟩ := I.dictOf
  refine wpAny_in_of (intKind_is _ _ _ _) l hd.mapOf ?_
  have := hi k
  cases e : ρ k with
  | none => rw [e] at this; rw [this]; rw [e] at h; exact h
  | some y => rw [e] at this; obtain ⟨t, _, _, _, q, _⟩ := this; rw [q]; rw [e] at h; exact h
theorem rdict_notin {Q : Value → Shared → Prop} (I : RDict w s.heap d ρ B) (h : Q (.bool (!(ρ k).isSome)) { s with toks := s.toks + 1 }) : wpAny (model PySem.Challenge.rw_sa0618_01.row.prog w) A (compareOp .NotIn (.int k t) (.ref d)) Q E s := by
  obtain ⟨l, kvs, hd, _, hi⟩ := I.dictOf
  refine wpAny_notIn_of (intKind_is _ _ _ _) l hd.mapOf ?_
  have := hi k
  cases e : ρ k with
  | none => rw [e] at this; rw [this]; rw [e] at h; exact h
  | some y => rw [e] at this; obtain ⟨t, _, _, _, q, _⟩ := this; rw [q]; rw [e] at h; exact h
theorem rdict_in_t {Q : Value → Shared → Prop} (e : ρ k = some r) (I : RDict w s.heap d ρ B) (h : Q (.bool true) { s with toks := s.toks + 1 }) : wpAny (model PySem.Challenge.rw_sa0618_01.row.prog w) A (compareOp .In (.int k t) (.ref d)) Q E s := rdict_in I (by rw [e]; exact h)
theorem rdict_in_f {Q : Value → Shared → Prop} (e : ρ k = none) (I : RDict w s.heap d ρ B) (h : Q (.bool false) { s with toks := s.toks + 1 }) : wpAny (model PySem.Challenge.rw_sa0618_01.row.prog w) A (compareOp .In (.int k t) (.ref d)) Q E s := rdict_in I (by rw [e]; exact h)
theorem rdict_notin_t {Q : Value → Shared → Prop} (e : ρ k = some r) (I : RDict w s.heap d ρ B) (h : Q (.bool false) { s with toks := s.toks + 1 }) : wpAny (model PySem.Challenge.rw_sa0618_01.row.prog w) A (compareOp .NotIn (.int k t) (.ref d)) Q E s := rdict_notin I (by rw [e]; exact h)
theorem rdict_notin_f {Q : Value → Shared → Prop} (e : ρ k = none) (I : RDict w s.heap d ρ B) (h : Q (.bool true) { s with toks := s.toks + 1 }) : wpAny (model PySem.Challenge.rw_sa0618_01.row.prog w) A (compareOp .NotIn (.int k t) (.ref d)) Q E s := rdict_notin I (by rw [e]; exact h)
theorem rdict_getItem {kd : Kd} {v : Int} {Q : Value → Shared → Prop} (e : ρ k = some (kd, v)) (I : RDict w s.heap d ρ B) (h : ∀ a tk tv n, s.heap.get? a = some (ruleObj kd v tk tv n) → IsTup s.heap a [Value.str kd.text tk, .int v tv].toArray → Q (.ref a) { s with toks := s.toks + 1 }) : wpAny (model PySem.Challenge.rw_sa0618_01.row.prog w) A (getItem (.ref d) (.int k t)) Q E s := by
  obtain ⟨l, kvs, hd, _, hi⟩ := I.dictOf
  have := hi k
  rw [e] at this
  obtain ⟨a, tk, tv, n, q, ha⟩ := this
  exact wpAny_getItem_of (intKind_is _ _ _ _) hd.mapOf q (h a tk tv n ha ⟨_, ha, rfl, n, rfl⟩)
theorem rdict_item {kd : Kd} {v : Int} {value slice : PySem.Expr} {Q : Value → Shared → Prop} (e : ρ k = some (kd, v)) (I : RDict w s.heap d ρ B) (h : ∀ a tk tv n, s.heap.get? a = some (ruleObj kd v tk tv n) → IsTup s.heap a [Value.str kd.text tk, .int v tv].toArray → Q (.ref a) { s with toks := s.toks + 1 })
    (hs : subscripted slice false (.ref d) (.int k t) = operate [.ref d, .int k t] (getItem (.ref d) (.int k t)) := by with_unfolding_all rfl) :
    wpAny (model PySem.Challenge.rw_sa0618_01.row.prog w) A (subscriptTail value slice (.ref d) (.int k t)) Q E s := by
  obtain ⟨l, kvs, hd, _⟩ := I.dictOf
  exact tail_any hd.typeIs slot_dict_getitem.lookup (rdict_getItem e I h) hs
end

def keptB (reg : Int) : Bool := reg == 0 || reg == 3 || reg == 4 || reg == 8 || reg == 9 || (decide (18 ≤ reg) && decide (reg ≤ 27))
theorem kept_cases {reg : Int} (e : keptB reg = true) : reg ∈ ([0, 3, 4, 8, 9] : List Int) ∨ 18 ≤ reg ∧ reg ≤ 27 := by
  unfold keptB at e
  cases (Bool.or_eq_true _ _).mp e with
  | inr e => exact .inr ⟨of_decide_eq_true ((Bool.and_eq_true _ _).mp e).1, of_decide_eq_true ((Bool.and_eq_true _ _).mp e).2⟩
  | inl e =>
    refine .inl ?_
    cases (Bool.or_eq_true _ _).mp e with
    | inr e => rw [eq_of_beq e]; decide
    | inl e =>
    cases (Bool.or_eq_true _ _).mp e with
    | inr e => rw [eq_of_beq e]; decide
    | inl e =>
    cases (Bool.or_eq_true _ _).mp e with
    | inr e => rw [eq_of_beq e]; decide
    | inl e =>
    cases (Bool.or_eq_true _ _).mp e with
    | inr e => rw [eq_of_beq e]; decide
    | inl e => rw [eq_of_beq e]; decide
def defRule (reg : Int) : Kd × Int := if reg = 2 then (.valOffset, 0) else if keptB reg = true then (.same, 0) else (.undefined, 0)
def ruleOf (ρ : Int → Option (Kd × Int)) (reg : Int) : Kd × Int := (ρ reg).getD (defRule reg)
def knownBy (f fs mem : Int → Option Int) (cfa reg : Int) : Kd × Int → Option (Int × Option Int)
  | (.valOffset, v) => some ((cfa + v).fmod 4294967296, none)
  | (.offset, v) => if wordOf mem ((cfa + v).fmod 4294967296) < 0 then none else some (wordOf mem ((cfa + v).fmod 4294967296), some ((cfa + v).fmod 4294967296))
  | (.register, v) => (f v).map fun x => (x, fs v)
  | (.same, _) => (f reg).map fun x => (x, fs reg)
  | (.undefined, _) => none
section
variable {ρ : Int → Option (Kd × Int)} {f fs fm : Int → Option Int} {cfa reg v i : Int}
theorem kept_t1 (h : ([0, 3, 4, 8, 9].any fun x => x == reg) = true) : keptB reg = true := by
  obtain ⟨x, hx, e⟩ := List.any_eq_true.mp h
  exact eq_of_beq e ▸ (by decide : ∀ x ∈ ([0, 3, 4, 8, 9] : List Int), keptB x = true) x hx
theorem kept_t2 (h1 : 18 ≤ reg) (h2 : reg ≤ 27) : keptB reg = true := by
  unfold keptB
  rw [decide_eq_true h1, decide_eq_true h2]
  exact Bool.or_true _
theorem kept_f (h : ([0, 3, 4, 8, 9].any fun x => x == reg) = false) (h' : ¬ 18 ≤ reg ∨ ¬ reg ≤ 27) : keptB reg = false := by
  cases e : keptB reg with
  | false => rfl
  | true =>
    cases kept_cases e with
    | inl m =>
      have t : ([0, 3, 4, 8, 9].any fun x => x == reg) = true := List.any_eq_true.mpr ⟨reg, m, beq_self_eq_true reg⟩
      rw [t] at h; exact h
    | inr m => cases h' with
      | inl q => exact absurd m.1 q
      | inr q => exact absurd m.2 q
theorem rule_2 (hr : ρ reg = none) (h : reg = 2) : ruleOf ρ reg = (.valOffset, 0) := by unfold ruleOf; rw [hr]; show defRule reg = _; unfold defRule; rw [if_pos h]
theorem rule_kept (hr : ρ reg = none) (h : reg ≠ 2) (k : keptB reg = true) : ruleOf ρ reg = (.same, 0) := by unfold ruleOf; rw [hr]; show defRule reg = _; unfold defRule; rw [if_neg h, if_pos k]
theorem rule_un (hr : ρ reg = none) (h : reg ≠ 2) (k : keptB reg = false) : ruleOf ρ reg = (.undefined, 0) := by unfold ruleOf; rw [hr]; show defRule reg = _; unfold defRule; rw [if_neg h, if_neg (by rw [k]; decide)]
theorem rule_some {r : Kd × Int} (hr : ρ reg = some r) : ruleOf ρ reg = r := by unfold ruleOf; rw [hr]; rfl
theorem kn_vo {r} (h : r = (Kd.valOffset, v)) : knownBy f fs fm cfa reg r = some ((cfa + v).fmod 4294967296, none) := by subst h; rfl
theorem kn_off1 {r} (h : r = (Kd.offset, v)) (hw : ¬ wordOf fm ((cfa + v).fmod 4294967296) < 0) : knownBy f fs fm cfa reg r = some (wordOf fm ((cfa + v).fmod 4294967296), some ((cfa + v).fmod 4294967296)) := by subst h; exact if_neg hw
theorem kn_off0 {r} (h : r = (Kd.offset, v)) (hw : wordOf fm ((cfa + v).fmod 4294967296) < 0) : knownBy f fs fm cfa reg r = none := by subst h; exact if_pos hw
theorem kn_reg1 {r} (h : r = (Kd.register, v)) (e : f v = some i) : knownBy f fs fm cfa reg r = some (i, fs v) := by subst h; show (f v).map _ = _; rw [e]; rfl
theorem kn_reg0 {r} (h : r = (Kd.register, v)) (e : (f v).isSome = false) : knownBy f fs fm cfa reg r = none := by subst h; show (f v).map _ = _; rw [show f v = none by simpa using e]; rfl
theorem kn_same1 {r} (h : r = (Kd.same, v)) (e : f reg = some i) : knownBy f fs fm cfa reg r = some (i, fs reg) := by subst h; show (f reg).map _ = _; rw [e]; rfl
theorem kn_same0 {r} (h : r = (Kd.same, v)) (e : (f reg).isSome = false) : knownBy f fs fm cfa reg r = none := by subst h; show (f reg).map _ = _; rw [show f reg = none by simpa using e]; rfl
theorem kn_un {r} (h : r = (Kd.undefined, v)) : knownBy f fs fm cfa reg r = none := by subst h; rfl
end
def ResO (k : Option (Int × Option Int)) (v : Value) (h h' : Heap) : Prop := match k with
  | none => v = .none
  | some (x, y) => ∃ t tx vy, v = .ref t ∧ h'.get? t = some { cls := .type "tuple", data := .seq [Value.int x tx, vy].toArray } ∧ h.get? t = none ∧ OptAt y vy
theorem res_some {k : Option (Int × Option Int)} {x : Int} {y : Option Int} {t : Addr} {tx : Tok} {vy : Value} {h h' : Heap} (hk : k = some (x, y)) (ht : h'.get? t = some { cls := .type "tuple", data := .seq [Value.int x tx, vy].toArray }) (hn : h.get? t = none) (ho : OptAt y vy) : ResO k (.ref t) h h' := by
  subst hk; exact ⟨t, tx, vy, rfl, ht, hn, ho⟩
theorem res_none {k : Option (Int × Option Int)} {h h' : Heap} (hk : k = none) : ResO k .none h h' := by subst hk; rfl
end Mine
namespace Mine
def Inv (fm f fs : Int → Option Int) : Prop := (∀ k v, f k = some v → 0 ≤ k ∧ k < 32 ∧ 0 ≤ v ∧ v < 4294967296) ∧ ∀ k p, fs k = some p → f k = some (wordOf fm p)
theorem upd_all2 {P : Int → Int → Prop} {f : Int → Option Int} {k₀ v : Int} (hf : ∀ k i, f k = some i → P k i) (hv : P k₀ v) : ∀ k i, upd f k₀ v k = some i → P k i := by
  intro k i e
  unfold upd at e
  split at e
  · rename_i q; cases e; rw [q]; exact hv
  · exact hf k i e
theorem news_tail2 {g h : Heap} {L : Addr} {a b : Addr × Obj} {r : List (Addr × Obj)} (N : News g L h (a :: b :: r)) : News g L h r := fun p hp => N p (.tail _ (.tail _ hp))
theorem marks_lt {v : Int} (h0 : 0 ≤ v) (h1 : v < 10) : 0 ≤ ([0, 1, 2, 5, 8, 9, 18, 27, 28, 31] : List Int).getD v.toNat 0 ∧ ([0, 1, 2, 5, 8, 9, 18, 27, 28, 31] : List Int).getD v.toNat 0 < 32 :=
  (by decide : ∀ n < 10, 0 ≤ ([0, 1, 2, 5, 8, 9, 18, 27, 28, 31] : List Int).getD n 0 ∧ ([0, 1, 2, 5, 8, 9, 18, 27, 28, 31] : List Int).getD n 0 < 32) v.toNat (by omega)
theorem Inv.put {fm f fs : Int → Option Int} {k p : Int} (I : Inv fm f fs) (hf : ∀ k i, fm k = some i → 0 ≤ i ∧ i < 256) (h0 : 0 ≤ k) (h1 : k < 32) (hw : 0 ≤ wordOf fm p) : Inv fm (upd f k (wordOf fm p)) (upd fs k p) := by
  refine ⟨upd_all2 I.1 ⟨h0, h1, hw, ?_⟩, fun k' p' e => ?_⟩
  · have := word_nonneg (a := p) hf
    omega
  · unfold upd at e ⊢
    by_cases q : k' = k
    · rw [if_pos q] at e ⊢; cases e; rfl
    · rw [if_neg q] at e ⊢; exact I.2 _ _ e
theorem Inv.del {fm f fs : Int → Option Int} {k : Int} (I : Inv fm f fs) : Inv fm (del f k) (del fs k) := by
  refine ⟨fun k' v e => ?_, fun k' p e => ?_⟩
  · unfold Mine.del at e
    split at e
    · cases e
    · exact I.1 _ _ e
  · unfold Mine.del at e ⊢
    by_cases q : k' = k
    · rw [if_pos q] at e; cases e
    · rw [if_neg q] at e ⊢; exact I.2 _ _ e
theorem three_ne {a b c I : Addr} {x y z : Obj} (h1 : @Ne Nat a I) (h2 : @Ne Nat b I) (h3 : @Ne Nat c I) : ∀ p ∈ [(a, x), (b, y), (c, z)], p.1 ≠ I := by
  intro p hp
  simp only [List.mem_cons, List.not_mem_nil, or_false] at hp
  rcases hp with h | h | h
  · rw [h]; exact h1
  · rw [h]; exact h2
  · rw [h]; exact h3
set_option maxHeartbeats 8000000 in
theorem first_spec {w : World} {mean : ExcName → Option Value} {mg mb : Str → Option Value} {h₀ : Heap} {dp un : Nat} {fr : Option (List Env)} {gd : Option (List Code)} {s : Shared} {wl c mem : Addr} {p q base : Int} {tp tq tb : Tok} {n B : Nat} {fm : Int → Option Int} {Q E : Value → Shared → Prop}
    (hroom : dp < 750) (G : Wd w mean mg mb h₀) (O : h₀.StaysIn s.heap) (hw : s.heap.get? wl = some (wellO c p tp q tq n)) (hw0 : h₀.get? wl = none) (hc : Cells s.heap c)
    (hp : 0 ≤ p) (hq0 : 0 ≤ q) (hq1 : q < 1009) (IM : IDict w s.heap mem fm B) (hmw : @Ne Nat mem wl) (hf : ∀ k i, fm k = some i → 0 ≤ i ∧ i < 256)
    (hQ : ∀ h' t0 hd pd oh op f fs p' tp' q' tq' tk, Keeps [wl] s.heap h' → h'.get? wl = some (wellO c p' tp' q' tq' n) → 0 ≤ p' → 0 ≤ q' → q' < 1009 → h'.get? t0 = some { cls := .type "tuple", data := .seq [Value.ref hd, .ref pd].toArray } → s.heap.get? t0 = none → s.heap.get? hd = none → s.heap.get? pd = none → @Ne Nat hd pd →
      (hd == sysModules) = false → (pd == sysModules) = false → h'.get? hd = some oh → h'.get? pd = some op → IDictO w oh f 36 → IDictO w op fs 36 → Inv fm f fs → Q (.ref t0) { s with heap := h', toks := tk }) :
    wpAny (model PySem.Challenge.rw_sa0618_01.row.prog w) (Ar dp un fr gd) (call (.ref 215) [.ref wl, .int base tb, .ref mem]) Q E s := by
  have hK : ∃ k, k = (Mine.hd.heap_1 w.params) := ⟨_, rfl⟩
  revert hK
  k_fill
  w_top off
  intro hK
  refine wpAny_call ?_
  refine' enter_ret (binds := [(Str.ofString "well", .ref wl), (Str.ofString "base", .int base tb), (Str.ofString "memory", .ref mem)]) [(wl, wellO c p tp q tq n)] G O ?kN ?k6 ?k7 ?k8 ?k9 ?kB ?_ ?c5 ?c2 ?c3 ?c4
  walk_at "mine enter"
  (case kN =>
    intro x hx
    rcases List.mem_singleton.mp hx with rfl
    exact ⟨hw, hw0⟩)
  intro g L h₁ eg eL F N l st X T
  have hcg : Cells g c := by
    obtain ⟨vs, ns, ⟨o, ho, r⟩, z⟩ := id hc
    refine ⟨vs, ns, ⟨o, ?_, r⟩, z⟩
    rw [eg]
    exact hideAll_get _ ho (by simpa using hc.ne hw)
  have IMg : IDict w g mem fm B := ⟨IM.1, IM.2.choose, by rw [eg]; exact hideAll_get _ IM.2.choose_spec.1 (by simpa using hmw), IM.2.choose_spec.2⟩
  clear IM
  (show wpAny _ _ _ _ _ _)
  k_fold
  k_steps
  rename_i tk1 hd g6 o1 lo1 hs1 fs1 hi1 fi1 l2 pd g5 o2 lo2 hs2 fs2 hi2 fi2 l1 D g4 l0 g3 g2 g1 F2 N2 hh tk2 tr1 ur1 vr1 rng F3 N3 kk
  unfold Stop
  have hwd : @Ne Nat wl hd := Nat.ne_of_lt l2
  have hwp : @Ne Nat wl pd := Nat.ne_of_lt l1.2
  have hdp : @Ne Nat hd pd := Nat.ne_of_lt l1.1
  refine loop_range_d (n := 32) (d := hd) (o := o1) (rest := [(pd, o2), (wl, wellO c p tp q tq n)]) [] (fun i o => ∃ f, IDictO w o f i ∧ ∀ k v, f k = some v → 0 ≤ k ∧ k < 32 ∧ 0 ≤ v ∧ v < 4294967296) rfl rng rfl rfl F3 ?_ ⟨_, dict_new hi1, by simp⟩ ?_ ?_
  · intro p hp
    refine N3 p ?_
    simp only [List.mem_cons, List.not_mem_nil, or_false] at hp ⊢
    rcases hp with h | h | h <;> simp [h]
  · intro I i t u o' h tk oI hi hP hdI hrI F4 N4
    obtain ⟨f, If, hb⟩ := hP
    replace hdI := neN hdI
    have hrI := allNe_of hrI
    simp only [AllNe, and_true] at hrI
    simp only [List.cons_append, List.nil_append] at N4
    clear F2 N2 F3 N3 rng kk
    k_steps
    all_goals
      (with_reducible rename Fr _ _ _ _ => F9)
      (with_reducible rename News _ _ _ _ => N9)
      (with_reducible rename IDictO _ _ _ _ => I9)
      exact TurnEnd.intro (oI := oI) _ F9 N9 ⟨_, rfl, _, I9, upd_all2 hb ⟨by omega, by omega, by omega, by omega⟩⟩ (by walk_at "mine sub") (by walk_at "mine sub") (three_ne hdI hrI.1 hrI.2) (by walk_at "mine map")
  · intro u o' h tk hP F4 N4
    obtain ⟨f, If, hb⟩ := hP
    clear F2 N2 F3 N3 rng kk
    k_steps
    (with_reducible rename Fr _ _ _ _ => F5)
    (with_reducible rename News _ _ _ _ => N5)
    (with_reducible rename IsRange _ _ _ _ _ _ _ _ => rng2)
    (with_reducible rename IDictO _ _ _ _ => ih5)
    unfold Stop
    refine loop_range (n := 2) _ [Str.ofString "reg", Str.ofString "place", Str.ofString "word"] (fun i nx => ∃ oh op f fs p tp q tq, nx = [(hd, oh), (pd, op), (wl, wellO c p tp q tq n)] ∧ IDictO w oh f (34 + i) ∧ IDictO w op fs i ∧ Inv fm f fs ∧ 0 ≤ p ∧ 0 ≤ q ∧ q < 1009) rfl rng2 rfl rfl F5 N5 ⟨_, _, _, _, _, _, _, _, rfl, ih5, dict_new hi2, ⟨upd_all2 (upd_all2 hb ⟨by omega, by omega, fmod_lo _ (by omega), fmod_hi _ (by omega)⟩) ⟨by omega, by omega, fmod_lo _ (by omega), fmod_hi _ (by omega)⟩, by simp⟩, by omega, by omega, by omega⟩ ?_ ?_
    · rintro I i t u nx h tk oI hi ⟨oh, op, f', fs, p2, tp2, q2, tq2, rfl, ih, ip, hI, hp2, hq20, hq21⟩ hdI F6 N6
      have hdI := allNe_of hdI
      simp only [AllNe, and_true] at hdI
      simp only [List.cons_append, List.nil_append] at N6
      clear F5 N5 ih5 F4 rng2 hb If
      k_steps
      · (with_reducible rename News _ _ _ _ => N9)
        have N8 := news_tail2 N9
        clear N9
        k_steps
        (with_reducible rename Fr _ _ _ _ => F9)
        (with_reducible rename News _ _ _ _ => N9)
        refine TurnEnd.intro (oI := oI) [(hd, _), (pd, _), (wl, wellO c _ _ _ _ n)] F9 N9 ?_ (by walk_at "mine sub") (by walk_at "mine sub") (three_ne hdI.1 hdI.2.1 hdI.2.2) (by walk_at "mine map")
        exact ⟨_, _, _, _, _, _, _, _, rfl, by assumption, by assumption, Inv.put hI hf (marks_lt (by assumption) (by assumption)).1 (marks_lt (by assumption) (by assumption)).2 (by assumption), by omega, by omega, by omega⟩
      · (with_reducible rename Fr _ _ _ _ => F9)
        (with_reducible rename News _ _ _ _ => N9)
        refine TurnEnd.intro (oI := oI) [(hd, _), (pd, _), (wl, wellO c _ _ _ _ n)] F9 N9 ?_ (by walk_at "mine sub") (by walk_at "mine sub") (three_ne hdI.1 hdI.2.1 hdI.2.2) (by walk_at "mine map")
        exact ⟨_, _, _, _, _, _, _, _, rfl, ih.mono (Nat.le_succ _), ip.mono (Nat.le_succ _), hI, by omega, by omega, by omega⟩
    · rintro u nx h tk ⟨oh, op, f', fs, p2, tp2, q2, tq2, rfl, ih, ip, hI, hp2, hq20, hq21⟩ F6 N6
      clear F5 N5 ih5 F4 rng2 hb If
      k_steps
      (with_reducible rename Fr _ _ _ _ => F5)
      (with_reducible rename News _ _ _ _ => N5)
      (with_reducible rename IsRange _ _ _ _ _ _ _ _ => rng2)
      unfold Stop
      refine loop_range (n := 2) _ [Str.ofString "lost"] (fun i nx => ∃ oh op f fs p tp q tq, nx = [(hd, oh), (pd, op), (wl, wellO c p tp q tq n)] ∧ IDictO w oh f 36 ∧ IDictO w op fs 36 ∧ Inv fm f fs ∧ 0 ≤ p ∧ 0 ≤ q ∧ q < 1009) rfl rng2 rfl rfl F5 N5 ⟨_, _, _, _, _, _, _, _, rfl, ih, ip.mono (by omega), hI, by omega, by omega, by omega⟩ ?_ ?_
      · clear ih ip hI
        rintro I i t u nx h tk oI hi ⟨oh, op, f', fs, p2, tp2, q2, tq2, rfl, ih, ip, hI, hp2, hq20, hq21⟩ hdI F6 N6
        have hdI := allNe_of hdI
        simp only [AllNe, and_true] at hdI
        simp only [List.cons_append, List.nil_append] at N6
        clear F5 N5 rng2
        k_steps
        all_goals
          (with_reducible rename Fr _ _ _ _ => F9)
          (with_reducible rename News _ _ _ _ => N9)
          refine TurnEnd.intro (oI := oI) [(hd, _), (pd, _), (wl, wellO c _ _ _ _ n)] F9 N9 ?_ (by walk_at "mine sub") (by walk_at "mine sub") (three_ne hdI.1 hdI.2.1 hdI.2.2) (by walk_at "mine map")
          exact ⟨_, _, _, _, _, _, _, _, rfl, by assumption, by assumption, Inv.del hI, by omega, by omega, by omega⟩
      · rintro u nx h tk ⟨oh, op, f', fs, p2, tp2, q2, tq2, rfl, ih', ip', hI', hp2, hq20, hq21⟩ F6 N6
        clear F5 N5 rng2 ih ip hI
        k_steps
        all_goals
          (with_reducible rename Fr _ _ _ _ => F9)
          (with_reducible rename News _ _ _ _ => N9)
          subst eg
          refine hQ _ _ hd pd _ _ _ _ _ _ _ _ _ (keeps_of_fr F9) (N9.get (by k_mem)) (by omega) (by omega) (by omega) (N9.get (by k_mem)) (fresh_of N9 (by k_mem) (not_mem1 (ne_of_news N9 (by k_mem) (by k_mem) (by simp)))) (fresh_of N9 (by k_mem) (not_mem1 hwd.symm)) (fresh_of N9 (by k_mem) (not_mem1 hwp.symm)) hdp lo1 lo2 (N9.get (by k_mem)) (N9.get (by k_mem)) ih' ip' hI'
end Mine
namespace Mine
section
variable {w : World} {A : Around} {E : Value → Shared → Prop} {s : Shared} {mean : ExcName → Option Value} {mg mb : Str → Option Value} {dp un : Nat} {fr : Option (List Env)} {gd : Option (List Code)}
variable {g : Heap} {L : Addr} {m : Str → Option Value} {news : List (Addr × Obj)} {o : Obj} {u : Obj → List (Addr × Obj)}
theorem draw_five {wl c : Addr} {p q : Int} {tp tq t : Tok} {n : Nat} {Q : Value → Shared → Prop} (F : Fr g L s.heap m) (N : News g L s.heap news) (X : (Mine.hd.heap_1 w.params).In g) (T : Top topProg (looseW Mine.view [Str.ofString "ROUND"] ++ List.map (fun x => x.name) (recsOf Mine.view) ++ List.map (fun x => x.fst) (litsOf Mine.view) ++ List.map (fun x => x.name) (clssOf Mine.view (looseW Mine.view [Str.ofString "ROUND"]))) mean mg mb g) (U : UpdF wl (wellO c p tp q tq n) news u) (hc : Cells s.heap c) (hr : dp < 900)
    (hp : 0 ≤ p) (hq0 : 0 ≤ q) (hq1 : q < 1009)
    (h : ∀ h' tv p' tp' q' tq' tk, Fr g L h' m → News g L h' (u (wellO c p' tp' q' tq' n)) → 0 ≤ p' → 0 ≤ q' → q' < 1009 → (Q (.int 0 tv) { s with heap := h', toks := tk } ∧ Q (.int 1 tv) { s with heap := h', toks := tk }) ∧ Q (.int 2 tv) { s with heap := h', toks := tk } ∧ Q (.int 3 tv) { s with heap := h', toks := tk } ∧ Q (.int 4 tv) { s with heap := h', toks := tk }) :
    wpAny (model PySem.Challenge.rw_sa0618_01.row.prog w) (Ar dp un fr gd) (call (.ref 194) [.ref wl, .int 5 t]) Q E s := by
  refine draw_K F N X T U hc hr hp hq0 hq1 (by omega) (by omega) ?_
  intro h' v' tv' p' tp' q' tq' tk' F' N' hp' hq0' hq1' hv0' hv1'
  obtain ⟨⟨a0, a1⟩, a2, a3, a4⟩ := h h' tv' p' tp' q' tq' tk' F' N' hp' hq0' hq1'
  have : v' = 0 ∨ v' = 1 ∨ v' = 2 ∨ v' = 3 ∨ v' = 4 := by omega
  rcases this with rfl | rfl | rfl | rfl | rfl
  · exact a0
  · exact a1
  · exact a2
  · exact a3
  · exact a4
def IDl (w : World) (o : Obj) (kvs : List (Int × Value)) : Prop := o.IsDictOf (intKind PySem.Challenge.rw_sa0618_01.row.prog w) kvs
theorem rdict_set {d a : Addr} {k : Int} {tk : Tok} {kvs : List (Int × Value)} {Q : Unit → Shared → Prop} (F : Fr g L s.heap m) (N : News g L s.heap news) (U : UpdF d o news u) (I : IDl w o kvs) (hB : kvs.length ≤ 1000)
    (h : ∀ h' o' kvs', Fr g L h' m → News g L h' (u o') → kvs' = stored kvs k (.ref a) ∧ IDl w o' (stored kvs k (.ref a)) → Q () { s with heap := h', toks := s.toks + 1 }) : wpAny (model PySem.Challenge.rw_sa0618_01.row.prog w) A (setItem (.ref d) (.int k tk) (.ref a)) Q E s :=
  kda_set F N U I (intKind_is _ _ _ _) (by rw [sizeLine_eq]; omega) fun h' o' F' N' hd' => h h' o' _ F' N' ⟨rfl, hd'⟩
end
def updK (ρ : Int → Option (Kd × Int)) (k : Int) (r : Kd × Int) (x : Int) : Option (Kd × Int) := if x = k then some r else ρ x
theorem rules_set {kvs : List (Int × Value)} {tups : List (Addr × Obj)} {ρ : Int → Option (Kd × Int)} {k v : Int} {kd : Kd} {a : Addr} {tk tv : Tok} {n : Nat} (R : RulesAt kvs tups ρ) : RulesAt (stored kvs k (.ref a)) ((a, ruleObj kd v tk tv n) :: tups) (updK ρ k (kd, v)) := by
  intro x
  unfold updK
  rw [valueAt_stored]
  by_cases e : x = k
  · simp only [if_pos e]; exact ⟨a, tk, tv, n, rfl, .head _⟩
  · simp only [if_neg e]
    have := R x
    cases q : ρ x with
    | none => rw [q] at this; exact this
    | some r =>
      rw [q] at this
      obtain ⟨kd', v'⟩ := r
      obtain ⟨t, tk', tv', n', z1, z2⟩ := this
      exact ⟨t, tk', tv', n', z1, .tail _ z2⟩
theorem row_pick {g h : Heap} {L a I rd wl : Addr} {to oI o wo : Obj} {x2 x3 : Addr × Obj} {tups : List (Addr × Obj)} (N : News g L h ((a, to) :: x2 :: x3 :: (I, oI) :: (rd, o) :: (wl, wo) :: tups)) (ht : to.cls = .type "tuple") (ho : o.cls = .type "dict") (hw : wo.cls = .type "list") (hI : oI.cls = .type "range_iterator") :
    (@Ne Nat a rd) ∧ (@Ne Nat a wl) ∧ (@Ne Nat a I) ∧ News g L h ((rd, o) :: (wl, wo) :: (a, to) :: (I, oI) :: tups) := by
  refine ⟨ne_of_news N (by k_mem) (by k_mem) (by rw [ht, ho]; simp), ne_of_news N (by k_mem) (by k_mem) (by rw [ht, hw]; simp), ne_of_news N (by k_mem) (by k_mem) (by rw [ht, hI]; simp), fun p hp => N p ?_⟩
  simp only [List.mem_cons] at hp ⊢
  rcases hp with h | h | h | h | h <;> simp [h]
theorem IDl.cls {w : World} {o : Obj} {kvs : List (Int × Value)} (x : IDl w o kvs) : o.cls = .type "dict" := by
  obtain ⟨_, _, h, _⟩ := x
  exact h.1
def RowR (w : World) (rd wl c : Addr) (n : Nat) (i : Nat) (nx : List (Addr × Obj)) : Prop := ∃ o kvs tups ρ p tp q tq, nx = (rd, o) :: (wl, wellO c p tp q tq n) :: tups ∧ IDl w o kvs ∧ RulesAt kvs tups ρ ∧ kvs.length ≤ i ∧ (∀ p ∈ tups, p.1 ≠ rd) ∧ (∀ p ∈ tups, p.1 ≠ wl) ∧ 0 ≤ p ∧ 0 ≤ q ∧ q < 1009 ∧ ∀ k, (ρ k).isSome = true → 0 ≤ k ∧ k < 32
theorem row_end (kd : Kd) {w : World} {g h8 : Heap} {L rd wl c a I : Addr} {o8 oI : Obj} {p q k v : Int} {tp tq tk tv : Tok} {n n' i : Nat} {kvs : List (Int × Value)} {tups : List (Addr × Obj)} {ρ : Int → Option (Kd × Int)} {x : Str} {X : List Str} {m' m₀ : Str → Option Value} {s₁ : Shared} {tk' : Nat}
    (F : Fr g L h8 m') (N : News g L h8 ((rd, o8) :: (wl, wellO c p tp q tq n) :: (a, ruleObj kd v tk tv n') :: (I, oI) :: tups)) (I8 : IDl w o8 (stored kvs k (.ref a))) (hR : RulesAt kvs tups ρ) (hkl : kvs.length ≤ i)
    (n1 : @Ne Nat a rd) (n2 : @Ne Nat a wl) (n3 : @Ne Nat a I) (hn1 : ∀ p ∈ tups, p.1 ≠ rd) (hn2 : ∀ p ∈ tups, p.1 ≠ wl) (hIr : @Ne Nat I rd) (hIw : @Ne Nat I wl) (hIt : ∀ p ∈ tups, p.1 ≠ I) (hp : 0 ≤ p) (hq : 0 ≤ q) (hq1 : q < 1009) (hρ : ∀ k, (ρ k).isSome = true → 0 ≤ k ∧ k < 32) (hk : 0 ≤ k ∧ k < 32) (hm : ∀ z, z ≠ x → z ∉ X → m' z = m₀ z) :
    TurnEnd g L I oI [] x X m₀ (RowR w rd wl c n (i + 1)) s₁ { s₁ with heap := h8, toks := tk' } := by
  refine TurnEnd.intro (oI := oI) ((rd, o8) :: (wl, wellO c p tp q tq n) :: (a, ruleObj kd v tk tv n') :: tups) F N ⟨o8, _, _, _, p, tp, q, tq, rfl, I8, rules_set hR, Nat.le_trans (stored_length _ _ _) (Nat.succ_le_succ hkl), List.forall_mem_cons.mpr ⟨n1, hn1⟩, List.forall_mem_cons.mpr ⟨n2, hn2⟩, hp, hq, hq1, fun k' e => by
    unfold updK at e
    split at e
    · rename_i q'; rw [q']; exact hk
    · exact hρ k' e⟩ (fun y hy => ?_) (fun y hy => ?_) ?_ hm
  · simp only [List.mem_cons] at hy ⊢
    rcases hy with h | h | h | h <;> simp [h]
  · rw [List.mem_singleton.mp hy]; simp
  · exact List.forall_mem_cons.mpr ⟨hIr.symm, List.forall_mem_cons.mpr ⟨hIw.symm, List.forall_mem_cons.mpr ⟨n3, hIt⟩⟩⟩
end Mine
section
local macro_rules | `(tactic| k_all) => `(tactic| first | assumption | (refine' List.forall_mem_cons.mpr ⟨?ka1, ?ka2⟩; (case ka1 => k_ne); (case ka2 => k_all)))
local macro_rules | `(tactic| walk_at "call ref") => `(tactic| ((with_reducible show wpAny _ _ (call (Value.ref 194) [Value.ref _, Value.int 5 _]) _ _ _); k_dflt (refine' Mine.draw_five ?F ?N ?X ?T ?U ?hc ?hr ?hp ?hq0 ?hq1 ?_; (case F | N | X | T => k_asm); (case U => k_updF); (case hc => walk_at "mine cells"); (case hr => walk_at "mine room"); (case hp | hq0 | hq1 => omega); refine Mine.Stop.of ?_)))
local macro_rules | `(tactic| walk_at "setItem ref int") => `(tactic| ((with_reducible show wpAny _ _ (PySem.setItem (Value.ref _) (Value.int _ _) (Value.ref _)) _ _ _); k_dflt (refine' Mine.rdict_set ?F ?N ?U ?I ?B ?_; (case F | N => k_asm); (case U => k_updF); (case I => k_asm); (case B => omega); k_whole; intro h' o' kvs' F' N' I'; (try dsimp only at N'))))
namespace Mine
def ByNew (s h' : Heap) (v : Value) : Option (Int × Int) → Prop
  | none => v = .none
  | some (r, o) => ∃ t tr to, v = .ref t ∧ h'.get? t = some { cls := .type "tuple", data := .seq [Value.int r tr, .int o to].toArray } ∧ s.get? t = none
set_option maxHeartbeats 8000000 in
theorem row_spec {w : World} {mean : ExcName → Option Value} {mg mb : Str → Option Value} {h₀ : Heap} {dp un : Nat} {fr : Option (List Env)} {gd : Option (List Code)} {s : Shared} {wl c : Addr} {p q : Int} {tp tq : Tok} {n : Nat} {Q E : Value → Shared → Prop}
    (hroom : dp < 750) (G : Wd w mean mg mb h₀) (O : h₀.StaysIn s.heap) (hw : s.heap.get? wl = some (wellO c p tp q tq n)) (hw0 : h₀.get? wl = none) (hc : Cells s.heap c)
    (hp : 0 ≤ p) (hq0 : 0 ≤ q) (hq1 : q < 1009)
    (hQ : ∀ h' t0 byv by' rd o kvs tups ρ p' tp' q' tq' tk, Keeps [wl] s.heap h' → h'.get? wl = some (wellO c p' tp' q' tq' n) → 0 ≤ p' → 0 ≤ q' → q' < 1009 → h'.get? t0 = some { cls := .type "tuple", data := .seq [byv, Value.ref rd].toArray } → s.heap.get? t0 = none → ByNew s.heap h' byv by' → h'.get? rd = some o → s.heap.get? rd = none →
      (rd == sysModules) = false → IDl w o kvs → RulesAt kvs tups ρ → kvs.length ≤ 5 → (∀ k, (ρ k).isSome = true → 0 ≤ k ∧ k < 32) → (∀ p ∈ tups, h'.get? p.1 = some p.2 ∧ s.heap.get? p.1 = none) → Q (.ref t0) { s with heap := h', toks := tk }) :
    wpAny (model PySem.Challenge.rw_sa0618_01.row.prog w) (Ar dp un fr gd) (call (.ref 222) [.ref wl]) Q E s := by
  have hK : ∃ k, k = (Mine.hd.heap_1 w.params) := ⟨_, rfl⟩
  revert hK
  k_fill
  w_top off
  intro hK
  refine wpAny_call ?_
  refine' enter_ret (binds := [(Str.ofString "well", .ref wl)]) [(wl, wellO c p tp q tq n)] G O ?kN ?k6 ?k7 ?k8 ?k9 ?kB ?_ ?c5 ?c2 ?c3 ?c4
  walk_at "mine enter"
  (case kN =>
    intro x hx
    rcases List.mem_singleton.mp hx with rfl
    exact ⟨hw, hw0⟩)
  intro g L h₁ eg eL F N l st X T
  have hcg : Cells g c := by
    obtain ⟨vs, ns, ⟨o, ho, r⟩, z⟩ := id hc
    refine ⟨vs, ns, ⟨o, ?_, r⟩, z⟩
    rw [eg]
    exact hideAll_get _ ho (by simpa using hc.ne hw)
  (show wpAny _ _ _ _ _ _)
  k_fold
  k_steps
  rename_i tk0 h11 v1 tv1 p1 tp1 q1 tq1 tk1 a11 a12 a13 hv10 hv11 h10 v2 tv2 p2 tp2 q2 tq2 tk2 a21 a22 a23 hv20 hv21 h9 v3 tv3 p3 tp3 q3 tq3 tk3 a31 a32 a33 hv30 hv31 D h8 lD h7 h6 h5 h4 rd h3 o1 lo1 hs1 fs1 hi1 fi1 l1 h2 lF N9 hh1 v4 tv4 p4 tp4 q4 tq4 tk4 F8 N8 b1 b2 b3 hv40 hv41 h' tk5 tr ur vr rng F1 N1 kk
  unfold Stop
  have hwr : @Ne Nat wl rd := Nat.ne_of_lt l1.2
  have hv4 : v4 = 0 ∨ v4 = 1 ∨ v4 = 2 ∨ v4 = 3 ∨ v4 = 4 ∨ v4 = 5 := by omega
  have hsm : Builtin.Range.small 0 v4 1 = true := by rcases hv4 with rfl | rfl | rfl | rfl | rfl | rfl <;> rfl
  have hrs : Builtin.Range.rangeSize 0 v4 1 = (v4.toNat : Int) := by rcases hv4 with rfl | rfl | rfl | rfl | rfl | rfl <;> rfl
  clear F8 N8 lF N9
  refine loop_range2 (n := v4.toNat) [(rd, o1), (wl, wellO c p4 tp4 q4 tq4 n)] [Str.ofString "reg", Str.ofString "kind", Str.ofString "what", Str.ofString "value"] (RowR w rd wl c n) rfl rng hsm hrs F1 ?_ ⟨o1, [], [], fun _ => none, p4, tp4, q4, tq4, rfl, hi1, fun _ => rfl, Nat.le_refl _, by simp, by simp, by omega, by omega, by omega, by simp⟩ ?_ ?_
  · intro p hp
    refine N1 p ?_
    simp only [List.mem_cons, List.not_mem_nil, or_false] at hp ⊢
    rcases hp with h | h <;> simp [h]
  · rintro I i t u nx h tk oI hi hcI ⟨o, kvs, tups, ρ, p9, tp9, q9, tq9, rfl, hI, hR, hkl, hn1, hn2, hp9, hq90, hq91, hρ⟩ hdI F6 N6
    have hIr : @Ne Nat I rd := fun q => hdI _ (.head _) q.symm
    have hIw : @Ne Nat I wl := fun q => hdI _ (.tail _ (.head _)) q.symm
    have hIt : ∀ p ∈ tups, p.1 ≠ I := fun p hp => hdI p (.tail _ (.tail _ hp))
    have N7 : News g L h ((I, oI) :: (rd, o) :: (wl, wellO c p9 tp9 q9 tq9 n) :: tups) := fun p hp => N6 p (by
      simp only [List.cons_append, List.mem_cons, List.mem_append, List.not_mem_nil, or_false] at hp ⊢
      rcases hp with h | h | h | h <;> simp [h])
    have hk5 : kvs.length ≤ 5 := by omega
    clear N6 F1 N1 rng kk hdI
    k_steps
    unfold Stop
    intro h5' tv5 p5 tp5 q5 tq5 tk5' F5 N5 c1 c2 c3
    (try dsimp only at N5)
    refine ⟨⟨?_, ?_⟩, ?_, ?_, ?_⟩
    all_goals k_steps
    all_goals
      (with_reducible rename Fr _ _ _ _ => F9)
      (with_reducible rename News _ _ _ _ => N9)
      obtain ⟨n1, n2, n3, N8⟩ := row_pick N9 rfl hI.cls rfl hcI
      refine rdict_set F9 N8 (.head (List.forall_mem_cons.mpr ⟨hwr, List.forall_mem_cons.mpr ⟨n1, List.forall_mem_cons.mpr ⟨hIr, hn1⟩⟩⟩)) hI (by omega) ?_
      rintro h8 o8 kvs8 F8 N7' ⟨ek8, I8⟩
      clear N9 N8 F9
      k_steps
      first
      | exact row_end .offset F8 N7' I8 hR hkl n1 n2 n3 hn1 hn2 hIr hIw hIt (by omega) (by omega) (by omega) hρ (marks_lt (by assumption) (by assumption)) (by walk_at "mine map")
      | exact row_end .valOffset F8 N7' I8 hR hkl n1 n2 n3 hn1 hn2 hIr hIw hIt (by omega) (by omega) (by omega) hρ (marks_lt (by assumption) (by assumption)) (by walk_at "mine map")
      | exact row_end .register F8 N7' I8 hR hkl n1 n2 n3 hn1 hn2 hIr hIw hIt (by omega) (by omega) (by omega) hρ (marks_lt (by assumption) (by assumption)) (by walk_at "mine map")
      | exact row_end .same F8 N7' I8 hR hkl n1 n2 n3 hn1 hn2 hIr hIw hIt (by omega) (by omega) (by omega) hρ (marks_lt (by assumption) (by assumption)) (by walk_at "mine map")
      | exact row_end .undefined F8 N7' I8 hR hkl n1 n2 n3 hn1 hn2 hIr hIw hIt (by omega) (by omega) (by omega) hρ (marks_lt (by assumption) (by assumption)) (by walk_at "mine map")
  · rintro u nx h tk ⟨o, kvs, tups, ρ, p9, tp9, q9, tq9, rfl, hI, hR, hkl, hn1, hn2, hp9, hq90, hq91, hρ⟩ F6 N6
    clear F1 N1 rng kk
    k_steps
    all_goals
      (with_reducible rename Fr _ _ _ _ => F9)
      (with_reducible rename News _ _ _ _ => N9)
      subst eg
      have ht : ∀ p ∈ tups, _ ∧ s.heap.get? p.1 = none := fun p hp => ⟨(N9 p (by simp [hp])).1, fresh_of N9 (by simp [hp] : (p.1, p.2) ∈ _) (not_mem1 (hn2 p hp))⟩
      first
      | exact hQ _ _ _ none rd o kvs tups ρ _ _ _ _ _ (keeps_of_fr F9) (N9.get (by k_mem)) (by omega) (by omega) (by omega) (N9.get (by k_mem)) (fresh_of N9 (by k_mem) (not_mem1 (ne_of_news N9 (by k_mem) (by k_mem) (by simp)))) rfl (N9.get (by k_mem)) (fresh_of N9 (by k_mem) (not_mem1 hwr.symm)) lo1 hI hR (by omega) hρ ht
      | exact hQ _ _ _ (some (_, _)) rd o kvs tups ρ _ _ _ _ _ (keeps_of_fr F9) (N9.get (by k_mem)) (by omega) (by omega) (by omega) (N9.get (by k_mem)) (fresh_of N9 (by k_mem) (not_mem1 (ne_of_news N9 (by k_mem) (by k_mem) (by simp)))) ⟨_, _, _, rfl, N9.get (by k_mem), fresh_of N9 (by k_mem) (not_mem1 (ne_of_news N9 (by k_mem) (by k_mem) (by simp)))⟩ (N9.get (by k_mem)) (fresh_of N9 (by k_mem) (not_mem1 hwr.symm)) lo1 hI hR (by omega) hρ ht
end Mine
end
section
local macro_rules | `(tactic| walk_at "mine rdict") => `(tactic| first | exact Mine.RDict.keeps (by k_asm) (Fr.keep (by k_asm)) | k_asm)
local macro_rules | `(tactic| walk_at "compareOp In int ref") => `(tactic| k_dflt (first
  | (refine' Mine.rdict_in_t ?e ?I ?_; (case I => walk_at "mine rdict"); (case e => assumption); k_whole)
  | (refine' Mine.rdict_in_f ?e ?I ?_; (case I => walk_at "mine rdict"); (case e => assumption); k_whole)
  | (refine' Mine.rdict_in ?I ?_; (case I => walk_at "mine rdict"); k_whole)))
local macro_rules | `(tactic| walk_at "compareOp NotIn int ref") => `(tactic| k_dflt (first
  | (refine' Mine.rdict_notin_t ?e ?I ?_; (case I => walk_at "mine rdict"); (case e => assumption); k_whole)
  | (refine' Mine.rdict_notin_f ?e ?I ?_; (case I => walk_at "mine rdict"); (case e => assumption); k_whole)
  | (refine' Mine.rdict_notin ?I ?_; (case I => walk_at "mine rdict"); k_whole)))
local macro_rules | `(tactic| walk_at "mine ritem") => `(tactic| k_dflt (refine' Mine.rdict_item ?e ?I ?_ ?hs; (case I => walk_at "mine rdict"); (case hs => with_unfolding_all rfl); (case e => assumption); k_whole; intro a tk tv n ha hT; (try dsimp only [Mine.Kd.text] at hT)))
local macro_rules | `(tactic| walk_at "subscriptTail Name Name ref int") => `(tactic| walk_at "mine ritem") | `(tactic| walk_at "subscriptTail Attribute Name Name ref int") => `(tactic| walk_at "mine ritem")
local macro_rules | `(tactic| kun_tup) => `(tactic| exact IsTup.keeps (by k_asm) (Fr.keep (by k_asm)))
namespace Mine
set_option maxHeartbeats 8000000 in
theorem known_spec {w : World} {mean : ExcName → Option Value} {mg mb : Str → Option Value} {h₀ : Heap} {dp un : Nat} {fr : Option (List Env)} {gd : Option (List Code)} {s : Shared} {rd hd pd mem : Addr} {ρ : Int → Option (Kd × Int)} {f fs fm : Int → Option Int} {B1 B2 B3 B4 : Nat} {reg cfa : Int} {tr tc : Tok} {Q E : Value → Shared → Prop}
    (hroom : dp < 800) (G : Wd w mean mg mb h₀) (O : h₀.StaysIn s.heap) (IR : RDict w s.heap rd ρ B1) (IH : IDict w s.heap hd f B2) (IP : IDict w s.heap pd fs B3) (IM : IDict w s.heap mem fm B4) (hf : ∀ k i, fm k = some i → 0 ≤ i ∧ i < 256) (hf1 : f (-1) = none)
    (hQ : ∀ h' v tk, Keeps [] s.heap h' → ResO (knownBy f fs fm cfa reg (ruleOf ρ reg)) v s.heap h' → Q v { s with heap := h', toks := tk }) :
    wpAny (model PySem.Challenge.rw_sa0618_01.row.prog w) (Ar dp un fr gd) (call (.ref 229) [.int reg tr, .ref rd, .int cfa tc, .ref hd, .ref pd, .ref mem]) Q E s := by
  have hK : ∃ k, k = (Mine.hd.heap_1 w.params) := ⟨_, rfl⟩
  revert hK
  k_fill
  w_top off
  intro hK
  refine wpAny_call ?_
  refine' enter_ret (binds := [(Str.ofString "reg", .int reg tr), (Str.ofString "rules", .ref rd), (Str.ofString "frame", .int cfa tc), (Str.ofString "held", .ref hd), (Str.ofString "places", .ref pd), (Str.ofString "memory", .ref mem)]) [] G O ?kN ?k6 ?k7 ?k8 ?k9 ?kB ?_ ?c5 ?c2 ?c3 ?c4
  walk_at "mine enter"
  (case kN => intro x hx; cases hx)
  intro g L h₁ eg eL F N l st X T
  have IRg : RDict w g rd ρ B1 := by rw [eg]; exact IR
  have IHg : IDict w g hd f B2 := by rw [eg]; exact IH
  have IPg : IDict w g pd fs B3 := by rw [eg]; exact IP
  have IMg : IDict w g mem fm B4 := by rw [eg]; exact IM
  clear IR IH IP IM
  (show wpAny _ _ _ _ _ _)
  k_fold
  rcases hr : ρ reg with _ | ⟨kd, v⟩
  · k_steps
    all_goals
      (with_reducible rename Fr _ _ _ _ => F9)
      (with_reducible rename News _ _ _ _ => N9)
      subst eg
      have k9 := keeps_of_fr F9
      first
      | (refine hQ _ _ _ k9 (res_some (kn_vo (rule_2 hr (by assumption))) (N9.get (by k_mem)) (fresh_of N9 (by k_mem) (by simp)) rfl))
      | (refine hQ _ _ _ k9 (res_some (kn_same1 (rule_kept hr (by assumption) (kept_t1 (by assumption))) (by assumption)) (N9.get (by k_mem)) (fresh_of N9 (by k_mem) (by simp)) (by assumption)))
      | (refine hQ _ _ _ k9 (res_some (kn_same1 (rule_kept hr (by assumption) (kept_t2 (by assumption) (by assumption))) (by assumption)) (N9.get (by k_mem)) (fresh_of N9 (by k_mem) (by simp)) (by assumption)))
      | (refine hQ _ _ _ k9 (res_none (kn_same0 (rule_kept hr (by assumption) (kept_t1 (by assumption))) (by assumption))))
      | (refine hQ _ _ _ k9 (res_none (kn_same0 (rule_kept hr (by assumption) (kept_t2 (by assumption) (by assumption))) (by assumption))))
      | (refine hQ _ _ _ k9 (res_none (kn_un (rule_un hr (by assumption) (kept_f (by assumption) (by first | exact .inl (by assumption) | exact .inr (by assumption)))))))
  · cases kd
    all_goals k_steps
    all_goals
      (with_reducible rename Fr _ _ _ _ => F9)
      (with_reducible rename News _ _ _ _ => N9)
      subst eg
      have k9 := keeps_of_fr F9
      first
      | (refine hQ _ _ _ k9 (res_some (kn_vo (rule_some hr)) (N9.get (by k_mem)) (fresh_of N9 (by k_mem) (by simp)) rfl))
      | (refine hQ _ _ _ k9 (res_some (kn_off1 (rule_some hr) (by assumption)) (N9.get (by k_mem)) (fresh_of N9 (by k_mem) (by simp)) ⟨_, rfl⟩))
      | (refine hQ _ _ _ k9 (res_some (kn_reg1 (rule_some hr) (by assumption)) (N9.get (by k_mem)) (fresh_of N9 (by k_mem) (by simp)) (by assumption)))
      | (refine hQ _ _ _ k9 (res_some (kn_same1 (rule_some hr) (by assumption)) (N9.get (by k_mem)) (fresh_of N9 (by k_mem) (by simp)) (by assumption)))
      | (refine hQ _ _ _ k9 (res_none (kn_off0 (rule_some hr) (by assumption))))
      | (refine hQ _ _ _ k9 (res_none (kn_reg0 (rule_some hr) (by assumption))))
      | (refine hQ _ _ _ k9 (res_none (kn_same0 (rule_some hr) (by assumption))))
      | (refine hQ _ _ _ k9 (res_none (kn_un (rule_some hr))))
end Mine
namespace Mine
open Builtin Builtin.ObjectAttr
def excMro : List Value → Bool
  | [.type a, .type b, .type c] => a == "Exception" && b == "BaseException" && c == "object"
  | .ref _ :: r => excMro r
  | _ => false
theorem refuse_exc (self : Value) : ∀ {l : List Value}, excMro l = true → refuseLoop self "__setattr__" l = pure ()
  | [.type a, .type b, .type c], e => by
    simp only [excMro, Bool.and_eq_true, beq_iff_eq] at e
    obtain ⟨⟨rfl, rfl⟩, rfl⟩ := e
    exact PySem.F.store_Exception.passes self
  | .ref c :: r, e => by rw [refuseLoop_ref]; exact refuse_exc self (by cases r <;> first | exact e | cases e)
theorem exc_has {T : String} (hT : [Value.type "Exception", .type "BaseException", .type "object"].contains (.type T) = true) : ∀ {l : List Value}, excMro l = true → l.contains (.type T) = true
  | [.type a, .type b, .type c], e => by
    simp only [excMro, Bool.and_eq_true, beq_iff_eq] at e
    obtain ⟨⟨rfl, rfl⟩, rfl⟩ := e
    exact hT
  | .ref c :: r, e => by rw [List.contains_cons, exc_has hT (l := r) (by cases r <;> first | exact e | cases e), Bool.or_true]
theorem exc_hasnt {T : String} (hT : [Value.type "Exception", .type "BaseException", .type "object"].contains (.type T) = false) : ∀ {l : List Value}, excMro l = true → l.contains (.type T) = false
  | [.type a, .type b, .type c], e => by
    simp only [excMro, Bool.and_eq_true, beq_iff_eq] at e
    obtain ⟨⟨rfl, rfl⟩, rfl⟩ := e
    exact hT
  | .ref c :: r, e => by
    rw [List.contains_cons, exc_hasnt hT (l := r) (by cases r <;> first | exact e | cases e), Bool.or_false]
    rfl
theorem exc_ne {l : List Value} (e : excMro l = true) : l.isEmpty = false := by cases l <;> first | rfl | cases e

section
variable {prog : Program} {w : World} {A : Around} {E : Value → Shared → Prop} {s : Shared} {K : Frag} {x C : Addr} {ox : Obj} {od : Option Obj} {name : Str} {tk : Tok} {v : Value} {r : Option Value} {R : Result → Shared → Prop} {cd : ClassData}
theorem exc_open (X : K.In s.heap) (I : InstAt s.heap x ox C od) (hc : clsIn K C = some cd) (hm : excMro cd.mro = true) (ht : takerIn K C name = some r)
    (h : ∀ b, wpAny (model prog w) A.in1 (match r with | some a => setByDescriptor a (.ref x) v | none => storeInOwnDict (.ref x) (.ref C) (.str name tk) name v b)
      (fun fin s' => match fin with | .done f => R (.ok f) s' | .again c' => c'.quiet = true ∧ codeAny (model prog w) A c' R s') (fun e s' => R (.error e) s') s) :
    codeAny (model prog w) A (.call (.builtin "object.__setattr__") ⟨[.ref x, .str name tk, v], []⟩) R s := by
  have SF := PySem.F.store_object
  have ne := exc_ne hm
  have sub : Looks (model prog w) s.heap (isInstance (.ref x) (.type "object")) true := I.type.andThen (looks_mroIn X (by unfold mroIn; rw [hc, Option.bind_some, if_neg (by rw [ne]; decide), exc_has (by decide) hm]))
  refine codeAny_call_builtin SF.slot.plain SF.entry (@check_slot (model prog w) _ _ s "object.__setattr__" "object" "__setattr__" (.ref x) [.str name tk, v] [] _ SF.kind SF.split sub (SF.args (.ref x) (.str name tk) v) ?_)
  obtain ⟨attr, ha, hr⟩ := Option.bind_eq_some_iff.mp ht
  have hmr : Looks (model prog w) s.heap (mroOf (.ref C)) cd.mro := (looks_clsIn X hc).andThen .now
  have L3 : Looks (model prog w) s.heap (storeTaker? attr) r := by
    cases attr with
    | none => cases hr; exact .now
    | some a =>
      obtain ⟨b, hb, rfl⟩ := Option.map_eq_some_iff.mp hr
      refine (looks_takesIn X hb).andThen ?_
      cases b <;> exact .now
  rw [osa_eq, refuse_eq]
  refine wpAny_bind (wpAny_bind (I.type.here (wpAny_bind (hmr.here ?_))))
  rw [refuse_exc _ hm]
  refine wpAny_pure (wpAny_bind (I.type.here (wpAny_bind ((looks_findIn X ha).here (wpAny_bind (L3.here ?_))))))
  exact h _

/-- a field laid on an exception of an own class -/
theorem exc_store {ns : List Str} {mA : Str → Option Value} {Q : Unit → Shared → Prop} (X : K.In s.heap) (hs : findIn K (.ref C) "__setattr__" = some (some (.builtin "object.__setattr__"))) (hc : clsIn K C = some cd) (hm : excMro cd.mro = true) (hh : cd.hasDict = true) (ht : takerIn K C name = some none)
    (I : s.heap.Inst x C mA) (hw : Within mA ns) (hsz : ns.length ≤ 100)
    (hq : ∀ h' tk', h'.Inst x C (fun y => if y = name then some v else mA y) →
      (∀ b o, b ≠ x → (∀ o₀ dx, s.heap.get? x = some o₀ → o₀.dict = some dx → b ≠ dx) → s.heap.get? b = some o → h'.get? b = some o) → s.heap.objs.size ≤ h'.objs.size →
      (∀ o₀, s.heap.get? x = some o₀ → ∃ o₁, h'.get? x = some o₁ ∧ o₁.cls = o₀.cls ∧ o₁.data = o₀.data ∧ ∀ dx, o₁.dict = some dx → s.heap.get? dx = none ∨ o₀.dict = some dx) → Q () { s with heap := h', toks := tk' }) :
    wpAny (model prog w) A (setAttr (.ref x) name v) Q E s := by
  obtain ⟨o, hx, hcl, hnc, hd⟩ := id I
  have Iat : ∃ od, InstAt s.heap x o C od := by
    have hno : notCls o = true := by
      unfold notCls
      split
      · rename_i c q; exact absurd q (hnc c)
      · rfl
    rcases hd with ⟨hn, _⟩ | ⟨d, hdx, _, hns⟩
    · exact ⟨none, hx, hcl, hno, by rw [hn]; trivial⟩
    · obtain ⟨oD, _, _, hoD, _⟩ := hns
      exact ⟨some oD, hx, hcl, hno, by rw [hdx]; exact hoD⟩
  obtain ⟨od, Ix⟩ := Iat
  refine set_plain X Ix hs ?_
  refine exc_open (s := { s with toks := s.toks + 1 }) X Ix hc hm ht fun b => ?_
  obtain ⟨h, g, d, t, os⟩ := s
  dsimp only at hx X I hq
  refine wpAny_bind (wpAny_pure (wpAny_bind (wpAny_bind (wpAny_loadPart (s := ⟨h, g, d, t + 1, os⟩) hx ?_))))
  rw [hcl]
  refine wpAny_bind (Looks.here (s := ⟨h, g, d, t + 1, os⟩) (looks_clsIn (M := model prog w) X hc) ?_)
  rw [hh]
  rcases hd with ⟨hdn, hmA⟩ | ⟨dx, hdx, hne, hns⟩
  · rw [hdn]
    have hx₁ : (h.push { cls := .type "dict", data := .dict #[] }).get? x = some o := Heap.get?_push_of_some _ hx
    have hxs : x ≠ h.objs.size := Nat.ne_of_lt (Heap.lt_size hx)
    have hgd : ((h.push { cls := .type "dict", data := .dict #[] }).update x fun o => { o with dict := some h.objs.size }).get? h.objs.size
        = some { cls := .type "dict", data := .dict #[] } := (Heap.get?_update_ne _ _ _ _ hxs.symm).trans (Heap.get?_push_at rfl rfl)
    have hnd : ((h.push { cls := .type "dict", data := .dict #[] }).update x fun o => { o with dict := some h.objs.size }).Ns h.objs.size (fun _ => none) :=
      ⟨_, #[], _, hgd, rfl, fun e he => absurd he (by simp), fun _ => rfl⟩
    have tail : ∀ (fin : Fin → Shared → Prop) (A' : Around) (E' : Value → Shared → Prop), (∀ h' tk', h'.Inst x C (fun y => if y = name then some v else mA y) → (∀ b o, b ≠ x → h.get? b = some o → h'.get? b = some o) → h.objs.size ≤ h'.objs.size →
        (∃ o₁, h'.get? x = some o₁ ∧ o₁.cls = o.cls ∧ o₁.data = o.data ∧ ∀ dx, o₁.dict = some dx → h.get? dx = none ∨ o.dict = some dx) → fin (.done (.ret .none)) ⟨h', g, d, tk', os⟩) →
        wpAny (model prog w) A' (storeInDict h.objs.size (.str name t) name v) fin E' ⟨(h.push { cls := .type "dict", data := .dict #[] }).update x fun o => { o with dict := some h.objs.size }, g, d, t + 1, os⟩ := by
      intro fin A' E' hfin
      unfold storeInDict newKeyGuard
      refine wpAny_bind (wpAny_pure (wpAny_bind (wpAny_nsSet1 (Heap.Ns1.of_empty hnd) fun h' hn' hs' => ?_)))
      obtain ⟨oD, esD, epD, hoD, hdD, hcD⟩ := hn'.count (Within.cons name v Within.nil)
      refine wpAny_bind (wpAny_lookBehind hoD (by rw [hdD]; exact pastItsLine_dict (Nat.le_trans hcD (by rw [List.length_cons, List.length_nil, sizeLine_eq]; omega))) ?_)
      refine wpAny_pure ?_
      have hx' : h'.get? x = some { o with dict := some h.objs.size } := by
        refine (hs'.2 x hxs).trans (Heap.get?_update_self _ hx₁ ?_)
        have hfr := (Heap.get?_some_iff.mp hx).2
        obtain ⟨oc, od, odt, osl⟩ := o
        cases odt <;> first | rfl | exact hfr
      refine hfin h' _ ⟨_, hx', hcl, hnc, .inr ⟨h.objs.size, rfl, hxs.symm, ?_⟩⟩ (fun b ob hbx hb => ?_) ?_ ⟨_, hx', rfl, rfl, fun dx q => by cases q; exact .inl (Heap.get?_none_of_le (Nat.le_refl _))⟩
      · obtain ⟨o', es, ep, e1, e2, e3, eu, e4⟩ := hn'
        exact ⟨o', es, ep, e1, e2, e3, eu, fun y => by rw [e4 y]; by_cases hy : y = name <;> simp [hy, hmA]⟩
      · exact (hs'.2 b (Nat.ne_of_lt (Heap.lt_size hb))).trans ((Heap.get?_update_ne _ _ _ _ hbx).trans (Heap.get?_push_of_some _ hb))
      · exact Nat.le_of_lt (Heap.lt_size hoD)
    have fin : ∀ fin : Fin → Shared → Prop, (fin = fun f s' => match f with | .done f => (match (Except.ok f : Result) with | .ok (.ret _) => Q () s' | .ok _ => False | .error e => E e s') | .again c' => c'.quiet = true ∧ codeAny (model prog w) A c' (fun r s' => match r with | .ok (.ret _) => Q () s' | .ok _ => False | .error e => E e s') s') →
        ∀ h' tk', h'.Inst x C (fun y => if y = name then some v else mA y) → (∀ b o, b ≠ x → h.get? b = some o → h'.get? b = some o) → h.objs.size ≤ h'.objs.size →
        (∃ o₁, h'.get? x = some o₁ ∧ o₁.cls = o.cls ∧ o₁.data = o.data ∧ ∀ dx, o₁.dict = some dx → h.get? dx = none ∨ o.dict = some dx) → fin (.done (.ret .none)) ⟨h', g, d, tk', os⟩ := by
      rintro _ rfl h' tk' I' hk hsz' ho₁
      exact hq h' tk' I' (fun b ob hbx _ hb => hk b ob hbx hb) hsz' (fun o₀ h₀ => by obtain rfl : o = o₀ := Option.some.inj (hx.symm.trans h₀); exact ho₁)
    dsimp only
    rw [if_neg (show ¬ (!true || !typeHasDict (Value.ref C)) = true by simp [typeHasDict])]
    rw [if_neg (show ¬ (!true) = true by decide)]
    split
    · rename_i c hcd
      exact absurd hcd (hnc c)
    · refine wpAny_bind (wpAny_alloc (s := ⟨h, g, d, t + 1, os⟩) ?_)
      refine wpAny_bind (wpAny_update (s := ⟨h.push _, g, d, t + 1, os⟩) hx₁ ?_)
      refine wpAny_pure ?_
      exact tail _ _ _ (fin _ rfl)
  · rw [hdx]
    refine wpAny_pure ?_
    show wpAny _ _ (storeInDict dx (.str name t) name v) _ _ _
    unfold storeInDict newKeyGuard
    refine wpAny_bind (wpAny_pure (wpAny_bind (wpAny_nsSet1 (s := ⟨h, g, d, t + 1, os⟩) hns fun h' hn' hs' => ?_)))
    obtain ⟨oD, esD, epD, hoD, hdD, hcD⟩ := hn'.count (Within.cons name v hw)
    refine wpAny_bind (wpAny_lookBehind hoD (by rw [hdD]; exact pastItsLine_dict (Nat.le_trans hcD (by rw [List.length_cons, sizeLine_eq]; omega))) ?_)
    refine wpAny_pure ?_
    exact hq h' _ ⟨o, (hs'.2 x hne.symm).trans hx, hcl, hnc, .inr ⟨dx, hdx, hne, hn'⟩⟩ (fun b ob _ hbd hb => (hs'.2 b (hbd o dx hx hdx)).trans hb) (Nat.le_of_eq hs'.1.symm)
      (fun o₀ h₀ => ⟨o₀, (hs'.2 x hne.symm).trans h₀, rfl, rfl, fun _ q => .inr q⟩)
end
end Mine
namespace Mine
noncomputable abbrev att (w : World) (n : String) (t : Tok) (v : Value) : DictEntry := { hash := PyData.keyHash w.params (Str.ofString n), key := .str (Str.ofString n) t, val := v }
noncomputable abbrev callerD (w : World) (fx rx rd sd : Addr) (t1 t2 t3 t4 : Tok) : Obj := dictOf [att w "frame" t1 (.ref fx), att w "read" t2 (.ref rx), att w "registers" t3 (.ref rd), att w "saved" t4 (.ref sd)] 4
noncomputable abbrev rowD (w : World) (a c r : Value) (t1 t2 t3 : Tok) : Obj := dictOf [att w "address" t1 a, att w "cfa" t2 c, att w "rules" t3 r] 3
noncomputable abbrev frameD (w : World) (a b c d e f g : Value) (t1 t2 t3 t4 t5 t6 t7 : Tok) : Obj := dictOf [att w "level" t1 a, att w "pc" t2 b, att w "registers" t3 c, att w "cfa" t4 d, att w "function" t5 e, att w "is_call" t6 f, att w "saved" t7 g] 7
theorem InstAt.keeps {h h' : Heap} {x : Addr} {ox : Obj} {C : Addr} {od : Option Obj} (I : InstAt h x ox C od) (k : ∀ b o, h.get? b = some o → h'.get? b = some o) : InstAt h' x ox C od := by
  obtain ⟨a, b, c, d⟩ := I
  refine ⟨k _ _ a, b, c, ?_⟩
  cases e : ox.dict with
  | none =>
    rw [e] at d
    cases od with
    | none => exact d
    | some o => exact d
  | some dx =>
    rw [e] at d
    cases od with
    | none => exact d
    | some o => exact k _ _ d
theorem inst_of {h : Heap} {x dx C : Addr} {o : Obj} (hx : h.get? x = some (instObj C dx)) (hd : h.get? dx = some o) : InstAt h x (instObj C dx) C (some o) := ⟨hx, rfl, rfl, hd⟩

set_option maxHeartbeats 8000000 in
theorem callerInit_spec {w : World} {mean : ExcName → Option Value} {mg mb : Str → Option Value} {h₀ : Heap} {dp un : Nat} {fr : Option (List Env)} {gd : Option (List Code)} {s : Shared} {x dx fx rx : Addr} {R : Result → Shared → Prop}
    (hroom : dp < 800) (G : Wd w mean mg mb h₀) (O : h₀.StaysIn s.heap) (hx : s.heap.get? x = some (instObj 111 dx)) (hx0 : h₀.get? x = none) (hd : s.heap.get? dx = some emptyDict) (hd0 : h₀.get? dx = none) (hne : @Ne Nat dx x) 
    (hQ : ∀ h' tk rd sd o1 o2 t1 t2 t3 t4, Keeps [x, dx] s.heap h' → h'.get? x = some (instObj 111 dx) → h'.get? dx = some (callerD w fx rx rd sd t1 t2 t3 t4) → h'.get? rd = some o1 → h'.get? sd = some o2 → s.heap.get? rd = none → s.heap.get? sd = none → @Ne Nat rd x → @Ne Nat rd dx → @Ne Nat sd x → @Ne Nat sd dx → @Ne Nat rd sd →
      (rd == sysModules) = false → (sd == sysModules) = false → IDictO w o1 (fun _ => none) 0 → IDictO w o2 (fun _ => none) 0 → R (.ok (.ret .none)) { s with heap := h', toks := tk }) :
    codeAny (model PySem.Challenge.rw_sa0618_01.row.prog w) (Ar dp un fr gd) (.call (.ref 87) ⟨[.ref x, .ref fx, .ref rx], []⟩) R s := by
  have hK : ∃ k, k = (Mine.hd.heap_1 w.params) := ⟨_, rfl⟩
  revert hK
  k_fill
  w_top off
  intro hK
  refine' enter_ret (binds := [(Str.ofString "self", .ref x), (Str.ofString "frame", .ref fx), (Str.ofString "read", .ref rx)]) [(x, instObj 111 dx), (dx, emptyDict)] G O ?kN ?k6 ?k7 ?k8 ?k9 ?kB ?_ ?c5 ?c2 ?c3 ?c4
  walk_at "mine enter"
  (case kN =>
    intro p hp
    simp only [List.mem_cons, List.not_mem_nil, or_false] at hp
    rcases hp with rfl | rfl
    · exact ⟨hx, hx0⟩
    · exact ⟨hd, hd0⟩)
  intro g L h₁ eg eL F N l st X T
  clear hx hd
  (show wpAny _ _ _ _ _ _)
  k_fold
  k_steps
  all_goals
    (with_reducible rename Fr _ _ _ _ => F9)
    (with_reducible rename News _ _ _ _ => N9)
    (rename _ ∧ _ ∧ _ => l9)
    have l9' := And.intro (Nat.ne_of_gt l9.1) (And.intro (Nat.ne_of_gt l9.2.1) (Nat.ne_of_gt l9.2.2))
    clear l9
    (rename _ < _ ∧ _ < _ => l8)
    subst eg
    have l8' := And.intro (Nat.ne_of_gt l8.1) (Nat.ne_of_gt l8.2)
    refine hQ _ _ _ _ _ _ _ _ _ _ (keeps_of_fr F9) (N9.get (by k_mem)) (N9.get (by k_mem)) (N9.get (by k_mem)) (N9.get (by k_mem)) (fresh_of N9 (by k_mem) ?_) (fresh_of N9 (by k_mem) ?_) l8'.1 l8'.2 l9'.2.1 l9'.2.2 (Ne.symm l9'.1) (by assumption) (by assumption) ?_ ?_
    · intro hm
      simp only [List.map_cons, List.map_nil, List.mem_cons, List.not_mem_nil, or_false] at hm
      rcases hm with e | e
      · exact l8'.1 e
      · exact l8'.2 e
    · intro hm
      simp only [List.map_cons, List.map_nil, List.mem_cons, List.not_mem_nil, or_false] at hm
      rcases hm with e | e
      · exact l9'.2.1 e
      · exact l9'.2.2 e
    · exact dict_new (by assumption)
    · exact dict_new (by assumption)

set_option maxHeartbeats 8000000 in
theorem rowInit_spec {w : World} {mean : ExcName → Option Value} {mg mb : Str → Option Value} {h₀ : Heap} {dp un : Nat} {fr : Option (List Env)} {gd : Option (List Code)} {s : Shared} {x dx : Addr} {a c r : Value} {R : Result → Shared → Prop}
    (hroom : dp < 800) (G : Wd w mean mg mb h₀) (O : h₀.StaysIn s.heap) (hx : s.heap.get? x = some (instObj 146 dx)) (hx0 : h₀.get? x = none) (hd : s.heap.get? dx = some emptyDict) (hd0 : h₀.get? dx = none) (hne : @Ne Nat dx x) 
    (hQ : ∀ h' tk t1 t2 t3, Keeps [x, dx] s.heap h' → h'.get? x = some (instObj 146 dx) → h'.get? dx = some (rowD w a c r t1 t2 t3) → R (.ok (.ret .none)) { s with heap := h', toks := tk }) :
    codeAny (model PySem.Challenge.rw_sa0618_01.row.prog w) (Ar dp un fr gd) (.call (.ref 143) ⟨[.ref x, a, c, r], []⟩) R s := by
  have hK : ∃ k, k = (Mine.hd.heap_1 w.params) := ⟨_, rfl⟩
  revert hK
  k_fill
  w_top off
  intro hK
  refine' enter_ret (binds := [(Str.ofString "self", .ref x), (Str.ofString "address", a), (Str.ofString "cfa", c), (Str.ofString "rules", r)]) [(x, instObj 146 dx), (dx, emptyDict)] G O ?kN ?k6 ?k7 ?k8 ?k9 ?kB ?_ ?c5 ?c2 ?c3 ?c4
  walk_at "mine enter"
  (case kN =>
    intro p hp
    simp only [List.mem_cons, List.not_mem_nil, or_false] at hp
    rcases hp with rfl | rfl
    · exact ⟨hx, hx0⟩
    · exact ⟨hd, hd0⟩)
  intro g L h₁ eg eL F N l st X T
  clear hx hd
  (show wpAny _ _ _ _ _ _)
  k_fold
  k_steps
  all_goals
    (with_reducible rename Fr _ _ _ _ => F9)
    (with_reducible rename News _ _ _ _ => N9)
    subst eg
    exact hQ _ _ _ _ _ (keeps_of_fr F9) (N9.get (by k_mem)) (N9.get (by k_mem))

set_option maxHeartbeats 8000000 in
theorem frameInit_spec {w : World} {mean : ExcName → Option Value} {mg mb : Str → Option Value} {h₀ : Heap} {dp un : Nat} {fr : Option (List Env)} {gd : Option (List Code)} {s : Shared} {x dx : Addr} {a b c d e f r : Value} {R : Result → Shared → Prop}
    (hroom : dp < 800) (G : Wd w mean mg mb h₀) (O : h₀.StaysIn s.heap) (hx : s.heap.get? x = some (instObj 181 dx)) (hx0 : h₀.get? x = none) (hd : s.heap.get? dx = some emptyDict) (hd0 : h₀.get? dx = none) (hne : @Ne Nat dx x) 
    (hQ : ∀ h' tk t1 t2 t3 t4 t5 t6 t7, Keeps [x, dx] s.heap h' → h'.get? x = some (instObj 181 dx) → h'.get? dx = some (frameD w a b c d e f r t1 t2 t3 t4 t5 t6 t7) → R (.ok (.ret .none)) { s with heap := h', toks := tk }) :
    codeAny (model PySem.Challenge.rw_sa0618_01.row.prog w) (Ar dp un fr gd) (.call (.ref 164) ⟨[.ref x, a, b, c, d, e, f, r], []⟩) R s := by
  have hK : ∃ k, k = (Mine.hd.heap_1 w.params) := ⟨_, rfl⟩
  revert hK
  k_fill
  w_top off
  intro hK
  refine' enter_ret (binds := [(Str.ofString "self", .ref x), (Str.ofString "level", a), (Str.ofString "pc", b), (Str.ofString "registers", c), (Str.ofString "cfa", d), (Str.ofString "function", e), (Str.ofString "is_call", f), (Str.ofString "saved", r)]) [(x, instObj 181 dx), (dx, emptyDict)] G O ?kN ?k6 ?k7 ?k8 ?k9 ?kB ?_ ?c5 ?c2 ?c3 ?c4
  walk_at "mine enter"
  (case kN =>
    intro p hp
    simp only [List.mem_cons, List.not_mem_nil, or_false] at hp
    rcases hp with rfl | rfl
    · exact ⟨hx, hx0⟩
    · exact ⟨hd, hd0⟩)
  intro g L h₁ eg eL F N l st X T
  clear hx hd
  (show wpAny _ _ _ _ _ _)
  k_fold
  k_steps
  all_goals
    (with_reducible rename Fr _ _ _ _ => F9)
    (with_reducible rename News _ _ _ _ => N9)
    subst eg
    exact hQ _ _ _ _ _ _ _ _ _ (keeps_of_fr F9) (N9.get (by k_mem)) (N9.get (by k_mem))
end Mine
namespace Mine
section
variable {w : World} {mean : ExcName → Option Value} {mg mb : Str → Option Value} {g : Heap} {L : Addr} {m : Str → Option Value} {news : List (Addr × Obj)} {dp un : Nat} {fr : Option (List Env)} {gd : Option (List Code)} {s : Shared} {Q E : Value → Shared → Prop}
theorem none_of_keep {g h : Heap} (k : ∀ b o, g.get? b = some o → h.get? b = some o) {a : Addr} (e : h.get? a = none) : g.get? a = none := by
  cases q : g.get? a with
  | none => rfl
  | some o => rw [k _ _ q] at e; cases e
theorem ne_of_none {h : Heap} {a b : Addr} {o : Obj} (e : h.get? a = none) (p : h.get? b = some o) : @Ne Nat b a := by
  rintro rfl
  rw [e] at p; cases p
theorem allNe_none {h : Heap} {a : Addr} (e : h.get? a = none) : ∀ {l : List (Addr × Obj)}, (∀ p ∈ l, h.get? p.1 = some p.2) → AllNe a l
  | [], _ => trivial
  | p :: _, q => ⟨ne_of_none e (q p (.head _)), allNe_none e fun x hx => q x (.tail _ hx)⟩
theorem news_add {h h' : Heap} {a : Addr} {o : Obj} (F : Fr g L h m) (N : News g L h' news) (e : h.get? a = none) (ho : h'.get? a = some o) : News g L h' ((a, o) :: news) := by
  intro p hp
  rcases List.mem_cons.mp hp with rfl | hp
  · obtain ⟨oL, _, _, hl, _⟩ := F.ns
    exact ⟨ho, fun q => absurd hl (by rw [← q, e]; exact fun z => by cases z), none_of_keep F.keep e⟩
  · exact N p hp
theorem not_mem2 {a b c : Nat} (h1 : a ≠ b) (h2 : a ≠ c) : a ∉ [b, c] := by simp [h1, h2]
theorem two_off {news : List (Addr × Obj)} {x dx : Addr} (hl : ∀ p ∈ news, p.1 < dx) (hx : dx < x) : ∀ p ∈ news, p.1 ∉ [x, dx] := fun p hp =>
  not_mem2 (Nat.ne_of_lt (Nat.lt_trans (hl p hp) hx)) (Nat.ne_of_lt (hl p hp))
theorem two_fr {h h' : Heap} {x dx : Addr} {o o' : Obj} (F : Fr g L h m) (N : News g L h ((x, o) :: (dx, o') :: news)) (k : Keeps [x, dx] h h') : Fr g L h' m := by
  have a := N (x, o) (.head _)
  have b := N (dx, o') (.tail _ (.head _))
  refine fr_keeps F k (not_mem2 (fun q => a.2.1 q.symm) (fun q => b.2.1 q.symm)) fun y hy => ?_
  simp only [List.mem_cons, List.not_mem_nil, or_false] at hy
  rcases hy with rfl | rfl
  · exact a.2.2
  · exact b.2.2
theorem two_news {h h' : Heap} {x dx : Addr} {o o' o₁ o₁' : Obj} (N : News g L h ((x, o) :: (dx, o') :: news)) (k : Keeps [x, dx] h h') (hl : ∀ p ∈ news, p.1 < dx) (hx : dx < x) (e : h'.get? x = some o₁) (e' : h'.get? dx = some o₁') : News g L h' ((x, o₁) :: (dx, o₁') :: news) := by
  intro p hp
  rcases List.mem_cons.mp hp with rfl | hp
  · exact ⟨e, (N _ (.head _)).2⟩
  · rcases List.mem_cons.mp hp with rfl | hp
    · exact ⟨e', (N _ (.tail _ (.head _))).2⟩
    · exact ⟨k.2 _ _ (two_off hl hx p hp) (N p (.tail _ (.tail _ hp))).1, (N p (.tail _ (.tail _ hp))).2⟩

theorem row_make (F : Fr g L s.heap m) (N : News g L s.heap news) (X : (Mine.hd.heap_1 w.params).In g) (T : Top topProg (looseW Mine.view [Str.ofString "ROUND"] ++ List.map (fun x => x.name) (recsOf Mine.view) ++ List.map (fun x => x.fst) (litsOf Mine.view) ++ List.map (fun x => x.name) (clssOf Mine.view (looseW Mine.view [Str.ofString "ROUND"]))) mean mg mb g) (hroom : dp < 790) {a c r : Value}
    (hm : makesIn (Mine.hd.heap_1 w.params) 146 = true) (hi : findIn (Mine.hd.heap_1 w.params) (.ref 146) "__init__" = some (some (.ref 143))) (hf : typeIn (Mine.hd.heap_1 w.params) (.ref 143) = some (.type "function"))
    (hQ : ∀ h' tk x dx t1 t2 t3, Fr g L h' m → News g L h' ((x, instObj 146 dx) :: (dx, rowD w a c r t1 t2 t3) :: news) → (∀ p ∈ news, p.1 < dx) → dx < x → Q (.ref x) { s with heap := h', toks := tk }) :
    wpAny (model PySem.Challenge.rw_sa0618_01.row.prog w) (Ar dp un fr gd) (call (.ref 146) [a, c, r]) Q E s := by
  refine wpAny_call ?_
  refine make_K F N (X.keeps F.keep) hm hi hf fun x dx h' F' N' hl hx => ?_
  refine rowInit_spec (dp := dp + 1) (s := { s with heap := h' }) (by omega) ⟨X, T⟩ F'.keep (N' _ (.head _)).1 (N' _ (.head _)).2.2 (N' _ (.tail _ (.head _))).1 (N' _ (.tail _ (.head _))).2.2 (Nat.ne_of_lt hx) ?_
  intro h'' tk t1 t2 t3 k e1 e2
  exact ⟨rfl, hQ h'' tk x dx t1 t2 t3 (two_fr F' N' k) (two_news N' k hl hx e1 e2) hl hx⟩
theorem frame_make (F : Fr g L s.heap m) (N : News g L s.heap news) (X : (Mine.hd.heap_1 w.params).In g) (T : Top topProg (looseW Mine.view [Str.ofString "ROUND"] ++ List.map (fun x => x.name) (recsOf Mine.view) ++ List.map (fun x => x.fst) (litsOf Mine.view) ++ List.map (fun x => x.name) (clssOf Mine.view (looseW Mine.view [Str.ofString "ROUND"]))) mean mg mb g) (hroom : dp < 790) {a b c d e f r : Value}
    (hm : makesIn (Mine.hd.heap_1 w.params) 181 = true) (hi : findIn (Mine.hd.heap_1 w.params) (.ref 181) "__init__" = some (some (.ref 164))) (hf : typeIn (Mine.hd.heap_1 w.params) (.ref 164) = some (.type "function"))
    (hQ : ∀ h' tk x dx t1 t2 t3 t4 t5 t6 t7, Fr g L h' m → News g L h' ((x, instObj 181 dx) :: (dx, frameD w a b c d e f r t1 t2 t3 t4 t5 t6 t7) :: news) → (∀ p ∈ news, p.1 < dx) → dx < x → Q (.ref x) { s with heap := h', toks := tk }) :
    wpAny (model PySem.Challenge.rw_sa0618_01.row.prog w) (Ar dp un fr gd) (call (.ref 181) [a, b, c, d, e, f, r]) Q E s := by
  refine wpAny_call ?_
  refine make_K F N (X.keeps F.keep) hm hi hf fun x dx h' F' N' hl hx => ?_
  refine frameInit_spec (dp := dp + 1) (s := { s with heap := h' }) (by omega) ⟨X, T⟩ F'.keep (N' _ (.head _)).1 (N' _ (.head _)).2.2 (N' _ (.tail _ (.head _))).1 (N' _ (.tail _ (.head _))).2.2 (Nat.ne_of_lt hx) ?_
  intro h'' tk t1 t2 t3 t4 t5 t6 t7 k e1 e2
  exact ⟨rfl, hQ h'' tk x dx t1 t2 t3 t4 t5 t6 t7 (two_fr F' N' k) (two_news N' k hl hx e1 e2) hl hx⟩
theorem caller_make (F : Fr g L s.heap m) (N : News g L s.heap news) (X : (Mine.hd.heap_1 w.params).In g) (T : Top topProg (looseW Mine.view [Str.ofString "ROUND"] ++ List.map (fun x => x.name) (recsOf Mine.view) ++ List.map (fun x => x.fst) (litsOf Mine.view) ++ List.map (fun x => x.name) (clssOf Mine.view (looseW Mine.view [Str.ofString "ROUND"]))) mean mg mb g) (hroom : dp < 790) {fx rx : Addr}
    (hm : makesIn (Mine.hd.heap_1 w.params) 111 = true) (hi : findIn (Mine.hd.heap_1 w.params) (.ref 111) "__init__" = some (some (.ref 87))) (hf : typeIn (Mine.hd.heap_1 w.params) (.ref 87) = some (.type "function"))
    (hQ : ∀ h' tk x dx rd sd o1 o2 t1 t2 t3 t4, Fr g L h' m → News g L h' ((rd, o1) :: (sd, o2) :: (x, instObj 111 dx) :: (dx, callerD w fx rx rd sd t1 t2 t3 t4) :: news) → AllNe rd ((sd, o2) :: (x, instObj 111 dx) :: (dx, callerD w fx rx rd sd t1 t2 t3 t4) :: news) → AllNe sd ((x, instObj 111 dx) :: (dx, callerD w fx rx rd sd t1 t2 t3 t4) :: news) →
      (∀ p ∈ news, p.1 < dx) → dx < x → (rd == sysModules) = false → (sd == sysModules) = false → IDictO w o1 (fun _ => none) 0 → IDictO w o2 (fun _ => none) 0 → Q (.ref x) { s with heap := h', toks := tk }) :
    wpAny (model PySem.Challenge.rw_sa0618_01.row.prog w) (Ar dp un fr gd) (call (.ref 111) [.ref fx, .ref rx]) Q E s := by
  refine wpAny_call ?_
  refine make_K F N (X.keeps F.keep) hm hi hf fun x dx h' F' N' hl hx => ?_
  refine callerInit_spec (dp := dp + 1) (s := { s with heap := h' }) (by omega) ⟨X, T⟩ F'.keep (N' _ (.head _)).1 (N' _ (.head _)).2.2 (N' _ (.tail _ (.head _))).1 (N' _ (.tail _ (.head _))).2.2 (Nat.ne_of_lt hx) ?_
  intro h'' tk rd sd o1 o2 t1 t2 t3 t4 k e1 e2 er es nr ns a1 a2 a3 a4 a5 y1 y2 i1 i2
  have N2 := two_news N' k hl hx e1 e2
  refine ⟨rfl, hQ h'' tk x dx rd sd o1 o2 t1 t2 t3 t4 (two_fr F' N' k) (news_add F' (news_add F' N2 ns es) nr er) ?_ ?_ hl hx y1 y2 i1 i2⟩
  · refine ⟨fun q => a5 q.symm, fun q => a1 q.symm, fun q => a2 q.symm, ?_⟩
    exact allNe_none nr fun p hp => (N' p (.tail _ (.tail _ hp))).1
  · refine ⟨fun q => a3 q.symm, fun q => a4 q.symm, ?_⟩
    exact allNe_none ns fun p hp => (N' p (.tail _ (.tail _ hp))).1
end
end Mine
section
local macro_rules | `(tactic| k_inst) => `(tactic| first | exact Mine.InstAt.keeps (by with_reducible assumption) (Fr.keep (by k_asm)) | exact Mine.InstAt.keeps (by assumption) (Fr.keep (by k_asm)))
namespace Mine
def putR (R : Int → Option Int) (k : Int) : Option (Int × Option Int) → Int → Option Int
  | some (v, _) => upd R k v
  | none => R
def putS (S : Int → Option Int) (k : Int) : Option (Int × Option Int) → Int → Option Int
  | some (_, some p) => upd S k p
  | _ => S
section
variable {f fs R S : Int → Option Int} {k j i p : Int}
def keepBy (f fs : Int → Option Int) (j : Int) : Option (Int × Option Int) := (f j).map fun x => (x, fs j)
theorem kb_none (e : (f j).isSome = false) : keepBy f fs j = none := by unfold keepBy; rw [show f j = none by simpa using e]; rfl
theorem kb_some (e : f j = some i) : keepBy f fs j = some (i, fs j) := by unfold keepBy; rw [e]; rfl
theorem putR_none (e : (f j).isSome = false) : putR R k (keepBy f fs j) = R := by rw [kb_none e]; rfl
theorem putS_none (e : (f j).isSome = false) : putS S k (keepBy f fs j) = S := by rw [kb_none e]; rfl
theorem putR_some (e : f j = some i) : putR R k (keepBy f fs j) = upd R k i := by rw [kb_some e]; rfl
theorem putS_some (e : f j = some i) (e' : fs j = some p) : putS S k (keepBy f fs j) = upd S k p := by rw [kb_some e, e']; rfl
theorem putS_off (e : f j = some i) (e' : (fs j).isSome = false) : putS S k (keepBy f fs j) = S := by rw [kb_some e, show fs j = none by simpa using e']; rfl
end

set_option maxHeartbeats 8000000 in
theorem keep_spec {w : World} {mean : ExcName → Option Value} {mg mb : Str → Option Value} {h₀ : Heap} {dp un : Nat} {fr : Option (List Env)} {gd : Option (List Code)} {s : Shared} {x dx fx dfx rx rd sd frd fsd : Addr} {t1 t2 t3 t4 u1 u2 u3 u4 u5 u6 u7 tn tj : Tok} {a1 a2 a4 a5 a6 : Value} {or os : Obj} {f fs R S : Int → Option Int} {B1 B2 B3 B4 : Nat} {k j : Int} {Q E : Value → Shared → Prop}
    (hroom : dp < 800) (G : Wd w mean mg mb h₀) (O : h₀.StaysIn s.heap)
    (Ix : InstAt s.heap x (instObj 111 dx) 111 (some (callerD w fx rx rd sd t1 t2 t3 t4))) (If : InstAt s.heap fx (instObj 181 dfx) 181 (some (frameD w a1 a2 (.ref frd) a4 a5 a6 (.ref fsd) u1 u2 u3 u4 u5 u6 u7)))
    (I1 : IDict w s.heap frd f B1) (I2 : IDict w s.heap fsd fs B2)
    (hr : s.heap.get? rd = some or) (hr0 : h₀.get? rd = none) (hs : s.heap.get? sd = some os) (hs0 : h₀.get? sd = none) (ir : IDictO w or R B3) (is : IDictO w os S B4) (b3 : B3 ≤ 900) (b4 : B4 ≤ 900)
    (hne : @Ne Nat rd sd) (nr : ∀ b ∈ [x, dx, fx, dfx, frd, fsd], b ∉ [rd, sd])
    (hQ : ∀ h' tk or' os', Keeps [rd, sd] s.heap h' → h'.get? rd = some or' → h'.get? sd = some os' → IDictO w or' (putR R k (keepBy f fs j)) (B3 + 1) → IDictO w os' (putS S k (keepBy f fs j)) (B4 + 1) → Q .none { s with heap := h', toks := tk }) :
    wpAny (model PySem.Challenge.rw_sa0618_01.row.prog w) (Ar dp un fr gd) (call (.ref 94) [.ref x, .int k tn, .int j tj]) Q E s := by
  have hK : ∃ k, k = (Mine.hd.heap_1 w.params) := ⟨_, rfl⟩
  revert hK
  k_fill
  w_top off
  intro hK
  refine wpAny_call ?_
  refine' enter_ret (binds := [(Str.ofString "self", .ref x), (Str.ofString "number", .int k tn), (Str.ofString "other", .int j tj)]) [(rd, or), (sd, os)] G O ?kN ?k6 ?k7 ?k8 ?k9 ?kB ?_ ?c5 ?c2 ?c3 ?c4
  walk_at "mine enter"
  (case kN =>
    intro p hp
    simp only [List.mem_cons, List.not_mem_nil, or_false] at hp
    rcases hp with rfl | rfl
    · exact ⟨hr, hr0⟩
    · exact ⟨hs, hs0⟩)
  intro g L h₁ eg eL F N l st X T
  have hg : ∀ b ∈ [x, dx, fx, dfx, frd, fsd], ∀ o, s.heap.get? b = some o → g.get? b = some o := fun b hb o e => by
    rw [eg]; exact hideAll_get _ e (nr b hb)
  have Ixg := inst_of (hg x (by simp) _ Ix.at_) (hg dx (by simp) _ Ix.dict)
  have Ifg := inst_of (hg fx (by simp) _ If.at_) (hg dfx (by simp) _ If.dict)
  have I1g : IDict w g frd f B1 := ⟨I1.1, I1.2.choose, hg frd (by simp) _ I1.2.choose_spec.1, I1.2.choose_spec.2⟩
  have I2g : IDict w g fsd fs B2 := ⟨I2.1, I2.2.choose, hg fsd (by simp) _ I2.2.choose_spec.1, I2.2.choose_spec.2⟩
  clear Ix If I1 I2 hg
  (show wpAny _ _ _ _ _ _)
  k_fold
  k_steps
  all_goals
    (with_reducible rename Fr _ _ _ _ => F9)
    (with_reducible rename News _ _ _ _ => N9)
    subst eg
    have k9 := keeps_of_fr F9
    first
    | (rw [putR_some (by assumption), putS_some (by assumption) (by assumption)] at hQ; exact hQ _ _ _ _ k9 (N9.get (by k_mem)) (N9.get (by k_mem)) (by assumption) (by assumption))
    | (rw [putR_some (by assumption), putS_off (by assumption) (by assumption)] at hQ; exact hQ _ _ _ _ k9 (N9.get (by k_mem)) (N9.get (by k_mem)) (by assumption) (is.mono (Nat.le_succ _)))
    | (rw [putR_none (by assumption), putS_none (by assumption)] at hQ; exact hQ _ _ _ _ k9 (N9.get (by k_mem)) (N9.get (by k_mem)) (ir.mono (Nat.le_succ _)) (is.mono (Nat.le_succ _)))
end Mine
namespace Mine
def cfaOf (b : Option (Int × Int)) (f : Int → Option Int) : Option Int := match b with
  | none => none
  | some (r, o) => (f r).map fun v => (v + o).fmod 4294967296
theorem cfa_some {f : Int → Option Int} {r o v : Int} (e : f r = some v) : cfaOf (some (r, o)) f = some ((v + o).fmod 4294967296) := by show (f r).map _ = _; rw [e]; rfl
theorem cfa_none {f : Int → Option Int} {r o : Int} (e : (f r).isSome = false) : cfaOf (some (r, o)) f = none := by show (f r).map _ = _; rw [show f r = none by simpa using e]; rfl
/-- the value of a row's cfa -/
def ByAt (h : Heap) (v : Value) : Option (Int × Int) → Prop
  | none => v = .none
  | some (r, o) => ∃ t tr to n, v = .ref t ∧ h.get? t = some { cls := .type "tuple", data := .seq [Value.int r tr, .int o to].toArray n }
set_option maxHeartbeats 8000000 in
theorem cfa_spec0 {w : World} {mean : ExcName → Option Value} {mg mb : Str → Option Value} {h₀ : Heap} {dp un : Nat} {fr : Option (List Env)} {gd : Option (List Code)} {s : Shared} {hd : Addr} {Q E : Value → Shared → Prop}
    (hroom : dp < 800) (G : Wd w mean mg mb h₀) (O : h₀.StaysIn s.heap) 
    (hQ : ∀ h' tk, Keeps [] s.heap h' → Q .none { s with heap := h', toks := tk }) :
    wpAny (model PySem.Challenge.rw_sa0618_01.row.prog w) (Ar dp un fr gd) (call (.ref 122) [.none, .ref hd]) Q E s := by
  have hK : ∃ k, k = (Mine.hd.heap_1 w.params) := ⟨_, rfl⟩
  revert hK
  k_fill
  w_top off
  intro hK
  refine wpAny_call ?_
  refine' enter_ret (binds := [(Str.ofString "row", .none), (Str.ofString "registers", .ref hd)]) [] G O ?kN ?k6 ?k7 ?k8 ?k9 ?kB ?_ ?c5 ?c2 ?c3 ?c4
  walk_at "mine enter"
  (case kN => intro x hx; cases hx)
  intro g L h₁ eg eL F N l st X T
  (show wpAny _ _ _ _ _ _)
  k_fold
  k_steps
  all_goals
    (with_reducible rename Fr _ _ _ _ => F9)
    subst eg
    exact hQ _ _ (keeps_of_fr F9)

set_option maxHeartbeats 8000000 in
theorem cfa_spec {w : World} {mean : ExcName → Option Value} {mg mb : Str → Option Value} {h₀ : Heap} {dp un : Nat} {fr : Option (List Env)} {gd : Option (List Code)} {s : Shared} {rw drw hd : Addr} {a c r : Value} {t1 t2 t3 : Tok} {by' : Option (Int × Int)} {f : Int → Option Int} {B : Nat} {Q E : Value → Shared → Prop}
    (hroom : dp < 800) (G : Wd w mean mg mb h₀) (O : h₀.StaysIn s.heap) (Ir : InstAt s.heap rw (instObj 146 drw) 146 (some (rowD w a c r t1 t2 t3))) (hb : ByAt s.heap c by') (I : IDict w s.heap hd f B)
    (hQ : ∀ h' tk v, Keeps [] s.heap h' → OptAt (cfaOf by' f) v → Q v { s with heap := h', toks := tk }) :
    wpAny (model PySem.Challenge.rw_sa0618_01.row.prog w) (Ar dp un fr gd) (call (.ref 122) [.ref rw, .ref hd]) Q E s := by
  have hK : ∃ k, k = (Mine.hd.heap_1 w.params) := ⟨_, rfl⟩
  revert hK
  k_fill
  w_top off
  intro hK
  refine wpAny_call ?_
  refine' enter_ret (binds := [(Str.ofString "row", .ref rw), (Str.ofString "registers", .ref hd)]) [] G O ?kN ?k6 ?k7 ?k8 ?k9 ?kB ?_ ?c5 ?c2 ?c3 ?c4
  walk_at "mine enter"
  (case kN => intro x hx; cases hx)
  intro g L h₁ eg eL F N l st X T
  have Irg : InstAt g rw (instObj 146 drw) 146 (some (rowD w a c r t1 t2 t3)) := by rw [eg]; exact Ir
  have Ig : IDict w g hd f B := by rw [eg]; exact I
  have hbg : ByAt g c by' := by rw [eg]; exact hb
  clear Ir I hb
  rcases by' with _ | ⟨rg, off⟩
  · obtain rfl : c = .none := hbg
    (show wpAny _ _ _ _ _ _)
    k_fold
    k_steps
    all_goals
      (with_reducible rename Fr _ _ _ _ => F9)
      subst eg
      exact hQ _ _ _ (keeps_of_fr F9) rfl
  · obtain ⟨t, tr, to, n, rfl, ht⟩ := hbg
    have hT : IsTup g t [Value.int rg tr, .int off to].toArray := ⟨_, ht, rfl, n, rfl⟩
    (show wpAny _ _ _ _ _ _)
    k_fold
    k_steps
    all_goals
      (with_reducible rename Fr _ _ _ _ => F9)
      subst eg
      first
      | (rw [cfa_some (by assumption)] at hQ; exact hQ _ _ _ (keeps_of_fr F9) ⟨_, rfl⟩)
      | (rw [cfa_none (by assumption)] at hQ; exact hQ _ _ _ (keeps_of_fr F9) rfl)
end Mine
namespace Mine
open Builtin
abbrev excO (C t : Addr) : Obj := { cls := .ref C, data := .fields #[.ref t, .none, .none, .none, .bool false, .none] }
def ExcIs (C : Addr) (o : Obj) : Prop := o.cls = .ref C ∧ ∃ t, o.data = .fields #[.ref t, .none, .none, .none, .bool false, .none]
section
variable {prog : Program} {w : World} {A : Around} {E : Value → Shared → Prop} {R : Result → Shared → Prop} {h : Heap} {g : Array GenState} {d : Drawn} {t : Nat} {os : OsState}
variable {nm q : Str} {C N : Addr} {bs bm : List Value} {hdct : Bool} {sn : List Str} {sub : List Value} {ab : Bool} {col : Option Bool} {dd : Option Addr} {k0 k1 k2 k3 k5 : Option Value}
theorem xc_has {T : String} (hT : [Value.type "Exception", .type "BaseException", .type "object"].contains (.type T) = true) (hm : excMro bm = true) : (Value.ref C :: bm).contains (.type T) = true := by rw [List.contains_cons, exc_has hT hm, Bool.or_true]
theorem xc_hasnt {T : String} (hT : [Value.type "Exception", .type "BaseException", .type "object"].contains (.type T) = false) (hm : excMro bm = true) : (Value.ref C :: bm).contains (.type T) = false := by rw [List.contains_cons, exc_hasnt hT hm]; rfl

theorem xc_check_new {rest : List Value} {Q : Unit → Shared → Prop} (hm : excMro bm = true) (hC : h.get? C = some (excClassObj nm q C N bs bm hdct sn sub ab col dd k0 k1 k2 k3 k5 "Exception.__new__"))
    (hq : Q () ⟨h, g, d, t, os⟩) : wpAny (model prog w) A (checkBuiltinCall "Exception.__new__" ⟨.ref C :: rest, []⟩) Q E ⟨h, g, d, t, os⟩ := by
  have F := PySem.F.excBase_Exception
  have hcont := xc_has (C := C) (T := "Exception") (by decide) hm
  have hstar := F.noStar
  simp only [checkBuiltinCall, F.newKind, F.newSplit, F.newRow]
  repeat (first | refine wpAny_loadPart_at hC ?_ | (refine wpAny_isSubtype_exc hC ?_; rw [hcont]) | refine wpAny_staticBase_exc hC ?_ | refine wpAny_madeBy_exc hC ?_ | simp only [bne_self_eq_false, Bool.false_eq_true, if_false] | wp_step)
  exact hq
theorem xc_new {rest : List Value} (hm : excMro bm = true) (hC : h.get? C = some (excClassObj nm q C N bs bm hdct sn sub ab col dd k0 k1 k2 k3 k5 "Exception.__new__"))
    (hq : R (.ok (.ret (.ref (h.objs.size + 1)))) ⟨(h.push { cls := .type "tuple", data := .seq rest.toArray }).push (excO C h.objs.size), g, d, t, os⟩) (hrest : rest.length ≤ sizeLine := by size_fits) :
    codeAny (model prog w) A (.builtin "Exception.__new__" ⟨.ref C :: rest, []⟩) R ⟨h, g, d, t, os⟩ := by
  have F := PySem.F.excBase_Exception
  have hends := F.ends
  have hcB := xc_has (C := C) (T := "Exception") (by decide) hm
  have hcA := xc_hasnt (C := C) (T := "AttributeError") (by decide) hm
  have hcN := xc_hasnt (C := C) (T := "NameError") (by decide) hm
  refine codeAny_builtinAt F.entry ?_
  unfold Builtin.«BaseException.__new__»
  refine PySem.wpAt_bind ?_
  show PySem.wpAt _ _ _ (stack >>= _) _ _ _
  refine PySem.wpAt_bind (PySem.wpAt_stack fun p below => PySem.wpAt_of_wpAny ?_)
  wp_walk
  refine PySem.wpAt_of_wpAny ?_
  rw [F.owner]
  repeat (first | with_reducible refine wpAny_madeHere_exc F.canon hC ?_ | with_reducible refine wpAny_loadPart_at hC ?_ | (with_reducible refine wpAny_isSubtype_exc hC ?_; first | rw [hcB] | rw [hcA] | rw [hcN]) | wp_step)
  show R _ _
  rw [Heap.size_push]
  exact hq
theorem xc_type_call {K : Frag} {rest : List Value} {fI : Addr} {Q : Fin → Shared → Prop} (hm : excMro bm = true) (X : K.In h) (hC : h.get? C = some (excClassObj nm q C N bs bm hdct sn sub ab col dd k0 k1 k2 k3 k5 "Exception.__new__"))
    (hi : findIn K (.ref C) "__init__" = some (some (.ref fI))) (hf : typeIn K (.ref fI) = some (.type "function"))
    (hq : ∀ h' e, Heap.MadeExcOf h h' e (.ref C) rest →
      wpAny (model prog w) A (call (.ref fI) (.ref e :: rest)) (fun r s' => r = .none ∧ Q (.done (.ret (.ref e))) s') E ⟨h', g, d, t, os⟩) (hrest : rest.length ≤ sizeLine := by size_fits) :
    wpAny (model prog w) A (Builtin.«type.__call__» ⟨.ref C :: rest, []⟩) Q E ⟨h, g, d, t, os⟩ := by
  have F := PySem.F.excBase_Exception
  repeat (first | with_reducible refine wpAny_loadPart_at hC ?_ | with_reducible refine wpAny_madeBy_exc hC ?_ | wp_step)
  refine codeAny_call_builtin_code (Code.quiet_builtin _ F.quiet) (xc_check_new hm hC ?_)
  refine xc_new hm hC ?_ hrest
  show wpAny _ _ _ _ _ _
  have kk : ∀ b o, h.get? b = some o → ((h.push { cls := .type "tuple", data := .seq rest.toArray }).push (excO C h.objs.size)).get? b = some o := fun b o e => Heap.get?_push_of_some _ (Heap.get?_push_of_some _ e)
  have hC₁ := kk _ _ hC
  have hget : ((h.push { cls := .type "tuple", data := .seq rest.toArray }).push (excO C h.objs.size)).get? (h.objs.size + 1) = some (excO C h.objs.size) := by heap_get
  have hcC : (Value.ref C :: bm).contains (.ref C) = true := by simp
  unfold isInstance
  repeat (first | with_reducible refine wpAny_loadPart_at hget ?_ | (with_reducible refine wpAny_isSubtype_exc hC₁ ?_; rw [hcC]) | wp_step)
  show wpAny _ _ (typeLookup (.ref C) _) _ _ _
  refine Looks.here (M := model prog w) (looks_findIn (X.keeps kk) hi) ?_
  refine wpAny_holding (wpAny_bind (Looks.here (M := model prog w) (bind_fn (X.keeps kk) _ hf) ?_))
  refine wpAny_bind (wpAny_mono (hq _ (h.objs.size + 1) ⟨kk, Heap.get?_none_of_le (Nat.le_succ _), h.objs.size, hget, Heap.get?_none_of_le (Nat.le_refl _), ?_⟩) (fun r s' hr => ?_) fun _ _ x => x)
  · exact Heap.get?_push_of_some _ (Heap.get?_push_at rfl rfl)
  · obtain ⟨rfl, hQ⟩ := hr
    wp_walk
    exact hQ
theorem xc_call {K : Frag} {rest : List Value} {fI : Addr} {Q : Value → Shared → Prop} (hm : excMro bm = true) (X : K.In h) (hC : h.get? C = some (excClassObj nm q C N bs bm hdct sn sub ab col dd k0 k1 k2 k3 k5 "Exception.__new__"))
    (hi : findIn K (.ref C) "__init__" = some (some (.ref fI))) (hf : typeIn K (.ref fI) = some (.type "function"))
    (hq : ∀ h' e, Heap.MadeExcOf h h' e (.ref C) rest →
      wpAny (model prog w) (A.under (.builtin "type.__call__" ⟨.ref C :: rest, []⟩)) (call (.ref fI) (.ref e :: rest)) (fun r s' => r = .none ∧ Q (.ref e) s') E ⟨h', g, d, t, os⟩) (hrest : rest.length ≤ sizeLine := by size_fits) :
    wpAny (model prog w) A (call (.ref C) rest) Q E ⟨h, g, d, t, os⟩ := by
  have f1 := tc_lookup
  have f2 := PySem.tc_bind (.ref C)
  have hT : (⟨h, g, d, t, os⟩ : Shared).TypeIs (.ref C) "type" := ⟨_, hC, rfl⟩
  refine wpAny_call (codeAny_of_tree ?_)
  show wpAny _ _ (callAny (.ref C) _) _ _ _
  repeat (any_goals (first | assumption | with_reducible refine wpAny_loadPart_at hC ?_ | wp_step))
  refine ⟨rfl, ?_⟩
  refine codeAny_call_builtin_at (Code.quiet_builtin _ (by decide +kernel)) entry_typeCall (wpAny_check_type_call_sub hC (xc_type_call (hrest := hrest) hm X hC hi hf fun h' e hm => ?_))
  exact hq h' e hm
theorem xc_init {e tp : Addr} {v : Value} (hm : excMro bm = true) (hC : h.get? C = some (excClassObj nm q C N bs bm hdct sn sub ab col dd k0 k1 k2 k3 k5 "Exception.__new__")) (he : h.get? e = some (excO C tp))
    (hq : ∀ h', h'.get? e = some (excO C h.objs.size) → (∀ b o, b ≠ e → h.get? b = some o → h'.get? b = some o) → h.objs.size ≤ h'.objs.size → R (.ok (.ret .none)) ⟨h', g, d, t, os⟩) :
    codeAny (model prog w) A (.call (.builtin "Exception.__init__") ⟨[.ref e, v], []⟩) R ⟨h, g, d, t, os⟩ := by
  have F := PySem.F.excBase_Exception
  refine codeAny_call_builtin F.init.plain F.initEntry ?_
  have hcB := xc_has (C := C) (T := "Exception") (by decide) hm
  have hshort := F.noStar
  simp only [checkBuiltinCall, F.initKind, F.initSplit, F.initRow]
  repeat (first | with_reducible refine wpAny_loadPart_at he ?_ | with_reducible refine wpAny_loadPart_at hC ?_ | (with_reducible refine wpAny_isSubtype_exc hC ?_; rw [hcB]) | wp_step)
  have hne : h.objs.size ≠ e := Nat.ne_of_gt (Heap.lt_size he)
  show R _ _
  refine hq _ ?_ ?_ ?_
  · rw [Heap.get?_update_self _ (Heap.get?_push_of_some _ he) rfl]
    rfl
  · intro b o hb hbo
    rw [Heap.get?_update_other _ _ (Ne.symm hb)]
    exact Heap.get?_push_of_some _ hbo
  · exact Nat.le_trans (Nat.le_of_lt (Nat.lt_succ_self _)) (Nat.le_of_eq (by rw [Heap.size_update, Heap.size_push]))
end
end Mine
namespace Mine
theorem meta_Exc : typeOf (.type "Exception") = pure (.type "type") := by
  show pure (Value.type ((Manifest.find? "Exception").elim "type" fun x => x.metatype)) = _
  rw [show ((Manifest.find? "Exception").elim "type" fun x => x.metatype) = "type" from by kernel_rfl]
structure ExcCls (K : Frag) (C : Addr) : Prop where
  obj : ∃ nm q N bs bm hdct sn sub ab col dd k0 k1 k2 k3 k5, K.lookup C = some (excClassObj nm q C N bs bm hdct sn sub ab col dd k0 k1 k2 k3 k5 "Exception.__new__") ∧ excMro bm = true
  seta : findIn K (.ref C) "__setattr__" = some (some (.builtin "object.__setattr__"))
  cls : ∃ cd, clsIn K C = some cd ∧ excMro cd.mro = true ∧ cd.hasDict = true
section
variable {w : World} {mean : ExcName → Option Value} {mg mb : Str → Option Value} {g : Heap} {L : Addr} {m : Str → Option Value} {news : List (Addr × Obj)} {A : Around} {s : Shared} {E : Value → Shared → Prop} {u : Obj → List (Addr × Obj)}
theorem exc_init_K {C e tp : Addr} {v : Value} {Q : Value → Shared → Prop} (F : Fr g L s.heap m) (N : News g L s.heap news) (X : (Mine.hd.heap_1 w.params).In g) (U : UpdF e (excO C tp) news u) (hC : ExcCls (Mine.hd.heap_1 w.params) C)
    (hQ : ∀ h' t', Fr g L h' m → News g L h' (u (excO C t')) → h'.Inst e C (fun _ => none) → Q .none { s with heap := h' }) :
    wpAny (model PySem.Challenge.rw_sa0618_01.row.prog w) A (call (.builtin "Exception.__init__") [.ref e, v]) Q E s := by
  obtain ⟨⟨nm, q, N', bs, bm, hdct, sn, sub, ab, col, dd, k0, k1, k2, k3, k5, ho, hm⟩, _, _⟩ := hC
  obtain ⟨h, ge, dr, tk, os⟩ := s
  refine wpAny_call (xc_init hm (X _ _ ho |> F.keep _ _) (N _ (updF_mem U)).1 fun h' e1 k sz => ?_)
  have kk : Keeps [e] h h' := ⟨sz, fun b o hb => k b o (by simpa using hb)⟩
  exact hQ h' _ (fr_upd F N U kk) (news_updF N U kk e1) ⟨_, e1, rfl, fun c q => (nomatch q), .inl ⟨rfl, fun _ => rfl⟩⟩

theorem exc_store_K {C x : Addr} {o : Obj} {name : Str} {v : Value} {mA : Str → Option Value} {ns : List Str} {Q : Unit → Shared → Prop} (F : Fr g L s.heap m) (N : News g L s.heap news) (X : (Mine.hd.heap_1 w.params).In g) (U : UpdF x o news u) (hC : ExcCls (Mine.hd.heap_1 w.params) C) (ht : takerIn (Mine.hd.heap_1 w.params) C name = some none)
    (I : s.heap.Inst x C mA) (hx : ExcIs C o) (hw : Within mA ns) (hz : ns.length ≤ 100) (hn : ∀ dx, o.dict = some dx → g.get? dx = none ∧ dx ≠ L ∧ ∀ p ∈ news, p.1 ≠ dx)
    (hQ : ∀ h' o' tk', Fr g L h' m → News g L h' (u o') → h'.Inst x C (fun y => if y = name then some v else mA y) → ExcIs C o' → (∀ dx, o'.dict = some dx → s.heap.get? dx = none ∨ o.dict = some dx) → Q () { s with heap := h', toks := tk' }) :
    wpAny (model PySem.Challenge.rw_sa0618_01.row.prog w) A (setAttr (.ref x) name v) Q E s := by
  obtain ⟨_, hs, cd, hc, hm, hh⟩ := hC
  have hxm := N _ (updF_mem U)
  refine exc_store (X.keeps F.keep) hs hc hm hh ht I hw hz fun h' tk' I' k sz he => ?_
  obtain ⟨o₁, e1, e2, e3, e4⟩ := he o hxm.1
  have kp : ∀ b o', b ≠ x → (∀ dx, o.dict = some dx → b ≠ dx) → s.heap.get? b = some o' → h'.get? b = some o' := fun b o' n n' hb => k b o' n (fun o₀ dx q => by obtain rfl : o = o₀ := Option.some.inj (hxm.1.symm.trans q); exact n' dx) hb
  refine hQ h' o₁ tk' ?_ ?_ I' ⟨e2.trans hx.1, hx.2.imp fun t q => e3.trans q⟩ e4
  · obtain ⟨⟨oL, es, ep, hl, r⟩, kg, ab⟩ := F
    refine ⟨⟨oL, es, ep, kp _ _ (fun q => hxm.2.1 q.symm) (fun dx q z => (hn dx q).2.1 z.symm) hl, r⟩, fun b o' hb => kp b o' (fun q => ?_) (fun dx q z => ?_) (kg b o' hb), ab⟩
    · rw [q, hxm.2.2] at hb; cases hb
    · rw [z, (hn dx q).1] at hb; cases hb
  · obtain ⟨pre, post, q, hg, a, b⟩ := U.split
    subst q
    rw [hg]
    intro p hp
    have off : p ∈ pre ++ (x, o) :: post → p.1 ≠ x → h'.get? p.1 = some p.2 := fun hm' ne => kp _ _ ne (fun dx q => (hn dx q).2.2 p hm') (N p hm').1
    rcases List.mem_append.mp hp with q | q
    · have hm' := List.mem_append_left ((x, o) :: post) q
      exact ⟨off hm' (a p q), (N p hm').2⟩
    · rcases List.mem_cons.mp q with rfl | q
      · exact ⟨e1, hxm.2⟩
      · have hm' := List.mem_append_right pre (List.mem_cons_of_mem (x, o) q)
        exact ⟨off hm' (b p q), (N p hm').2⟩
end
end Mine
section
local macro_rules | `(tactic| walk_at "getMethod type:Exception") => `(tactic| (refine' method_type ?F ?X ?m (by decide +kernel) ?e ?h ?_; (case F | X => k_asm); (case m => exact Mine.meta_Exc); (case e => k_dflt k_is); (case h => k_handed)))
local macro_rules | `(tactic| walk_at "call builtin:Exception.__init__") => `(tactic| (refine' Mine.exc_init_K ?F ?N ?X ?U ?hC ?_; (case F | N | X => k_asm); (case U => k_updF); (case hC => k_asm); k_whole; intro h' t' F' N' I'; (try dsimp only at N')))
local macro_rules | `(tactic| walk_at "setAttr ref") => `(tactic| k_dflt (refine' Mine.exc_store_K ?F ?N ?X ?U ?hC ?ht ?I ?hx ?hw ?hz ?hn ?_; (case F | N | X => k_asm); (case U => k_updF); (case I | hC => k_asm); (case ht => first | k_asm | k_is); (case hx => first | exact ⟨rfl, _, rfl⟩ | k_asm); (case hw => first | exact Within.nil | exact Within.cons _ _ Within.nil); (case hz => decide); (case hn => first | (intro dx q; cases q; done) | k_asm); k_whole; intro h' o' tk' F' N' I' x' n'; (try dsimp only at N')))
namespace Mine
theorem old_fresh {sh h : Heap} {L a : Addr} {m : Str → Option Value} {as : List Addr} (F : Fr (hideAll sh as) L h m) (e : h.get? a = none) (n : a ∉ as) : sh.get? a = none := by
  cases q : sh.get? a with
  | none => rfl
  | some o => have := F.keep _ _ (hideAll_get as q n); rw [e] at this; cases this
abbrev ExcPost (s : Heap) (e C : Addr) (h' : Heap) : Prop := ∃ oe, h'.get? e = some oe ∧ ExcIs C oe ∧ (∀ dx, oe.dict = some dx → s.get? dx = none)

set_option maxHeartbeats 8000000 in
theorem dfInit_spec {w : World} {mean : ExcName → Option Value} {mg mb : Str → Option Value} {h₀ : Heap} {dp un : Nat} {fr : Option (List Env)} {gd : Option (List Code)} {s : Shared} {e C tp : Addr} {v : Value} {Q E : Value → Shared → Prop}
    (hroom : dp < 850) (G : Wd w mean mg mb h₀) (O : h₀.StaysIn s.heap) (he : s.heap.get? e = some (excO C tp)) (he0 : h₀.get? e = none) (hC : ExcCls (Mine.hd.heap_1 w.params) C) (ht : takerIn (Mine.hd.heap_1 w.params) C "word" = some none)
    (hQ : ∀ h' tk, Keeps [e] s.heap h' → ExcPost s.heap e C h' → h'.Inst e C (fun y => if y = "word" then some v else none) → Q .none { s with heap := h', toks := tk }) :
    wpAny (model PySem.Challenge.rw_sa0618_01.row.prog w) (Ar dp un fr gd) (call (.ref 35) [.ref e, v]) Q E s := by
  have hK : ∃ k, k = (Mine.hd.heap_1 w.params) := ⟨_, rfl⟩
  revert hK
  k_fill
  w_top off
  intro hK
  refine wpAny_call ?_
  refine' enter_ret (binds := [(Str.ofString "self", .ref e), (Str.ofString "word", v)]) [(e, excO C tp)] G O ?kN ?k6 ?k7 ?k8 ?k9 ?kB ?_ ?c5 ?c2 ?c3 ?c4
  walk_at "mine enter"
  (case kN =>
    intro p hp
    rcases List.mem_singleton.mp hp with rfl
    exact ⟨he, he0⟩)
  intro g L h₁ eg eL F N l st X T
  (show wpAny _ _ _ _ _ _)
  k_fold
  k_steps
  all_goals
    (with_reducible rename Fr _ _ _ _ => F9)
    (with_reducible rename News _ _ _ _ => N9)
    (with_reducible rename Heap.Inst _ _ _ _ => I9)
    (rename ∀ dx : Addr, _ → _ ∨ _ => n2)
    clear F N
    subst eg
    refine hQ _ _ (keeps_of_fr F9) ⟨_, N9.get (by k_mem), by k_asm, fun dx q => ?_⟩ I9
    rcases n2 dx q with z | z
    · refine old_fresh (by assumption) z fun y => ?_
      rw [List.mem_singleton.mp y] at z
      have N1 := News.get (by assumption : News _ _ _ [(e, excO C _)]) (List.mem_singleton.mpr rfl)
      rw [N1] at z; cases z
    · cases z

theorem exc_post_ok {g s h' : Heap} {e C : Addr} (P : ExcPost s e C h') (k : ∀ b o, g.get? b = some o → s.get? b = some o) {o : Obj} (he : s.get? e = some o) {L : Addr} {oL : Obj} (hL : s.get? L = some oL) : ∃ oe, h'.get? e = some oe ∧ ExcIs C oe ∧ ∀ dx, oe.dict = some dx → g.get? dx = none ∧ dx ≠ L ∧ ∀ p ∈ [(e, oe)], p.1 ≠ dx := by
  obtain ⟨oe, h1, h2, h3⟩ := P
  refine ⟨oe, h1, h2, fun dx q => ⟨none_of_keep k (h3 dx q), ?_, fun p hp => ?_⟩⟩
  · rintro rfl; rw [h3 _ q] at hL; cases hL
  · rw [List.mem_singleton.mp hp]
    rintro rfl
    have := h3 _ q
    rw [he] at this; cases this
theorem df_K {w : World} {mean : ExcName → Option Value} {mg mb : Str → Option Value} {g : Heap} {L : Addr} {m : Str → Option Value} {dp un : Nat} {fr : Option (List Env)} {gd : Option (List Code)} {s : Shared} {e C tp : Addr} {v : Value} {Q E : Value → Shared → Prop}
    (F : Fr g L s.heap m) (N : News g L s.heap [(e, excO C tp)]) (X : (Mine.hd.heap_1 w.params).In g) (T : Top topProg (looseW Mine.view [Str.ofString "ROUND"] ++ List.map (fun x => x.name) (recsOf Mine.view) ++ List.map (fun x => x.fst) (litsOf Mine.view) ++ List.map (fun x => x.name) (clssOf Mine.view (looseW Mine.view [Str.ofString "ROUND"]))) mean mg mb g) (hroom : dp < 850) (hC : ExcCls (Mine.hd.heap_1 w.params) C) (ht : takerIn (Mine.hd.heap_1 w.params) C "word" = some none)
    (hQ : ∀ h' tk oe, Fr g L h' m → News g L h' [(e, oe)] → ExcIs C oe → (∀ dx, oe.dict = some dx → g.get? dx = none ∧ dx ≠ L ∧ ∀ p ∈ [(e, oe)], p.1 ≠ dx) → (∀ dx, oe.dict = some dx → s.heap.get? dx = none) → h'.Inst e C (fun y => if y = "word" then some v else none) → Q .none { s with heap := h', toks := tk }) :
    wpAny (model PySem.Challenge.rw_sa0618_01.row.prog w) (Ar dp un fr gd) (call (.ref 35) [.ref e, v]) Q E s := by
  have hm := N _ (.head _)
  refine dfInit_spec hroom ⟨X, T⟩ F.keep hm.1 hm.2.2 hC ht fun h' tk k P I => ?_
  obtain ⟨oL, _, _, hL, _⟩ := F.ns
  obtain ⟨oe, h1, h2, h3⟩ := exc_post_ok P F.keep hm.1 hL
  refine hQ h' tk oe (fr_keeps F k (fun q => hm.2.1 (List.mem_singleton.mp q).symm) (fun a q => by rw [List.mem_singleton.mp q]; exact hm.2.2)) (fun p hp => ?_) h2 h3 ?_ I
  · rw [List.mem_singleton.mp hp]; exact ⟨h1, hm.2⟩
  · intro dx q
    obtain ⟨oe', g1, _, g3⟩ := P
    obtain rfl : oe = oe' := Option.some.inj (h1.symm.trans g1)
    exact g3 dx q
end Mine
section
local macro_rules | `(tactic| walk_at "call ref") => `(tactic| ((with_reducible show wpAny _ _ (call (Value.ref 35) _) _ _ _); k_dflt (refine' Mine.df_K ?F ?N ?X ?T ?hr ?hC ?ht ?_; (case F | N | X | T => k_asm); (case hr => walk_at "mine room"); (case hC => k_asm); (case ht => first | k_asm | k_is); k_whole; intro h' tk oe F' N' x' n' n2 I')))
namespace Mine
set_option maxHeartbeats 8000000 in
theorem trapInit_spec {w : World} {mean : ExcName → Option Value} {mg mb : Str → Option Value} {h₀ : Heap} {dp un : Nat} {fr : Option (List Env)} {gd : Option (List Code)} {s : Shared} {e tp : Addr} {v a : Value} {Q E : Value → Shared → Prop}
    (hroom : dp < 800) (G : Wd w mean mg mb h₀) (O : h₀.StaysIn s.heap) (he : s.heap.get? e = some (excO 58 tp)) (he0 : h₀.get? e = none) (hC : ExcCls (Mine.hd.heap_1 w.params) 58)
    (hQ : ∀ h' tk, Keeps [e] s.heap h' → (∃ oe, h'.get? e = some oe ∧ ExcIs 58 oe) → Q .none { s with heap := h', toks := tk }) :
    wpAny (model PySem.Challenge.rw_sa0618_01.row.prog w) (Ar dp un fr gd) (call (.ref 55) [.ref e, v, a]) Q E s := by
  have hK : ∃ k, k = (Mine.hd.heap_1 w.params) := ⟨_, rfl⟩
  revert hK
  k_fill
  w_top off
  intro hK
  refine wpAny_call ?_
  refine' enter_ret (binds := [(Str.ofString "self", .ref e), (Str.ofString "word", v), (Str.ofString "at", a)]) [(e, excO 58 tp)] G O ?kN ?k6 ?k7 ?k8 ?k9 ?kB ?_ ?c5 ?c2 ?c3 ?c4
  walk_at "mine enter"
  (case kN =>
    intro p hp
    rcases List.mem_singleton.mp hp with rfl
    exact ⟨he, he0⟩)
  intro g L h₁ eg eL F N l st X T
  (show wpAny _ _ _ _ _ _)
  k_fold
  k_steps
  all_goals
    (with_reducible rename Fr _ _ _ _ => F9)
    (with_reducible rename News _ _ _ _ => N9)
    subst eg
    exact hQ _ _ (keeps_of_fr F9) ⟨_, N9.get (by k_mem), by k_asm⟩

theorem exc_new_K {w : World} {g : Heap} {L : Addr} {m : Str → Option Value} {news : List (Addr × Obj)} {dp un : Nat} {fr : Option (List Env)} {gd : Option (List Code)} {s : Shared} {C fI : Addr} {rest : List Value} {Q E : Value → Shared → Prop}
    (F : Fr g L s.heap m) (N : News g L s.heap news) (X : (Mine.hd.heap_1 w.params).In g) (hC : ExcCls (Mine.hd.heap_1 w.params) C) (hi : findIn (Mine.hd.heap_1 w.params) (.ref C) "__init__" = some (some (.ref fI))) (hf : typeIn (Mine.hd.heap_1 w.params) (.ref fI) = some (.type "function")) (hr : rest.length ≤ sizeLine)
    (hI : ∀ un' gd' e tp h' (Q' : Value → Shared → Prop), (Mine.hd.heap_1 w.params).In h' → (∀ b o, s.heap.get? b = some o → h'.get? b = some o) → h'.get? e = some (excO C tp) → s.heap.get? e = none → (∀ h'' tk, Keeps [e] h' h'' → (∃ oe, h''.get? e = some oe ∧ ExcIs C oe) → Q' .none { s with heap := h'', toks := tk }) →
      wpAny (model PySem.Challenge.rw_sa0618_01.row.prog w) (Ar (dp + 1) un' fr gd') (call (.ref fI) (.ref e :: rest)) Q' E { s with heap := h' })
    (hQ : ∀ h' tk e oe, Fr g L h' m → News g L h' news → h'.get? e = some oe → ExcIs C oe → s.heap.get? e = none → (∀ b o, s.heap.get? b = some o → h'.get? b = some o) → Q (.ref e) { s with heap := h', toks := tk }) :
    wpAny (model PySem.Challenge.rw_sa0618_01.row.prog w) (Ar dp un fr gd) (call (.ref C) rest) Q E s := by
  obtain ⟨⟨nm, q, N', bs, bm, hdct, sn, sub, ab, col, dd, k0, k1, k2, k3, k5, ho, hm⟩, hs, hcl⟩ := id hC
  obtain ⟨h, ge, dr, tk, os⟩ := s
  refine xc_call hm (X.keeps F.keep) (X _ _ ho |> F.keep _ _) hi hf (fun h' e hm' => ?_) hr
  obtain ⟨kk, en, t, et, tn, htt⟩ := hm'
  refine hI _ _ e t h' _ ((X.keeps F.keep).keeps kk) kk et en fun h'' tk' k2 ⟨oe, e1, e2⟩ => ?_
  have hk : ∀ b o, h.get? b = some o → h''.get? b = some o := fun b o hb => k2.2 b o (fun z => by rw [List.mem_singleton.mp z] at hb; rw [hb] at en; cases en) (kk b o hb)
  exact ⟨rfl, hQ h'' tk' e oe (F.keeps hk) (fun p hp => ⟨hk _ _ (N p hp).1, (N p hp).2⟩) e1 e2 en hk⟩
theorem trap_new_K {w : World} {mean : ExcName → Option Value} {mg mb : Str → Option Value} {g : Heap} {L : Addr} {m : Str → Option Value} {news : List (Addr × Obj)} {dp un : Nat} {fr : Option (List Env)} {gd : Option (List Code)} {s : Shared} {v a : Value} {Q E : Value → Shared → Prop}
    (F : Fr g L s.heap m) (N : News g L s.heap news) (X : (Mine.hd.heap_1 w.params).In g) (T : Top topProg (looseW Mine.view [Str.ofString "ROUND"] ++ List.map (fun x => x.name) (recsOf Mine.view) ++ List.map (fun x => x.fst) (litsOf Mine.view) ++ List.map (fun x => x.name) (clssOf Mine.view (looseW Mine.view [Str.ofString "ROUND"]))) mean mg mb g) (hroom : dp < 790) (hC : ExcCls (Mine.hd.heap_1 w.params) 58) (hi : findIn (Mine.hd.heap_1 w.params) (.ref 58) "__init__" = some (some (.ref 55))) (hf : typeIn (Mine.hd.heap_1 w.params) (.ref 55) = some (.type "function"))
    (hQ : ∀ h' tk e oe, Fr g L h' m → News g L h' news → h'.get? e = some oe → ExcIs 58 oe → s.heap.get? e = none → (∀ b o, s.heap.get? b = some o → h'.get? b = some o) → Q (.ref e) { s with heap := h', toks := tk }) :
    wpAny (model PySem.Challenge.rw_sa0618_01.row.prog w) (Ar dp un fr gd) (call (.ref 58) [v, a]) Q E s := by
  refine exc_new_K F N X hC hi hf (by show 2 ≤ sizeLine; rw [sizeLine_eq]; omega) (fun un' gd' e tp h' Q' X' kk he hn hq => ?_) hQ
  exact trapInit_spec (h₀ := g) (by omega) ⟨X, T⟩ (fun b o hb => kk _ _ (F.keep _ _ hb)) he (none_of_keep F.keep hn) hC hq
theorem nottold_new_K {w : World} {mean : ExcName → Option Value} {mg mb : Str → Option Value} {g : Heap} {L : Addr} {m : Str → Option Value} {news : List (Addr × Obj)} {dp un : Nat} {fr : Option (List Env)} {gd : Option (List Code)} {s : Shared} {v : Value} {Q E : Value → Shared → Prop}
    (F : Fr g L s.heap m) (N : News g L s.heap news) (X : (Mine.hd.heap_1 w.params).In g) (T : Top topProg (looseW Mine.view [Str.ofString "ROUND"] ++ List.map (fun x => x.name) (recsOf Mine.view) ++ List.map (fun x => x.fst) (litsOf Mine.view) ++ List.map (fun x => x.name) (clssOf Mine.view (looseW Mine.view [Str.ofString "ROUND"]))) mean mg mb g) (hroom : dp < 790) (hC : ExcCls (Mine.hd.heap_1 w.params) 70) (ht : takerIn (Mine.hd.heap_1 w.params) 70 "word" = some none) (hi : findIn (Mine.hd.heap_1 w.params) (.ref 70) "__init__" = some (some (.ref 35))) (hf : typeIn (Mine.hd.heap_1 w.params) (.ref 35) = some (.type "function"))
    (hQ : ∀ h' tk e oe, Fr g L h' m → News g L h' news → h'.get? e = some oe → ExcIs 70 oe → s.heap.get? e = none → (∀ b o, s.heap.get? b = some o → h'.get? b = some o) → Q (.ref e) { s with heap := h', toks := tk }) :
    wpAny (model PySem.Challenge.rw_sa0618_01.row.prog w) (Ar dp un fr gd) (call (.ref 70) [v]) Q E s := by
  refine exc_new_K F N X hC hi hf (by show 1 ≤ sizeLine; rw [sizeLine_eq]; omega) (fun un' gd' e tp h' Q' X' kk he hn hq => ?_) hQ
  exact dfInit_spec (h₀ := g) (by omega) ⟨X, T⟩ (fun b o hb => kk _ _ (F.keep _ _ hb)) he (none_of_keep F.keep hn) hC ht fun h'' tk k ⟨oe, e1, e2, _⟩ _ => hq h'' tk k ⟨oe, e1, e2⟩
end Mine
end
end
namespace Mine
section
variable {w : World} {A : Around} {s : Shared} {R : Result → Shared → Prop} {name qual : Str} {params : Arguments} {body : List Stmt} {scope : Scope} {clo : List (Str × Addr)} {dV kV doc pm cdv ct : Value} {an : Option Addr} {f : Addr} {fo : Obj} {args : Args} {xa xs : Str} {va vs : Value}
theorem enter_reader (ho : s.heap.get? f = some fo) (hd : fo.data = .func (fnX name qual params body scope clo dV kV doc pm an cdv ct)) (hcd : s.heap.CodeRec cdv qual) (hlim : s.heap.NoLimit) (hroom : A.depth < recursionLimit)
    (hbind : BindsTo s (fnX name qual params body scope clo dV kV doc pm an cdv ct) args [(xa, va), (xs, vs)])
    (hka : scope.names.lookup xa = some .cell) (hks : scope.names.lookup xs = some .local)
    (hcs : ∀ n, cellsFrom n scope.names clo = (xa, n) :: clo) (hpc : ∀ h, pushCells h scope.names = h.push { cls := .type "cell", data := .cell none })
    (h : ∀ L h₁ oc tk, L = s.heap.objs.size → Fr s.heap L h₁ (fun y => List.lookup y [(xs, vs)]) → News s.heap L h₁ [(L + 1, oc)] → oc.data = .cell (some va) →
      wpAny (model PySem.Challenge.rw_sa0618_01.row.prog w) (A.deeper (envX qual scope L f cdv ((xa, L + 1) :: clo))) (execs body (envX qual scope L f cdv ((xa, L + 1) :: clo)))
        (fun fl s' => R (.ok (.ret (match fl with | .ret v => v | _ => .none))) s')
        (fun e s' => wpAny (model PySem.Challenge.rw_sa0618_01.row.prog w) (A.deeper (envX qual scope L f cdv ((xa, L + 1) :: clo))) (leaving (envX qual scope L f cdv ((xa, L + 1) :: clo)) e) (fun _ s'' => R (.error e) s'') (fun e' s'' => R (.error e') s'') s')
        { s with heap := h₁, toks := tk })
    (hco : scope.isCoroutine = false) (hgen : scope.isGenerator = false) (hk : scope.kind = .function) : codeAny (model PySem.Challenge.rw_sa0618_01.row.prog w) A (.call (.ref f) args) R s := by
  refine codeAny_call_function hroom ho hd hco hgen rfl hcd (hbind _ _ _ _ ?_)
  simp only [newFunctionEnv, Option.isSome_none, Bool.false_eq_true, if_false]
  refine wpAny_bind (wpAny_alloc ?_)
  refine wpAny_bind (wpAny_layCells _ (fun name kind cells => by cases hkc : kind == NameKind.cell <;> simp) _ _ _ _ ?_)
  rw [show ({ s with heap := s.heap.push { cls := .type "frame", data := .dict #[] } } : Shared).heap.objs.size = s.heap.objs.size + 1 from Heap.size_push .., hcs, hpc]
  obtain ⟨hp, ge, dr, tk, os⟩ := s
  dsimp only at ho hcd hlim h ⊢
  have ns0 : ((hp.push { cls := .type "frame", data := .dict #[] }).push { cls := .type "cell", data := .cell none }).Ns hp.objs.size (fun _ => none) :=
    (Heap.Ns.new hp (.type "frame")).keeps fun b o e => Heap.get?_push_of_some _ e
  have cl0 : ((hp.push { cls := .type "frame", data := .dict #[] }).push { cls := .type "cell", data := .cell none }).IsCell (hp.objs.size + 1) none :=
    ⟨_, Heap.get?_push_at (by rw [Heap.size_push]) rfl, rfl⟩
  have kk : ∀ b o, hp.get? b = some o → ((hp.push { cls := .type "frame", data := .dict #[] }).push { cls := .type "cell", data := .cell none }).get? b = some o := fun b o e => Heap.get?_push_of_some _ (Heap.get?_push_of_some _ e)
  rw [List.forIn_cons]
  refine wpAny_bind (wpAny_bind (wpAny_bind (wpAny_storeName_cell (c := hp.objs.size + 1) hk hka (by simp [List.lookup]) cl0 fun h1 c1 s1 => ?_)))
  refine wpAny_pure ?_
  dsimp only
  rw [List.forIn_cons]
  have ns1 : h1.Ns hp.objs.size (fun _ => none) := ns0.sameBut s1 (Nat.ne_of_lt (Nat.lt_succ_self _))
  refine wpAny_bind (wpAny_bind (wpAny_storeName_local hks ns1 (fun h2 n2 s2 => ?_) ?_))
  · refine wpAny_pure ?_
    dsimp only
    rw [List.forIn_nil]
    refine wpAny_pure (wpAny_pure ?_)
    have k2 : ∀ b o, hp.get? b = some o → h2.get? b = some o := fun b o e =>
      (s2.2 b (Nat.ne_of_lt (Heap.lt_size e))).trans ((s1.2 b (Nat.ne_of_lt (Nat.lt_succ_of_lt (Heap.lt_size e)))).trans (kk b o e))
    obtain ⟨oc, hoc, hdc⟩ := c1
    refine ⟨hlim.keeps k2, codeAny_func ?_⟩
    refine h _ h2 oc _ rfl ⟨?_, k2, Nat.le_refl _⟩ (fun p hp' => ?_) hdc
    · obtain ⟨o, es, ep, e1, e2, e3, e4⟩ := n2
      refine ⟨o, es, ep, e1, e2, e3, fun y => ?_⟩
      rw [e4 y]
      by_cases q : y = xs
      · subst q; simp [List.lookup]
      · have q' : (y == xs) = false := by simpa using q
        simp [List.lookup, q, q']
    · rw [List.mem_singleton.mp hp']
      exact ⟨(s2.2 _ (Nat.ne_of_gt (Nat.lt_succ_self _))).trans hoc, Nat.ne_of_gt (Nat.lt_succ_self _), Heap.get?_none_of_le (Nat.le_succ _)⟩
  · show (scope.kind == .class || (scope.kind == .module && _)) = false
    rw [hk]; rfl
end
end Mine
namespace Mine
def OwnRaise (w : World) (E : Value → Shared → Prop) (v : Value) (s₁ : Shared) : Prop := ∃ e C oe, v = .ref e ∧ (Mine.hd.heap_1 w.params).In s₁.heap ∧ ExcCls (Mine.hd.heap_1 w.params) C ∧ s₁.heap.get? e = some oe ∧ ExcIs C oe ∧ E v s₁
section
variable {w : World} {A : Around} {s : Shared} {E : Value → Shared → Prop} {env : Env}
theorem wpAny_raiseNew_none' {M : Model} {v : Value} {Q : Flow → Shared → Prop} (hh : A.handled = none) (h : E v s) : wpAny M A (raiseNew v : Sem Flow) Q E s := wpAny_raiseNew_none hh h
theorem raise_K {ex : Expr} {pos : Pos} {Q : Flow → Shared → Prop} (hh : A.handled = none)
    (h : wpAny (model PySem.Challenge.rw_sa0618_01.row.prog w) A (eval ex env) (OwnRaise w E) E s) :
    wpAny (model PySem.Challenge.rw_sa0618_01.row.prog w) A (exec (.Raise (some ex) none pos) env) Q E s := by
  rw [arm_exec_Raise]
  refine wpAny_bind (wpAny_standAt ?_)
  simp only [evalOpt, Option.map]
  unfold raiseStmt
  refine wpAny_bind (wpAny_bind (wpAny_mono h (fun v s₁ h₁ => ?_) fun _ _ x => x))
  refine wpAny_bind (wpAny_standAt (wpAny_pure ?_))
  obtain ⟨e, C, oe, rfl, X, ⟨⟨nm, q, N', bs, bm, hdct, sn, sub, ab, col, dd, k0, k1, k2, k3, k5, ho, hm⟩, _, _⟩, he, ⟨hc, t, hd⟩, hE⟩ := h₁
  have hC := X _ _ ho
  have hcB := xc_has (C := C) (T := "BaseException") (by decide) hm
  obtain ⟨ocl, odi, oda, osl⟩ := oe
  dsimp only at hc hd
  subst hc hd
  obtain ⟨hp, g, d, tk, os⟩ := s₁
  dsimp only at he hC hE
  repeat (first | with_reducible refine wpAny_loadPart_at he ?_ | with_reducible refine wpAny_loadPart_at hC ?_ | (with_reducible refine wpAny_isSubtype_exc hC ?_; rw [hcB]) | wp_step)
  exact wpAny_raiseNew_none hh hE
end
end Mine
namespace Mine
section
variable {M : Model} {A : Around} {s : Shared} {E : Value → Shared → Prop} {g : Heap} {L c : Addr} {m : Str → Option Value} {v : Value} {x : Str} {pos : Pos} {env : Env} {Q : Value → Shared → Prop}
theorem IsCell.keeps' {h h' : Heap} {c : Addr} {v : Option Value} (x : h.IsCell c v) (k : ∀ b o, h.get? b = some o → h'.get? b = some o) : h'.IsCell c v := let ⟨o, e, r⟩ := x; ⟨o, k _ _ e, r⟩
theorem base_free (F : Fr g L s.heap m) (I : g.IsCell c (some v)) (hc : env.cells.lookup x = some c) (h : Q v s)
    (hk : env.scope.kind = .function) (hx : env.kindOf x = some .free) (hb : (x == ("__debug__" : Str)) = false) (hn : (x == ("__classdict__" : Str)) = false) : wpAny M A (eval (.Name x pos) env) Q E s :=
  wpAny_Name (wpAny_loadName_free hk hx hc (IsCell.keeps' I F.keep) h hn) hb
end
def rdParts (o : Option Obj) : Option (Str × Arguments × List Stmt × Scope) := match o with
  | some ⟨_, _, .func fd, _⟩ => match fd.body with
    | .stmts (_ :: _ :: _ :: _ :: .FunctionDef n a b _ _ _ sc _ _ _ :: _) => some (n, a, b, sc)
    | _ => none
  | _ => none
def ReaderAt (w : World) (h : Heap) (rx : Addr) (tI : Bool) (mem : Addr) : Prop := ∃ n a b sc qual doc pm an cdv ct oc od osl cI cM, rdParts ((Mine.hd.heap_1 w.params).lookup 234) = some (n, a, b, sc) ∧
  h.get? rx = some ⟨oc, od, .func (fnX n qual a b sc [(Str.ofString "memory", cM), (Str.ofString "is_trap", cI)] .none .none doc pm an cdv ct), osl⟩ ∧ h.CodeRec cdv qual ∧ h.IsCell cI (some (.bool tI)) ∧ h.IsCell cM (some (.ref mem))
end Mine
namespace Mine
def frs (l : List Env) : List Addr := l.filterMap (·.frame)
def Thrown (outer : List Env) (h h' : Heap) (e C : Addr) : Prop := (∃ a0, Heap.FlyingW (hideAll h (frs outer)) outer e (.ref C) a0 h') ∧ h.UpToSlots h' ∧ h.objs.size ≤ h'.objs.size
def FFr (h : Heap) (outer : List Env) : Prop := h.FunFrames (hideAll h (frs outer)) outer
section
variable {M : Model} {A : Around} {E : Value → Shared → Prop} {s' : Shared} {env : Env} {outer : List Env} {h : Heap} {L e C : Addr} {m : Str → Option Value} {oe : Obj} {Q : Unit → Shared → Prop}
theorem throw_first (hout : A.frames = some outer) (FF : FFr h outer) (eL : L = h.objs.size) (hL : ∃ o, s'.heap.get? L = some o ∧ ∀ vs, o.data ≠ .fields vs) (kk : ∀ b o, h.get? b = some o → s'.heap.get? b = some o) (hk : env.scope.kind ≠ .module) (hf : env.frame = some L) (he : s'.heap.get? e = some oe) (hx : ExcIs C oe) (hen : h.get? e = none)
    (hQ : ∀ h', Thrown outer h h' e C → Q () { s' with heap := h' }) : wpAny M (A.deeper env) (leaving env (.ref e)) Q E s' := by
  obtain ⟨hc, t, hd⟩ := hx
  have hL0 : h.get? L = none := Heap.get?_none_of_le (Nat.le_of_eq eL.symm)
  have hb : ∀ b o, (hideAll h (frs outer)).get? b = some o → s'.heap.get? b = some o := fun b o q => kk b o (of_hideAll _ q)
  have hn : ∀ {b}, h.get? b = none → (hideAll h (frs outer)).get? b = none := fun {b} q => by
    cases z : (hideAll h (frs outer)).get? b with
    | none => rfl
    | some o => rw [of_hideAll _ z] at q; cases q
  obtain ⟨oL, hoL, hnf⟩ := hL
  refine wpAny_leaving_firstW (base := hideAll h (frs outer)) (outer := outer) (a0 := .ref t) (Around.frames_deeper hout) ⟨hk, ⟨L, oL, hf, hn hL0, hoL, hnf⟩, Heap.FunFrames.of_keeps (fun b o q _ => ⟨o, kk b o q, rfl⟩) FF⟩ hf he hb (hn hen) hd rfl rfl fun h' hl => ?_
  obtain ⟨k1, ⟨_, _, k2⟩, k3, k4⟩ := hl
  rw [hc] at k3
  refine hQ h' ⟨⟨_, k1, hn hen, k2, k3⟩, fun b o q nf => k4 b o (kk b o q) nf, ?_⟩
  obtain ⟨sl, z⟩ := k4 L oL hoL hnf
  exact eL ▸ Nat.le_of_lt (Heap.lt_size z)
end
end Mine
section
local macro_rules | `(tactic| walk_at "exec Raise some none") => `(tactic| k_dflt (refine' Mine.raise_K rfl ?_))
local macro_rules | `(tactic| walk_at "call ref") => `(tactic| ((with_reducible show wpAny _ _ (call (Value.ref 58) _) _ _ _); k_dflt (refine' Mine.trap_new_K ?F ?N ?X ?T ?hr ?hC ?hi ?hf ?_; (case F | N | X | T => k_asm); (case hr => walk_at "mine room"); (case hC => k_asm); (case hi | hf => k_is); k_whole; intro h' tk e oe F' N' he' x' n' k')))
local macro_rules | `(tactic| walk_at "call ref") => `(tactic| ((with_reducible show wpAny _ _ (call (Value.ref 70) _) _ _ _); k_dflt (refine' Mine.nottold_new_K ?F ?N ?X ?T ?hr ?hC ?ht ?hi ?hf ?_; (case F | N | X | T => k_asm); (case hr => walk_at "mine room"); (case hC => k_asm); (case ht | hi | hf => k_is); k_whole; intro h' tk e oe F' N' he' x' n' k')))
local macro_rules | `(tactic| walk_at "eval Name") => `(tactic| k_dflt (refine' Mine.base_free ?F ?I ?c ?_ ?a ?b ?d ?f; (case a | b | c => rfl); (case d | f => decide); (case F | I => k_asm); k_whole))
local macro_rules | `(tactic| walk_at "mine pad") => `(tactic| skip)
namespace Mine
theorem rd_use {R : Prop} {w : World} {h : Heap} {rx : Addr} {tI : Bool} {mem : Addr} {oc : Value} {od : Option Addr} {nm q : Str} {ps : Arguments} {s0 s1 s2 s3 : Stmt} {rest : List Stmt} {sc0 : Scope} {d0 k0 doc0 pm0 : Value} {an0 : Option Addr} {cd0 ct0 : Value} {osl : Array (Option Value)}
    {n : Str} {a : Arguments} {b : List Stmt} {dl : List Expr} {rt : Option Expr} {tps sc tsc bind pos}
    (I : ReaderAt w h rx tI mem) (hL : (Mine.hd.heap_1 w.params).lookup 234 = some ⟨oc, od, .func (fnOf nm q ps (s0 :: s1 :: s2 :: s3 :: .FunctionDef n a b dl rt tps sc tsc bind pos :: rest) sc0 d0 k0 doc0 pm0 an0 cd0 ct0), osl⟩)
    (k : ∀ qual doc pm an cdv ct oc od osl cI cM, h.get? rx = some ⟨oc, od, .func (fnX n qual a b sc [(Str.ofString "memory", cM), (Str.ofString "is_trap", cI)] .none .none doc pm an cdv ct), osl⟩ → h.CodeRec cdv qual → h.IsCell cI (some (.bool tI)) → h.IsCell cM (some (.ref mem)) → R) : R := by
  obtain ⟨n', a', b', sc', qual, doc, pm, an, cdv, ct, oc', od', osl', cI, cM, e, e1, e2, e3, e4⟩ := I
  rw [hL] at e
  simp only [rdParts, Option.some.injEq, Prod.mk.injEq] at e
  obtain ⟨rfl, rfl, rfl, rfl⟩ := e
  exact k _ _ _ _ _ _ _ _ _ _ _ e1 e2 e3 e4

theorem oct_list (fm : Int → Option Int) (a : Int) : List.map (fun k' => (fm (a + k')).getD (-1)) (rangeKs 0 ((4:Int) - 0).toNat) = [(fm a).getD (-1), (fm (a + 1)).getD (-1), (fm (a + 2)).getD (-1), (fm (a + 3)).getD (-1)] := by
  have : rangeKs 0 ((4:Int) - 0).toNat = [0, 1, 2, 3] := by decide
  rw [this]
  simp
theorem oct_none {fm : Int → Option Int} {a : Int} (hf : ∀ k i, fm k = some i → 0 ≤ i ∧ i < 256) (h : ((List.map (fun k' => (fm (a + k')).getD (-1)) (rangeKs 0 ((4:Int) - 0).toNat)).any fun x => x == -1) = true) : ∃ k, 0 ≤ k ∧ k < 4 ∧ fm (a + k) = none := by
  rw [oct_list] at h
  have one : ∀ k, ((fm (a + k)).getD (-1) == -1) = true → fm (a + k) = none := fun k q => by
    cases e : fm (a + k) with
    | none => rfl
    | some i =>
      rw [e] at q
      have := hf _ _ e
      have := of_decide_eq_true (p := i = -1) (by simpa using q)
      omega
  have z := one 0
  rw [Int.add_zero] at z
  simp only [List.any_cons, List.any_nil, Bool.or_false, Bool.or_eq_true] at h
  rcases h with h | h | h | h
  · exact ⟨0, by omega, by omega, by rw [Int.add_zero]; exact z h⟩
  · exact ⟨1, by omega, by omega, one 1 h⟩
  · exact ⟨2, by omega, by omega, one 2 h⟩
  · exact ⟨3, by omega, by omega, one 3 h⟩
theorem oct_some {fm : Int → Option Int} {a : Int} (h : ((List.map (fun k' => (fm (a + k')).getD (-1)) (rangeKs 0 ((4:Int) - 0).toNat)).any fun x => x == -1) = false) : ∃ x0 x1 x2 x3, fm a = some x0 ∧ fm (a + 1) = some x1 ∧ fm (a + 2) = some x2 ∧ fm (a + 3) = some x3 ∧ List.map (fun k' => (fm (a + k')).getD (-1)) (rangeKs 0 ((4:Int) - 0).toNat) = [x0, x1, x2, x3] := by
  rw [oct_list] at h ⊢
  simp only [List.any_cons, List.any_nil, Bool.or_false, Bool.or_eq_false_iff] at h
  obtain ⟨h0, h1, h2, h3⟩ := h
  have one : ∀ k, ((fm k).getD (-1) == -1) = false → ∃ x, fm k = some x := fun k q => by
    cases e : fm k with
    | none => rw [e] at q; simp at q
    | some i => exact ⟨i, rfl⟩
  obtain ⟨x0, e0⟩ := one _ h0
  obtain ⟨x1, e1⟩ := one _ h1
  obtain ⟨x2, e2⟩ := one _ h2
  obtain ⟨x3, e3⟩ := one _ h3
  exact ⟨x0, x1, x2, x3, e0, e1, e2, e3, by rw [e0, e1, e2, e3]; rfl⟩
set_option maxHeartbeats 8000000 in
theorem reader_spec {w : World} {mean : ExcName → Option Value} {mg mb : Str → Option Value} {h₀ : Heap} {dp un : Nat} {outer : List Env} {gd : Option (List Code)} {s : Shared} {rx mem : Addr} {tI : Bool} {fm : Int → Option Int} {B : Nat} {a : Int} {ta t4 : Tok} {Q E : Value → Shared → Prop}
    (hroom : dp < 780) (G : Wd w mean mg mb h₀) (O : h₀.StaysIn s.heap) (IR : ReaderAt w s.heap rx tI mem) (IM : IDict w s.heap mem fm B) (hf : ∀ k i, fm k = some i → 0 ≤ i ∧ i < 256)
    (FF : FFr s.heap outer)
    (hQ : ∀ h' b t tk, Keeps [] s.heap h' → (∃ x0 x1 x2 x3, fm a = some x0 ∧ fm (a + 1) = some x1 ∧ fm (a + 2) = some x2 ∧ fm (a + 3) = some x3 ∧ KBw.bInts b = [x0, x1, x2, x3]) → Q (.bytes b t) { s with heap := h', toks := tk })
    (hE : ∀ h' e C tk, (C = 58 ∨ C = 70) → (∃ k, 0 ≤ k ∧ k < 4 ∧ fm (a + k) = none) → Thrown outer s.heap h' e C → E (.ref e) { s with heap := h', toks := tk }) :
    wpAny (model PySem.Challenge.rw_sa0618_01.row.prog w) (Ar dp un (some outer) gd) (call (.ref rx) [.int a ta, .int 4 t4]) Q E s := by
  have hK : ∃ k, k = (Mine.hd.heap_1 w.params) := ⟨_, rfl⟩
  revert hK
  k_fill
  w_top off
  intro hK
  have X0 := G.X
  have hC58 : ExcCls (Mine.hd.heap_1 w.params) 58 := ⟨⟨_, _, _, _, _, _, _, _, _, _, _, _, _, _, _, _, by k_is, rfl⟩, by k_is, ⟨_, by k_is, rfl, rfl⟩⟩
  have hC70 : ExcCls (Mine.hd.heap_1 w.params) 70 := ⟨⟨_, _, _, _, _, _, _, _, _, _, _, _, _, _, _, _, by k_is, rfl⟩, by k_is, ⟨_, by k_is, rfl, rfl⟩⟩
  refine' rd_use IR ?hL ?_
  (case hL => k_is)
  intro qual doc pm an cdv ct oc od osl cI cM ho hcd iI iM
  refine wpAny_call ?_
  refine' enter_reader (xa := Str.ofString "address") (xs := Str.ofString "size") ho rfl hcd (G.T.nolimit.keeps O) ?k8 ?k9 ?ka ?kb ?kc ?kd ?_ rfl rfl rfl
  (case k8 => k_room)
  (case k9 => exact BindsTo.of_eq rfl)
  (case ka => rfl)
  (case kb => rfl)
  (case kc => intro n; rfl)
  (case kd => intro h; rfl)
  intro L h₁ oc' tk eL F N hoc
  have X : (Mine.hd.heap_1 w.params).In s.heap := G.X.keeps O
  have T := (G.keeps O).T
  (show wpAny _ _ _ _ _ _)
  k_fold
  k_steps
  all_goals
    (with_reducible rename Fr _ _ _ _ => F9)
    first
    | (unfold OwnRaise
       (with_reducible rename ExcIs _ _ => x9)
       (rename Heap.get? _ _ = none => n9)
       (rename Heap.get? _ _ = some _ => e9)
       (rename (List.any _ _) = true => y9)
       refine ⟨_, _, _, rfl, X.keeps F9.keep, by k_asm, e9, x9, ?_⟩
       have n8 := none_of_keep (g := s.heap) (Fr.keep (h₀ := s.heap) (L := L) (by assumption)) n9
       refine throw_first (outer := outer) (h := s.heap) (L := L) rfl FF eL ?_ F9.keep (by simp) rfl e9 x9 n8 fun h9 t9 => ?_
       · obtain ⟨o, es, ep, q1, q2, _⟩ := F9.ns
         exact ⟨o, q1, fun vs q => by rw [q2] at q; cases q⟩
       · exact hE h9 _ _ _ (by first | exact .inl rfl | exact .inr rfl) (oct_none hf y9) t9)
    | ((with_reducible rename News _ _ _ _ => N9)
       (rename (List.any _ _) = false => y9)
       (with_reducible rename IntsAre _ _ => i9)
       obtain ⟨x0, x1, x2, x3, q0, q1, q2, q3, el⟩ := oct_some y9
       have hin : KBa.In (List.map (fun k' => (fm (a + k')).getD (-1)) (rangeKs 0 ((4:Int) - 0).toNat)) := by
         rw [el]
         intro n hn
         simp only [List.mem_cons, List.not_mem_nil, or_false] at hn
         rcases hn with rfl | rfl | rfl | rfl
         · exact hf _ _ q0
         · exact hf _ _ q1
         · exact hf _ _ q2
         · exact hf _ _ q3
       refine KBa.make_K F9 N9 rfl (by assumption) i9 hin (by rw [el]; show 4 ≤ 16777216; omega) fun h9 t9 k9 F8 N8 _ => ?_
       have hb := KBa.ints_make hin
       refine hQ h9 _ _ _ ?_ ⟨x0, x1, x2, x3, q0, q1, q2, q3, hb.trans el⟩
       have k8 := keeps_of_fr (s := s.heap) (as := []) F8
       exact k8)
end Mine
namespace Mine
theorem ReaderAt.keeps {w : World} {h h' : Heap} {rx : Addr} {tI : Bool} {mem : Addr} (x : ReaderAt w h rx tI mem) (k : ∀ b o, h.get? b = some o → h'.get? b = some o) : ReaderAt w h' rx tI mem := by
  obtain ⟨n', a', b', sc', qual, doc, pm, an, cdv, ct, oc', od', osl', cI, cM, e, e1, e2, e3, e4⟩ := x
  exact ⟨n', a', b', sc', qual, doc, pm, an, cdv, ct, oc', od', osl', cI, cM, e, k _ _ e1, e2.keeps k, IsCell.keeps' e3 k, IsCell.keeps' e4 k⟩
theorem ReaderAt.fn {w : World} {h : Heap} {rx : Addr} {tI : Bool} {mem : Addr} (x : ReaderAt w h rx tI mem) : FnAt rx h := by
  obtain ⟨n', a', b', sc', qual, doc, pm, an, cdv, ct, oc', od', osl', cI, cM, e, e1, e2, e3, e4⟩ := x
  exact ⟨_, _, _, _, e1⟩
def KeepsF (outer : List Env) (S : List Addr) (h h' : Heap) : Prop := ∀ b o, b ∉ S → h.get? b = some o → ∃ sl, h'.get? b = some { o with slots := sl } ∧ (b ∉ frs outer → sl = o.slots)
theorem KeepsF.of_keeps {outer : List Env} {S : List Addr} {h h' : Heap} (k : Keeps S h h') : KeepsF outer S h h' := fun b o n e => ⟨o.slots, k.2 b o n e, fun _ => rfl⟩
theorem KeepsF.get {outer : List Env} {S : List Addr} {h h' : Heap} (k : KeepsF outer S h h') {b : Addr} {o : Obj} (n : b ∉ S) (n' : b ∉ frs outer) (e : h.get? b = some o) : h'.get? b = some o := by
  obtain ⟨sl, e', q⟩ := k b o n e
  rw [q n'] at e'
  exact e'
theorem KeepsF.ns {outer : List Env} {S : List Addr} {h h' : Heap} (k : KeepsF outer S h h') {a : Addr} {m : Str → Option Value} (n : a ∉ S) (x : h.Ns a m) : h'.Ns a m := by
  obtain ⟨o, es, ep, ho, hd, r⟩ := x
  obtain ⟨sl, hs, _⟩ := k a o n ho
  exact ⟨_, es, ep, hs, hd, r⟩
section
variable {M : Model} {w : World} {mean : ExcName → Option Value} {mg mb : Str → Option Value} {g : Heap} {L : Addr} {m : Str → Option Value} {news : List (Addr × Obj)} {dp un : Nat} {outer : List Env} {gd : Option (List Code)} {s : Shared} {rx mem : Addr} {tI : Bool} {fm : Int → Option Int} {B : Nat} {a : Int} {ta t4 : Tok} {Q E : Value → Shared → Prop}
theorem reader_K (F : Fr g L s.heap m) (N : News g L s.heap news) (X : (Mine.hd.heap_1 w.params).In g) (T : Top topProg (looseW Mine.view [Str.ofString "ROUND"] ++ List.map (fun x => x.name) (recsOf Mine.view) ++ List.map (fun x => x.fst) (litsOf Mine.view) ++ List.map (fun x => x.name) (clssOf Mine.view (looseW Mine.view [Str.ofString "ROUND"]))) mean mg mb g) (IR : ReaderAt w g rx tI mem) (IM : IDict w g mem fm B) (hf : ∀ k i, fm k = some i → 0 ≤ i ∧ i < 256) (FF : FFr s.heap outer) (hroom : dp < 780)
    (hQ : ∀ h' b t tk, Fr g L h' m → News g L h' news → (∃ x0 x1 x2 x3, fm a = some x0 ∧ fm (a + 1) = some x1 ∧ fm (a + 2) = some x2 ∧ fm (a + 3) = some x3 ∧ KBw.bInts b = [x0, x1, x2, x3]) → Q (.bytes b t) { s with heap := h', toks := tk })
    (hE : ∀ h' e C tk, (C = 58 ∨ C = 70) → (∃ k, 0 ≤ k ∧ k < 4 ∧ fm (a + k) = none) → Thrown outer s.heap h' e C → E (.ref e) { s with heap := h', toks := tk }) :
    wpAny (model PySem.Challenge.rw_sa0618_01.row.prog w) (Ar dp un (some outer) gd) (call (.ref rx) [.int a ta, .int 4 t4]) Q E s :=
  reader_spec hroom ⟨X, T⟩ F.keep (IR.keeps F.keep) (IM.keeps F.keep) hf FF (fun h' b t tk k e => hQ h' b t tk (fr_keeps F k (by simp) (by simp)) (news_keeps N k (by simp)) e) hE
theorem funFrames_re {h h' base base' : Heap} : ∀ {l : List Env}, h.FunFrames base l → (∀ b ∈ frs l, base'.get? b = none) → (∀ b o, b ∈ frs l → h.get? b = some o → (∀ vs, o.data ≠ .fields vs) → ∃ o', h'.get? b = some o' ∧ o'.data = o.data) → h'.FunFrames base' l
  | [], _, _, _ => trivial
  | env :: rest, ⟨hk, ⟨L, o, hf, hn, ho, hd⟩, hr⟩, hb, hh => by
    have hm : L ∈ frs (env :: rest) := List.mem_filterMap.mpr ⟨env, .head _, hf⟩
    obtain ⟨o', ho', hd'⟩ := hh L o hm ho hd
    have sub : ∀ b ∈ frs rest, b ∈ frs (env :: rest) := fun b q => by
      obtain ⟨e', q1, q2⟩ := List.mem_filterMap.mp q
      exact List.mem_filterMap.mpr ⟨e', .tail _ q1, q2⟩
    exact ⟨hk, ⟨L, o', hf, hb L hm, ho', fun vs => hd' ▸ hd vs⟩, funFrames_re hr (fun b q => hb b (sub b q)) fun b o q => hh b o (sub b q)⟩
theorem ffr_push {h₀ h : Heap} {env : Env} (FF : FFr h₀ outer) (k : ∀ b o, b ∈ frs outer → h₀.get? b = some o → h.get? b = some o) (hk : env.scope.kind ≠ .module) (hf : env.frame = some L) (hn : h.Ns L m) : FFr h (env :: outer) := by
  obtain ⟨o, _, _, ho, hd, _⟩ := hn
  have hm : L ∈ frs (env :: outer) := List.mem_filterMap.mpr ⟨env, .head _, hf⟩
  refine ⟨hk, ⟨L, o, hf, hideAll_none _ hm, ho, fun vs q => by rw [hd] at q; cases q⟩, funFrames_re FF (fun b q => hideAll_none _ ?_) fun b o' q e _ => ⟨o', k b o' q e, rfl⟩⟩
  obtain ⟨e', q1, q2⟩ := List.mem_filterMap.mp q
  exact List.mem_filterMap.mpr ⟨e', .tail _ q1, q2⟩
def FFor (g : Heap) (outer : List Env) : Prop := ∀ (env : Env) (L : Addr) (h : Heap) (m : Str → Option Value), Fr g L h m → env.scope.kind ≠ .module → env.frame = some L → FFr h (env :: outer)
theorem FFor.use {env : Env} {h : Heap} (x : FFor g outer) (F : Fr g L h m) (hk : env.scope.kind ≠ .module) (hf : env.frame = some L) : FFr h (env :: outer) := x env L h m F hk hf
theorem ffor_of {h₀ : Heap} (FF : FFr h₀ outer) (k : ∀ b o, b ∈ frs outer → h₀.get? b = some o → g.get? b = some o) : FFor g outer := fun env L h m F hk hf => ffr_push FF (fun b o q e => F.keep _ _ (k b o q e)) hk hf F.ns
end
end Mine
namespace Mine
section
variable {M : Model} {A : Around} {E : Value → Shared → Prop} {h : Heap} {g : Array GenState} {d : Drawn} {t : Nat} {os : OsState} {e tup C C1 C2 : Addr} {oe : Obj} {n : Nat} {b1 b2 : Bool} {K : Frag} {Q : Bool → Shared → Prop}
theorem exc_match2 (X : K.In h) (x1 : ExcCls K C1) (x2 : ExcCls K C2) (S1 : Looks M h (isSubtype (.ref C) (.ref C1)) b1) (S2 : Looks M h (isSubtype (.ref C) (.ref C2)) b2) (hb : (b1 || b2) = true) (he : h.get? e = some oe) (hcls : oe.cls = .ref C)
    (ht : h.get? tup = some { cls := .type "tuple", data := .seq #[.ref C1, .ref C2] n }) (hq : Q true ⟨h, g, d, t, os⟩) : wpAny M A (excMatches (.ref e) (.ref tup)) Q E ⟨h, g, d, t, os⟩ := by
  obtain ⟨⟨nm, q, N', bs, bm, hdct, sn, sub, ab, col, dd, k0, k1, k2, k3, k5, ho, hm⟩, _, _⟩ := x1
  obtain ⟨⟨nm', q', N'', bs', bm', hdct', sn', sub', ab', col', dd', k0', k1', k2', k3', k5', ho', hm'⟩, _, _⟩ := x2
  have hC1 := X _ _ ho
  have hC2 := X _ _ ho'
  have hb1 := xc_has (C := C1) (T := "BaseException") (by decide) hm
  have hb2 := xc_has (C := C2) (T := "BaseException") (by decide) hm'
  unfold excMatches
  refine wpAny_bind (wpAny_isInstance ⟨_, ht, rfl⟩ isSubtype_tuple_tuple ?_)
  dsimp only
  rw [if_pos rfl]
  refine wpAny_bind (wpAny_seqItems ht rfl ?_)
  dsimp only [Option.getD_some, Option.getD]
  repeat (first | with_reducible refine wpAny_loadPart_at hC1 ?_ | with_reducible refine wpAny_loadPart_at hC2 ?_ | (with_reducible refine wpAny_isSubtype_exc hC1 ?_; rw [hb1]) | (with_reducible refine wpAny_isSubtype_exc hC2 ?_; rw [hb2]) | (with_reducible refine wpAny_loadPart_at he ?_; rw [hcls]) | wp_step)
  refine S1.here (s := ⟨h, g, d, t, os⟩) ?_
  cases b1 with
  | true => repeat (first | exact hq | wp_step)
  | false =>
    obtain rfl : b2 = true := by simpa using hb
    repeat (first | exact hq | with_reducible refine S2.here (s := ⟨h, g, d, t, os⟩) ?_ | wp_step)
end
section
variable {w : World} {A₀ : Around} {s' : Shared} {h₀ h₁ : Heap} {outer : List Env} {L e C : Addr} {m : Str → Option Value} {nm : Str} {scope : Scope} {cd : Value} {f : Addr} {p1 p2 pos tp rp hp : Pos} {tk0} {Q : Flow → Shared → Prop} {mean : ExcName → Option Value} {mg mb : Str → Option Value}
theorem catch_two (hC : C = 58 ∨ C = 70) (x58 : ExcCls (Mine.hd.heap_1 w.params) 58) (x70 : ExcCls (Mine.hd.heap_1 w.params) 70) (s1 : subIn (Mine.hd.heap_1 w.params) (.ref 58) (.ref 70) = some false) (s2 : subIn (Mine.hd.heap_1 w.params) (.ref 58) (.ref 58) = some true) (s3 : subIn (Mine.hd.heap_1 w.params) (.ref 70) (.ref 70) = some true) (s4 : subIn (Mine.hd.heap_1 w.params) (.ref 70) (.ref 58) = some false)
    (hout : A₀.frames = some outer) (F : Fr h₀ L h₁ m) (X : (Mine.hd.heap_1 w.params).In h₀) (T : Top topProg (looseW Mine.view [Str.ofString "ROUND"] ++ List.map (fun x => x.name) (recsOf Mine.view) ++ List.map (fun x => x.fst) (litsOf Mine.view) ++ List.map (fun x => x.name) (clssOf Mine.view (looseW Mine.view [Str.ofString "ROUND"]))) mean mg mb h₀) (hn : ∀ b ∈ frs (envOf nm scope L f cd :: outer), h₀.get? b = none) (e1 : nsIn (Mine.hd.heap_1 w.params) mainGlobals "NotTold" = some (some (.ref 70))) (e2 : nsIn (Mine.hd.heap_1 w.params) mainGlobals "Trap" = some (some (.ref 58)))
    (FF1 : FFr h₁ (envOf nm scope L f cd :: outer)) (hT : Thrown (envOf nm scope L f cd :: outer) h₁ s'.heap e C)
    (hQ : ∀ h' , KeepsF (envOf nm scope L f cd :: outer) [] h₁ h' → Q (.ret .none) { s' with heap := h' })
    (hk : scope.kind = .function) (hx1 : (envOf nm scope L f cd).kindOf "NotTold" = some .globalImplicit) (hx2 : (envOf nm scope L f cd).kindOf "Trap" = some .globalImplicit) :
    wpAny (model PySem.Challenge.rw_sa0618_01.row.prog w) (A₀.deeper (envOf nm scope L f cd)) (noteFrame (.ref e) (envOf nm scope L f cd))
      (fun _ s₂ => wpAny (model PySem.Challenge.rw_sa0618_01.row.prog w) (A₀.deeper (envOf nm scope L f cd)) (setFlight (.ref e) none) (fun _ s₃ =>
        wpAny (model PySem.Challenge.rw_sa0618_01.row.prog w) (A₀.deeper (envOf nm scope L f cd)) (handleBy (.ref e) (envOf nm scope L f cd) [.ExceptHandler (some (.Tuple [.Name "NotTold" p1, .Name "Trap" p2] tk0 tp)) none [.Return none rp] hp]) Q (fun _ _ => False) s₃) (fun _ _ => False) s₂) (fun _ _ => False) s' := by
  obtain ⟨⟨a0, hfl⟩, hsm, hsz⟩ := hT
  have G0 : h₀.StaysIn (hideAll h₁ (frs (envOf nm scope L f cd :: outer))) := fun b o q => hideAll_get _ (F.keep b o q) fun z => by rw [hn b z] at q; cases q
  refine wpAny_looks_onW (Around.frames_deeper hout) rfl hfl fun h₄ hheld₄ hsm₄ => ?_
  refine wpAny_landsW hheld₄ fun h₅ hheld hsm₅ => ?_
  have sm5 := (hsm.trans hsm₄).trans hsm₅
  have F₅ : Fr h₀ L h₅ m := F.of_stays (fun b o q => hheld.1 b o (G0 b o q)) sm5
  obtain ⟨ob, hob, hobc⟩ := hheld.there
  refine wpAny_handleBy_cons (codeAny_handlers_test ?_) (by intro q; cases q)
  refine PyProof.Rows.Tuple_ ?_
  refine spliced_more (name_K F₅ X (topRead_of T) e1 ?_ hk hx1 (by decide)) (by rfl)
  refine spliced_more (name_K F₅ X (topRead_of T) e2 ?_ hk hx2 (by decide)) (by rfl)
  refine spliced_none ?_
  refine wpAny_newObj_type ?_ (by show 2 ≤ sizeLine; rw [sizeLine_eq]; omega)
  have X₅ : (Mine.hd.heap_1 w.params).In h₅ := X.keeps F₅.keep
  have kp : ∀ b o, h₅.get? b = some o → (h₅.push { cls := .type "tuple", dict := none, data := .seq [Value.ref 70, .ref 58].toArray }).get? b = some o := fun b o q => Heap.get?_push_of_some _ q
  refine exc_match2 (C := C) (oe := ob) (n := 0) (K := (Mine.hd.heap_1 w.params)) (C1 := 70) (C2 := 58) (b1 := C == 70) (b2 := C == 58) (X₅.keeps kp) x70 x58 ?_ ?_ ?_ (kp _ _ hob) hobc (Heap.get?_push_at rfl rfl) ?_
  · rcases hC with rfl | rfl
    · exact looks_subIn (X₅.keeps kp) s1
    · exact looks_subIn (X₅.keeps kp) s3
  · rcases hC with rfl | rfl
    · exact looks_subIn (X₅.keeps kp) s2
    · exact looks_subIn (X₅.keeps kp) s4
  · rcases hC with rfl | rfl <;> rfl
  refine codeAny_handlers_suite ?_
  have hheld' : Heap.FlyingW (hideAll h₁ (frs (envOf nm scope L f cd :: outer))) (envOf nm scope L f cd :: outer) e (.ref C) a0 (h₅.push { cls := .type "tuple", dict := none, data := .seq [Value.ref 70, .ref 58].toArray }) := by
    obtain ⟨k1, k2, k3, oe, vs, T', oT, ts, q1, q2, q3, q4, q5, q6, q7, q8, q9⟩ := hheld
    exact ⟨fun b o q => kp _ _ (k1 b o q), k2, k3.of_keeps fun b o q _ => ⟨o, kp _ _ q, rfl⟩, oe, vs, T', oT, ts, kp _ _ q1, q2, q3, q4, q5, q6, kp _ _ q7, q8, q9⟩
  refine lands_againW hheld' fun h₆ hfl₆ hsm₆ => ?_
  have sm6 := (sm5.trans (Heap.UpToSlots.of_keeps kp)).trans hsm₆
  refine wpAny_execs_cons (wpAny_Return_none ?_)
  refine hQ h₆ fun b o _ hb => ?_
  by_cases hm : b ∈ frs (envOf nm scope L f cd :: outer)
  · obtain ⟨_, o', ho', hnf⟩ := FF1.mem hm
    obtain rfl : o = o' := Option.some.inj (hb.symm.trans ho')
    obtain ⟨sl, hs⟩ := sm6 b o hb hnf
    exact ⟨sl, hs, fun q => absurd hm q⟩
  · exact ⟨o.slots, hfl₆.1 b o (hideAll_get _ hb hm), fun _ => rfl⟩
end
end Mine
section
local macro_rules | `(tactic| walk_at "call ref") => `(tactic| ((with_reducible show wpAny _ _ (call (Value.ref _) [Value.int _ _, Value.int _ _]) _ _ _); k_dflt (refine' Mine.reader_K ?F ?N ?X ?T ?IR ?IM ?hf ?FF ?hr ?_ ?_; (case IR | F | N | X | T | IM | hf => k_asm); (case FF => exact Mine.FFor.use (by with_reducible assumption) (by k_asm) (by intro q; cases q) rfl); (case hr => walk_at "mine room"); intro h' b t tk F' N' hb; obtain ⟨x0, x1, x2, x3, q0, q1, q2, q3, hb⟩ := hb; k_whole; rotate_left; intro h' e C tk hC hk hT; dsimp only at hT; refine Mine.Stop.of ?_; rotate_left)))
local macro_rules | `(tactic| walk_at "callWith ref") => `(tactic| k_dflt (refine' callWith_F ?X ?_; (case X => exact Mine.ReaderAt.fn (Mine.ReaderAt.keeps (by with_reducible assumption) (Fr.keep (by k_asm))))))
local macro_rules | `(tactic| walk_at "FnAt") => `(tactic| k_dflt (exact Mine.ReaderAt.fn (Mine.ReaderAt.keeps (by with_reducible assumption) (Fr.keep (by k_asm)))))
namespace Mine
theorem IDictO.data {w : World} {o : Obj} {f : Int → Option Int} {B : Nat} (x : IDictO w o f B) : ∃ es ep, o.data = .dict es ep := by
  obtain ⟨kvs, h, _⟩ := x
  obtain ⟨es, ep, _, hd, _⟩ := h
  exact ⟨_, _, hd⟩
theorem ReaderAt.keepsD {w : World} {h h' : Heap} {rx : Addr} {tI : Bool} {mem : Addr} (x : ReaderAt w h rx tI mem) (k : ∀ b o, h.get? b = some o → (∀ es ep, o.data ≠ .dict es ep) → h'.get? b = some o) : ReaderAt w h' rx tI mem := by
  obtain ⟨n', a', b', sc', qual, doc, pm, an, cdv, ct, oc', od', osl', cI, cM, e, e1, e2, e3, e4⟩ := x
  obtain ⟨o3, q3, d3⟩ := e3
  obtain ⟨o4, q4, d4⟩ := e4
  obtain ⟨c, oc, vs, t, rfl, q2, d2, v2⟩ := e2
  exact ⟨n', a', b', sc', qual, doc, pm, an, _, ct, oc', od', osl', cI, cM, e, k _ _ e1 (fun _ _ q => by cases q), ⟨c, oc, vs, t, rfl, k _ _ q2 (fun _ _ q => by rw [d2] at q; cases q), d2, v2⟩,
    ⟨o3, k _ _ q3 (fun _ _ q => by rw [d3] at q; cases q), d3⟩, ⟨o4, k _ _ q4 (fun _ _ q => by rw [d4] at q; cases q), d4⟩⟩
theorem fr_hide {g h : Heap} {L : Addr} {m : Str → Option Value} {as : List Addr} (F : Fr g L h m) : Fr (hideAll g as) L h m :=
  ⟨F.ns, fun b o e => F.keep b o (of_hideAll _ e), Nat.le_trans (Nat.le_of_eq (hideAll_size _ _)) F.above⟩
theorem frs_cons {env : Env} {outer : List Env} {b : Addr} (h : b ∈ frs (env :: outer)) : env.frame = some b ∨ b ∈ frs outer := by
  obtain ⟨e', q1, q2⟩ := List.mem_filterMap.mp h
  rcases List.mem_cons.mp q1 with rfl | q1
  · exact .inl q2
  · exact .inr (List.mem_filterMap.mpr ⟨e', q1, q2⟩)
theorem frs_off {env : Env} {outer : List Env} {b L : Addr} (hf : env.frame = some L) (n1 : b ≠ L) (n2 : b ∉ frs outer) : b ∉ frs (env :: outer) := fun h => by
  rcases frs_cons h with q | q
  · exact n1 (Option.some.inj (hf.symm.trans q)).symm
  · exact n2 q
def fetchBy (fm : Int → Option Int) (a : Int) : Option (Int × Option Int) := if wordOf fm a < 0 then none else some (wordOf fm a, some a)
theorem fetch_off {fm : Int → Option Int} {a : Int} (h : ∃ k, 0 ≤ k ∧ k < 4 ∧ fm (a + k) = none) : fetchBy fm a = none := by
  obtain ⟨k, h0, h1, h2⟩ := h
  have : wordOf fm a = -1 := by
    have : k = 0 ∨ k = 1 ∨ k = 2 ∨ k = 3 := by omega
    rcases this with rfl | rfl | rfl | rfl
    · exact word_off (.inl (by rw [Int.add_zero] at h2; exact h2))
    · exact word_off (.inr (.inl h2))
    · exact word_off (.inr (.inr (.inl h2)))
    · exact word_off (.inr (.inr (.inr h2)))
  unfold fetchBy
  rw [if_pos (by rw [this]; decide)]
theorem fetch_on {fm : Int → Option Int} {a x0 x1 x2 x3 v : Int} (hf : ∀ k i, fm k = some i → 0 ≤ i ∧ i < 256) (q0 : fm a = some x0) (q1 : fm (a + 1) = some x1) (q2 : fm (a + 2) = some x2) (q3 : fm (a + 3) = some x3) (hv : v = ((((0 * 256 + x3) * 256 + x2) * 256 + x1) * 256 + x0)) : fetchBy fm a = some (v, some a) := by
  have e : wordOf fm a = x0 + x1 * 256 + x2 * 65536 + x3 * 16777216 := by unfold wordOf; rw [q0, q1, q2, q3]
  have := hf _ _ q0
  have := hf _ _ q1
  have := hf _ _ q2
  have := hf _ _ q3
  have e2 : wordOf fm a = v := by omega
  unfold fetchBy
  rw [if_neg (by omega), e2]
set_option maxHeartbeats 8000000 in
theorem fetch_spec {w : World} {mean : ExcName → Option Value} {mg mb : Str → Option Value} {h₀ : Heap} {dp un : Nat} {outer : List Env} {gd : Option (List Code)} {s : Shared} {x dx fx rx rd sd mem : Addr} {t1 t2 t3 t4 tn ta : Tok} {or os : Obj} {fm R S : Int → Option Int} {tI : Bool} {B B3 B4 : Nat} {k a : Int} {Q E : Value → Shared → Prop}
    (hroom : dp < 770) (G : Wd w mean mg mb h₀) (O : h₀.StaysIn s.heap)
    (Ix : InstAt s.heap x (instObj 111 dx) 111 (some (callerD w fx rx rd sd t1 t2 t3 t4))) (IR : ReaderAt w s.heap rx tI mem) (IM : IDict w s.heap mem fm B) (hf : ∀ k i, fm k = some i → 0 ≤ i ∧ i < 256)
    (hr : s.heap.get? rd = some or) (hr0 : h₀.get? rd = none) (hs : s.heap.get? sd = some os) (hs0 : h₀.get? sd = none) (ir : IDictO w or R B3) (is : IDictO w os S B4) (b3 : B3 ≤ 900) (b4 : B4 ≤ 900)
    (hne : @Ne Nat rd sd) (FF : FFr s.heap outer) (hfo : ∀ b ∈ frs outer, h₀.get? b = none ∧ b ≠ rd ∧ b ≠ sd) (nr : ∀ b ∈ [x, dx, mem], b ∉ [rd, sd])
    (hQ : ∀ h' tk or' os', KeepsF outer [rd, sd] s.heap h' → h'.get? rd = some or' → h'.get? sd = some os' → IDictO w or' (putR R k (fetchBy fm a)) (B3 + 1) → IDictO w os' (putS S k (fetchBy fm a)) (B4 + 1) →
      Q .none { s with heap := h', toks := tk }) :
    wpAny (model PySem.Challenge.rw_sa0618_01.row.prog w) (Ar dp un (some outer) gd) (call (.ref 101) [.ref x, .int k tn, .int a ta]) Q E s := by
  have hK : ∃ k, k = (Mine.hd.heap_1 w.params) := ⟨_, rfl⟩
  revert hK
  k_fill
  w_top off
  intro hK
  refine wpAny_call ?_
  refine' enter_ret (binds := [(Str.ofString "self", .ref x), (Str.ofString "number", .int k tn), (Str.ofString "address", .int a ta)]) [(rd, or), (sd, os)] G O ?kN ?k6 ?k7 ?k8 ?k9 ?kB ?_ ?c5 ?c2 ?c3 ?c4
  walk_at "mine enter"
  (case kN =>
    intro p hp
    simp only [List.mem_cons, List.not_mem_nil, or_false] at hp
    rcases hp with rfl | rfl
    · exact ⟨hr, hr0⟩
    · exact ⟨hs, hs0⟩)
  intro g L h₁ eg eL F N l st X T
  have hg : ∀ b, b ∉ [rd, sd] → ∀ o, s.heap.get? b = some o → g.get? b = some o := fun b hb o e => by
    rw [eg]; exact hideAll_get _ e hb
  have Ixg := inst_of (hg x (nr x (by simp)) _ Ix.at_) (hg dx (nr dx (by simp)) _ Ix.dict)
  have IMg : IDict w g mem fm B := ⟨IM.1, IM.2.choose, hg mem (nr mem (by simp)) _ IM.2.choose_spec.1, IM.2.choose_spec.2⟩
  have IRg : ReaderAt w g rx tI mem := IR.keepsD fun b o e hn => hg b (fun z => by
    simp only [List.mem_cons, List.not_mem_nil, or_false] at z
    rcases z with rfl | rfl
    · rw [hr] at e; obtain ⟨es, ep, q⟩ := ir.data; exact hn es ep ((Option.some.inj e) ▸ q)
    · rw [hs] at e; obtain ⟨es, ep, q⟩ := is.data; exact hn es ep ((Option.some.inj e) ▸ q)) o e
  have FFg : FFor g outer := ffor_of FF fun b o hb e => hg b (not_mem2 (hfo b hb).2.1 (hfo b hb).2.2) o e
  clear Ix IR IM
  have hC58 : ExcCls (Mine.hd.heap_1 w.params) 58 := ⟨⟨_, _, _, _, _, _, _, _, _, _, _, _, _, _, _, _, by k_is, rfl⟩, by k_is, ⟨_, by k_is, rfl, rfl⟩⟩
  have hC70 : ExcCls (Mine.hd.heap_1 w.params) 70 := ⟨⟨_, _, _, _, _, _, _, _, _, _, _, _, _, _, _, _, by k_is, rfl⟩, by k_is, ⟨_, by k_is, rfl, rfl⟩⟩
  (show wpAny _ _ _ _ _ _)
  k_fold
  k_steps
  all_goals try
    (with_reducible rename Fr _ _ _ _ => F9)
    (with_reducible rename News _ _ _ _ => N9)
    have e9 := fetch_on (a := a) hf (by assumption) (by assumption) (by assumption) (by assumption) rfl
    rw [e9] at hQ
    subst eg
    exact hQ _ _ _ _ (.of_keeps (keeps_of_fr F9)) (N9.get (by k_mem)) (N9.get (by k_mem)) (by assumption) (by assumption)
  all_goals
    unfold Stop
    (with_reducible rename Thrown _ _ _ _ _ => t9)
    (rename _ = 58 ∨ _ = 70 => c9)
    (rename ∃ k, _ ∧ _ ∧ _ = none => n9)
    rw [fetch_off n9] at hQ
    have st' : h₀.StaysIn (hideAll g (frs outer)) := stays_hide st fun a q => (hfo a q).1
    have GG := G.keeps st'
    have F' := fr_hide (as := frs outer) F
    refine catch_two c9 hC58 hC70 (by k_is) (by k_is) (by k_is) (by k_is) rfl F' GG.X GG.T ?_ (by k_is) (by k_is) (FFor.use FFg F (by intro q; cases q) rfl) t9 (fun h9 k9 => ?_) rfl rfl rfl
    · intro b hb
      rcases frs_cons hb with q | q
      · obtain rfl : L = b := Option.some.inj q
        exact Heap.get?_none_of_le (by rw [hideAll_size]; exact F.above)
      · exact hideAll_none _ q
    · refine hQ h9 _ or os (fun b o n e => ?_) ?_ ?_ (ir.mono (Nat.le_succ _)) (is.mono (Nat.le_succ _))
      · obtain ⟨sl, z1, z2⟩ := k9 b o (by simp) (F.keep b o (hg b n o e))
        exact ⟨sl, z1, fun q => z2 (frs_off (L := L) rfl (fun z => by rw [z, eL] at e; exact absurd (Heap.lt_size e) (Nat.lt_irrefl _)) q)⟩
      · exact k9.get (by simp) (frs_off (L := L) rfl (N _ (.head _)).2.1 (fun q => (hfo rd q).2.1 rfl)) (N _ (.head _)).1
      · exact k9.get (by simp) (frs_off (L := L) rfl (N _ (.tail _ (.head _))).2.1 (fun q => (hfo sd q).2.2 rfl)) (N _ (.tail _ (.head _))).1
end Mine
end
end
section
local macro_rules | `(tactic| walk_at "call ref") => `(tactic| ((first | (with_reducible show wpAny _ _ (call (Value.ref 101) _) _ _ _) | (with_reducible show wpAny _ _ (call (Value.ref 94) _) _ _ _)); refine Mine.Stop.of ?_))
namespace Mine
theorem keepsF_pop {env : Env} {outer : List Env} {S : List Addr} {s g h1 h' : Heap} {L : Addr} {m : Str → Option Value} (hf : env.frame = some L) (eL : L = s.objs.size) (hg : ∀ b, b ∉ S → ∀ o, s.get? b = some o → g.get? b = some o) (F : Fr g L h1 m) (k : KeepsF (env :: outer) S h1 h') : KeepsF outer S s h' := fun b o n e => by
  obtain ⟨sl, z1, z2⟩ := k b o n (F.keep b o (hg b n o e))
  exact ⟨sl, z1, fun q => z2 (frs_off hf (fun z => by rw [z, eL] at e; exact absurd (Heap.lt_size e) (Nat.lt_irrefl _)) q)⟩
theorem KeepsF.nilF {outer : List Env} {S : List Addr} {h h' : Heap} (k : Keeps S h h') : KeepsF outer S h h' := .of_keeps k
theorem kby_reg {f fs fm : Int → Option Int} {cfa k v : Int} : knownBy f fs fm cfa k (.register, v) = keepBy f fs v := rfl
theorem kby_same {f fs fm : Int → Option Int} {cfa k v : Int} : knownBy f fs fm cfa k (.same, v) = keepBy f fs k := rfl
theorem kby_off {f fs fm : Int → Option Int} {cfa k v : Int} : knownBy f fs fm cfa k (.offset, v) = fetchBy fm ((cfa + v).fmod 4294967296) := rfl

set_option maxHeartbeats 8000000 in
theorem follow_spec {w : World} {mean : ExcName → Option Value} {mg mb : Str → Option Value} {h₀ : Heap} {dp un : Nat} {outer : List Env} {gd : Option (List Code)} {s : Shared} {x dx fx dfx rx rd sd frd fsd mem tr : Addr} {t1 t2 t3 t4 u1 u2 u3 u4 u5 u6 u7 tn tc tk0 tv : Tok} {nn : Nat} {a1 a2 a5 a6 : Value} {or os : Obj} {f fs fm R S : Int → Option Int} {tI : Bool} {B B1 B2 B3 B4 : Nat} {k cfa v : Int} {kd : Kd} {Q E : Value → Shared → Prop}
    (hroom : dp < 760) (G : Wd w mean mg mb h₀) (O : h₀.StaysIn s.heap)
    (Ix : InstAt s.heap x (instObj 111 dx) 111 (some (callerD w fx rx rd sd t1 t2 t3 t4))) (If : InstAt s.heap fx (instObj 181 dfx) 181 (some (frameD w a1 a2 (.ref frd) (.int cfa tc) a5 a6 (.ref fsd) u1 u2 u3 u4 u5 u6 u7)))
    (I1 : IDict w s.heap frd f B1) (I2 : IDict w s.heap fsd fs B2) (IR : ReaderAt w s.heap rx tI mem) (IM : IDict w s.heap mem fm B) (hf : ∀ k i, fm k = some i → 0 ≤ i ∧ i < 256)
    (hr : s.heap.get? rd = some or) (hr0 : h₀.get? rd = none) (hs : s.heap.get? sd = some os) (hs0 : h₀.get? sd = none) (ir : IDictO w or R B3) (is : IDictO w os S B4) (b3 : B3 ≤ 900) (b4 : B4 ≤ 900)
    (htr : s.heap.get? tr = some (ruleObj kd v tk0 tv nn))
    (hne : @Ne Nat rd sd) (FF : FFr s.heap outer) (hfo : ∀ b ∈ frs outer, h₀.get? b = none ∧ b ≠ rd ∧ b ≠ sd) (nr : ∀ b ∈ [x, dx, fx, dfx, frd, fsd, mem, tr], b ∉ [rd, sd])
    (hQ : ∀ h' tk or' os', KeepsF outer [rd, sd] s.heap h' → h'.get? rd = some or' → h'.get? sd = some os' → IDictO w or' (putR R k (knownBy f fs fm cfa k (kd, v))) (B3 + 1) → IDictO w os' (putS S k (knownBy f fs fm cfa k (kd, v))) (B4 + 1) →
      Q .none { s with heap := h', toks := tk }) :
    wpAny (model PySem.Challenge.rw_sa0618_01.row.prog w) (Ar dp un (some outer) gd) (call (.ref 108) [.ref x, .int k tn, .ref tr]) Q E s := by
  have hK : ∃ k, k = (Mine.hd.heap_1 w.params) := ⟨_, rfl⟩
  revert hK
  k_fill
  w_top off
  intro hK
  refine wpAny_call ?_
  refine' enter_ret (binds := [(Str.ofString "self", .ref x), (Str.ofString "number", .int k tn), (Str.ofString "rule", .ref tr)]) [(rd, or), (sd, os)] G O ?kN ?k6 ?k7 ?k8 ?k9 ?kB ?_ ?c5 ?c2 ?c3 ?c4
  walk_at "mine enter"
  (case kN =>
    intro p hp
    simp only [List.mem_cons, List.not_mem_nil, or_false] at hp
    rcases hp with rfl | rfl
    · exact ⟨hr, hr0⟩
    · exact ⟨hs, hs0⟩)
  intro g L h₁ eg eL F N l st X T
  have hg : ∀ b, b ∉ [rd, sd] → ∀ o, s.heap.get? b = some o → g.get? b = some o := fun b hb o e => by
    rw [eg]; exact hideAll_get _ e hb
  have Ixg := inst_of (hg x (nr x (by simp)) _ Ix.at_) (hg dx (nr dx (by simp)) _ Ix.dict)
  have Ifg := inst_of (hg fx (nr fx (by simp)) _ If.at_) (hg dfx (nr dfx (by simp)) _ If.dict)
  have I1g : IDict w g frd f B1 := ⟨I1.1, I1.2.choose, hg frd (nr frd (by simp)) _ I1.2.choose_spec.1, I1.2.choose_spec.2⟩
  have I2g : IDict w g fsd fs B2 := ⟨I2.1, I2.2.choose, hg fsd (nr fsd (by simp)) _ I2.2.choose_spec.1, I2.2.choose_spec.2⟩
  have IMg : IDict w g mem fm B := ⟨IM.1, IM.2.choose, hg mem (nr mem (by simp)) _ IM.2.choose_spec.1, IM.2.choose_spec.2⟩
  have IRg : ReaderAt w g rx tI mem := IR.keepsD fun b o e hn => hg b (fun z => by
    simp only [List.mem_cons, List.not_mem_nil, or_false] at z
    rcases z with rfl | rfl
    · rw [hr] at e; obtain ⟨es, ep, q⟩ := ir.data; exact hn es ep ((Option.some.inj e) ▸ q)
    · rw [hs] at e; obtain ⟨es, ep, q⟩ := is.data; exact hn es ep ((Option.some.inj e) ▸ q)) o e
  have FFg : FFor g outer := ffor_of FF fun b o hb e => hg b (not_mem2 (hfo b hb).2.1 (hfo b hb).2.2) o e
  have hT : IsTup g tr [Value.str kd.text tk0, .int v tv].toArray := ⟨_, hg tr (nr tr (by simp)) _ htr, rfl, nn, rfl⟩
  have nr4 : ∀ b ∈ [x, dx, fx, dfx, frd, fsd], b ∉ [rd, sd] := fun b hb => nr b (by simp only [List.mem_cons, List.not_mem_nil, or_false] at hb ⊢; rcases hb with h | h | h | h | h | h <;> simp [h])
  have nr3 : ∀ b ∈ [x, dx, mem], b ∉ [rd, sd] := fun b hb => nr b (by simp only [List.mem_cons, List.not_mem_nil, or_false] at hb ⊢; rcases hb with h | h | h <;> simp [h])
  have hL0 : h₀.get? L = none := none_of_keep st (Heap.get?_none_of_le F.above)
  clear Ix If I1 I2 IM IR
  (show wpAny _ _ _ _ _ _)
  k_fold
  cases kd
  all_goals
    (try dsimp only [Kd.text] at hT)
    k_steps
  · (with_reducible rename Fr _ _ _ _ => F9)
    (with_reducible rename News _ _ _ _ => N9)
    unfold Stop
    refine fetch_spec (by walk_at "mine room") G (fun b o e => F9.keep _ _ (st b o e)) (InstAt.keeps Ixg F9.keep) (IRg.keeps F9.keep) (IMg.keeps F9.keep) hf (N9.get (by k_mem)) hr0 (N9.get (by k_mem)) hs0 ir is b3 b4 hne (FFor.use FFg F9 (by intro q; cases q) rfl) ?_ nr3 ?_
    · intro b hb
      rcases frs_cons hb with q | q
      · obtain rfl : L = b := Option.some.inj q
        exact ⟨hL0, fun z => (N9 _ (.head _)).2.1 z.symm, fun z => (N9 _ (.tail _ (.head _))).2.1 z.symm⟩
      · exact hfo b q
    · intro h' tk' or' os' k' e1 e2 i1 i2
      dsimp only at k'
      k_steps
      exact hQ _ _ _ _ (keepsF_pop rfl eL hg F9 k') e1 e2 i1 i2
  · (with_reducible rename Fr _ _ _ _ => F9)
    (with_reducible rename News _ _ _ _ => N9)
    subst eg
    exact hQ _ _ _ _ (.of_keeps (keeps_of_fr F9)) (N9.get (by k_mem)) (N9.get (by k_mem)) (by assumption) (is.mono (Nat.le_succ _))
  · (with_reducible rename Fr _ _ _ _ => F9)
    (with_reducible rename News _ _ _ _ => N9)
    unfold Stop
    refine keep_spec (by walk_at "mine room") G (fun b o e => F9.keep _ _ (st b o e)) (InstAt.keeps Ixg F9.keep) (InstAt.keeps Ifg F9.keep) (I1g.keeps F9.keep) (I2g.keeps F9.keep) (N9.get (by k_mem)) hr0 (N9.get (by k_mem)) hs0 ir is b3 b4 hne nr4 ?_
    intro h' tk' or' os' k' e1 e2 i1 i2
    k_steps
    exact hQ _ _ _ _ (keepsF_pop (env := envOf default default L 0 .none) rfl eL hg F9 (.of_keeps k')) e1 e2 i1 i2
  · (with_reducible rename Fr _ _ _ _ => F9)
    (with_reducible rename News _ _ _ _ => N9)
    unfold Stop
    refine keep_spec (by walk_at "mine room") G (fun b o e => F9.keep _ _ (st b o e)) (InstAt.keeps Ixg F9.keep) (InstAt.keeps Ifg F9.keep) (I1g.keeps F9.keep) (I2g.keeps F9.keep) (N9.get (by k_mem)) hr0 (N9.get (by k_mem)) hs0 ir is b3 b4 hne nr4 ?_
    intro h' tk' or' os' k' e1 e2 i1 i2
    k_steps
    exact hQ _ _ _ _ (keepsF_pop (env := envOf default default L 0 .none) rfl eL hg F9 (.of_keeps k')) e1 e2 i1 i2
  · (with_reducible rename Fr _ _ _ _ => F9)
    (with_reducible rename News _ _ _ _ => N9)
    subst eg
    exact hQ _ _ _ _ (.of_keeps (keeps_of_fr F9)) (N9.get (by k_mem)) (N9.get (by k_mem)) (ir.mono (Nat.le_succ _)) (is.mono (Nat.le_succ _))
end Mine
end
namespace Mine
section
variable {w : World} {A : Around} {E : Value → Shared → Prop} {s : Shared} {g : Heap} {L d : Addr} {m : Str → Option Value} {news : List (Addr × Obj)} {ρ : Int → Option (Kd × Int)} {B : Nat}
theorem isInt_ints {kvs : List (Int × Value)} : ∀ {vs : List Value} (j : Nat), vs.length + j = kvs.length → (∀ (i : Nat) (v : Value), vs[i]? = some v → ∃ k x, kvs[i + j]? = some (k, x) ∧ (intKind PySem.Challenge.rw_sa0618_01.row.prog w).is k v = true) → IntsAre vs ((kvs.drop j).map (·.1))
  | [], j, hl, _ => by
    rw [List.drop_eq_nil_of_le (Nat.le_of_eq (by simpa using hl.symm))]
    exact .nil
  | v :: r, j, hl, h => by
    obtain ⟨k, x, e, hk⟩ := h 0 v rfl
    obtain ⟨t, rfl⟩ := Value.isInt_shape hk
    rw [Nat.zero_add] at e
    have hj : j < kvs.length := (List.getElem?_eq_some_iff.mp e).1
    rw [List.drop_eq_getElem_cons hj, List.map_cons, show kvs[j] = (k, x) from (List.getElem?_eq_some_iff.mp e).2]
    refine .cons k t (isInt_ints (j + 1) (by simp only [List.length_cons] at hl; omega) fun i v' e' => ?_)
    obtain ⟨k', x', q, hq⟩ := h (i + 1) v' (by simpa using e')
    exact ⟨k', x', by rw [← q]; congr 1; omega, hq⟩
theorem rdict_sorted {Q : Value → Shared → Prop} (F : Fr g L s.heap m) (N : News g L s.heap news) (hh : A.handled = none) (I : RDict w s.heap d ρ B) (hB : B ≤ 60)
    (h : ∀ D vs ns c h' tk, Fr g L h' m → News g L h' ((D, listOf vs.toArray c) :: news) → (∀ q ∈ news, q.1 < D) → IntsAre vs ns → (∀ k, k ∈ ns ↔ (ρ k).isSome = true) → ns.Nodup → ns.length ≤ B → Q (.ref D) { s with heap := h', toks := tk }) :
    wpAny (model PySem.Challenge.rw_sa0618_01.row.prog w) A (call (.builtin "sorted") [.ref d]) Q E s := by
  obtain ⟨lo, o, tups, ho, ⟨kvs, hIs, hR, hl⟩, ht⟩ := I
  have hD : s.heap.DictOf (intKind PySem.Challenge.rw_sa0618_01.row.prog w) d kvs := Heap.dictOf_iff.mpr ⟨o, ho, hIs⟩
  obtain ⟨ep, hat⟩ := hD.dictAt
  refine kdu_sorted (kdl_dict (knd := intKind PySem.Challenge.rw_sa0618_01.row.prog w) (kvs := kvs) (ep := ep) lo) hh F N hat (by rw [sizeLine_eq]; omega) fun D h' tk vs F' N' l1 hlen hv => ?_
  have hi : IntsAre vs (kvs.map (·.1)) := by
    have := isInt_ints (w := w) (kvs := kvs) (vs := vs) 0 (by omega) hv
    simpa using this
  refine ksk_lsort (s := { s with heap := h', toks := tk }) (news' := fun o => (D, o) :: news) F' N' (fun o => .head fun p hp => Nat.ne_of_lt (l1 p hp)) rfl hi (by rw [List.length_map]; omega) fun vs' ns' c h'' F2 N2 i2 l2 p2 s2 _ => ?_
  refine h D vs' ns' c h'' tk F2 N2 l1 i2 (fun k => ?_) ?_ (by rw [l2, List.length_map]; exact hl)
  · rw [p2.mem_iff]
    have e1 : (ρ k).isSome = (valueAt kvs k).isSome := by
      have := hR k
      cases e : ρ k with
      | none => rw [e] at this; rw [this]; rfl
      | some r => rw [e] at this; obtain ⟨kd, v⟩ := r; obtain ⟨t, _, _, _, q, _⟩ := this; rw [q]; rfl
    rw [e1, ← any_iff, List.any_eq_true, List.mem_map]
    constructor
    · rintro ⟨a, ha, rfl⟩; exact ⟨a, ha, by simp⟩
    · rintro ⟨a, ha, q⟩; exact ⟨a, ha, by simpa using q⟩
  · obtain ⟨es, ep', _, _, _, _, hnd⟩ := hIs
    exact p2.nodup_iff.mpr hnd
end
end Mine
namespace Mine
theorem RDict.keepsD {w : World} {h h' : Heap} {d : Addr} {ρ : Int → Option (Kd × Int)} {B : Nat} (x : RDict w h d ρ B) (kd : ∀ o, h.get? d = some o → h'.get? d = some o) (k : ∀ b o, h.get? b = some o → (∀ es ep, o.data ≠ .dict es ep) → h'.get? b = some o) : RDict w h' d ρ B := by
  obtain ⟨l, o, tups, e, ⟨kvs, hIs, hR, hl⟩, ht⟩ := x
  refine ⟨l, o, tups.filter (fun p => match p.2.data with | .dict _ _ => false | _ => true), kd _ e, ⟨kvs, hIs, fun k' => ?_, hl⟩, fun p hp => ?_⟩
  · have := hR k'
    cases q : ρ k' with
    | none => rw [q] at this; exact this
    | some r =>
      rw [q] at this
      obtain ⟨kd', v⟩ := r
      obtain ⟨t, tk, tv, n, z1, z2⟩ := this
      exact ⟨t, tk, tv, n, z1, List.mem_filter.mpr ⟨z2, rfl⟩⟩
  · obtain ⟨h1, h2⟩ := List.mem_filter.mp hp
    refine k _ _ (ht p h1) fun es ep q => ?_
    rw [q] at h2; cases h2
section
variable {w : World} {g h h' : Heap} {L : Addr} {m : Str → Option Value} {rest : List (Addr × Obj)} {rd sd L1 : Addr} {or os or' os' o1 : Obj} {outer : List Env}
theorem AllNe.mem {d : Addr} {l : List (Addr × Obj)} (x : AllNe d l) : ∀ p ∈ l, p.1 ≠ d := by
  induction l with
  | nil => intro p hp; cases hp
  | cons q r ih =>
    intro p hp
    rcases List.mem_cons.mp hp with e | hp
    · rw [e]; exact x.1
    · exact ih x.2 p hp
theorem two_keep (F : Fr g L h m) (N : News g L h ((rd, or) :: (sd, os) :: rest)) (k : Keeps [rd, sd] h h') (e1 : h'.get? rd = some or') (e2 : h'.get? sd = some os') (n1 : AllNe rd rest) (n2 : AllNe sd rest) :
    Fr g L h' m ∧ News g L h' ((rd, or') :: (sd, os') :: rest) := by
  have a := N _ (.head _)
  have b := N _ (.tail _ (.head _))
  refine ⟨fr_keeps F k (not_mem2 (fun q => a.2.1 q.symm) (fun q => b.2.1 q.symm)) fun y hy => ?_, fun p hp => ?_⟩
  · simp only [List.mem_cons, List.not_mem_nil, or_false] at hy
    rcases hy with rfl | rfl
    · exact a.2.2
    · exact b.2.2
  · rcases List.mem_cons.mp hp with rfl | hp
    · exact ⟨e1, a.2⟩
    · rcases List.mem_cons.mp hp with rfl | hp
      · exact ⟨e2, b.2⟩
      · have z := N p (.tail _ (.tail _ hp))
        exact ⟨k.2 _ _ (not_mem2 (n1.mem p hp) (n2.mem p hp)) z.1, z.2⟩
theorem two_keepF {env env1 : Env} (hf : env.frame = some L) (hf1 : env1.frame = some L1) (F : Fr g L h m) (N : News g L h ((rd, or) :: (sd, os) :: (L1, o1) :: rest)) (k : KeepsF [env, env1] [rd, sd] h h') (e1 : h'.get? rd = some or') (e2 : h'.get? sd = some os')
    (n1 : AllNe rd ((L1, o1) :: rest)) (n2 : AllNe sd ((L1, o1) :: rest)) (n3 : AllNe L1 rest) :
    ∃ sl, Fr g L h' m ∧ News g L h' ((rd, or') :: (sd, os') :: (L1, { o1 with slots := sl }) :: rest) := by
  have a := N _ (.head _)
  have b := N _ (.tail _ (.head _))
  have c := N _ (.tail _ (.tail _ (.head _)))
  have nf : ∀ y, y ≠ L → y ≠ L1 → y ∉ frs [env, env1] := fun y q1 q2 => frs_off hf q1 (frs_off hf1 q2 (fun z => nomatch z))
  obtain ⟨sl, z1, _⟩ := k L1 o1 (not_mem2 n1.1 n2.1) c.1
  refine ⟨sl, ⟨k.ns (not_mem2 (fun q => a.2.1 q.symm) (fun q => b.2.1 q.symm)) F.ns, fun y o e => ?_, F.above⟩, fun p hp => ?_⟩
  · refine k.get (not_mem2 (fun q => ?_) (fun q => ?_)) (nf y (fun q => ?_) (fun q => ?_)) (F.keep y o e)
    · rw [q, a.2.2] at e; cases e
    · rw [q, b.2.2] at e; cases e
    · rw [q] at e; exact absurd (Heap.lt_size e) (Nat.not_lt.mpr F.above)
    · rw [q, c.2.2] at e; cases e
  · rcases List.mem_cons.mp hp with rfl | hp
    · exact ⟨e1, a.2⟩
    · rcases List.mem_cons.mp hp with rfl | hp
      · exact ⟨e2, b.2⟩
      · rcases List.mem_cons.mp hp with rfl | hp
        · exact ⟨z1, c.2⟩
        · have z := N p (.tail _ (.tail _ (.tail _ hp)))
          exact ⟨k.get (not_mem2 (n1.2.mem p hp) (n2.2.mem p hp)) (nf p.1 z.2.1 (n3.mem p hp)) z.1, z.2⟩
end
def KL : List Int := [0, 3, 4, 8, 9, 18, 19, 20, 21, 22, 23, 24, 25, 26, 27]
def foldR (res : Int → Option (Int × Option Int)) (l : List Int) (R : Int → Option Int) : Int → Option Int := l.foldl (fun R n => putR R n (res n)) R
def foldS (res : Int → Option (Int × Option Int)) (l : List Int) (R : Int → Option Int) : Int → Option Int := l.foldl (fun R n => putS R n (res n)) R
theorem foldR_snoc (res l n R) : foldR res (l ++ [n]) R = putR (foldR res l R) n (res n) := by unfold foldR; rw [List.foldl_append]; rfl
theorem foldS_snoc (res l n R) : foldS res (l ++ [n]) R = putS (foldS res l R) n (res n) := by unfold foldS; rw [List.foldl_append]; rfl
theorem foldR_at (res : Int → Option (Int × Option Int)) (k : Int) : ∀ (l : List Int) (R : Int → Option Int), foldR res l R k = if k ∈ l then (match res k with | some (v, _) => some v | none => R k) else R k
  | [], R => rfl
  | n :: l, R => by
    show foldR res l (putR R n (res n)) k = _
    rw [foldR_at res k l]
    by_cases h1 : k = n
    · subst h1
      cases e : res k with
      | none => simp [putR]
      | some r => obtain ⟨v, y⟩ := r; simp [putR, upd]
    · have h3 : putR R n (res n) k = R k := by
        cases e : res n with
        | none => rfl
        | some r => obtain ⟨v, y⟩ := r; show upd R n v k = R k; unfold upd; rw [if_neg h1]
      simp [h1, h3]
theorem foldS_at (res : Int → Option (Int × Option Int)) (k : Int) : ∀ (l : List Int) (R : Int → Option Int), foldS res l R k = if k ∈ l then (match res k with | some (_, some p) => some p | _ => R k) else R k
  | [], R => rfl
  | n :: l, R => by
    show foldS res l (putS R n (res n)) k = _
    rw [foldS_at res k l]
    by_cases h1 : k = n
    · subst h1
      cases e : res k with
      | none => simp [putS]
      | some r =>
        obtain ⟨v, y⟩ := r
        cases y with
        | none => simp [putS]
        | some p => simp [putS, upd]
    · have h3 : putS R n (res n) k = R k := by
        cases e : res n with
        | none => rfl
        | some r =>
          obtain ⟨v, y⟩ := r
          cases y with
          | none => rfl
          | some p => show upd R n p k = R k; unfold upd; rw [if_neg h1]
      simp [h1, h3]
section
variable {prog : Program} {w : World} {A : Around} {E : Value → Shared → Prop} {s : Shared} {env : Env} {g : Heap} {x : Str} {body : List Stmt} {Q : Flow → Shared → Prop} {m₀ : Str → Option Value}
theorem loop_tuple {ax : Addr} {items : Array Value} (nx₀ K : List (Addr × Obj)) (X : List Str) (R : Nat → List (Addr × Obj) → Prop) (hh : A.handled = none) (ht : g.IsTuple ax items)
    (F : Fr g env.locals s.heap m₀) (N : News g env.locals s.heap (nx₀ ++ K)) (hR : R 0 nx₀)
    (turn : ∀ (I : Addr) i v u nx h tk oI, i < items.size → items[i]? = some v → R i nx → (∀ p ∈ nx, p.1 ≠ I) → (∀ p ∈ K, p.1 ≠ I) → Fr g env.locals h (fun y => if y = x then some v else over X u m₀ y) → News g env.locals h (nx ++ (I, oI) :: K) →
      wpAny (model prog w) A (execs body env) (TurnPost g env.locals I oI K x X m₀ (R (i + 1)) { s with heap := h, toks := tk } Q) E { s with heap := h, toks := tk })
    (done : ∀ u nx h tk, R items.size nx → Fr g env.locals h (over (x :: X) u m₀) → News g env.locals h (nx ++ K) → Q .next { s with heap := h, toks := tk }) :
    wpAny (model prog w) A (pyIter (.ref ax)) (fun it s₂ => LoopAtV prog w A g env x body Q E it s₂) E s := by
  have ht' : s.heap.IsTuple ax items := ht.at fun o e => F.keep _ _ e
  refine wpAny_pyIter_tuple ht' ?_
  have hax : ax ≠ s.heap.objs.size := Nat.ne_of_lt (Heap.lt_size ht'.choose_spec.1)
  have fresh : ∀ p ∈ nx₀ ++ K, p.1 ≠ s.heap.objs.size := fun p hp => Nat.ne_of_lt (Heap.lt_size (N p hp).1)
  refine loop_gen (I := s.heap.objs.size) nx₀ K X R (Walks.tuple hh s.heap.objs.size ax hax items) ?_ (next_is_new F) (fun i h hi => ?_) (fun b hb => ?_) fresh ⟨?_, ht'.at fun o e => Heap.get?_push_of_some _ e⟩ (F.push _) (fun p hp => ⟨Heap.get?_push_of_some _ (N p hp).1, (N p hp).2⟩) hR ?_ done
  · intro hm
    simp only [List.mem_cons, List.not_mem_nil, or_false] at hm
    rcases hm with e | e
    · exact absurd F.ns.lt (e ▸ Nat.lt_irrefl _)
    · obtain ⟨o, es, ep, q1, q2, _⟩ := F.ns
      obtain ⟨o', q3, _, n, q4⟩ := ht'
      rw [e, q3] at q1
      obtain rfl := Option.some.inj q1
      rw [q4] at q2; cases q2
  · obtain ⟨o, e, _⟩ := hi.1
    exact ⟨o, e⟩
  · simp only [List.mem_cons, List.not_mem_nil, or_false] at hb
    rcases hb with rfl | rfl
    · exact .inl rfl
    · obtain ⟨o, e, _⟩ := ht
      exact .inr (.inl ⟨o, e⟩)
  · exact ⟨_, Heap.get?_push_size _ rfl, rfl, rfl⟩
  · intro i v u nx h tk oI hi hv hR' hI F' N'
    exact turn _ i v u nx h tk oI hi hv hR' hI (fun p hp => fresh p (List.mem_append_right _ hp)) F' N'
theorem loop_list {ax : Addr} {items : Array Value} {c : Nat} (nx₀ K : List (Addr × Obj)) (X : List Str) (R : Nat → List (Addr × Obj) → Prop) (hh : A.handled = none) (hD : (ax, listOf items c) ∈ K)
    (F : Fr g env.locals s.heap m₀) (N : News g env.locals s.heap (nx₀ ++ K)) (hR : R 0 nx₀)
    (turn : ∀ (I : Addr) i v u nx h tk oI, i < items.size → items[i]? = some v → R i nx → (∀ p ∈ nx, p.1 ≠ I) → (∀ p ∈ K, p.1 ≠ I) → Fr g env.locals h (fun y => if y = x then some v else over X u m₀ y) → News g env.locals h (nx ++ (I, oI) :: K) →
      wpAny (model prog w) A (execs body env) (TurnPost g env.locals I oI K x X m₀ (R (i + 1)) { s with heap := h, toks := tk } Q) E { s with heap := h, toks := tk })
    (done : ∀ u nx h tk, R items.size nx → Fr g env.locals h (over (x :: X) u m₀) → News g env.locals h (nx ++ K) → Q .next { s with heap := h, toks := tk }) :
    wpAny (model prog w) A (pyIter (.ref ax)) (fun it s₂ => LoopAtV prog w A g env x body Q E it s₂) E s := by
  have hm := N _ (List.mem_append_right _ hD)
  have ht' : s.heap.IsList ax items := ⟨_, hm.1, rfl, c, rfl⟩
  refine wpAny_pyIter_list ht' ?_
  have hax : ax ≠ s.heap.objs.size := Nat.ne_of_lt (Heap.lt_size ht'.choose_spec.1)
  have fresh : ∀ p ∈ nx₀ ++ K, p.1 ≠ s.heap.objs.size := fun p hp => Nat.ne_of_lt (Heap.lt_size (N p hp).1)
  refine loop_gen (I := s.heap.objs.size) nx₀ K X R (Walks.list hh s.heap.objs.size ax hax items) ?_ (next_is_new F) (fun i h hi => ?_) (fun b hb => ?_) fresh ⟨?_, ht'.at fun o e => Heap.get?_push_of_some _ e⟩ (F.push _) (fun p hp => ⟨Heap.get?_push_of_some _ (N p hp).1, (N p hp).2⟩) hR ?_ done
  · intro hb
    simp only [List.mem_cons, List.not_mem_nil, or_false] at hb
    rcases hb with e | e
    · exact absurd F.ns.lt (e ▸ Nat.lt_irrefl _)
    · exact hm.2.1 e.symm
  · obtain ⟨o, e, _⟩ := hi.1
    exact ⟨o, e⟩
  · simp only [List.mem_cons, List.not_mem_nil, or_false] at hb
    rcases hb with rfl | rfl
    · exact .inl rfl
    · exact .inr (.inr ⟨_, hD⟩)
  · exact ⟨_, Heap.get?_push_size _ rfl, rfl, rfl⟩
  · intro i v u nx h tk oI hi hv hR' hI F' N'
    exact turn _ i v u nx h tk oI hi hv hR' hI (fun p hp => fresh p (List.mem_append_right _ hp)) F' N'
end
theorem ints_at : ∀ {vs : List Value} {ns : List Int} {i : Nat} {v : Value}, IntsAre vs ns → vs[i]? = some v → ∃ n t, ns[i]? = some n ∧ v = .int n t
  | _, _, 0, v, .cons n t r, e => ⟨n, t, rfl, (Option.some.inj e).symm⟩
  | _, _, i + 1, v, .cons n t r, e => ints_at (i := i) r (by simpa using e)
  | _, _, i, v, .nil, e => by simp at e
theorem take_snoc {l : List Int} {i : Nat} {n : Int} (e : l[i]? = some n) : l.take (i + 1) = l.take i ++ [n] := by
  rw [List.take_succ, e]; rfl
end Mine
section
local macro_rules | `(tactic| walk_at "call ref") => `(tactic| ((first | (with_reducible show wpAny _ _ (call (Value.ref 108) _) _ _ _) | (with_reducible show wpAny _ _ (call (Value.ref 94) _) _ _ _)); refine Mine.Stop.of ?_))
local macro_rules | `(tactic| walk_at "call ref") => `(tactic| ((with_reducible show wpAny _ _ (call (Value.ref 111) _) _ _ _); k_dflt (refine' Mine.caller_make ?F ?N ?X ?T ?hr ?hm ?hi ?hf ?_; (case F | N | X | T => k_asm); (case hr => walk_at "mine room"); (case hm | hi | hf => k_is); k_whole; intro h' tk x dx rd sd o1 o2 t1 t2 t3 t4 F' N' nr ns l1 l2 y1 y2 i1 i2; (try simp only [Mine.AllNe, and_true] at nr ns); (try k_lt l1); (try k_lt2 l2))))
local macro_rules | `(tactic| walk_at "call builtin:sorted") => `(tactic| ((with_reducible show wpAny _ _ (call (Value.builtin "sorted") [Value.ref _]) _ _ _); k_dflt (refine' Mine.rdict_sorted ?F ?N rfl ?I ?B ?_; (case I => walk_at "mine rdict"); (case F | N | B => k_asm); k_whole; intro D vs ns c h' tk F' N' l1 iv hns hnd hln; (try k_lt l1))))
local macro_rules | `(tactic| walk_at "exec For Name Name cons nil") => `(tactic| ((with_reducible rename Fr _ _ _ _ => lF'); (with_unfolding_all refine' For_invVF lF' ?k1 ?k2 ?_; (case k1 | k2 => exact rfl); k_whole)))
local macro_rules | `(tactic| walk_at "exec For Name Call cons nil") => `(tactic| ((with_reducible rename Fr _ _ _ _ => lF'); (with_unfolding_all refine' For_invVF lF' ?k1 ?k2 ?_; (case k1 | k2 => exact rfl); k_whole)))
local macro_rules | `(tactic| walk_at "mine pad") => `(tactic| skip)
namespace Mine
def res1 (ρ : Int → Option (Kd × Int)) (f fs : Int → Option Int) (n : Int) : Option (Int × Option Int) := if (ρ n).isSome then none else keepBy f fs n
theorem res1_none {ρ : Int → Option (Kd × Int)} {f fs : Int → Option Int} {n : Int} (h : (ρ n).isSome = true) : res1 ρ f fs n = none := if_pos h
theorem res1_some {ρ : Int → Option (Kd × Int)} {f fs : Int → Option Int} {n : Int} (h : (ρ n).isSome = false) : res1 ρ f fs n = keepBy f fs n := if_neg (by rw [h]; decide)
def midR (ρ : Int → Option (Kd × Int)) (cfa : Int) (R : Int → Option Int) : Int → Option Int := if (ρ 2).isSome then R else upd R 2 cfa
theorem mid_t {ρ : Int → Option (Kd × Int)} {cfa : Int} {R : Int → Option Int} (h : (ρ 2).isSome = true) : midR ρ cfa R = R := if_pos h
theorem mid_f {ρ : Int → Option (Kd × Int)} {cfa : Int} {R : Int → Option Int} (h : (ρ 2).isSome = false) : midR ρ cfa R = upd R 2 cfa := if_neg (by rw [h]; decide)
def res2 (ρ : Int → Option (Kd × Int)) (f fs fm : Int → Option Int) (cfa n : Int) : Option (Int × Option Int) := knownBy f fs fm cfa n (ruleOf ρ n)
def finR (ρ : Int → Option (Kd × Int)) (f fs fm : Int → Option Int) (cfa k : Int) : Option Int := (res2 ρ f fs fm cfa k).map (·.1)
def finS (ρ : Int → Option (Kd × Int)) (f fs fm : Int → Option Int) (cfa k : Int) : Option Int := (res2 ρ f fs fm cfa k).bind (·.2)
theorem kl_kept {k : Int} : k ∈ KL ↔ keptB k = true := by
  refine ⟨fun h => (by decide : ∀ x ∈ KL, keptB x = true) k h, fun h => ?_⟩
  cases kept_cases h with
  | inl m => exact List.mem_append_left [18, 19, 20, 21, 22, 23, 24, 25, 26, 27] m
  | inr m =>
    obtain ⟨n, e⟩ := Int.eq_ofNat_of_zero_le (Int.sub_nonneg.mpr m.1)
    have hn : n < 10 := by omega
    rw [show k = 18 + (n : Int) by omega]
    exact (by decide : ∀ n < 10, 18 + ((n : Nat) : Int) ∈ KL) n hn
theorem finR_eq {ρ : Int → Option (Kd × Int)} {f fs fm : Int → Option Int} {cfa : Int} {ns : List Int} (hns : ∀ k, k ∈ ns ↔ (ρ k).isSome = true) (h0 : 0 ≤ cfa) (h1 : cfa < 4294967296) :
    foldR (res2 ρ f fs fm cfa) ns (midR ρ cfa (foldR (res1 ρ f fs) KL (fun _ => none))) = finR ρ f fs fm cfa := by
  funext k
  rw [foldR_at]
  unfold finR
  by_cases hk : (ρ k).isSome = true
  · have hr1 : res1 ρ f fs k = none := res1_none hk
    have hm : midR ρ cfa (foldR (res1 ρ f fs) KL (fun _ => none)) k = none := by
      unfold midR
      split
      · rw [foldR_at, hr1]; simp
      · rename_i h2
        unfold upd
        rw [if_neg (show ¬ k = 2 from fun q => h2 (q ▸ hk)), foldR_at, hr1]; simp
    rw [if_pos ((hns k).mpr hk), hm]
    cases res2 ρ f fs fm cfa k with
    | none => rfl
    | some r => rfl
  · have hk0 : ρ k = none := by simpa using hk
    rw [if_neg (fun q => hk ((hns k).mp q))]
    unfold res2 midR
    by_cases h2 : k = 2
    · rw [if_neg (h2 ▸ hk), rule_2 hk0 h2]
      unfold upd
      rw [if_pos h2]
      show some cfa = some ((cfa + 0).fmod 4294967296)
      rw [Int.add_zero, Int.fmod_eq_emod_of_nonneg _ (by omega), Int.emod_eq_of_lt h0 h1]
    · have e1 : (if (ρ 2).isSome = true then foldR (res1 ρ f fs) KL (fun _ => none) else upd (foldR (res1 ρ f fs) KL (fun _ => none)) 2 cfa) k = foldR (res1 ρ f fs) KL (fun _ => none) k := by
        split
        · rfl
        · unfold upd; rw [if_neg h2]
      rw [e1, foldR_at]
      have er : res1 ρ f fs k = keepBy f fs k := if_neg hk
      by_cases hl : k ∈ KL
      · rw [if_pos hl, er, rule_kept hk0 h2 (kl_kept.mp hl)]
        show _ = Option.map _ (keepBy f fs k)
        cases keepBy f fs k <;> rfl
      · rw [if_neg hl, rule_un hk0 h2 (by cases q : keptB k with | false => rfl | true => exact absurd (kl_kept.mpr q) hl)]
        rfl
theorem finS_eq {ρ : Int → Option (Kd × Int)} {f fs fm : Int → Option Int} {cfa : Int} {ns : List Int} (hns : ∀ k, k ∈ ns ↔ (ρ k).isSome = true) :
    foldS (res2 ρ f fs fm cfa) ns (foldS (res1 ρ f fs) KL (fun _ => none)) = finS ρ f fs fm cfa := by
  funext k
  rw [foldS_at]
  unfold finS
  by_cases hk : (ρ k).isSome = true
  · have hr1 : res1 ρ f fs k = none := res1_none hk
    rw [if_pos ((hns k).mpr hk), foldS_at, hr1]
    cases res2 ρ f fs fm cfa k with
    | none => simp
    | some r =>
      obtain ⟨v, y⟩ := r
      cases y <;> simp
  · have hk0 : ρ k = none := by simpa using hk
    rw [if_neg (fun q => hk ((hns k).mp q)), foldS_at]
    have er : res1 ρ f fs k = keepBy f fs k := if_neg hk
    unfold res2
    by_cases h2 : k = 2
    · rw [rule_2 hk0 h2, if_neg (by rw [h2]; decide)]
      rfl
    · by_cases hl : k ∈ KL
      · rw [if_pos hl, er, rule_kept hk0 h2 (kl_kept.mp hl)]
        show _ = Option.bind (keepBy f fs k) _
        cases keepBy f fs k with
        | none => rfl
        | some r => obtain ⟨v, y⟩ := r; cases y <;> rfl
      · rw [if_neg hl, rule_un hk0 h2 (by cases q : keptB k with | false => rfl | true => exact absurd (kl_kept.mpr q) hl)]
        rfl
theorem ffr_two {h : Heap} {env env1 : Env} {L L1 : Addr} {m : Str → Option Value} (hk : env.scope.kind ≠ .module) (hf : env.frame = some L) (hn : h.Ns L m) (hk1 : env1.scope.kind ≠ .module) (hf1 : env1.frame = some L1) {o1 : Obj} (h1 : h.get? L1 = some o1) (hd : ∀ vs, o1.data ≠ .fields vs) : FFr h [env, env1] := by
  obtain ⟨o, _, _, ho, hdo, _⟩ := hn
  exact ⟨hk, ⟨L, o, hf, hideAll_none _ (List.mem_filterMap.mpr ⟨env, .head _, hf⟩), ho, fun vs q => by rw [hdo] at q; cases q⟩, hk1, ⟨L1, o1, hf1, hideAll_none _ (List.mem_filterMap.mpr ⟨env1, .tail _ (.head _), hf1⟩), h1, hd⟩, trivial⟩
set_option maxHeartbeats 16000000 in
theorem callerOf_spec {w : World} {mean : ExcName → Option Value} {mg mb : Str → Option Value} {h₀ : Heap} {dp un : Nat} {env1 : Env} {gd : Option (List Code)} {s : Shared} {L1 fx dfx rx frd fsd rw drw rrd mem : Addr} {o1 : Obj} {u1 u2 u3 u4 u5 u6 u7 v1 v2 v3 tc : Tok} {a1 a2 a5 a6 ra rc : Value} {f fs fm : Int → Option Int} {ρ : Int → Option (Kd × Int)} {tI : Bool} {B B0 B1 B2 : Nat} {cfa : Int} {Q E : Value → Shared → Prop}
    (hroom : dp < 700) (G : Wd w mean mg mb h₀) (O : h₀.StaysIn s.heap)
    (If : InstAt s.heap fx (instObj 181 dfx) 181 (some (frameD w a1 a2 (.ref frd) (.int cfa tc) a5 a6 (.ref fsd) u1 u2 u3 u4 u5 u6 u7)))
    (Iw : InstAt s.heap rw (instObj 146 drw) 146 (some (rowD w ra rc (.ref rrd) v1 v2 v3)))
    (Irr : RDict w s.heap rrd ρ B0) (hB0 : B0 ≤ 60)
    (I1 : IDict w s.heap frd f B1) (I2 : IDict w s.heap fsd fs B2) (IR : ReaderAt w s.heap rx tI mem) (IM : IDict w s.heap mem fm B) (hf : ∀ k i, fm k = some i → 0 ≤ i ∧ i < 256)
    (hL1 : s.heap.Ns L1 m1) (hL1o : s.heap.get? L1 = some o1) (hL10 : h₀.get? L1 = none) (hef : env1.frame = some L1) (hek : env1.scope.kind ≠ .module)
    (nr : ∀ b ∈ [fx, dfx, frd, fsd, rw, drw, rrd, mem], @Ne Nat b L1) (hc0 : 0 ≤ cfa) (hc1 : cfa < 4294967296)
    (hQ : ∀ h' tk x dx rd sd or os t1 t2 t3 t4, KeepsF [env1] [] s.heap h' → h'.get? x = some (instObj 111 dx) → h'.get? dx = some (callerD w fx rx rd sd t1 t2 t3 t4) → s.heap.get? x = none → s.heap.get? dx = none → h'.get? rd = some or → h'.get? sd = some os → s.heap.get? rd = none → s.heap.get? sd = none →
      (rd == sysModules) = false → (sd == sysModules) = false → IDictO w or (finR ρ f fs fm cfa) 100 → IDictO w os (finS ρ f fs fm cfa) 100 → Q (.ref x) { s with heap := h', toks := tk }) :
    wpAny (model PySem.Challenge.rw_sa0618_01.row.prog w) (Ar dp un (some [env1]) gd) (call (.ref 129) [.ref fx, .ref rw, .ref rx]) Q E s := by
  have hK : ∃ k, k = (Mine.hd.heap_1 w.params) := ⟨_, rfl⟩
  revert hK
  k_fill
  w_top off
  intro hK
  refine wpAny_call ?_
  refine' enter_ret (binds := [(Str.ofString "frame", .ref fx), (Str.ofString "row", .ref rw), (Str.ofString "read", .ref rx)]) [(L1, o1)] G O ?kN ?k6 ?k7 ?k8 ?k9 ?kB ?_ ?c5 ?c2 ?c3 ?c4
  walk_at "mine enter"
  (case kN =>
    intro p hp
    rcases List.mem_singleton.mp hp with rfl
    exact ⟨hL1o, hL10⟩)
  intro g L h₁ eg eL F N l st X T
  have ho1 : ∀ vs, o1.data ≠ .fields vs := fun vs q => by
    obtain ⟨o', es, ep, q1, q2, _⟩ := hL1
    obtain rfl : o1 = o' := Option.some.inj (hL1o.symm.trans q1)
    rw [q2] at q; cases q
  have hg : ∀ b, b ≠ L1 → ∀ o, s.heap.get? b = some o → g.get? b = some o := fun b hb o e => by
    rw [eg]; exact hideAll_get _ e (by simpa using hb)
  have hgD : ∀ b o, s.heap.get? b = some o → (∀ es ep, o.data ≠ .dict es ep) → g.get? b = some o := fun b o e hn => hg b (fun z => by
    obtain ⟨o', es, ep, q1, q2, _⟩ := hL1
    rw [z, q1] at e
    exact hn es ep ((Option.some.inj e) ▸ q2)) o e
  have Ifg := inst_of (hg fx (nr fx (by simp)) _ If.at_) (hg dfx (nr dfx (by simp)) _ If.dict)
  have Iwg := inst_of (hg rw (nr rw (by simp)) _ Iw.at_) (hg drw (nr drw (by simp)) _ Iw.dict)
  have I1g : IDict w g frd f B1 := ⟨I1.1, I1.2.choose, hg frd (nr frd (by simp)) _ I1.2.choose_spec.1, I1.2.choose_spec.2⟩
  have I2g : IDict w g fsd fs B2 := ⟨I2.1, I2.2.choose, hg fsd (nr fsd (by simp)) _ I2.2.choose_spec.1, I2.2.choose_spec.2⟩
  have IMg : IDict w g mem fm B := ⟨IM.1, IM.2.choose, hg mem (nr mem (by simp)) _ IM.2.choose_spec.1, IM.2.choose_spec.2⟩
  have IRg : ReaderAt w g rx tI mem := IR.keepsD hgD
  have Irrg : RDict w g rrd ρ B0 := Irr.keepsD (hg rrd (nr rrd (by simp))) hgD
  clear If Iw I1 I2 IM IR Irr
  (show wpAny _ _ _ _ _ _)
  k_fold
  k_steps
  (with_reducible rename Fr _ _ _ _ => F1)
  (with_reducible rename News _ _ _ _ => N1)
  rename_i tk9 hh9 tk8 x dx rd sd or os t1 t2 t3 t4 y1 y2 ir is nrd nsd lx ldx hh8
  unfold Stop
  have iKL : ∃ items n od sl, (Mine.hd.heap_1 w.params).lookup 73 = some ⟨.type "tuple", od, .seq items n, sl⟩ ∧ IntsAre items.toList KL := ⟨_, _, _, _, by k_is, by repeat (first | exact .nil | refine .cons _ _ ?_)⟩
  obtain ⟨items, n73, od73, sl73, h73, iKL⟩ := iKL
  have hT73 : g.IsTuple 73 items := ⟨_, X _ _ h73, rfl, n73, rfl⟩
  have hsz : items.size = 15 := by have := iKL.length; simpa [KL] using this
  have hbase : ∀ b o, g.get? b = some o → b ∉ [rd, sd] := fun b o e => not_mem2 (fun q => by rw [q, (N1 _ (.head _)).2.2] at e; cases e) (fun q => by rw [q, (N1 _ (.tail _ (.head _))).2.2] at e; cases e)
  have nr6 : ∀ b ∈ [x, dx, fx, dfx, frd, fsd], b ∉ [rd, sd] := by
    intro b hb
    simp only [List.mem_cons, List.not_mem_nil, or_false] at hb
    rcases hb with h | h | h | h | h | h
    · rw [h]; exact not_mem2 nrd.2.1 nsd.1
    · rw [h]; exact not_mem2 nrd.2.2.1 nsd.2.1
    · rw [h]; exact hbase _ _ Ifg.at_
    · rw [h]; exact hbase _ _ Ifg.dict
    · rw [h]; exact hbase _ _ I1g.2.choose_spec.1
    · rw [h]; exact hbase _ _ I2g.2.choose_spec.1
  have hr0 : h₀.get? rd = none := none_of_keep st (N1 _ (.head _)).2.2
  have hs0 : h₀.get? sd = none := none_of_keep st (N1 _ (.tail _ (.head _))).2.2
  have hrs : @Ne Nat rd sd := fun q => nrd.1 q.symm
  refine loop_tuple [(rd, or), (sd, os), (L1, o1)] [(x, instObj 111 dx), (dx, callerD w fx rx rd sd t1 t2 t3 t4)] [] (fun i nx => ∃ or os, nx = [(rd, or), (sd, os), (L1, o1)] ∧ IDictO w or (foldR (res1 ρ f fs) (KL.take i) (fun _ => none)) i ∧ IDictO w os (foldS (res1 ρ f fs) (KL.take i) (fun _ => none)) i) rfl hT73 F1 ?_ ⟨or, os, rfl, ir, is⟩ ?_ ?_
  · intro p hp
    refine N1 p ?_
    simp only [List.cons_append, List.nil_append, List.mem_cons, List.not_mem_nil, or_false] at hp ⊢
    rcases hp with h | h | h | h | h <;> simp [h]
  · rintro I i v u nx h tk oI hi hv ⟨or', os', rfl, ir', is'⟩ hI hKI F2 N2
    obtain ⟨n, tn, hn, rfl⟩ := ints_at iKL (by rw [Array.getElem?_toList]; exact hv)
    simp only [List.cons_append, List.nil_append] at N2
    have hi' : i ≤ 15 := by omega
    clear F1 N1 ir is hv
    k_steps
    · refine TurnEnd.intro (oI := oI) [(rd, or'), (sd, os'), (L1, o1)] F2 N2 ⟨or', os', rfl, ?_, ?_⟩ (by walk_at "mine sub") (by walk_at "mine sub") hI (by walk_at "mine map")
      · rw [take_snoc hn, foldR_snoc, res1_none (by assumption)]; exact ir'.mono (Nat.le_succ _)
      · rw [take_snoc hn, foldS_snoc, res1_none (by assumption)]; exact is'.mono (Nat.le_succ _)
    · unfold Stop
      refine keep_spec (by walk_at "mine room") G (fun b o e => F2.keep _ _ (st b o e)) (inst_of (N2.get (by k_mem)) (N2.get (by k_mem))) (InstAt.keeps Ifg F2.keep) (I1g.keeps F2.keep) (I2g.keeps F2.keep) (N2.get (by k_mem)) hr0 (N2.get (by k_mem)) hs0 ir' is' (by omega) (by omega) hrs nr6 ?_
      intro h' tk' or2 os2 k' e1 e2 i1 i2
      have hIr : @Ne Nat I rd := fun q => hI _ (.head _) q.symm
      have hIs : @Ne Nat I sd := fun q => hI _ (.tail _ (.head _)) q.symm
      obtain ⟨F3, N3⟩ := two_keep F2 N2 k' e1 e2 ⟨nrd.2.2.2, hIr, nrd.2.1, nrd.2.2.1, trivial⟩ ⟨nsd.2.2, hIs, nsd.1, nsd.2.1, trivial⟩
      k_steps
      refine TurnEnd.intro (oI := oI) [(rd, or2), (sd, os2), (L1, o1)] F3 N3 ⟨or2, os2, rfl, ?_, ?_⟩ (by walk_at "mine sub") (by walk_at "mine sub") (fun p hp => ?_) (by walk_at "mine map")
      · rw [take_snoc hn, foldR_snoc, res1_some (by assumption)]; exact i1
      · rw [take_snoc hn, foldS_snoc, res1_some (by assumption)]; exact i2
      · simp only [List.mem_cons, List.not_mem_nil, or_false] at hp
        rcases hp with h | h | h
        · rw [h]; exact hIr.symm
        · rw [h]; exact hIs.symm
        · rw [h]; exact hI _ (.tail _ (.tail _ (.head _)))
  · rintro u nx h tk ⟨or', os', rfl, ir', is'⟩ F2 N2
    simp only [List.cons_append, List.nil_append] at N2
    rw [hsz] at ir' is'
    clear F1 N1 ir is
    k_steps
    all_goals
      rename_i D vs ns c h2 tk2 F4 N4 iv hns hnd hln lD
      unfold Stop
      have hmid : ∃ orm, News g L h2 [(D, listOf vs.toArray c), (rd, orm), (sd, os'), (L1, o1), (x, instObj 111 dx), (dx, callerD w fx rx rd sd t1 t2 t3 t4)] ∧ IDictO w orm (midR ρ cfa (foldR (res1 ρ f fs) (KL.take 15) (fun _ => none))) 16 := by
        first
        | exact ⟨_, N4, by rw [mid_t (by assumption)]; exact ir'.mono (Nat.le_succ _)⟩
        | exact ⟨_, N4, by rw [mid_f (by assumption)]; assumption⟩
      obtain ⟨orm, N5, irm⟩ := hmid
      have ism := is'.mono (Nat.le_succ 15)
      (try clear N4); (try clear F2); (try clear N2); (try clear ir'); (try clear is')
      have hlen : vs.toArray.size = ns.length := by rw [List.size_toArray]; exact iv.length
      have lD' : (@Ne Nat rd D) ∧ (@Ne Nat sd D) ∧ (@Ne Nat L1 D) ∧ (@Ne Nat x D) ∧ (@Ne Nat dx D) := ⟨Nat.ne_of_lt lD.1, Nat.ne_of_lt lD.2.1, Nat.ne_of_lt lD.2.2.1, Nat.ne_of_lt lD.2.2.2.1, Nat.ne_of_lt lD.2.2.2.2⟩
      refine loop_list (c := c) [(rd, orm), (sd, os'), (L1, o1)] [(D, listOf vs.toArray c), (x, instObj 111 dx), (dx, callerD w fx rx rd sd t1 t2 t3 t4)] [] (fun i nx => ∃ or os sl, nx = [(rd, or), (sd, os), (L1, { o1 with slots := sl })] ∧ IDictO w or (foldR (res2 ρ f fs fm cfa) (ns.take i) (midR ρ cfa (foldR (res1 ρ f fs) (KL.take 15) (fun _ => none)))) (16 + i) ∧ IDictO w os (foldS (res2 ρ f fs fm cfa) (ns.take i) (foldS (res1 ρ f fs) (KL.take 15) (fun _ => none))) (16 + i)) rfl (.head _) F4 ?_ ⟨orm, os', o1.slots, rfl, irm, ism⟩ ?_ ?_
      · intro p hp
        refine N5 p ?_
        simp only [List.cons_append, List.nil_append, List.mem_cons, List.not_mem_nil, or_false] at hp ⊢
        rcases hp with h | h | h | h | h | h <;> simp [h]
      · rintro I i v u nx h tk oI hi hv ⟨or3, os3, sl3, rfl, ir3, is3⟩ hI hKI F2 N2
        obtain ⟨n, tn, hn, rfl⟩ := ints_at iv (by simpa using hv)
        simp only [List.cons_append, List.nil_append] at N2
        have hi' : i < ns.length := by omega
        have hmem : (ρ n).isSome = true := (hns n).mp (List.mem_of_getElem? hn)
        obtain ⟨⟨kd, rv⟩, er⟩ := Option.isSome_iff_exists.mp hmem
        clear N5 irm ism hv
        k_steps
        rename_i a9 tk9 tv9 n9 ha9 hT9
        unfold Stop
        have hIr : @Ne Nat I rd := fun q => hI _ (.head _) q.symm
        have hIs : @Ne Nat I sd := fun q => hI _ (.tail _ (.head _)) q.symm
        have hI1 : @Ne Nat I L1 := fun q => hI _ (.tail _ (.tail _ (.head _))) q.symm
        have ha8 : a9 ∉ [rd, sd] := not_mem2 (fun q => by
          have e := N2.get (by k_mem : (rd, or3) ∈ _)
          rw [← q] at e
          obtain ⟨es, ep, z⟩ := ir3.data
          rw [show h.get? a9 = _ from ha9] at e
          rw [← Option.some.inj e] at z; cases z) (fun q => by
          have e := N2.get (by k_mem : (sd, os3) ∈ _)
          rw [← q] at e
          obtain ⟨es, ep, z⟩ := is3.data
          rw [show h.get? a9 = _ from ha9] at e
          rw [← Option.some.inj e] at z; cases z)
        refine follow_spec (by walk_at "mine room") G (fun b o e => F2.keep _ _ (st b o e)) (inst_of (N2.get (by k_mem)) (N2.get (by k_mem))) (InstAt.keeps Ifg F2.keep) (I1g.keeps F2.keep) (I2g.keeps F2.keep) (IRg.keeps F2.keep) (IMg.keeps F2.keep) hf (N2.get (by k_mem)) hr0 (N2.get (by k_mem)) hs0 ir3 is3 (by omega) (by omega) ha9 hrs (ffr_two (by intro q; cases q) rfl F2.ns hek hef (N2.get (by k_mem)) (fun vs q => ?_)) ?_ ?_ ?_
        · exact ho1 vs q
        · intro b hb
          rcases frs_cons hb with q | q
          · obtain rfl : L = b := Option.some.inj q
            exact ⟨none_of_keep st (Heap.get?_none_of_le F2.above), fun z => (N2 _ (.head _)).2.1 z.symm, fun z => (N2 _ (.tail _ (.head _))).2.1 z.symm⟩
          · rcases frs_cons q with q | q
            · obtain rfl : L1 = b := Option.some.inj (hef.symm.trans q)
              exact ⟨hL10, nrd.2.2.2, nsd.2.2⟩
            · cases q
        · intro b hb
          simp only [List.mem_cons, List.not_mem_nil, or_false] at hb
          rcases hb with h | h | h | h | h | h | h | h
          · rw [h]; exact nr6 x (by simp)
          · rw [h]; exact nr6 dx (by simp)
          · rw [h]; exact nr6 fx (by simp)
          · rw [h]; exact nr6 dfx (by simp)
          · rw [h]; exact nr6 frd (by simp)
          · rw [h]; exact nr6 fsd (by simp)
          · rw [h]; exact hbase _ _ IMg.2.choose_spec.1
          · rw [h]; exact ha8
        · intro h' tk' or2 os2 k' e1 e2 i1 i2
          dsimp only at k'
          obtain ⟨sl', F3, N3⟩ := two_keepF rfl hef F2 N2 k' e1 e2 ⟨nrd.2.2.2, hIr, lD'.1.symm, nrd.2.1, nrd.2.2.1, trivial⟩ ⟨nsd.2.2, hIs, lD'.2.1.symm, nsd.1, nsd.2.1, trivial⟩ ⟨hI1, lD'.2.2.1.symm, Nat.ne_of_gt (Nat.lt_trans lx ldx), Nat.ne_of_gt lx, trivial⟩
          k_steps
          refine TurnEnd.intro (oI := oI) [(rd, or2), (sd, os2), (L1, { o1 with slots := sl' })] F3 N3 ⟨or2, os2, sl', rfl, ?_, ?_⟩ (by walk_at "mine sub") (by walk_at "mine sub") (fun p hp => ?_) (by walk_at "mine map")
          · rw [take_snoc hn, foldR_snoc, show res2 ρ f fs fm cfa n = knownBy f fs fm cfa n (kd, rv) from by unfold res2; rw [rule_some er]]; exact i1
          · rw [take_snoc hn, foldS_snoc, show res2 ρ f fs fm cfa n = knownBy f fs fm cfa n (kd, rv) from by unfold res2; rw [rule_some er]]; exact i2
          · simp only [List.mem_cons, List.not_mem_nil, or_false] at hp
            rcases hp with h | h | h
            · rw [h]; exact hIr.symm
            · rw [h]; exact hIs.symm
            · rw [h]; exact hI1.symm
      · rintro u nx h tk ⟨or3, os3, sl3, rfl, ir3, is3⟩ F2 N2
        simp only [List.cons_append, List.nil_append] at N2
        rw [hlen, List.take_length, show KL.take 15 = KL from rfl] at ir3 is3
        rw [finR_eq hns hc0 hc1] at ir3
        rw [finS_eq hns] at is3
        k_steps
        (with_reducible rename Fr _ _ _ _ => F9)
        (with_reducible rename News _ _ _ _ => N9)
        have N8 := N9
        rw [eg] at N8
        refine hQ _ _ x dx rd sd or3 os3 t1 t2 t3 t4 (fun b o _ e => ?_) (N9.get (by k_mem)) (N9.get (by k_mem)) (fresh_of N8 (by k_mem) (not_mem1 (Nat.ne_of_gt (Nat.lt_trans lx ldx)))) (fresh_of N8 (by k_mem) (not_mem1 (Nat.ne_of_gt lx))) (N9.get (by k_mem)) (N9.get (by k_mem)) (fresh_of N8 (by k_mem) (not_mem1 (fun q => nrd.2.2.2 q.symm))) (fresh_of N8 (by k_mem) (not_mem1 (fun q => nsd.2.2 q.symm))) y1 y2 (ir3.mono (by omega)) (is3.mono (by omega))
        by_cases hb : b = L1
        · subst hb
          obtain rfl : o1 = o := Option.some.inj (hL1o.symm.trans e)
          exact ⟨sl3, N9.get (by k_mem), fun q => absurd (List.mem_filterMap.mpr ⟨env1, .head _, hef⟩) q⟩
        · exact ⟨o.slots, F9.keep _ _ (hg b hb o e), fun _ => rfl⟩
end Mine
end
end
end
namespace Mine
theorem valueAt_mem {kvs : List (Int × Value)} (hn : (kvs.map (·.1)).Nodup) {k : Int} {v : Value} (hm : (k, v) ∈ kvs) : valueAt kvs k = some v := by
  induction kvs with
  | nil => cases hm
  | cons a r ih =>
    rw [valueAt_cons]
    rw [List.map_cons, List.nodup_cons] at hn
    rcases List.mem_cons.mp hm with e | h
    · subst e; rw [if_pos rfl]
    · rw [if_neg (fun q => hn.1 (List.mem_map.mpr ⟨(k, v), h, q.symm⟩))]
      exact ih hn.2 h
theorem valueAt_key {kvs : List (Int × Value)} {k : Int} : (k ∈ kvs.map (·.1)) ↔ (valueAt kvs k).isSome = true := by
  rw [← any_iff, List.any_eq_true, List.mem_map]
  constructor
  · rintro ⟨a, ha, rfl⟩; exact ⟨a, ha, by simp⟩
  · rintro ⟨a, ha, q⟩; exact ⟨a, ha, by simpa using q⟩
section
variable {w : World} {A : Around} {E : Value → Shared → Prop} {s : Shared} {a b : Addr} {f : Int → Option Int} {B1 B2 : Nat} {Q : Value → Shared → Prop}
theorem hits_ints {kb : List (Int × Value)} (ib : IntsAt kb f) : ∀ {sub : List (Int × Value)}, (∀ k v, (k, v) ∈ sub → ∃ i t, v = .int i t ∧ f k = some i) → KeqHits A s kb sub true
  | [], _ => .nil
  | (k, v) :: r, h => by
    obtain ⟨i, t, rfl, e⟩ := h k v (.head _)
    obtain ⟨t', e'⟩ := ib.at_ e
    have z := KeqHits.hit (A := A) (s := s) (k := k) (v := .int i t) (e := true) e' (by
      have := keq_flat (A := A) (s := s) (PyProof.V.Flat.int i t) (PyProof.V.Flat.int i t')
      rw [show PyData.eqv (.int i) (.int i) = true from by simp [PyData.eqv]] at this
      exact this) (hits_ints ib (sub := r) fun k' v' hm => h k' v' (.tail _ hm))
    simpa using z
theorem idict_ne (I1 : IDict w s.heap a f B1) (I2 : IDict w s.heap b f B2) (hu : A.units < cLine) (h : Q (.bool false) s) : wpAny (model PySem.Challenge.rw_sa0618_01.row.prog w) A (compareOp .NotEq (.ref a) (.ref b)) Q E s := by
  obtain ⟨la, oa, ea, ka, da, ia, _⟩ := I1
  obtain ⟨lb, ob, eb, kb, db, ib, _⟩ := I2
  have na : (ka.map (·.1)).Nodup := by obtain ⟨_, _, _, _, _, _, z⟩ := da; exact z
  have nb : (kb.map (·.1)).Nodup := by obtain ⟨_, _, _, _, _, _, z⟩ := db; exact z
  have hp : (ka.map (·.1)).Perm (kb.map (·.1)) := (List.perm_ext_iff_of_nodup na nb).mpr fun k => by rw [valueAt_key, valueAt_key, ia.isSome, ib.isSome]
  have hl : ka.length = kb.length := by have := hp.length_eq; simpa using this
  refine keq_ne (knd := intKind PySem.Challenge.rw_sa0618_01.row.prog w) la lb (Heap.dictOf_iff.mpr ⟨oa, ea, da⟩) (Heap.dictOf_iff.mpr ⟨ob, eb, db⟩) hu (fun _ => hits_ints ib fun k v hm => ?_) (r := true) (by rw [hl]; simpa using h)
  have e := valueAt_mem na hm
  have := ia k
  cases q : f k with
  | none => rw [q] at this; rw [this] at e; cases e
  | some i => rw [q] at this; obtain ⟨t, z⟩ := this; rw [z] at e; exact ⟨i, t, (Option.some.inj e).symm, rfl⟩
theorem hits_same {kb : List (Int × Value)} : ∀ {sub : List (Int × Value)}, (∀ k v, (k, v) ∈ sub → valueAt kb k = some v) → KeqHits A s kb sub true
  | [], _ => .nil
  | (k, v) :: r, h => by
    have z := KeqHits.hit (A := A) (s := s) (k := k) (v := v) (e := true) (h k v (.head _)) (SeqAt.EqAt.same v) (hits_same (sub := r) fun k' v' hm => h k' v' (.tail _ hm))
    simpa using z
theorem rules_ne {oa ob : Obj} {kvs : List (Int × Value)} (la : (a == sysModules) = false) (lb : (b == sysModules) = false) (ea : s.heap.get? a = some oa) (eb : s.heap.get? b = some ob) (da : oa.IsDictOf (intKind PySem.Challenge.rw_sa0618_01.row.prog w) kvs) (db : ob.IsDictOf (intKind PySem.Challenge.rw_sa0618_01.row.prog w) kvs) (hu : A.units < cLine) (h : Q (.bool false) s) :
    wpAny (model PySem.Challenge.rw_sa0618_01.row.prog w) A (compareOp .NotEq (.ref a) (.ref b)) Q E s := by
  have na : (kvs.map (·.1)).Nodup := by obtain ⟨_, _, _, _, _, _, z⟩ := da; exact z
  exact keq_ne (knd := intKind PySem.Challenge.rw_sa0618_01.row.prog w) la lb (Heap.dictOf_iff.mpr ⟨oa, ea, da⟩) (Heap.dictOf_iff.mpr ⟨ob, eb, db⟩) hu (fun _ => hits_same fun k v hm => valueAt_mem na hm) (r := true) (by simpa using h)
end
end Mine
namespace Mine
section
variable {w : World} {A : Around} {E : Value → Shared → Prop} {s : Shared} {g : Heap} {L d : Addr} {m : Str → Option Value} {news : List (Addr × Obj)} {Q : Value → Shared → Prop}
theorem copy_core {kvs : List (Int × Value)} {o : Obj} (F : Fr g L s.heap m) (N : News g L s.heap news) (lo : (d == sysModules) = false) (hsy : sysModules < s.heap.objs.size) (eo : s.heap.get? d = some o) (hd : o.IsDictOf (intKind PySem.Challenge.rw_sa0618_01.row.prog w) kvs) (hB : kvs.length ≤ 1000)
    (h : ∀ h' D o', Fr g L h' m → News g L h' ((D, o') :: news) → (∀ p ∈ news, p.1 < D) → (D == sysModules) = false → o'.IsDictOf (intKind PySem.Challenge.rw_sa0618_01.row.prog w) kvs → Q (.ref D) { s with heap := h' }) :
    wpAny (model PySem.Challenge.rw_sa0618_01.row.prog w) A (call (.type "dict") [.ref d]) Q E s := by
  refine kt_call_dict (knd := intKind PySem.Challenge.rw_sa0618_01.row.prog w) lo (Heap.dictOf_iff.mpr ⟨o, eo, hd⟩) (by rw [sizeLine_eq]; omega) fun h' hD hs => ?_
  obtain ⟨o', ho', hd'⟩ := Heap.dictOf_iff.mp hD
  have kk : ∀ b ob, s.heap.get? b = some ob → h'.get? b = some ob := fun b ob e => (hs.2 b (Nat.ne_of_lt (Heap.lt_size e))).trans (Heap.get?_push_of_some _ e)
  refine h h' _ o' (F.keeps kk) (news_add F (fun p hp => ⟨kk _ _ (N p hp).1, (N p hp).2⟩) (Heap.get?_none_of_le (Nat.le_refl _)) ho') (fun p hp => Heap.lt_size (N p hp).1) ?_ hd'
  exact beq_eq_false_iff_ne.mpr (Nat.ne_of_gt hsy)
theorem big_of {o : Obj} (X : (Mine.hd.heap_1 w.params).In s.heap) (e : (Mine.hd.heap_1 w.params).lookup 234 = some o) : sysModules < s.heap.objs.size := Nat.lt_of_le_of_lt (by decide) (Heap.lt_size (X _ _ e))
theorem icopy_K {f : Int → Option Int} {B : Nat} (F : Fr g L s.heap m) (N : News g L s.heap news) (hsy : sysModules < s.heap.objs.size) (I : IDict w s.heap d f B) (hB : B ≤ 1000)
    (h : ∀ h' D o', Fr g L h' m → News g L h' ((D, o') :: news) → (∀ p ∈ news, p.1 < D) → (D == sysModules) = false → IDictO w o' f B → Q (.ref D) { s with heap := h' }) :
    wpAny (model PySem.Challenge.rw_sa0618_01.row.prog w) A (call (.type "dict") [.ref d]) Q E s := by
  obtain ⟨lo, o, eo, kvs, hd, hi, hl⟩ := I
  exact copy_core F N lo hsy eo hd (by omega) fun h' D o' F' N' l1 y1 d1 => h h' D o' F' N' l1 y1 ⟨kvs, d1, hi, hl⟩
end
end Mine
namespace Mine
section
variable {w : World} {mean : ExcName → Option Value} {mg mb : Str → Option Value} {g : Heap} {L : Addr} {m : Str → Option Value} {news : List (Addr × Obj)} {u : Obj → List (Addr × Obj)} {dp un : Nat} {fr : Option (List Env)} {gd : Option (List Code)} {s : Shared} {Q E : Value → Shared → Prop}
variable {wl c : Addr} {p q : Int} {tp tq : Tok} {n : Nat}
theorem addrs_of {d : Addr} {o : Obj} {l : List (Addr × Obj)} (U : UpdF d o l u) {a : Addr} (o' : Obj) (h : AllNe a l) : AllNe a (u o') := by
  obtain ⟨pre, post, rfl, hg, z1, z2⟩ := U.split
  rw [hg]
  clear U hg z1 z2
  induction pre with
  | nil => exact ⟨h.1, h.2⟩
  | cons x r ih => exact ⟨h.1, ih h.2⟩
theorem memory_K (F : Fr g L s.heap m) (N : News g L s.heap news) (X : (Mine.hd.heap_1 w.params).In g) (T : Top topProg (looseW Mine.view [Str.ofString "ROUND"] ++ List.map (fun x => x.name) (recsOf Mine.view) ++ List.map (fun x => x.fst) (litsOf Mine.view) ++ List.map (fun x => x.name) (clssOf Mine.view (looseW Mine.view [Str.ofString "ROUND"]))) mean mg mb g) (U : UpdF wl (wellO c p tp q tq n) news u) (hc : Cells s.heap c) (hroom : dp < 800)
    (hp : 0 ≤ p) (hq0 : 0 ≤ q) (hq1 : q < 1009)
    (hQ : ∀ h' base tb t0 mem om f p' tp' q' tq' tk, Fr g L h' m → News g L h' ((t0, { cls := .type "tuple", data := .seq [Value.int base tb, .ref mem].toArray }) :: (mem, om) :: u (wellO c p' tp' q' tq' n)) → AllNe t0 ((mem, om) :: news) → AllNe mem news → 0 ≤ p' → 0 ≤ q' → q' < 1009 → (base = 4096 ∨ base = 4294967272) →
      (mem == sysModules) = false → IDictO w om f 40 → (∀ k i, f k = some i → 0 ≤ i ∧ i < 256) → Q (.ref t0) { s with heap := h', toks := tk }) :
    wpAny (model PySem.Challenge.rw_sa0618_01.row.prog w) (Ar dp un fr gd) (call (.ref 201) [.ref wl]) Q E s := by
  have hm := N _ (updF_mem U)
  refine memory_spec hroom ⟨X, T⟩ F.keep hm.1 hm.2.2 hc hp hq0 hq1 fun h' base tb t0 mem om f p' tp' q' tq' tk k e1 b1 b2 b3 hb ht tn mn em hy io hf => ?_
  have N1 := news_updF N U k e1
  have ne : @Ne Nat mem t0 := fun z => by
    rw [z, ht] at em
    have := IDictO.cls io
    rw [← Option.some.inj em] at this; simp at this
  exact hQ h' base tb t0 mem om f p' tp' q' tq' tk (fr_upd F N U k) (news_add F (news_add F N1 mn em) tn ht) ⟨ne, allNe_none tn fun x hx => (N x hx).1⟩ (allNe_none mn fun x hx => (N x hx).1) b1 b2 b3 hb hy io hf
theorem first_K {mem : Addr} {base : Int} {tb : Tok} {fm : Int → Option Int} {B : Nat} (F : Fr g L s.heap m) (N : News g L s.heap news) (X : (Mine.hd.heap_1 w.params).In g) (T : Top topProg (looseW Mine.view [Str.ofString "ROUND"] ++ List.map (fun x => x.name) (recsOf Mine.view) ++ List.map (fun x => x.fst) (litsOf Mine.view) ++ List.map (fun x => x.name) (clssOf Mine.view (looseW Mine.view [Str.ofString "ROUND"]))) mean mg mb g) (U : UpdF wl (wellO c p tp q tq n) news u) (hc : Cells s.heap c) (IM : IDict w s.heap mem fm B) (hf : ∀ k i, fm k = some i → 0 ≤ i ∧ i < 256) (hmw : @Ne Nat mem wl) (hroom : dp < 750)
    (hp : 0 ≤ p) (hq0 : 0 ≤ q) (hq1 : q < 1009)
    (hQ : ∀ h' t0 hd pd oh op f fs p' tp' q' tq' tk, Fr g L h' m → News g L h' ((t0, { cls := .type "tuple", data := .seq [Value.ref hd, .ref pd].toArray }) :: (hd, oh) :: (pd, op) :: u (wellO c p' tp' q' tq' n)) → AllNe t0 ((hd, oh) :: (pd, op) :: news) → AllNe hd ((pd, op) :: news) → AllNe pd news → 0 ≤ p' → 0 ≤ q' → q' < 1009 →
      (hd == sysModules) = false → (pd == sysModules) = false → IDictO w oh f 36 → IDictO w op fs 36 → Inv fm f fs → Q (.ref t0) { s with heap := h', toks := tk }) :
    wpAny (model PySem.Challenge.rw_sa0618_01.row.prog w) (Ar dp un fr gd) (call (.ref 215) [.ref wl, .int base tb, .ref mem]) Q E s := by
  have hm := N _ (updF_mem U)
  refine first_spec hroom ⟨X, T⟩ F.keep hm.1 hm.2.2 hc hp hq0 hq1 IM hmw hf fun h' t0 hd pd oh op f fs p' tp' q' tq' tk k e1 b1 b2 b3 ht tn hn pn hne y1 y2 eh ep ih ip hI => ?_
  have N1 := news_updF N U k e1
  have c1 : @Ne Nat hd t0 := fun z => by
    rw [z, ht] at eh
    have := IDictO.cls ih
    rw [← Option.some.inj eh] at this; simp at this
  have c2 : @Ne Nat pd t0 := fun z => by
    rw [z, ht] at ep
    have := IDictO.cls ip
    rw [← Option.some.inj ep] at this; simp at this
  exact hQ h' t0 hd pd oh op f fs p' tp' q' tq' tk (fr_upd F N U k) (news_add F (news_add F (news_add F N1 pn ep) hn eh) tn ht) ⟨c1, c2, allNe_none tn fun x hx => (N x hx).1⟩ ⟨hne.symm, allNe_none hn fun x hx => (N x hx).1⟩ (allNe_none pn fun x hx => (N x hx).1) b1 b2 b3 y1 y2 ih ip hI
theorem cfa0_K {hd : Addr} (F : Fr g L s.heap m) (N : News g L s.heap news) (X : (Mine.hd.heap_1 w.params).In g) (T : Top topProg (looseW Mine.view [Str.ofString "ROUND"] ++ List.map (fun x => x.name) (recsOf Mine.view) ++ List.map (fun x => x.fst) (litsOf Mine.view) ++ List.map (fun x => x.name) (clssOf Mine.view (looseW Mine.view [Str.ofString "ROUND"]))) mean mg mb g) (hroom : dp < 800)
    (hQ : ∀ h' tk, Fr g L h' m → News g L h' news → Q .none { s with heap := h', toks := tk }) :
    wpAny (model PySem.Challenge.rw_sa0618_01.row.prog w) (Ar dp un fr gd) (call (.ref 122) [.none, .ref hd]) Q E s :=
  cfa_spec0 hroom ⟨X, T⟩ F.keep fun h' tk k => hQ h' tk (fr_keeps F k (by simp) (by simp)) (news_keeps N k (by simp))
theorem cfa_K {rw drw hd : Addr} {a cv r : Value} {t1 t2 t3 : Tok} {by' : Option (Int × Int)} {f : Int → Option Int} {B : Nat} (F : Fr g L s.heap m) (N : News g L s.heap news) (X : (Mine.hd.heap_1 w.params).In g) (T : Top topProg (looseW Mine.view [Str.ofString "ROUND"] ++ List.map (fun x => x.name) (recsOf Mine.view) ++ List.map (fun x => x.fst) (litsOf Mine.view) ++ List.map (fun x => x.name) (clssOf Mine.view (looseW Mine.view [Str.ofString "ROUND"]))) mean mg mb g) (Ir : InstAt s.heap rw (instObj 146 drw) 146 (some (rowD w a cv r t1 t2 t3))) (hb : ByAt s.heap cv by') (I : IDict w s.heap hd f B) (hroom : dp < 800)
    (hQ : ∀ h' tk v, Fr g L h' m → News g L h' news → OptAt (cfaOf by' f) v → Q v { s with heap := h', toks := tk }) :
    wpAny (model PySem.Challenge.rw_sa0618_01.row.prog w) (Ar dp un fr gd) (call (.ref 122) [.ref rw, .ref hd]) Q E s :=
  cfa_spec hroom ⟨X, T⟩ F.keep Ir hb I fun h' tk v k o => hQ h' tk v (fr_keeps F k (by simp) (by simp)) (news_keeps N k (by simp)) o
theorem known_K {rd hd pd mem : Addr} {ρ : Int → Option (Kd × Int)} {f fs fm : Int → Option Int} {B1 B2 B3 B4 : Nat} {reg cfa : Int} {tr tc : Tok} (F : Fr g L s.heap m) (N : News g L s.heap news) (X : (Mine.hd.heap_1 w.params).In g) (T : Top topProg (looseW Mine.view [Str.ofString "ROUND"] ++ List.map (fun x => x.name) (recsOf Mine.view) ++ List.map (fun x => x.fst) (litsOf Mine.view) ++ List.map (fun x => x.name) (clssOf Mine.view (looseW Mine.view [Str.ofString "ROUND"]))) mean mg mb g)
    (IR : RDict w s.heap rd ρ B1) (IH : IDict w s.heap hd f B2) (IP : IDict w s.heap pd fs B3) (IM : IDict w s.heap mem fm B4) (hf : ∀ k i, fm k = some i → 0 ≤ i ∧ i < 256) (hf1 : f (-1) = none) (hroom : dp < 800)
    (h0 : ∀ h' tk, Fr g L h' m → News g L h' news → res2 ρ f fs fm cfa reg = none → Q .none { s with heap := h', toks := tk })
    (h1 : ∀ h' tk t x tx, Fr g L h' m → News g L h' ((t, { cls := .type "tuple", data := .seq [Value.int x tx, .none].toArray }) :: news) → AllNe t news → res2 ρ f fs fm cfa reg = some (x, none) → Q (.ref t) { s with heap := h', toks := tk })
    (h2 : ∀ h' tk t x tx y ty, Fr g L h' m → News g L h' ((t, { cls := .type "tuple", data := .seq [Value.int x tx, .int y ty].toArray }) :: news) → AllNe t news → res2 ρ f fs fm cfa reg = some (x, some y) → Q (.ref t) { s with heap := h', toks := tk }) :
    wpAny (model PySem.Challenge.rw_sa0618_01.row.prog w) (Ar dp un fr gd) (call (.ref 229) [.int reg tr, .ref rd, .int cfa tc, .ref hd, .ref pd, .ref mem]) Q E s := by
  refine known_spec hroom ⟨X, T⟩ F.keep IR IH IP IM hf hf1 fun h' v tk k r => ?_
  have F' := fr_keeps F k (by simp) (by simp)
  have N' := news_keeps N k (by simp)
  cases e : knownBy f fs fm cfa reg (ruleOf ρ reg) with
  | none =>
    rw [e] at r
    obtain rfl : v = .none := r
    exact h0 h' tk F' N' e
  | some xy =>
    obtain ⟨x, y⟩ := xy
    rw [e] at r
    obtain ⟨t, tx, vy, rfl, ht, tn, ho⟩ := r
    cases y with
    | none =>
      obtain rfl : vy = .none := ho
      exact h1 h' tk t x tx F' (news_add F N' tn ht) (allNe_none tn fun x hx => (N x hx).1) e
    | some y =>
      obtain ⟨ty, rfl⟩ := ho
      exact h2 h' tk t x tx y ty F' (news_add F N' tn ht) (allNe_none tn fun x hx => (N x hx).1) e
theorem row_K (F : Fr g L s.heap m) (N : News g L s.heap news) (X : (Mine.hd.heap_1 w.params).In g) (T : Top topProg (looseW Mine.view [Str.ofString "ROUND"] ++ List.map (fun x => x.name) (recsOf Mine.view) ++ List.map (fun x => x.fst) (litsOf Mine.view) ++ List.map (fun x => x.name) (clssOf Mine.view (looseW Mine.view [Str.ofString "ROUND"]))) mean mg mb g) (U : UpdF wl (wellO c p tp q tq n) news u) (hc : Cells s.heap c) (hroom : dp < 750)
    (hp : 0 ≤ p) (hq0 : 0 ≤ q) (hq1 : q < 1009)
    (h0 : ∀ h' t0 rd o kvs tups ρ p' tp' q' tq' tk, Fr g L h' m → News g L h' ((t0, { cls := .type "tuple", data := .seq [Value.none, .ref rd].toArray }) :: (rd, o) :: (u (wellO c p' tp' q' tq' n) ++ tups)) → AllNe t0 ((rd, o) :: news) → AllNe rd news → 0 ≤ p' → 0 ≤ q' → q' < 1009 →
      (rd == sysModules) = false → IDl w o kvs → RulesAt kvs tups ρ → kvs.length ≤ 5 → (∀ k, (ρ k).isSome = true → 0 ≤ k ∧ k < 32) → (∀ y ∈ tups, y.1 ≠ wl) → (∀ y ∈ tups, s.heap.get? y.1 = none) → Q (.ref t0) { s with heap := h', toks := tk })
    (h1 : ∀ h' t0 bt br bo tr to rd o kvs tups ρ p' tp' q' tq' tk, Fr g L h' m → News g L h' ((t0, { cls := .type "tuple", data := .seq [Value.ref bt, .ref rd].toArray }) :: (rd, o) :: (bt, { cls := .type "tuple", data := .seq [Value.int br tr, .int bo to].toArray }) :: (u (wellO c p' tp' q' tq' n) ++ tups)) → AllNe t0 ((rd, o) :: news) → AllNe rd news → AllNe bt ((rd, o) :: news) → 0 ≤ p' → 0 ≤ q' → q' < 1009 →
      (rd == sysModules) = false → IDl w o kvs → RulesAt kvs tups ρ → kvs.length ≤ 5 → (∀ k, (ρ k).isSome = true → 0 ≤ k ∧ k < 32) → (∀ y ∈ tups, y.1 ≠ wl) → (∀ y ∈ tups, s.heap.get? y.1 = none) → Q (.ref t0) { s with heap := h', toks := tk }) :
    wpAny (model PySem.Challenge.rw_sa0618_01.row.prog w) (Ar dp un fr gd) (call (.ref 222) [.ref wl]) Q E s := by
  have hm := N _ (updF_mem U)
  refine row_spec hroom ⟨X, T⟩ F.keep hm.1 hm.2.2 hc hp hq0 hq1 fun h' t0 byv by' rd o kvs tups ρ p' tp' q' tq' tk k e1 b1 b2 b3 ht tn hb er rn y1 hI hR hl hρ htu => ?_
  have N1 := news_updF N U k e1
  have N2 : News g L h' (u (wellO c p' tp' q' tq' n) ++ tups) := fun y hy => by
    rcases List.mem_append.mp hy with z | z
    · exact N1 y z
    · exact news_add F News.nil (htu y z).2 (htu y z).1 y (.head _)
  have F' := fr_upd F N U k
  have c1 : @Ne Nat rd t0 := fun z => by
    rw [z, ht] at er
    have := hI.cls
    rw [← Option.some.inj er] at this; simp at this
  have hw : ∀ y ∈ tups, y.1 ≠ wl := fun y hy z => by
    have := (htu y hy).2
    rw [z, hm.1] at this; cases this
  have a0 := allNe_none tn fun x hx => (N x hx).1
  have a1 := allNe_none rn fun x hx => (N x hx).1
  cases by' with
  | none =>
    obtain rfl : byv = .none := hb
    exact h0 h' t0 rd o kvs tups ρ p' tp' q' tq' tk F' (news_add F (news_add F N2 rn er) tn ht) ⟨c1, a0⟩ a1 b1 b2 b3 y1 hI hR hl hρ hw fun y hy => (htu y hy).2
  | some ro =>
    obtain ⟨br, bo⟩ := ro
    obtain ⟨bt, tr, to, rfl, eb, bn⟩ := hb
    have c2 : @Ne Nat rd bt := fun z => by
      rw [z, eb] at er
      have := hI.cls
      rw [← Option.some.inj er] at this; simp at this
    exact h1 h' t0 bt br bo tr to rd o kvs tups ρ p' tp' q' tq' tk F' (news_add F (news_add F (news_add F N2 bn eb) rn er) tn ht) ⟨c1, a0⟩ a1 ⟨c2, allNe_none bn fun x hx => (N x hx).1⟩ b1 b2 b3 y1 hI hR hl hρ hw fun y hy => (htu y hy).2
theorem cells_news {ys : List Value} {l : List Int} (N : News g L s.heap news) (hm : (c, LCg.lst ys) ∈ news) (hi : IntsAre ys (List.map (fun k => k.fmod 1000003) (List.take 63 l))) : Cells s.heap c := by
  refine ⟨ys, _, ⟨_, N.get hm, rfl, _, rfl⟩, hi, fun n hn => ?_, ?_⟩
  · obtain ⟨k, _, rfl⟩ := List.mem_map.mp hn
    exact ⟨fmod_lo _ (by omega), fmod_hi _ (by omega)⟩
  · rw [List.length_map]; exact Nat.le_trans (List.length_take_le _ _) (Nat.le_refl _)
end
end Mine
namespace Mine
open LCg LCt
section
variable {w : World} {A : Around} {E : Value → Shared → Prop} {s : Shared} {h₀ : Heap} {L : Addr} {m : Str → Option Value} {env : Env}
def CompTurnD (w : World) (A : Around) (h₀ : Heap) (L : Addr) (m : Str → Option Value) (env : Env) (ct : Expr) (x : Str) (scope : Scope) (cl : List (Str × Addr)) (s : Shared) (kvs : List (Int × Value)) (news : List (Addr × Obj)) : Prop :=
  ∀ k y v I oI C oC D m₂ h tk (E' : Value → Shared → Prop), (k, y) ∈ kvs → (intKind PySem.Challenge.rw_sa0618_01.row.prog w).is k v = true → NsObj oC m₂ → m₂ x = some v → Fr h₀ L h m → News h₀ L h ((I, oI) :: (C, oC) :: (D, lst []) :: news) → Off3 I C D news → ((@Ne Nat I C) ∧ (@Ne Nat I D) ∧ (@Ne Nat C D)) →
    wpAny (model PySem.Challenge.rw_sa0618_01.row.prog w) A (isTrue ct (compEnvC scope cl C env) (eval ct (compEnvC scope cl C env))) (fun ok s' => ok = false ∧ ∃ h' tk', s' = { s with heap := h', toks := tk' } ∧ Fr h₀ L h' m ∧ News h₀ L h' ((I, oI) :: (C, oC) :: (D, lst []) :: news)) E' { s with heap := h, toks := tk }
theorem rest_none {ct elt : Expr} {x : Str} {scope : Scope} {cl : List (Str × Addr)} {kvs : List (Int × Value)} {news : List (Addr × Obj)} {Fin : List Value → List (Addr × Obj) → Prop} {ax : Addr} {od : Obj} (hm : (ax, od) ∈ news) (hk : (kvs.map (·.1)).Nodup)
    (turn : CompTurnD w A h₀ L m env ct x scope cl s kvs news) (fin : Fin [] news) :
    ∀ k i, CompRestT PySem.Challenge.rw_sa0618_01.row.prog w A h₀ L m env ct elt x scope cl s (fun nw => (ax, od) ∈ nw) (fun i v => ∃ k y, kvs[i]? = some (k, y) ∧ (intKind PySem.Challenge.rw_sa0618_01.row.prog w).is k v = true) Fin k i [] news := by
  intro k
  induction k with
  | zero => intro i; exact fin
  | succ k ih =>
    intro i v I oI C oC D m₂ h tk E' hP hC hx F N off ne
    obtain ⟨k', y, hi, hv⟩ := hP
    refine wpAny_mono (turn k' y v I oI C oC D m₂ h tk E' (List.mem_of_getElem? hi) hv hC hx F N off ne) (fun ok s' hr => ?_) fun _ _ e => e
    obtain ⟨rfl, h', tk', rfl, F', N'⟩ := hr
    rw [if_neg (by decide)]
    exact ⟨h', tk', news, rfl, F', N', off, hm, ih (i + 1)⟩
def CompSrcD (w : World) (A : Around) (h₀ : Heap) (L : Addr) (m : Str → Option Value) (env : Env) (ct : Expr) (x : Str) (scope : Scope) (cl : List (Str × Addr)) (Q : Value → Shared → Prop) (xv : Value) (s₁ : Shared) : Prop :=
  ∃ ax od kvs news, xv = .ref ax ∧ A.handled = none ∧ Fr h₀ L s₁.heap m ∧ News h₀ L s₁.heap news ∧ (ax, od) ∈ news ∧ (ax == sysModules) = false ∧ od.IsDictOf (intKind PySem.Challenge.rw_sa0618_01.row.prog w) kvs ∧ kvs.length ≤ sizeLine ∧
    (∀ g, CompTurnD w A h₀ L m env ct x scope cl { s₁ with heap := g } kvs news) ∧ ∀ D h tk, Fr h₀ L h m → News h₀ L h ((D, lst []) :: news) → Off1 D news → Q (.ref D) { s₁ with heap := h, toks := tk }
theorem ListComp_D0 {ct elt iter : Expr} {x : Str} {px : Pos} {scope : Scope} {cl : List (Str × Addr)} {pos : Pos} {Q : Value → Shared → Prop} (F₀ : Fr h₀ L s.heap m)
    (hclos : closureFor scope env = pure cl) (hcell : ∀ y ∈ scope.names, y.2 ≠ .cell) (hkind : scope.kind = .function)
    (hnames : ∀ y ∈ scope.names, y.2 = .local → scope.names.lookup y.1 = some .local) (hx : scope.names.lookup x = some .local)
    (h : wpAny (model PySem.Challenge.rw_sa0618_01.row.prog w) A (eval iter env) (CompSrcD w A h₀ L m env ct x scope cl Q) E s)
    (hs : ∀ x, foldedSetIterable iter env x = pure x := by intro _; rfl) :
    wpAny (model PySem.Challenge.rw_sa0618_01.row.prog w) A (eval (.ListComp elt [⟨.Name x px, iter, [ct], 0⟩] scope pos) env) Q E s := by
  rw [eval_ListComp]
  refine wpAny_comprehension_free (use := none) rfl hs hclos hkind hnames (wpAny_mono h (fun xv s₁ h₁ => ?_) fun _ _ e => e)
  obtain ⟨ax, od, kvs, news, rfl, hh, F, N, hm, hsy, hd, hsz, turn, fin⟩ := h₁
  obtain ⟨es, ep, hd1, hd2, hd3, hd4, hd5⟩ := id hd
  have hat : ∀ h : Heap, h.get? ax = some od → h.DictAt (intKind PySem.Challenge.rw_sa0618_01.row.prog w) ax kvs ep := fun h e => ⟨od, es, e, hd1, hd2, hd3, hd4, hd5⟩
  have hl := (N _ hm).1
  have hlt : ax < s₁.heap.objs.size := Heap.lt_size hl
  refine wpAny_pyIter_dict hsy (hat _ hl) ?_
  generalize hit : ({ cls := .type "dict_keyiterator", data := .fields #[.ref ax, .int 0 0, .int kvs.length 0, .int ep 0] } : Obj) = oi
  have up : ∀ b o, s₁.heap.get? b = some o → (s₁.heap.push oi).get? b = some o := fun b o e => Heap.get?_push_of_some _ e
  have W0 := Walks.dictKeys (prog := PySem.Challenge.rw_sa0618_01.row.prog) (w := w) (knd := intKind PySem.Challenge.rw_sa0618_01.row.prog w) (A := A) hh s₁.heap.objs.size ax (Nat.ne_of_lt hlt) kvs ep
  have W : Walks PySem.Challenge.rw_sa0618_01.row.prog w A s₁.heap.objs.size [s₁.heap.objs.size, ax] [s₁.heap.objs.size] kvs.length (fun i v => ∃ k y, kvs[i]? = some (k, y) ∧ (intKind PySem.Challenge.rw_sa0618_01.row.prog w).is k v = true) (fun i (h : Heap) => h.IsKeyIter s₁.heap.objs.size ax i kvs.length ep ∧ h.get? ax = some od) :=
    { sub := W0.sub
      frame := fun i h h' st hk => ⟨(W0.frame i h h' ⟨st.1, hat _ st.2⟩ hk).1, hk ax (by simp) _ st.2⟩
      item := fun i s Q E hi st hQ => W0.item i s Q E hi ⟨st.1, hat _ st.2⟩ fun v h' tk hP hst hk => hQ v h' tk hP ⟨hst.1, hk _ _ (by simpa using Nat.ne_of_lt hlt) st.2⟩ hk
      done := fun s Q E st hQ => W0.done s Q E ⟨st.1, hat _ st.2⟩ hQ
      self := fun i s Q E st hQ => W0.self i s Q E ⟨st.1, hat _ st.2⟩ hQ }
  refine block_T (RR := _) (S := fun nw => (ax, od) ∈ nw) (news := news) (Fin := fun ys nw => FinE h₀ L m { s₁ with heap := s₁.heap.push oi } Q ys nw) W hsz (fun i h st => by obtain ⟨o, e, _⟩ := st.1; exact ⟨o, e⟩) (fun i h h' o nw st e e' k N' hS => ⟨st.1.at fun o'' z => by rw [e] at z; rw [e', z], (N' _ hS).1⟩) hcell hkind hx
    ⟨⟨_, Heap.get?_push_size _ (by rw [← hit]; rfl), by rw [← hit], by rw [← hit]; rfl⟩, up _ _ hl⟩ (fun b hb => ?_) (F.keeps up) (N.grown up) (Nat.ne_of_lt F.ns.lt) (next_is_new F) (fun p hp => Nat.ne_of_lt (Heap.lt_size (N p hp).1)) hm (rest_none hm hd5 (turn _) (fun D h tk F' N' o1 => fin D h tk F' N' o1) _ 0) ?_
  · show b < (s₁.heap.push _).objs.size
    rw [Heap.size_push]
    rcases List.mem_cons.mp hb with rfl | hb
    · exact Nat.lt_succ_self _
    · rw [List.mem_singleton.mp hb]; exact Nat.lt_succ_of_lt hlt
  · intro D C h tk m' ys news' F' N' o1 hn hC₀ hD₀ hCL hDL hCD offC fin
    refine ⟨m', hn, fun h'' hs'' => fin D h'' tk (F'.change hs'' hCL hC₀) (fun p hp => ?_) o1⟩
    refine ⟨hs''.extBut _ _ ?_ (N' p hp).1, (N' p hp).2⟩
    rcases List.mem_cons.mp hp with rfl | hp
    · exact Ne.symm hCD
    · exact offC p hp
end
end Mine
namespace Mine
section
variable {ρ : Int → Option (Kd × Int)} {f fs fm : Int → Option Int} {cfa : Int}
theorem knownBy_inv (I : Inv fm f fs) (hf : ∀ k i, fm k = some i → 0 ≤ i ∧ i < 256) {k x : Int} {y : Option Int} {r : Kd × Int} (hk : (0 ≤ k ∧ k < 32) ∨ r.1 = .same) (e : knownBy f fs fm cfa k r = some (x, y)) :
    (0 ≤ k ∧ k < 32) ∧ (0 ≤ x ∧ x < 4294967296) ∧ ∀ p, y = some p → x = wordOf fm p := by
  obtain ⟨kd, v⟩ := r
  have hs : ∀ q, f q = some x → (fs q = y) → (0 ≤ x ∧ x < 4294967296) ∧ ∀ p, y = some p → x = wordOf fm p := fun q hq hy =>
    ⟨⟨(I.1 _ _ hq).2.2.1, (I.1 _ _ hq).2.2.2⟩, fun p hp => by
      have := I.2 q p (by rw [hy, hp])
      rw [hq] at this; exact Option.some.inj this⟩
  cases kd with
  | offset =>
    have hk := hk.resolve_right (by intro q; cases q)
    by_cases hw : wordOf fm ((cfa + v).fmod 4294967296) < 0
    · rw [kn_off0 rfl hw] at e; cases e
    · rw [kn_off1 rfl hw] at e
      cases e
      refine ⟨hk, ?_, fun p hp => by cases hp; rfl⟩
      have := word_nonneg (a := (cfa + v).fmod 4294967296) hf
      omega
  | valOffset =>
    have hk := hk.resolve_right (by intro q; cases q)
    cases e
    exact ⟨hk, ⟨fmod_lo _ (by omega), fmod_hi _ (by omega)⟩, fun p hp => by cases hp⟩
  | register =>
    have hk := hk.resolve_right (by intro q; cases q)
    cases q : f v with
    | none => rw [kn_reg0 rfl (by rw [q]; rfl)] at e; cases e
    | some i => rw [kn_reg1 rfl q] at e; cases e; exact ⟨hk, hs v q rfl⟩
  | same =>
    cases q : f k with
    | none => rw [kn_same0 rfl (by rw [q]; rfl)] at e; cases e
    | some i => rw [kn_same1 rfl q] at e; cases e; exact ⟨⟨(I.1 _ _ q).1, (I.1 _ _ q).2.1⟩, hs k q rfl⟩
  | undefined => cases e
theorem res2_inv (I : Inv fm f fs) (hf : ∀ k i, fm k = some i → 0 ≤ i ∧ i < 256) (hρ : ∀ k, (ρ k).isSome = true → 0 ≤ k ∧ k < 32) {k x : Int} {y : Option Int} (e : res2 ρ f fs fm cfa k = some (x, y)) :
    (0 ≤ k ∧ k < 32) ∧ (0 ≤ x ∧ x < 4294967296) ∧ ∀ p, y = some p → x = wordOf fm p := by
  unfold res2 at e
  cases hr : ρ k with
  | some r =>
    rw [rule_some hr] at e
    exact knownBy_inv I hf (.inl (hρ k (by rw [hr]; rfl))) e
  | none =>
    by_cases h2 : k = 2
    · exact knownBy_inv I hf (.inl (by omega)) e
    · cases hk : keptB k with
      | true => rw [rule_kept hr h2 hk] at e; exact knownBy_inv I hf (.inr rfl) e
      | false => rw [rule_un hr h2 hk] at e; cases e
theorem fin_inv (I : Inv fm f fs) (hf : ∀ k i, fm k = some i → 0 ≤ i ∧ i < 256) (hρ : ∀ k, (ρ k).isSome = true → 0 ≤ k ∧ k < 32) : Inv fm (finR ρ f fs fm cfa) (finS ρ f fs fm cfa) := by
  refine ⟨fun k v e => ?_, fun k p e => ?_⟩
  · unfold finR at e
    cases q : res2 ρ f fs fm cfa k with
    | none => rw [q] at e; cases e
    | some r =>
      obtain ⟨x, y⟩ := r
      rw [q] at e; cases e
      have := res2_inv I hf hρ q
      exact ⟨this.1.1, this.1.2, this.2.1.1, this.2.1.2⟩
  · unfold finS at e
    unfold finR
    cases q : res2 ρ f fs fm cfa k with
    | none => rw [q] at e; cases e
    | some r =>
      obtain ⟨x, y⟩ := r
      rw [q] at e
      have := (res2_inv I hf hρ q).2.2 p e
      rw [← this]; rfl
end
def cut (R : Int → Option Int) (i : Nat) (k : Int) : Option Int := if 0 ≤ k ∧ k < (i : Int) then R k else none
theorem cut_zero (R : Int → Option Int) : cut R 0 = fun _ => none := by
  funext k; unfold cut; rw [if_neg (by omega)]
theorem cut_none {R : Int → Option Int} {i : Nat} (e : R (i : Int) = none) : cut R (i + 1) = cut R i := by
  funext k
  unfold cut
  by_cases h : k = (i : Int)
  · subst h; rw [if_pos (by omega), if_neg (by omega), e]
  · by_cases h1 : 0 ≤ k ∧ k < (i : Int)
    · rw [if_pos (by omega), if_pos h1]
    · rw [if_neg (by omega), if_neg h1]
theorem cut_some {R : Int → Option Int} {i : Nat} {v : Int} (e : R (i : Int) = some v) : cut R (i + 1) = upd (cut R i) (i : Int) v := by
  funext k
  unfold cut upd
  by_cases h : k = (i : Int)
  · subst h; rw [if_pos (by omega), if_pos rfl, e]
  · rw [if_neg h]
    dsimp only
    by_cases h1 : 0 ≤ k ∧ k < (i : Int)
    · rw [if_pos (by omega), if_pos h1]
    · rw [if_neg (by omega), if_neg h1]
theorem cut_all {R : Int → Option Int} (h : ∀ k v, R k = some v → 0 ≤ k ∧ k < 32) : cut R 32 = R := by
  funext k
  unfold cut
  by_cases h1 : 0 ≤ k ∧ k < ((32 : Nat) : Int)
  · rw [if_pos h1]
  · rw [if_neg h1]
    cases q : R k with
    | none => rfl
    | some v => exact absurd (by have := h k v q; omega) h1
section
variable {ρ : Int → Option (Kd × Int)} {f fs fm : Int → Option Int} {cfa k x : Int} {y : Option Int}
theorem finR_none (e : res2 ρ f fs fm cfa k = none) : finR ρ f fs fm cfa k = none := by unfold finR; rw [e]; rfl
theorem finS_none (e : res2 ρ f fs fm cfa k = none) : finS ρ f fs fm cfa k = none := by unfold finS; rw [e]; rfl
theorem finR_some (e : res2 ρ f fs fm cfa k = some (x, y)) : finR ρ f fs fm cfa k = some x := by unfold finR; rw [e]; rfl
theorem finS_some (e : res2 ρ f fs fm cfa k = some (x, y)) : finS ρ f fs fm cfa k = y := by unfold finS; rw [e]; rfl
end
end Mine
namespace Mine
def NE (a b : Addr) : Prop := @Ne Nat a b
theorem NE.ne {a b : Addr} (h : NE a b) : @Ne Nat a b := h
theorem NE.sy {a b : Addr} (h : NE a b) : @Ne Nat b a := fun q => h q.symm
def AllNE (d : Addr) : List (Addr × Obj) → Prop
  | [] => True
  | p :: r => NE p.1 d ∧ AllNE d r
theorem allNE_of {d : Addr} : ∀ {l : List (Addr × Obj)}, AllNe d l → AllNE d l
  | [], _ => trivial
  | _ :: _, h => ⟨h.1, allNE_of h.2⟩
theorem AllNE.to {d : Addr} : ∀ {l : List (Addr × Obj)}, AllNE d l → AllNe d l
  | [], _ => trivial
  | _ :: _, h => ⟨h.1, AllNE.to h.2⟩
theorem AllNE.mem {d : Addr} {l : List (Addr × Obj)} (x : AllNE d l) : ∀ p ∈ l, p.1 ≠ d := AllNe.mem x.to
theorem allNE_lt {d : Addr} {l : List (Addr × Obj)} (h : ∀ p ∈ l, p.1 < d) : AllNE d l := allNE_of (allNe_of fun p hp => Nat.ne_of_lt (h p hp))
theorem allNE_all {d : Addr} {l : List (Addr × Obj)} (h : ∀ p ∈ l, p.1 ≠ d) : AllNE d l := allNE_of (allNe_of h)
section
variable {w : World} {mean : ExcName → Option Value} {mg mb : Str → Option Value} {g : Heap} {L : Addr} {m : Str → Option Value} {news : List (Addr × Obj)} {dp un : Nat} {fr : Option (List Env)} {gd : Option (List Code)} {s : Shared} {A : Around} {Q E : Value → Shared → Prop}
theorem idict_in_t {d : Addr} {f : Int → Option Int} {B : Nat} {k i : Int} {t : Tok} (e : f k = some i) (I : IDict w s.heap d f B) (h : Q (.bool true) { s with toks := s.toks + 1 }) : wpAny (model PySem.Challenge.rw_sa0618_01.row.prog w) A (compareOp .In (.int k t) (.ref d)) Q E s := idict_in I (by rw [e]; exact h)
theorem rcopy_K {d : Addr} {kvs : List (Int × Value)} {o : Obj} (F : Fr g L s.heap m) (N : News g L s.heap news) (hm : (d, o) ∈ news) (hI : IDl w o kvs) (hsy : sysModules < s.heap.objs.size) (lo : (d == sysModules) = false) (hB : kvs.length ≤ 1000)
    (h : ∀ h' D o', Fr g L h' m → News g L h' ((D, o') :: news) → (∀ p ∈ news, p.1 < D) → (D == sysModules) = false → IDl w o' kvs → Q (.ref D) { s with heap := h' }) :
    wpAny (model PySem.Challenge.rw_sa0618_01.row.prog w) A (call (.type "dict") [.ref d]) Q E s := copy_core F N lo hsy (N.get hm) hI hB h
section
variable {rw drw hd bt : Addr} {a cv r : Value} {t1 t2 t3 tr to : Tok} {f : Int → Option Int} {B nt : Nat} {br bo i : Int}
theorem cfa_n (F : Fr g L s.heap m) (N : News g L s.heap news) (X : (Mine.hd.heap_1 w.params).In g) (T : Top topProg (looseW Mine.view [Str.ofString "ROUND"] ++ List.map (fun x => x.name) (recsOf Mine.view) ++ List.map (fun x => x.fst) (litsOf Mine.view) ++ List.map (fun x => x.name) (clssOf Mine.view (looseW Mine.view [Str.ofString "ROUND"]))) mean mg mb g) (m1 : (rw, instObj 146 drw) ∈ news) (m2 : (drw, rowD w a cv r t1 t2 t3) ∈ news) (hI : cv = .none) (I : IDict w s.heap hd f B) (hroom : dp < 800)
    (hQ : ∀ h' tk, Fr g L h' m → News g L h' news → Q .none { s with heap := h', toks := tk }) :
    wpAny (model PySem.Challenge.rw_sa0618_01.row.prog w) (Ar dp un fr gd) (call (.ref 122) [.ref rw, .ref hd]) Q E s :=
  cfa_K (by' := none) F N X T (inst_of (N.get m1) (N.get m2)) hI I hroom fun h' tk v F' N' o => by
    obtain rfl : v = .none := o
    exact hQ h' tk F' N'
theorem cfa_f (F : Fr g L s.heap m) (N : News g L s.heap news) (X : (Mine.hd.heap_1 w.params).In g) (T : Top topProg (looseW Mine.view [Str.ofString "ROUND"] ++ List.map (fun x => x.name) (recsOf Mine.view) ++ List.map (fun x => x.fst) (litsOf Mine.view) ++ List.map (fun x => x.name) (clssOf Mine.view (looseW Mine.view [Str.ofString "ROUND"]))) mean mg mb g) (m1 : (rw, instObj 146 drw) ∈ news) (m2 : (drw, rowD w a (.ref bt) r t1 t2 t3) ∈ news) (m3 : (bt, { cls := .type "tuple", data := .seq [Value.int br tr, .int bo to].toArray nt }) ∈ news) (I : IDict w s.heap hd f B) (e : f br = none) (hroom : dp < 800)
    (hQ : ∀ h' tk, Fr g L h' m → News g L h' news → Q .none { s with heap := h', toks := tk }) :
    wpAny (model PySem.Challenge.rw_sa0618_01.row.prog w) (Ar dp un fr gd) (call (.ref 122) [.ref rw, .ref hd]) Q E s :=
  cfa_K (by' := some (br, bo)) F N X T (inst_of (N.get m1) (N.get m2)) ⟨bt, tr, to, nt, rfl, N.get m3⟩ I hroom fun h' tk v F' N' o => by
    rw [cfa_none (by rw [e]; rfl)] at o
    obtain rfl : v = .none := o
    exact hQ h' tk F' N'
theorem cfa_s (F : Fr g L s.heap m) (N : News g L s.heap news) (X : (Mine.hd.heap_1 w.params).In g) (T : Top topProg (looseW Mine.view [Str.ofString "ROUND"] ++ List.map (fun x => x.name) (recsOf Mine.view) ++ List.map (fun x => x.fst) (litsOf Mine.view) ++ List.map (fun x => x.name) (clssOf Mine.view (looseW Mine.view [Str.ofString "ROUND"]))) mean mg mb g) (m1 : (rw, instObj 146 drw) ∈ news) (m2 : (drw, rowD w a (.ref bt) r t1 t2 t3) ∈ news) (m3 : (bt, { cls := .type "tuple", data := .seq [Value.int br tr, .int bo to].toArray nt }) ∈ news) (I : IDict w s.heap hd f B) (e : f br = some i) (hroom : dp < 800)
    (hQ : ∀ h' tk ti, Fr g L h' m → News g L h' news → Q (.int ((i + bo).fmod 4294967296) ti) { s with heap := h', toks := tk }) :
    wpAny (model PySem.Challenge.rw_sa0618_01.row.prog w) (Ar dp un fr gd) (call (.ref 122) [.ref rw, .ref hd]) Q E s :=
  cfa_K (by' := some (br, bo)) F N X T (inst_of (N.get m1) (N.get m2)) ⟨bt, tr, to, nt, rfl, N.get m3⟩ I hroom fun h' tk v F' N' o => by
    rw [cfa_some e] at o
    obtain ⟨ti, rfl⟩ := o
    exact hQ h' tk ti F' N'
end
end
section
variable {w : World} {mean : ExcName → Option Value} {mg mb : Str → Option Value} {g : Heap} {L : Addr} {m : Str → Option Value} {news : List (Addr × Obj)} {dp un : Nat} {fr : Option (List Env)} {gd : Option (List Code)} {s : Shared} {Q E : Value → Shared → Prop}
theorem callerOf_K2 {env1 : Env} {fx dfx rx frd fsd rw drw rrd mem : Addr} {u1 u2 u3 u4 u5 u6 u7 v1 v2 v3 tc : Tok} {a1 a2 a5 a6 ra rc : Value} {f fs fm : Int → Option Int} {ρ : Int → Option (Kd × Int)} {tI : Bool} {B B0 B1 B2 : Nat} {cfa : Int}
    (F : Fr g L s.heap m) (N : News g L s.heap news) (X : (Mine.hd.heap_1 w.params).In g) (T : Top topProg (looseW Mine.view [Str.ofString "ROUND"] ++ List.map (fun x => x.name) (recsOf Mine.view) ++ List.map (fun x => x.fst) (litsOf Mine.view) ++ List.map (fun x => x.name) (clssOf Mine.view (looseW Mine.view [Str.ofString "ROUND"]))) mean mg mb g) (hroom : dp < 700)
    (If : InstAt s.heap fx (instObj 181 dfx) 181 (some (frameD w a1 a2 (.ref frd) (.int cfa tc) a5 a6 (.ref fsd) u1 u2 u3 u4 u5 u6 u7)))
    (Iw : InstAt s.heap rw (instObj 146 drw) 146 (some (rowD w ra rc (.ref rrd) v1 v2 v3)))
    (Irr : RDict w s.heap rrd ρ B0) (hB0 : B0 ≤ 60)
    (I1 : IDict w s.heap frd f B1) (I2 : IDict w s.heap fsd fs B2) (IR : ReaderAt w s.heap rx tI mem) (IM : IDict w s.heap mem fm B) (hf : ∀ k i, fm k = some i → 0 ≤ i ∧ i < 256)
    (hef : env1.frame = some L) (hek : env1.scope.kind ≠ .module)
    (nr : ∀ b ∈ [fx, dfx, frd, fsd, rw, drw, rrd, mem], @Ne Nat b L) (hc0 : 0 ≤ cfa) (hc1 : cfa < 4294967296)
    (hQ : ∀ h' tk x dx rd sd or os t1 t2 t3 t4, Fr g L h' m → News g L h' ((x, instObj 111 dx) :: (dx, callerD w fx rx rd sd t1 t2 t3 t4) :: (rd, or) :: (sd, os) :: news) →
      AllNe x news → AllNe dx news → AllNe rd news → AllNe sd news → (rd == sysModules) = false → (sd == sysModules) = false → IDictO w or (finR ρ f fs fm cfa) 100 → IDictO w os (finS ρ f fs fm cfa) 100 → Q (.ref x) { s with heap := h', toks := tk }) :
    wpAny (model PySem.Challenge.rw_sa0618_01.row.prog w) (Ar dp un (some [env1]) gd) (call (.ref 129) [.ref fx, .ref rw, .ref rx]) Q E s := by
  obtain ⟨o1, es, ep, e1, e2, e3⟩ := id F.ns
  refine callerOf_spec hroom ⟨X, T⟩ F.keep If Iw Irr hB0 I1 I2 IR IM hf F.ns e1 (Heap.get?_none_of_le F.above) hef hek nr hc0 hc1 fun h' tk x dx rd sd or os t1 t2 t3 t4 k ex ed xn dn er es' rn sn y1 y2 i1 i2 => ?_
  have nf : ∀ b, b ≠ L → b ∉ frs [env1] := fun b q => frs_off hef q (fun z => nomatch z)
  have F' : Fr g L h' m := ⟨k.ns (by simp) F.ns, fun b o e => k.get (by simp) (nf b (fun q => by rw [q, Heap.get?_none_of_le F.above] at e; cases e)) (F.keep b o e), F.above⟩
  have N' : News g L h' news := fun p hp => ⟨k.get (by simp) (nf p.1 (N p hp).2.1) (N p hp).1, (N p hp).2⟩
  have hg : ∀ p ∈ news, s.heap.get? p.1 = some p.2 := fun p hp => (N p hp).1
  exact hQ h' tk x dx rd sd or os t1 t2 t3 t4 F' (news_add F (news_add F (news_add F (news_add F N' sn es') rn er) dn ed) xn ex) (allNe_none xn hg) (allNe_none dn hg) (allNe_none rn hg) (allNe_none sn hg) y1 y2 i1 i2
end
def lawParts (o : Option Obj) : Option (List Stmt × Scope) := match o with
  | some ⟨_, _, .func fd, _⟩ => match fd.body with
    | .stmts (_ :: _ :: _ :: _ :: _ :: .For _ _ tb _ _ :: _) => some (tb, fd.scope)
    | _ => none
  | _ => none
theorem law_use {R : Prop} {w : World} {tb tb' : List Stmt} {scope sc' : Scope} {oc : Value} {od : Option Addr} {nm q : Str} {ps : Arguments} {s0 s1 s2 s3 s4 : Stmt} {lv it : Expr} {els : List Stmt} {fp : Pos} {rest : List Stmt} {d0 k0 doc0 pm0 : Value} {an0 : Option Addr} {cd0 ct0 : Value} {osl : Array (Option Value)}
    (I : lawParts ((Mine.hd.heap_1 w.params).lookup 234) = some (tb, scope)) (hL : (Mine.hd.heap_1 w.params).lookup 234 = some ⟨oc, od, .func (fnOf nm q ps (s0 :: s1 :: s2 :: s3 :: s4 :: .For lv it tb' els fp :: rest) sc' d0 k0 doc0 pm0 an0 cd0 ct0), osl⟩)
    (k : tb = tb' → scope = sc' → R) : R := by
  rw [hL] at I
  have I' : some (tb', sc') = some (tb, scope) := I
  cases I'
  exact k rfl rfl
theorem law_use2 {R : Prop} {w : World} {b0 b1 b2 b3 b4 b5 c0 c1 c2 c3 c4 c5 : Stmt} {tb tb' : List Stmt} {scope sc' : Scope} {oc : Value} {od : Option Addr} {nm q : Str} {ps : Arguments} {s0 s1 s2 s3 s4 : Stmt} {lv it : Expr} {els : List Stmt} {fp : Pos} {rest : List Stmt} {d0 k0 doc0 pm0 : Value} {an0 : Option Addr} {cd0 ct0 : Value} {osl : Array (Option Value)}
    (I : lawParts ((Mine.hd.heap_1 w.params).lookup 234) = some (b0 :: b1 :: b2 :: b3 :: b4 :: b5 :: tb, scope)) (hL : (Mine.hd.heap_1 w.params).lookup 234 = some ⟨oc, od, .func (fnOf nm q ps (s0 :: s1 :: s2 :: s3 :: s4 :: .For lv it (c0 :: c1 :: c2 :: c3 :: c4 :: c5 :: tb') els fp :: rest) sc' d0 k0 doc0 pm0 an0 cd0 ct0), osl⟩)
    (k : tb = tb' → scope = sc' → R) : R := by
  rw [hL] at I
  have I' : some (c0 :: c1 :: c2 :: c3 :: c4 :: c5 :: tb', sc') = some (b0 :: b1 :: b2 :: b3 :: b4 :: b5 :: tb, scope) := I
  cases I'
  exact k rfl rfl
theorem law_use3 {R : Prop} {w : World} {b0 b1 b2 b3 b4 b5 b6 b7 c0 c1 c2 c3 c4 c5 c6 c7 : Stmt} {tb tb' : List Stmt} {scope sc' : Scope} {oc : Value} {od : Option Addr} {nm q : Str} {ps : Arguments} {s0 s1 s2 s3 s4 : Stmt} {lv it : Expr} {els : List Stmt} {fp : Pos} {rest : List Stmt} {d0 k0 doc0 pm0 : Value} {an0 : Option Addr} {cd0 ct0 : Value} {osl : Array (Option Value)}
    (I : lawParts ((Mine.hd.heap_1 w.params).lookup 234) = some (b0 :: b1 :: b2 :: b3 :: b4 :: b5 :: b6 :: b7 :: tb, scope)) (hL : (Mine.hd.heap_1 w.params).lookup 234 = some ⟨oc, od, .func (fnOf nm q ps (s0 :: s1 :: s2 :: s3 :: s4 :: .For lv it (c0 :: c1 :: c2 :: c3 :: c4 :: c5 :: c6 :: c7 :: tb') els fp :: rest) sc' d0 k0 doc0 pm0 an0 cd0 ct0), osl⟩)
    (k : tb = tb' → scope = sc' → R) : R := by
  rw [hL] at I
  have I' : some (c0 :: c1 :: c2 :: c3 :: c4 :: c5 :: c6 :: c7 :: tb', sc') = some (b0 :: b1 :: b2 :: b3 :: b4 :: b5 :: b6 :: b7 :: tb, scope) := I
  cases I'
  exact k rfl rfl
theorem allNE_allLt {d : Addr} : ∀ {l : List (Addr × Obj)}, AllLt d l → AllNE d l
  | [], _ => trivial
  | _ :: _, h => ⟨Nat.ne_of_lt h.1, allNE_allLt h.2⟩
section
variable {w : World} {A : Around} {E : Value → Shared → Prop} {s : Shared} {g : Heap} {L a b : Addr} {news : List (Addr × Obj)} {Q : Value → Shared → Prop}
theorem rules_K {oa ob : Obj} {kvs : List (Int × Value)} (N : News g L s.heap news) (m1 : (a, oa) ∈ news) (m2 : (b, ob) ∈ news) (da : IDl w oa kvs) (db : IDl w ob kvs) (la : (a == sysModules) = false) (lb : (b == sysModules) = false) (hu : A.units < cLine) (h : Q (.bool false) s) :
    wpAny (model PySem.Challenge.rw_sa0618_01.row.prog w) A (compareOp .NotEq (.ref a) (.ref b)) Q E s := rules_ne la lb (N.get m1) (N.get m2) da db hu h
end
theorem inv_off {fm f fs : Int → Option Int} (I : Inv fm f fs) : f (-1) = none := by
  cases e : f (-1) with
  | none => rfl
  | some v => have := (I.1 _ _ e).1; omega
theorem inv_dom {fm f fs : Int → Option Int} (I : Inv fm f fs) : ∀ k v, f k = some v → 0 ≤ k ∧ k < 32 := fun k v e => ⟨(I.1 k v e).1, (I.1 k v e).2.1⟩
theorem inv_doms {fm f fs : Int → Option Int} (I : Inv fm f fs) : ∀ k v, fs k = some v → 0 ≤ k ∧ k < 32 := fun k v e => inv_dom I k _ (I.2 k v e)
theorem mem_last {a : Addr × Obj} {l : List (Addr × Obj)} {p : Addr × Obj} (hp : p ∈ a :: l) : p ∈ l ++ [a] := List.mem_append.mpr ((List.mem_cons.mp hp).elim (fun e => .inr (e ▸ .head _)) .inl)
theorem at_mem {ks : List (Int × Value)} {f : Int → Option Int} {k : Int} {y : Value} (hn : (ks.map (·.1)).Nodup) (ia : IntsAt ks f) (hm : (k, y) ∈ ks) : ∃ p t, y = .int p t ∧ f k = some p := by
  have e := valueAt_mem hn hm
  have := ia k
  cases q : f k with
  | none => rw [q] at this; rw [this] at e; cases e
  | some i => rw [q] at this; obtain ⟨t, z⟩ := this; rw [z] at e; exact ⟨i, t, (Option.some.inj e).symm, rfl⟩
theorem nodup_of {w : World} {o : Obj} {ks : List (Int × Value)} (h : o.IsDictOf (intKind PySem.Challenge.rw_sa0618_01.row.prog w) ks) : (ks.map (·.1)).Nodup := by
  obtain ⟨_, _, _, _, _, _, z⟩ := h
  exact z
theorem k_hit {S R : Int → Option Int} {W : Int → Int} {k p p' i : Int} (ep : S k = some p) (eR : R k = some (W p)) (e1 : S k = some p') (e2 : R k = some i) : (W p' != i) = false := by
  rw [ep] at e1
  cases e1
  rw [eR] at e2
  cases e2
  simp
end Mine
section
local macro_rules | `(tactic| k_ne) => `(tactic| first | (refine Mine.NE.ne ?_; with_reducible assumption) | (refine Mine.NE.sy ?_; with_reducible assumption) | (refine neN ?_; (try dsimp only); omega))
section
local macro_rules | `(tactic| walk_at "mine cells") => `(tactic| (refine' Mine.cells_news ?cN ?cm ?ci; (case cN => k_asm); (case cm => k_mem); (case ci => k_asm)))
local macro_rules | `(tactic| walk_at "call ref") => `(tactic| ((first | (with_reducible show wpAny _ _ (call (Value.ref 222) _) _ _ _) | (with_reducible show wpAny _ _ (call (Value.ref 229) _) _ _ _) | (with_reducible show wpAny _ _ (call (Value.ref 129) _) _ _ _)); refine Mine.Stop.of ?_))
local macro_rules | `(tactic| walk_at "eval ListComp") => `(tactic| (refine Mine.Stop.of ?_))
local macro_rules | `(tactic| walk_at "exec For Name Call cons nil") => `(tactic| ((with_reducible rename Fr _ _ _ _ => lF'); (with_unfolding_all refine' For_invVF lF' ?k1 ?k2 ?_; (case k1 | k2 => exact rfl); k_whole)))
local macro_rules | `(tactic| k_all) => `(tactic| first | assumption | (refine' List.forall_mem_cons.mpr ⟨?ka1, ?ka2⟩; (case ka1 => k_ne); (case ka2 => k_all)))
local macro_rules | `(tactic| walk_at "compareOp In int ref") => `(tactic| k_dflt (first | (refine' Mine.idict_in_f ?e ?I ?_; (case I => walk_at "mine dict"); (case e => assumption); k_whole) | (refine' Mine.idict_in_t ?e ?I ?_; (case I => walk_at "mine dict"); (case e => assumption); k_whole)))
local macro_rules | `(tactic| walk_at "subscriptTail Name Subscript ref int") => `(tactic| walk_at "mine item")
local macro_rules | `(tactic| walk_at "mine big") => `(tactic| exact Mine.big_of (Frag.In.keeps (by k_asm) (Fr.keep (by k_asm))) (by k_is))
local macro_rules | `(tactic| walk_at "call type:dict") => `(tactic| ((with_reducible show wpAny _ _ (call (Value.type "dict") [Value.ref _]) _ _ _); k_dflt (first
  | (refine' Mine.icopy_K ?F ?N ?hsy ?I ?hB ?_; (case F | N => k_asm); (case I => walk_at "mine dict"); (case hsy => walk_at "mine big"); (case hB => omega); k_whole; intro h' D' o' F' N' l1 y1 i1; (try k_lt l1))
  | (refine' Mine.rcopy_K ?F ?N ?hm ?hI ?hsy ?lo ?hB ?_; (case F | N => k_asm); (case hm => k_mem); (case hI | lo => assumption); (case hsy => walk_at "mine big"); (case hB => omega); k_whole; intro h' D' o' F' N' l1 y1 i1; (try k_lt l1)))))
local macro_rules | `(tactic| walk_at "call ref") => `(tactic| ((with_reducible show wpAny _ _ (call (Value.ref 146) _) _ _ _); k_dflt (refine' Mine.row_make ?F ?N ?X ?T ?hr ?hm ?hi ?hf ?_; (case F | N | X | T => k_asm); (case hr => walk_at "mine room"); (case hm | hi | hf => k_is); k_whole; intro h' tk x dx t1 t2 t3 F' N' l1 l2; (try k_lt l1); (try k_lt2 l2))))
local macro_rules | `(tactic| walk_at "call ref") => `(tactic| ((with_reducible show wpAny _ _ (call (Value.ref 181) _) _ _ _); k_dflt (refine' Mine.frame_make ?F ?N ?X ?T ?hr ?hm ?hi ?hf ?_; (case F | N | X | T => k_asm); (case hr => walk_at "mine room"); (case hm | hi | hf => k_is); k_whole; intro h' tk x dx t1 t2 t3 t4 t5 t6 t7 F' N' l1 l2; (try k_lt l1); (try k_lt2 l2))))
local macro_rules | `(tactic| walk_at "call ref") => `(tactic| ((with_reducible show wpAny _ _ (call (Value.ref 122) [Value.none, _]) _ _ _); k_dflt (refine' Mine.cfa0_K ?F ?N ?X ?T ?hr ?_; (case F | N | X | T => k_asm); (case hr => walk_at "mine room"); k_whole; intro h' tk F' N')))
local macro_rules | `(tactic| walk_at "call ref") => `(tactic| ((with_reducible show wpAny _ _ (call (Value.ref 122) [Value.ref _, _]) _ _ _); k_dflt (first
  | (refine' Mine.cfa_n ?F ?N ?X ?T ?m1 ?m2 ?hI ?I ?hr ?_; (case F | N | X | T => k_asm); (case m1 | m2 => k_mem); (case I => walk_at "mine dict"); (case hI => exact rfl); (case hr => walk_at "mine room"); k_whole; intro h' tk F' N')
  | (refine' Mine.cfa_f ?F ?N ?X ?T ?m1 ?m2 ?m3 ?I ?e ?hr ?_; (case F | N | X | T => k_asm); (case m1 | m2 | m3 => k_mem); (case I => walk_at "mine dict"); (case e => assumption); (case hr => walk_at "mine room"); k_whole; intro h' tk F' N')
  | (refine' Mine.cfa_s ?F ?N ?X ?T ?m1 ?m2 ?m3 ?I ?e ?hr ?_; (case F | N | X | T => k_asm); (case m1 | m2 | m3 => k_mem); (case I => walk_at "mine dict"); (case e => assumption); (case hr => walk_at "mine room"); k_whole; intro h' tk ti F' N'))))
section
local macro_rules | `(tactic| walk_at "compareOp NotEq ref ref") => `(tactic| ((with_reducible show wpAny _ _ (compareOp CmpOp.NotEq (Value.ref _) (Value.ref _)) _ _ _); k_dflt (first
  | (refine' Mine.idict_ne ?I1 ?I2 ?hu ?_; (case I1 | I2 => walk_at "mine dict"); (case hu => assumption); k_whole)
  | (refine' Mine.rules_K ?N ?m1 ?m2 ?da ?db ?la ?lb ?hu ?_; (case N => k_asm); (case m1 | m2 => k_mem); (case da | db | la | lb | hu => assumption); k_whole))))
local macro_rules | `(tactic| walk_at "mine pad") => `(tactic| skip)
namespace Mine
set_option maxHeartbeats 8000000 in
theorem turn3_spec {w : World} {mean : ExcName → Option Value} {mg mb : Str → Option Value} {g : Heap} {dp un : Nat} {gd : Option (List Code)} {s : Shared} {c0 c1 c2 c3 c4 c5 c6 c7 : Stmt} {tb : List Stmt} {scope : Scope} {L fa wl c hd pd mem fx cc I one dxo pd2 hd2 rw drw rd2 rd bt x dx rr sr ld sd : Addr} {cd : Value} {oh op om ofx occ oM oT oS oL o231 oI oh2 op2 ord ord2 orr osr ol os : Obj} {tups : List (Addr × Obj)} {kvs : List (Int × Value)} {ρ : Int → Option (Kd × Int)} {ys : List Value} {lvl p q cfa : Int} {a1 a2 a5 a6 ra rc : Value} {u1 u2 u3 u4 u5 u6 u7 v1 v2 v3 t1 t2 t3 t4 tc1 tc2 : Tok} {tl tp tq : Tok} {n : Nat} {M : Str → Option Value} {f fs fm : Int → Option Int} {Q : Flow → Shared → Prop}
    (h234 : lawParts ((Mine.hd.heap_1 w.params).lookup 234) = some (c0 :: c1 :: c2 :: c3 :: c4 :: c5 :: c6 :: c7 :: tb, scope)) (hroom : dp < 600) (hun : un < cLine) (hun2 : un + 64 < cLine) (X : (Mine.hd.heap_1 w.params).In g) (T : Top topProg (looseW Mine.view [Str.ofString "ROUND"] ++ List.map (fun x => x.name) (recsOf Mine.view) ++ List.map (fun x => x.fst) (litsOf Mine.view) ++ List.map (fun x => x.name) (clssOf Mine.view (looseW Mine.view [Str.ofString "ROUND"]))) mean mg mb g)
    (F : Fr g L s.heap (fun y => if y = Str.ofString "come" then some (.ref x) else if y = Str.ofString "one" then some (.ref one) else if y = Str.ofString "row" then some (.ref rw) else if y = Str.ofString "frame" then some (.int cfa tc1) else if y = Str.ofString "rules" then some (.ref rd) else if y = Str.ofString "by" then some (.ref bt) else if y = Str.ofString "level" then some (.int lvl tl) else if y = Str.ofString "held" then some (.ref hd) else if y = Str.ofString "places" then some (.ref pd) else if y = Str.ofString "reader" then some (.ref fx) else if y = Str.ofString "well" then some (.ref wl) else M y))
    (N : News g L s.heap ((sd, os) :: (ld, ol) :: (x, instObj 111 dx) :: (dx, callerD w one fx rr sr t1 t2 t3 t4) :: (rr, orr) :: (sr, osr) :: (one, instObj 181 dxo) :: (dxo, frameD w a1 a2 (.ref hd2) (.int cfa tc2) a5 a6 (.ref pd2) u1 u2 u3 u4 u5 u6 u7) :: (pd2, op2) :: (hd2, oh2) :: (rw, instObj 146 drw) :: (drw, rowD w ra rc (.ref rd2) v1 v2 v3) :: (rd2, ord2) :: (rd, ord) :: (wl, wellO c p tp q tq n) :: (hd, oh) :: (pd, op) :: (mem, om) :: (fx, ofx) :: (cc, occ) :: (c, LCg.lst ys) :: (L + 1 + 1 + 1 + 1, oM) :: (L + 1 + 1 + 1, oT) :: (L + 1 + 1, oS) :: (L + 1, oL) :: (231, o231) :: (I, oI) :: tups))
    (ll : AllLt ld ((x, oL) :: (dx, oL) :: (rr, oL) :: (sr, oL) :: (one, oL) :: (dxo, oL) :: (pd2, oL) :: (hd2, oL) :: (rw, oL) :: (drw, oL) :: (rd2, oL) :: (rd, oL) :: (wl, oL) :: (hd, oL) :: (pd, oL) :: (mem, oL) :: (fx, oL) :: (cc, oL) :: (c, oL) :: (L + 1 + 1 + 1 + 1, oL) :: (L + 1 + 1 + 1, oL) :: (L + 1 + 1, oL) :: (L + 1, oL) :: (231, oL) :: (I, oL) :: tups)) (ls : AllLt sd ((ld, oL) :: (x, oL) :: (dx, oL) :: (rr, oL) :: (sr, oL) :: (one, oL) :: (dxo, oL) :: (pd2, oL) :: (hd2, oL) :: (rw, oL) :: (drw, oL) :: (rd2, oL) :: (rd, oL) :: (wl, oL) :: (hd, oL) :: (pd, oL) :: (mem, oL) :: (fx, oL) :: (cc, oL) :: (c, oL) :: (L + 1 + 1 + 1 + 1, oL) :: (L + 1 + 1 + 1, oL) :: (L + 1 + 1, oL) :: (L + 1, oL) :: (231, oL) :: (I, oL) :: tups))
    (hp : 0 ≤ p) (hq0 : 0 ≤ q) (hq1 : q < 1009) (hc0 : 0 ≤ cfa) (hc1 : cfa < 4294967296)
    (hkv : IDl w ord kvs) (hkv2 : IDl w ord2 kvs) (hR : RulesAt kvs tups ρ) (hkl : kvs.length ≤ 5) (hρ : ∀ k, (ρ k).isSome = true → 0 ≤ k ∧ k < 32) (yr : (rd == sysModules) = false) (yr2 : (rd2 == sysModules) = false) (yh2 : (hd2 == sysModules) = false) (yp2 : (pd2 == sysModules) = false)
    (ih2 : IDictO w oh2 f 100) (ip2 : IDictO w op2 fs 100) (ih : IDictO w oh f 100) (ip : IDictO w op fs 100) (io : IDictO w om fm 40) (hf : ∀ k i, fm k = some i → 0 ≤ i ∧ i < 256) (hI : Inv fm f fs) (yh : (hd == sysModules) = false) (yp : (pd == sysModules) = false) (ym : (mem == sysModules) = false)
    (dM : oM.data = .cell (some (.ref mem))) (dS : oS.data = .cell (some (.ref sd))) (dL : oL.data = .cell (some (.ref ld)))
    (il : IDictO w ol (fun _ => none) 0) (is : IDictO w os (fun _ => none) 0) (yl : (ld == sysModules) = false) (ys' : (sd == sysModules) = false)
    (yrr : (rr == sysModules) = false) (ysr : (sr == sysModules) = false) (irr : IDictO w orr (finR ρ f fs fm cfa) 100) (isr : IDictO w osr (finS ρ f fs fm cfa) 100)
    (hnext : ∀ h tk m' ol os, Fr g L h m' → News g L h ((ld, ol) :: (sd, os) :: (wl, wellO c p tp q tq n) :: (mem, om) :: (fx, ofx) :: (cc, occ) :: (c, LCg.lst ys) :: (L + 1 + 1 + 1 + 1, oM) :: (L + 1 + 1 + 1, oT) :: (L + 1 + 1, oS) :: (L + 1, oL) :: (231, o231) :: (I, oI) :: []) →
      m' (Str.ofString "held") = some (.ref ld) → m' (Str.ofString "places") = some (.ref sd) → m' (Str.ofString "reader") = some (.ref fx) → m' (Str.ofString "well") = some (.ref wl) →
      IDictO w ol (finR ρ f fs fm cfa) 100 → IDictO w os (finS ρ f fs fm cfa) 100 → Q .next { s with heap := h, toks := tk }) :
    wpAny (model PySem.Challenge.rw_sa0618_01.row.prog w) (Ar dp un (some [envOfC (Str.ofString "law") scope L fa cd]) gd) (execs tb (envOfC (Str.ofString "law") scope L fa cd)) Q (fun _ _ => False) s := by
  have hK : ∃ k, k = (Mine.hd.heap_1 w.params) := ⟨_, rfl⟩
  revert hK
  k_fill
  w_top off
  intro hK
  have nl := allNE_allLt ll
  have ns := allNE_allLt ls
  clear ll ls
  simp only [AllNE] at nl ns
  repeat (obtain ⟨_, nl⟩ := nl)
  repeat (obtain ⟨_, ns⟩ := ns)
  have tl' := AllNE.mem nl
  have ts' := AllNE.mem ns
  refine' law_use3 h234 ?hL ?_
  (case hL => k_is)
  rintro rfl rfl
  clear h234
  (show wpAny _ _ _ _ _ _)
  (try k_fold)
  k_steps
  (with_reducible rename Fr _ _ _ _ => F1)
  (with_reducible rename News _ _ _ _ => N1)
  (with_reducible rename IsRange _ _ _ _ _ _ _ _ => rng)
  unfold Stop
  (try clear lF'); (try clear N)
  have Iv := fin_inv (cfa := cfa) hI hf hρ
  refine loop_range2 (n := 32) _ [Str.ofString "known"] (fun i nx => ∃ ol os, nx = (sd, os) :: (ld, ol) :: (x, instObj 111 dx) :: (dx, callerD w one fx rr sr t1 t2 t3 t4) :: (rr, orr) :: (sr, osr) :: (one, instObj 181 dxo) :: (dxo, frameD w a1 a2 (.ref hd2) (.int cfa tc2) a5 a6 (.ref pd2) u1 u2 u3 u4 u5 u6 u7) :: (pd2, op2) :: (hd2, oh2) :: (rw, instObj 146 drw) :: (drw, rowD w ra rc (.ref rd2) v1 v2 v3) :: (rd2, ord2) :: (rd, ord) :: (wl, wellO c p tp q tq n) :: (hd, oh) :: (pd, op) :: (mem, om) :: (fx, ofx) :: (cc, occ) :: (c, LCg.lst ys) :: (L + 1 + 1 + 1 + 1, oM) :: (L + 1 + 1 + 1, oT) :: (L + 1 + 1, oS) :: (L + 1, oL) :: (231, o231) :: (I, oI) :: tups ∧ IDictO w ol (cut (finR ρ f fs fm cfa) i) i ∧ IDictO w os (cut (finS ρ f fs fm cfa) i) i) rfl rng rfl rfl F1 N1 ⟨ol, os, rfl, by rw [cut_zero]; exact il, by rw [cut_zero]; exact is⟩ ?_ ?_
  · rintro I' i t u nx h tk oI' hi hcI ⟨ol', os', rfl, il', is'⟩ hdI F6 N6
    have nI := allNE_all hdI
    simp only [AllNE] at nI
    repeat (obtain ⟨_, nI⟩ := nI)
    have tI' := AllNE.mem nI
    have N7 : News g L h ((I', oI') :: (sd, os') :: (ld, ol') :: (x, instObj 111 dx) :: (dx, callerD w one fx rr sr t1 t2 t3 t4) :: (rr, orr) :: (sr, osr) :: (one, instObj 181 dxo) :: (dxo, frameD w a1 a2 (.ref hd2) (.int cfa tc2) a5 a6 (.ref pd2) u1 u2 u3 u4 u5 u6 u7) :: (pd2, op2) :: (hd2, oh2) :: (rw, instObj 146 drw) :: (drw, rowD w ra rc (.ref rd2) v1 v2 v3) :: (rd2, ord2) :: (rd, ord) :: (wl, wellO c p tp q tq n) :: (hd, oh) :: (pd, op) :: (mem, om) :: (fx, ofx) :: (cc, occ) :: (c, LCg.lst ys) :: (L + 1 + 1 + 1 + 1, oM) :: (L + 1 + 1 + 1, oT) :: (L + 1 + 1, oS) :: (L + 1, oL) :: (231, o231) :: (I, oI) :: tups) := fun p hp => N6 p (mem_last hp)
    clear N6 N1 rng F1 il is
    k_steps
    unfold Stop
    refine' known_K F6 N7 X T ⟨yr, ord, tups, N7.get (by k_mem), ⟨kvs, hkv, hR, hkl⟩, fun y hy => (N7 y (by simp [hy])).1⟩ ⟨yh, oh, N7.get (by k_mem), ih⟩ ⟨yp, op, N7.get (by k_mem), ip⟩ ⟨ym, om, N7.get (by k_mem), io⟩ hf (inv_off hI) (by omega) ?h0 ?h1 ?h2
    case h0 =>
      intro h' tk' F8 N8 e
      clear F6 N7
      k_steps
      (with_reducible rename Fr _ _ _ _ => F9)
      (with_reducible rename News _ _ _ _ => N9)
      exact TurnEnd.intro (oI := oI') _ F9 N9 ⟨ol', os', rfl, by rw [cut_none (finR_none e)]; exact il'.mono (Nat.le_succ _), by rw [cut_none (finS_none e)]; exact is'.mono (Nat.le_succ _)⟩ (fun p hp => .tail _ hp) (by walk_at "mine sub") (fun p hp => hdI p hp) (by walk_at "mine map")
    case h1 =>
      intro h' tk' t' x' tx F8 N8 nt e
      replace nt := allNE_of nt
      simp only [AllNE] at nt
      repeat (obtain ⟨_, nt⟩ := nt)
      have tt := AllNE.mem nt
      clear F6 N7
      k_steps
      (with_reducible rename Fr _ _ _ _ => F9)
      (with_reducible rename News _ _ _ _ => N9)
      refine TurnEnd.intro (oI := oI') ((sd, os') :: (ld, _) :: (x, instObj 111 dx) :: (dx, callerD w one fx rr sr t1 t2 t3 t4) :: (rr, orr) :: (sr, osr) :: (one, instObj 181 dxo) :: (dxo, frameD w a1 a2 (.ref hd2) (.int cfa tc2) a5 a6 (.ref pd2) u1 u2 u3 u4 u5 u6 u7) :: (pd2, op2) :: (hd2, oh2) :: (rw, instObj 146 drw) :: (drw, rowD w ra rc (.ref rd2) v1 v2 v3) :: (rd2, ord2) :: (rd, ord) :: (wl, wellO c p tp q tq n) :: (hd, oh) :: (pd, op) :: (mem, om) :: (fx, ofx) :: (cc, occ) :: (c, LCg.lst ys) :: (L + 1 + 1 + 1 + 1, oM) :: (L + 1 + 1 + 1, oT) :: (L + 1 + 1, oS) :: (L + 1, oL) :: (231, o231) :: (I, oI) :: tups) F9 N9 ⟨_, os', rfl, by rw [cut_some (finR_some e)]; assumption, by rw [cut_none (finS_some e)]; exact is'.mono (Nat.le_succ _)⟩ (fun p hp => .tail _ (.tail _ hp)) (by walk_at "mine sub") (List.forall_mem_cons.mpr ⟨hdI (sd, os') (.head _), List.forall_mem_cons.mpr ⟨hdI (ld, ol') (.tail _ (.head _)), fun p hp => hdI p (.tail _ (.tail _ hp))⟩⟩) (by walk_at "mine map")
    case h2 =>
      intro h' tk' t' x' tx y' ty F8 N8 nt e
      replace nt := allNE_of nt
      simp only [AllNE] at nt
      repeat (obtain ⟨_, nt⟩ := nt)
      have tt := AllNE.mem nt
      clear F6 N7
      k_steps
      (with_reducible rename Fr _ _ _ _ => F9)
      (with_reducible rename News _ _ _ _ => N9)
      refine TurnEnd.intro (oI := oI') ((sd, _) :: (ld, _) :: (x, instObj 111 dx) :: (dx, callerD w one fx rr sr t1 t2 t3 t4) :: (rr, orr) :: (sr, osr) :: (one, instObj 181 dxo) :: (dxo, frameD w a1 a2 (.ref hd2) (.int cfa tc2) a5 a6 (.ref pd2) u1 u2 u3 u4 u5 u6 u7) :: (pd2, op2) :: (hd2, oh2) :: (rw, instObj 146 drw) :: (drw, rowD w ra rc (.ref rd2) v1 v2 v3) :: (rd2, ord2) :: (rd, ord) :: (wl, wellO c p tp q tq n) :: (hd, oh) :: (pd, op) :: (mem, om) :: (fx, ofx) :: (cc, occ) :: (c, LCg.lst ys) :: (L + 1 + 1 + 1 + 1, oM) :: (L + 1 + 1 + 1, oT) :: (L + 1 + 1, oS) :: (L + 1, oL) :: (231, o231) :: (I, oI) :: tups) F9 N9 ⟨_, _, rfl, by rw [cut_some (finR_some e)]; assumption, by rw [cut_some (finS_some e)]; assumption⟩ (fun p hp => .tail _ (.tail _ hp)) (by walk_at "mine sub") (List.forall_mem_cons.mpr ⟨hdI (sd, os') (.head _), List.forall_mem_cons.mpr ⟨hdI (ld, ol') (.tail _ (.head _)), fun p hp => hdI p (.tail _ (.tail _ hp))⟩⟩) (by walk_at "mine map")
  · rintro u nx h tk ⟨ol', os', rfl, il', is'⟩ F6 N6
    replace F6 : Fr g L _ _ := F6
    replace N6 : News g L _ _ := N6
    rw [cut_all (inv_dom Iv)] at il'
    rw [cut_all (inv_doms Iv)] at is'
    clear N1 rng F1 il is
    k_steps
    · exact absurd rfl (by assumption)
    unfold Stop
    refine ListComp_D0 (F₀ := by k_asm) (by with_unfolding_all rfl) (by decide) (by rfl) (by decide) (by rfl) ?_
    k_steps
    (with_reducible rename Fr _ _ _ _ => F9)
    (with_reducible rename News _ _ _ _ => N9)
    obtain ⟨ks, hks, hki, hkn⟩ := id is'
    refine ⟨sd, os', ks, _, rfl, rfl, F9, N9, by k_mem, ys', hks, by rw [sizeLine_eq]; omega, ?_, ?_⟩
    · intro g' k y v I2 oI2 C oC D m2 h3 tk3 E' hkm hkv3 hC hx F8 N8 off ne
      obtain ⟨tv, rfl⟩ := Value.isInt_shape hkv3
      obtain ⟨pp, tp3, rfl, ep⟩ := at_mem (nodup_of hks) hki hkm
      have eR := Iv.2 k pp ep
      have sS : (finS ρ f fs fm cfa k).isSome = true := by rw [ep]; rfl
      have sR : (finR ρ f fs fm cfa k).isSome = true := by rw [eR]; rfl
      clear F9 N9; (try clear F6); (try clear N6)
      k_steps
      all_goals first
        | exact k_hit ep eR (by assumption) (by assumption)
        | k_asm
    · intro D h3 tk3 F8 N8 o1
      clear F9 N9; (try clear F6); (try clear N6)
      k_steps
      (with_reducible rename Fr _ _ _ _ => F9)
      (with_reducible rename News _ _ _ _ => N9)
      exact hnext _ _ _ ol' os' F9 (fun p hp => N9 p (by revert p; walk_at "mine sub")) rfl rfl rfl rfl (il'.mono (by omega)) (is'.mono (by omega))
end Mine
end
section
local macro_rules | `(tactic| walk_at "execs cons") => `(tactic| ((with_reducible show wpAny _ _ (execs (Stmt.For _ _ _ _ _ :: _) _) _ _ _); refine Mine.Stop.of ?_))
local macro_rules | `(tactic| walk_at "mine pad") => `(tactic| skip)
local macro_rules | `(tactic| walk_at "mine pad") => `(tactic| skip)
namespace Mine
set_option maxHeartbeats 8000000 in
theorem turn2_spec {w : World} {mean : ExcName → Option Value} {mg mb : Str → Option Value} {g : Heap} {dp un : Nat} {gd : Option (List Code)} {s : Shared} {c0 c1 c2 c3 c4 c5 : Stmt} {tb : List Stmt} {scope : Scope} {L fa wl c hd pd mem fx cc I one dxo pd2 hd2 rw drw rd2 rd bt : Addr} {cd : Value} {oh op om ofx occ oM oT oS oL o231 oI oh2 op2 ord ord2 : Obj} {tups : List (Addr × Obj)} {kvs : List (Int × Value)} {ρ : Int → Option (Kd × Int)} {ys : List Value} {lvl p q cfa : Int} {a1 a2 a5 a6 ra rc : Value} {u1 u2 u3 u4 u5 u6 u7 v1 v2 v3 tc1 tc2 : Tok} {tl tp tq : Tok} {n : Nat} {M : Str → Option Value} {f fs fm : Int → Option Int} {tI : Bool} {vL vS : Option Value} {Q : Flow → Shared → Prop}
    (h234 : lawParts ((Mine.hd.heap_1 w.params).lookup 234) = some (c0 :: c1 :: c2 :: c3 :: c4 :: c5 :: tb, scope)) (hroom : dp < 600) (hun : un < cLine) (hun2 : un + 64 < cLine) (X : (Mine.hd.heap_1 w.params).In g) (T : Top topProg (looseW Mine.view [Str.ofString "ROUND"] ++ List.map (fun x => x.name) (recsOf Mine.view) ++ List.map (fun x => x.fst) (litsOf Mine.view) ++ List.map (fun x => x.name) (clssOf Mine.view (looseW Mine.view [Str.ofString "ROUND"]))) mean mg mb g)
    (F : Fr g L s.heap (fun y => if y = Str.ofString "one" then some (.ref one) else if y = Str.ofString "row" then some (.ref rw) else if y = Str.ofString "frame" then some (.int cfa tc1) else if y = Str.ofString "rules" then some (.ref rd) else if y = Str.ofString "by" then some (.ref bt) else if y = Str.ofString "level" then some (.int lvl tl) else if y = Str.ofString "held" then some (.ref hd) else if y = Str.ofString "places" then some (.ref pd) else if y = Str.ofString "reader" then some (.ref fx) else if y = Str.ofString "well" then some (.ref wl) else M y))
    (N : News g L s.heap ((one, instObj 181 dxo) :: (dxo, frameD w a1 a2 (.ref hd2) (.int cfa tc2) a5 a6 (.ref pd2) u1 u2 u3 u4 u5 u6 u7) :: (pd2, op2) :: (hd2, oh2) :: (rw, instObj 146 drw) :: (drw, rowD w ra rc (.ref rd2) v1 v2 v3) :: (rd2, ord2) :: (rd, ord) :: (wl, wellO c p tp q tq n) :: (hd, oh) :: (pd, op) :: (mem, om) :: (fx, ofx) :: (cc, occ) :: (c, LCg.lst ys) :: (L + 1 + 1 + 1 + 1, oM) :: (L + 1 + 1 + 1, oT) :: (L + 1 + 1, oS) :: (L + 1, oL) :: (231, o231) :: (I, oI) :: tups))
    (nS : AllNE (L + 1 + 1) [(one, oL), (dxo, oL), (pd2, oL), (hd2, oL), (rw, oL), (drw, oL), (rd2, oL), (rd, oL), (wl, oL), (hd, oL), (pd, oL), (mem, oL), (fx, oL), (cc, oL), (c, oL), (231, oL), (I, oL)])
    (nL : AllNE (L + 1) [(one, oL), (dxo, oL), (pd2, oL), (hd2, oL), (rw, oL), (drw, oL), (rd2, oL), (rd, oL), (wl, oL), (hd, oL), (pd, oL), (mem, oL), (fx, oL), (cc, oL), (c, oL), (231, oL), (I, oL)])
    (tS : ∀ y ∈ tups, y.1 ≠ L + 1 + 1) (tL : ∀ y ∈ tups, y.1 ≠ L + 1)
    (hp : 0 ≤ p) (hq0 : 0 ≤ q) (hq1 : q < 1009) (hc0 : 0 ≤ cfa) (hc1 : cfa < 4294967296)
    (hkv : IDl w ord kvs) (hkv2 : IDl w ord2 kvs) (hR : RulesAt kvs tups ρ) (hkl : kvs.length ≤ 5) (hρ : ∀ k, (ρ k).isSome = true → 0 ≤ k ∧ k < 32) (yr : (rd == sysModules) = false) (yr2 : (rd2 == sysModules) = false) (yh2 : (hd2 == sysModules) = false) (yp2 : (pd2 == sysModules) = false)
    (ih2 : IDictO w oh2 f 100) (ip2 : IDictO w op2 fs 100) (ih : IDictO w oh f 100) (ip : IDictO w op fs 100) (io : IDictO w om fm 40) (hf : ∀ k i, fm k = some i → 0 ≤ i ∧ i < 256) (hI : Inv fm f fs) (yh : (hd == sysModules) = false) (yp : (pd == sysModules) = false) (ym : (mem == sysModules) = false)
    (dM : oM.data = .cell (some (.ref mem))) (dS : oS.data = .cell vS) (dL : oL.data = .cell vL)
    (hRd : ∀ h, News g L h [(fx, ofx), (cc, occ), (L + 1 + 1 + 1 + 1, oM), (L + 1 + 1 + 1, oT)] → ReaderAt w h fx tI mem)
    (hnext : ∀ h tk m' ld ol sd os oS' oL' vS' vL', Fr g L h m' → News g L h ((ld, ol) :: (sd, os) :: (wl, wellO c p tp q tq n) :: (mem, om) :: (fx, ofx) :: (cc, occ) :: (c, LCg.lst ys) :: (L + 1 + 1 + 1 + 1, oM) :: (L + 1 + 1 + 1, oT) :: (L + 1 + 1, oS') :: (L + 1, oL') :: (231, o231) :: (I, oI) :: []) →
      oS'.data = .cell vS' → oL'.data = .cell vL' → AllNE ld [(wl, oL), (mem, oL), (fx, oL), (cc, oL), (c, oL), (L + 1 + 1 + 1 + 1, oL), (L + 1 + 1 + 1, oL), (L + 1 + 1, oL), (L + 1, oL), (231, oL), (I, oL)] → AllNE sd [(wl, oL), (mem, oL), (fx, oL), (cc, oL), (c, oL), (L + 1 + 1 + 1 + 1, oL), (L + 1 + 1 + 1, oL), (L + 1 + 1, oL), (L + 1, oL), (231, oL), (I, oL)] →
      (ld == sysModules) = false → (sd == sysModules) = false → m' (Str.ofString "held") = some (.ref ld) → m' (Str.ofString "places") = some (.ref sd) → m' (Str.ofString "reader") = some (.ref fx) → m' (Str.ofString "well") = some (.ref wl) →
      IDictO w ol (finR ρ f fs fm cfa) 100 → IDictO w os (finS ρ f fs fm cfa) 100 → Q .next { s with heap := h, toks := tk }) :
    wpAny (model PySem.Challenge.rw_sa0618_01.row.prog w) (Ar dp un (some [envOfC (Str.ofString "law") scope L fa cd]) gd) (execs tb (envOfC (Str.ofString "law") scope L fa cd)) Q (fun _ _ => False) s := by
  have hK : ∃ k, k = (Mine.hd.heap_1 w.params) := ⟨_, rfl⟩
  revert hK
  k_fill
  w_top off
  intro hK
  simp only [AllNE, and_true] at nS nL
  repeat (obtain ⟨_, nS⟩ := nS)
  repeat (obtain ⟨_, nL⟩ := nL)
  refine' law_use2 h234 ?hL ?_
  (case hL => k_is)
  rintro rfl rfl
  (show wpAny _ _ _ _ _ _)
  (try k_fold)
  k_steps
  unfold Stop
  refine' callerOf_K2 F N X T (by omega) (inst_of (N.get (by k_mem)) (N.get (by k_mem))) (inst_of (N.get (by k_mem)) (N.get (by k_mem))) (ρ := ρ) (B0 := 5) ⟨yr2, ord2, tups, N.get (by k_mem), ⟨kvs, hkv2, hR, hkl⟩, fun y hy => (N y (by simp [hy])).1⟩ (by omega) ⟨yh2, oh2, N.get (by k_mem), ih2⟩ ⟨yp2, op2, N.get (by k_mem), ip2⟩ (hRd _ ?hrn) ⟨ym, om, N.get (by k_mem), io⟩ hf rfl (by intro q; cases q) ?nr hc0 hc1 ?_
  case hrn =>
    intro y hy
    refine N y ?_
    simp only [List.mem_cons, List.not_mem_nil, or_false] at hy ⊢
    rcases hy with h | h | h | h <;> simp [h]
  case nr =>
    intro b hb
    simp only [List.mem_cons, List.not_mem_nil, or_false] at hb
    rcases hb with h | h | h | h | h | h | h | h
    all_goals (rw [h]; exact (N (_, _) (by k_mem)).2.1)
  intro h' tk x dx rr sr or os t1 t2 t3 t4 F2 N2 n1 n2 n3 n4 yrr ysr i1 i2
  have z1 : NE x (L + 1) := (n1.mem (L + 1, oL) (by k_mem)).symm
  have z2 : NE x (L + 1 + 1) := (n1.mem (L + 1 + 1, oS) (by k_mem)).symm
  have z3 : NE dx (L + 1) := (n2.mem (L + 1, oL) (by k_mem)).symm
  have z4 : NE dx (L + 1 + 1) := (n2.mem (L + 1 + 1, oS) (by k_mem)).symm
  have z5 : NE rr (L + 1) := (n3.mem (L + 1, oL) (by k_mem)).symm
  have z6 : NE rr (L + 1 + 1) := (n3.mem (L + 1 + 1, oS) (by k_mem)).symm
  have z7 : NE sr (L + 1) := (n4.mem (L + 1, oL) (by k_mem)).symm
  have z8 : NE sr (L + 1 + 1) := (n4.mem (L + 1 + 1, oS) (by k_mem)).symm
  clear F N n1 n2 n3 n4
  k_steps
  unfold Stop
  rename_i ld g5 ol lo1 hs1 fs1 hi1 fi1 l12 sd g4 os' lo0 hs0 fs0 hi0 fi0 l11 D g3 l10 g2 g1 oL' e1 g0 oS' F9 N9 e0
  have nl := allNE_allLt (l := (x, oL) :: (dx, oL) :: (rr, oL) :: (sr, oL) :: (one, oL) :: (dxo, oL) :: (pd2, oL) :: (hd2, oL) :: (rw, oL) :: (drw, oL) :: (rd2, oL) :: (rd, oL) :: (wl, oL) :: (hd, oL) :: (pd, oL) :: (mem, oL) :: (fx, oL) :: (cc, oL) :: (c, oL) :: (L + 1 + 1 + 1 + 1, oL) :: (L + 1 + 1 + 1, oL) :: (L + 1 + 1, oL) :: (L + 1, oL) :: (231, oL) :: (I, oL) :: tups) l12
  have ns := allNE_allLt (l := (ld, oL) :: (x, oL) :: (dx, oL) :: (rr, oL) :: (sr, oL) :: (one, oL) :: (dxo, oL) :: (pd2, oL) :: (hd2, oL) :: (rw, oL) :: (drw, oL) :: (rd2, oL) :: (rd, oL) :: (wl, oL) :: (hd, oL) :: (pd, oL) :: (mem, oL) :: (fx, oL) :: (cc, oL) :: (c, oL) :: (L + 1 + 1 + 1 + 1, oL) :: (L + 1 + 1 + 1, oL) :: (L + 1 + 1, oL) :: (L + 1, oL) :: (231, oL) :: (I, oL) :: tups) l11
  have nld : AllNE ld [(wl, oL), (mem, oL), (fx, oL), (cc, oL), (c, oL), (L + 1 + 1 + 1 + 1, oL), (L + 1 + 1 + 1, oL), (L + 1 + 1, oL), (L + 1, oL), (231, oL), (I, oL)] := by
    simp only [AllNE] at nl
    repeat (obtain ⟨_, nl⟩ := nl)
    simp only [AllNE, and_true]
    and_intros <;> assumption
  have nsd : AllNE sd [(wl, oL), (mem, oL), (fx, oL), (cc, oL), (c, oL), (L + 1 + 1 + 1 + 1, oL), (L + 1 + 1 + 1, oL), (L + 1 + 1, oL), (L + 1, oL), (231, oL), (I, oL)] := by
    simp only [AllNE] at ns
    repeat (obtain ⟨_, ns⟩ := ns)
    simp only [AllNE, and_true]
    and_intros <;> assumption
  refine turn3_spec h234 hroom hun hun2 X T F9 (fun p hp => N9 p (.tail _ hp)) l12 l11 hp hq0 hq1 hc0 hc1 hkv hkv2 hR hkl hρ yr yr2 yh2 yp2 ih2 ip2 ih ip io hf hI yh yp ym dM e0 e1 (dict_new hi1) (dict_new hi0) lo1 lo0 yrr ysr i1 i2 ?_
  intro h3 tk3 m3 ol3 os3 F3 N3 q1 q2 q3 q4 i3 i4
  exact hnext h3 tk3 m3 ld ol3 sd os3 oS' oL' _ _ F3 N3 e0 e1 nld nsd lo1 lo0 q1 q2 q3 q4 i3 i4
end Mine
end
section
local macro_rules | `(tactic| walk_at "compareOp NotEq ref ref") => `(tactic| ((with_reducible show wpAny _ _ (compareOp CmpOp.NotEq (Value.ref _) (Value.ref _)) _ _ _); k_dflt (first
  | (refine' Mine.idict_ne ?I1 ?I2 ?hu ?_; (case I1 | I2 => walk_at "mine dict"); (case hu => assumption); k_whole)
  | (refine' Mine.rules_K ?N ?m1 ?m2 ?da ?db ?la ?lb ?hu ?_; (case N => k_asm); (case m1 | m2 => k_mem); (case da | db | la | lb | hu => assumption); k_whole))))
local macro_rules | `(tactic| walk_at "execs cons") => `(tactic| ((with_reducible show wpAny _ _ (execs (Stmt.Assign [PySem.Expr.Name (Str.ofString "come") _] _ _ :: _) _) _ _ _); refine Mine.Stop.of ?_))
local macro_rules | `(tactic| walk_at "mine pad") => `(tactic| skip)
local macro_rules | `(tactic| walk_at "mine pad") => `(tactic| skip)
namespace Mine
theorem drop_tb {a1 a2 a3 a4 a5 a6 a7 t r b : Addr × Obj} {l : List (Addr × Obj)} : ∀ p ∈ a1 :: a2 :: a3 :: a4 :: a5 :: a6 :: a7 :: r :: l, p ∈ a1 :: a2 :: a3 :: a4 :: a5 :: a6 :: a7 :: t :: r :: b :: l := by
  intro p hp
  simp only [List.mem_cons] at hp ⊢
  rcases hp with h | h | h | h | h | h | h | h | h <;> simp [h]
set_option maxHeartbeats 8000000 in
theorem turn_spec {w : World} {mean : ExcName → Option Value} {mg mb : Str → Option Value} {g : Heap} {dp un : Nat} {gd : Option (List Code)} {s : Shared} {tb : List Stmt} {scope : Scope} {L fa wl c hd pd mem fx cc I : Addr} {cd : Value} {oh op om ofx occ oM oT oS oL o231 oI : Obj} {ys : List Value} {script : List Int} {lvl p q : Int} {tl tp tq : Tok} {n : Nat} {M : Str → Option Value} {f fs fm : Int → Option Int} {tI : Bool} {vL vS : Option Value} {Q : Flow → Shared → Prop}
    (h234 : lawParts ((Mine.hd.heap_1 w.params).lookup 234) = some (tb, scope)) (hroom : dp < 600) (hun : un < cLine) (hun2 : un + 64 < cLine) (X : (Mine.hd.heap_1 w.params).In g) (T : Top topProg (looseW Mine.view [Str.ofString "ROUND"] ++ List.map (fun x => x.name) (recsOf Mine.view) ++ List.map (fun x => x.fst) (litsOf Mine.view) ++ List.map (fun x => x.name) (clssOf Mine.view (looseW Mine.view [Str.ofString "ROUND"]))) mean mg mb g)
    (F : Fr g L s.heap (fun y => if y = Str.ofString "level" then some (.int lvl tl) else if y = Str.ofString "held" then some (.ref hd) else if y = Str.ofString "places" then some (.ref pd) else if y = Str.ofString "reader" then some (.ref fx) else if y = Str.ofString "well" then some (.ref wl) else M y))
    (N : News g L s.heap [(wl, wellO c p tp q tq n), (hd, oh), (pd, op), (mem, om), (fx, ofx), (cc, occ), (c, LCg.lst ys), (L + 1 + 1 + 1 + 1, oM), (L + 1 + 1 + 1, oT), (L + 1 + 1, oS), (L + 1, oL), (231, o231), (I, oI)])
    (nw : AllNE wl [(hd, oh), (pd, op), (mem, om), (fx, ofx), (cc, occ), (c, LCg.lst ys), (L + 1 + 1 + 1 + 1, oM), (L + 1 + 1 + 1, oT), (L + 1 + 1, oS), (L + 1, oL), (231, o231), (I, oI)])
    (nS : AllNE (L + 1 + 1) [(wl, wellO c p tp q tq n), (hd, oh), (pd, op), (mem, om), (fx, ofx), (cc, occ), (c, LCg.lst ys), (231, o231), (I, oI)])
    (nL : AllNE (L + 1) [(wl, wellO c p tp q tq n), (hd, oh), (pd, op), (mem, om), (fx, ofx), (cc, occ), (c, LCg.lst ys), (231, o231), (I, oI)])
    (hi : IntsAre ys (List.map (fun k => k.fmod 1000003) (List.take 63 script))) (hp : 0 ≤ p) (hq0 : 0 ≤ q) (hq1 : q < 1009)
    (ih : IDictO w oh f 100) (ip : IDictO w op fs 100) (io : IDictO w om fm 40) (hf : ∀ k i, fm k = some i → 0 ≤ i ∧ i < 256) (hI : Inv fm f fs) (yh : (hd == sysModules) = false) (yp : (pd == sysModules) = false) (ym : (mem == sysModules) = false)
    (dM : oM.data = .cell (some (.ref mem))) (dS : oS.data = .cell vS) (dL : oL.data = .cell vL)
    (hRd : ∀ h, News g L h [(fx, ofx), (cc, occ), (L + 1 + 1 + 1 + 1, oM), (L + 1 + 1 + 1, oT)] → ReaderAt w h fx tI mem)
    (hret : ∀ h tk m', Fr g L h m' → News g L h [(231, o231)] → Q (.ret (.bool true)) { s with heap := h, toks := tk })
    (hnext : ∀ h tk m' ld ol sd os oS' oL' vS' vL' p' tp' q' tq' f' fs', Fr g L h m' → News g L h ((ld, ol) :: (sd, os) :: (wl, wellO c p' tp' q' tq' n) :: (mem, om) :: (fx, ofx) :: (cc, occ) :: (c, LCg.lst ys) :: (L + 1 + 1 + 1 + 1, oM) :: (L + 1 + 1 + 1, oT) :: (L + 1 + 1, oS') :: (L + 1, oL') :: (231, o231) :: (I, oI) :: []) →
      oS'.data = .cell vS' → oL'.data = .cell vL' → AllNE ld [(wl, oL), (mem, oL), (fx, oL), (cc, oL), (c, oL), (L + 1 + 1 + 1 + 1, oL), (L + 1 + 1 + 1, oL), (L + 1 + 1, oL), (L + 1, oL), (231, oL), (I, oL)] → AllNE sd [(wl, oL), (mem, oL), (fx, oL), (cc, oL), (c, oL), (L + 1 + 1 + 1 + 1, oL), (L + 1 + 1 + 1, oL), (L + 1 + 1, oL), (L + 1, oL), (231, oL), (I, oL)] →
      (ld == sysModules) = false → (sd == sysModules) = false → 0 ≤ p' → 0 ≤ q' → q' < 1009 → m' (Str.ofString "held") = some (.ref ld) → m' (Str.ofString "places") = some (.ref sd) → m' (Str.ofString "reader") = some (.ref fx) → m' (Str.ofString "well") = some (.ref wl) →
      IDictO w ol f' 100 → IDictO w os fs' 100 → Inv fm f' fs' → Q .next { s with heap := h, toks := tk }) :
    wpAny (model PySem.Challenge.rw_sa0618_01.row.prog w) (Ar dp un (some [envOfC (Str.ofString "law") scope L fa cd]) gd) (execs tb (envOfC (Str.ofString "law") scope L fa cd)) Q (fun _ _ => False) s := by
  have hK : ∃ k, k = (Mine.hd.heap_1 w.params) := ⟨_, rfl⟩
  revert hK
  k_fill
  w_top off
  intro hK
  simp only [AllNE, and_true] at nw nS nL
  repeat (obtain ⟨_, nw⟩ := nw)
  repeat (obtain ⟨_, nS⟩ := nS)
  repeat (obtain ⟨_, nL⟩ := nL)
  refine' law_use h234 ?hL ?_
  (case hL => k_is)
  rintro rfl rfl
  (show wpAny _ _ _ _ _ _)
  (try k_fold)
  k_steps
  unfold Stop
  refine' row_K F N X T ?U ?hc (by omega) hp hq0 hq1 ?h0 ?h1
  (case U => k_updF)
  (case hc => walk_at "mine cells")
  case h0 =>
    intro h' t0 rd o kvs tups ρ p' tp' q' tq' tk F2 N2 n0 n1 b1 b2 b3 yr hkv hR hkl hρ htw htn
    clear F N
    simp only [List.cons_append, List.nil_append] at N2
    replace n0 := allNE_of n0
    replace n1 := allNE_of n1
    simp only [AllNE, and_true] at n0 n1
    repeat (obtain ⟨_, n0⟩ := n0)
    repeat (obtain ⟨_, n1⟩ := n1)
    k_steps
    (with_reducible rename Fr _ _ _ _ => F9)
    (with_reducible rename News _ _ _ _ => N9)
    exact hret _ _ _ F9 (fun p hp => N9 p (by revert p; walk_at "mine sub"))
  case h1 =>
    intro h' t0 bt br bo tr to rd o kvs tups ρ p' tp' q' tq' tk F2 N2 n0 n1 nb b1 b2 b3 yr hkv hR hkl hρ htw htn
    have tS : ∀ y ∈ tups, y.1 ≠ L + 1 + 1 := fun y hy q => by
      have := htn y hy
      rw [q, N.get (by k_mem : (L + 1 + 1, oS) ∈ _)] at this; cases this
    have tL : ∀ y ∈ tups, y.1 ≠ L + 1 := fun y hy q => by
      have := htn y hy
      rw [q, N.get (by k_mem : (L + 1, oL) ∈ _)] at this; cases this
    clear F N
    simp only [List.cons_append, List.nil_append] at N2
    replace n0 := allNE_of n0
    replace n1 := allNE_of n1
    replace nb := allNE_of nb
    simp only [AllNE, and_true] at n0 n1 nb
    repeat (obtain ⟨_, n0⟩ := n0)
    repeat (obtain ⟨_, n1⟩ := n1)
    repeat (obtain ⟨_, nb⟩ := nb)
    rcases ef : f br with _ | v0
    · k_steps
      (with_reducible rename Fr _ _ _ _ => F9)
      (with_reducible rename News _ _ _ _ => N9)
      exact hret _ _ _ F9 (fun p hp => N9 p (by revert p; walk_at "mine sub"))
    · k_steps
      · exact absurd rfl (by assumption)
      unfold Stop
      rename_i D2 o2 y12 i12 l14 h7 tk3 rw' drw t11 t21 t31 l13 l21 h6 h5 tk2 ti a h4 tk1 h3 D1 o1 y11 i11 l12 h2 D o0 y10 i10 l11 h1 tk0 one dxo t1 t2 t3 t4 t5 t6 t7 l10 l20 h9 F9 N9
      refine turn2_spec h234 hroom hun hun2 X T F9 (fun p hp => N9 p (drop_tb p hp)) ?nS ?nL tS tL b1 b2 b3 (fmod_lo _ (by omega)) (fmod_hi _ (by omega)) hkv i12 hR hkl hρ yr y12 y11 y10 i11 i10 ih ip io hf hI yh yp ym dM dS dL hRd ?_
      case nS =>
        simp only [AllNE, and_true]
        and_intros
        all_goals first | assumption | (refine NE.sy ?_; assumption) | (show @Ne Nat _ _; omega)
      case nL =>
        simp only [AllNE, and_true]
        and_intros
        all_goals first | assumption | (refine NE.sy ?_; assumption) | (show @Ne Nat _ _; omega)
      intro h3' tk3' m3' ld ol sd os oS' oL' vS' vL' F3 N3 e0 e1 nld nsd lo1 lo0 q1 q2 q3 q4 i3 i4
      exact hnext h3' tk3' m3' ld ol sd os oS' oL' _ _ _ _ _ _ _ _ F3 N3 e0 e1 nld nsd lo1 lo0 b1 b2 b3 q1 q2 q3 q4 i3 i4 (fin_inv hI hf hρ)
end Mine
end
namespace Mine
def TurnEnd4 (g : Heap) (L I : Addr) (R : (Str → Option Value) → List (Addr × Obj) → Prop) (oI : Obj) (s₁ s₂ : Shared) : Prop :=
  ∃ h' tk m' news' nx, s₂ = { s₁ with heap := h', toks := tk } ∧ Fr g L h' m' ∧ News g L h' news' ∧ (∀ p ∈ nx, p ∈ news') ∧ (I, oI) ∈ news' ∧ (∀ p ∈ nx, p.1 ≠ I) ∧ R m' nx
def TurnPost4 (g : Heap) (L I : Addr) (oI : Obj) (R : (Str → Option Value) → List (Addr × Obj) → Prop) (s₁ : Shared) (Q : Flow → Shared → Prop) (f : Flow) (s₂ : Shared) : Prop := match f with
  | .ret v => Q (.ret v) s₂
  | .brk => Q .next s₂
  | _ => TurnEnd4 g L I R oI s₁ s₂
section
variable {prog : Program} {w : World} {A : Around} {E : Value → Shared → Prop} {s : Shared} {env : Env} {g : Heap} {x : Str} {body : List Stmt} {Q : Flow → Shared → Prop}
theorem loop_gen4 {I : Addr} {n : Nat} {P : Nat → Value → Prop} {St : Nat → Heap → Prop} {m₀ : Str → Option Value} (nx₀ : List (Addr × Obj)) (R : Nat → (Str → Option Value) → List (Addr × Obj) → Prop)
    (W : Walks prog w A I [I] [I] n P St) (hLf : env.locals ∉ [I]) (hI0 : g.get? I = none) (hSt : ∀ i h, St i h → ∃ o, h.get? I = some o) (hIn : ∀ p ∈ nx₀, p.1 ≠ I)
    (hst : St 0 s.heap) (F : Fr g env.locals s.heap m₀) (N : News g env.locals s.heap nx₀) (hR : R 0 m₀ nx₀)
    (turn : ∀ i v u nx h tk oI, i < n → St (i + 1) h → P i v → R i u nx → (∀ p ∈ nx, p.1 ≠ I) → Fr g env.locals h (fun y => if y = x then some v else u y) → News g env.locals h (nx ++ [(I, oI)]) →
      wpAny (model prog w) A (execs body env) (TurnPost4 g env.locals I oI (R (i + 1)) { s with heap := h, toks := tk } Q) E { s with heap := h, toks := tk })
    (done : ∀ u nx h tk, R n u nx → Fr g env.locals h u → News g env.locals h nx → Q .next { s with heap := h, toks := tk }) :
    LoopAtV prog w A g env x body Q E (.ref I) s := by
  refine ⟨I, [I], [I], n, P, St, m₀, nx₀, R, rfl, W, hLf, (fun b hb => by rw [List.mem_singleton.mp hb]; exact hI0), (fun p hp q => hIn p hp (List.mem_singleton.mp q)), hst, F, N, hR, ?_, ?_⟩
  · rintro i v m₁ nx s₁ own ⟨hh', tk', rfl⟩ hin hP hJ hoff hown hget hall hst₁ F₁ N₁
    obtain ⟨oI, hoI⟩ := hSt _ _ hst₁
    have hIown : (I, oI) ∈ own := hall I (List.mem_singleton.mpr rfl) hI0 oI hoI
    have hN : News g env.locals hh' (nx ++ [(I, oI)]) := fun p hp => by
      rcases List.mem_append.mp hp with q | q
      · exact N₁ p (List.mem_append_right _ q)
      · rw [List.mem_singleton.mp q]
        exact N₁ _ (List.mem_append_left _ hIown)
    have hsub : ∀ p ∈ own, p = (I, oI) := by
      intro p hp
      have e := List.mem_singleton.mp (hown p hp)
      have := hget p hp
      rw [e, hoI] at this
      exact Prod.ext e (Option.some.inj this).symm
    refine wpAny_mono (turn i v m₁ nx hh' tk' oI hin hst₁ hP hJ (fun p hp q => hoff p hp (List.mem_singleton.mpr q)) F₁ hN) (fun f s₂ p => ?_) fun _ _ e => e
    have fin : TurnEnd4 g env.locals I (R (i + 1)) oI { s with heap := hh', toks := tk' } s₂ → LoopStepU g env.locals [I] own (R (i + 1)) { s with heap := hh', toks := tk' } .next s₂ := by
      rintro ⟨h', tk, m', news', nx', e, F', N', hn, hk, hI', hR'⟩
      refine ⟨rfl, h', tk, m', nx', e, F', fun p hp => ?_, fun p hp hq => ?_, hR'⟩
      · rcases List.mem_append.mp hp with q | q
        · rw [hsub p q]; exact N' _ hk
        · exact N' p (hn p q)
      · exact hI' p hp (List.mem_singleton.mp hq)
    cases f with
    | ret v => exact .ret p
    | brk => exact .brk p
    | next => exact .next (fin p)
    | cont => exact .cont (fin p)
  · rintro h' tk m' nx F' N' _ hJ
    exact done m' nx h' tk hJ F' N'
theorem loop_range4 {r : Addr} {b₀ : Int} {t₀ u₀ v₀ : Tok} {n : Nat} {m₀ : Str → Option Value} (nx₀ : List (Addr × Obj)) (R : Nat → (Str → Option Value) → List (Addr × Obj) → Prop)
    (hh : A.handled = none) (hr : IsRange s.heap r 0 b₀ 1 t₀ u₀ v₀) (hsmall : Builtin.Range.small 0 b₀ 1 = true) (hn : Builtin.Range.rangeSize 0 b₀ 1 = (n : Int)) (F : Fr g env.locals s.heap m₀) (N : News g env.locals s.heap nx₀) (hR : R 0 m₀ nx₀)
    (turn : ∀ (I : Addr) i t u nx h tk oI, i < n → oI.cls = .type "range_iterator" → R i u nx → (∀ p ∈ nx, p.1 ≠ I) → Fr g env.locals h (fun y => if y = x then some (.int (i : Nat) t) else u y) → News g env.locals h (nx ++ [(I, oI)]) →
      wpAny (model prog w) A (execs body env) (TurnPost4 g env.locals I oI (R (i + 1)) { s with heap := h, toks := tk } Q) E { s with heap := h, toks := tk })
    (done : ∀ u nx h tk, R n u nx → Fr g env.locals h u → News g env.locals h nx → Q .next { s with heap := h, toks := tk }) :
    wpAny (model prog w) A (pyIter (.ref r)) (fun it s₂ => LoopAtV prog w A g env x body Q E it s₂) E s := by
  refine wpAny_pyIter_range hr hsmall ?_
  have W : Walks prog w A s.heap.objs.size [s.heap.objs.size] [s.heap.objs.size] n (fun i v => ∃ t, v = .int (0 + i * 1) t)
      (fun i h => IsRangeIter h s.heap.objs.size (0 + (i : Nat) * 1) ((n : Int) - (i : Nat)) 1) := Walks.range hh _ 0 1 n
  refine loop_gen4 (I := s.heap.objs.size) nx₀ R W ?_ (next_is_new F) (fun i h hi => ⟨_, hi⟩) ?_ (by show IsRangeIter _ _ _ _ _; rw [hn]; simpa using Heap.get?_push_size _ rfl) (F.push _) ?_ hR ?_ ?_
  · intro hm
    exact absurd F.ns.lt ((List.mem_singleton.mp hm) ▸ Nat.lt_irrefl _)
  · intro p hp hI
    exact absurd (Heap.lt_size (N p hp).1) (hI ▸ Nat.lt_irrefl _)
  · intro p hp
    exact ⟨Heap.get?_push_of_some _ (N p hp).1, (N p hp).2⟩
  · rintro i v u nx h tk oI hi hst ⟨t, rfl⟩ hR' hI F' N'
    have hcl : oI.cls = .type "range_iterator" := by
      have e1 := (N' (s.heap.objs.size, oI) (List.mem_append_right _ (.head _))).1
      have e2 : h.get? s.heap.objs.size = _ := hst
      rw [e2] at e1
      exact (congrArg Obj.cls (Option.some.inj e1)).symm
    have e : (0 : Int) + (i : Int) * 1 = (i : Nat) := by omega
    rw [e] at F'
    exact turn _ i t u nx h tk oI hi hcl hR' hI F' N'
  · intro u nx h tk hR' F' N'
    exact done u nx h tk hR' F' N'
end
end Mine
namespace Mine
def lawTail (o : Option Obj) : Option (List Stmt × Scope) := match o with
  | some ⟨_, _, .func fd, _⟩ => match fd.body with
    | .stmts (_ :: _ :: _ :: _ :: _ :: tl) => some (tl, fd.scope)
    | _ => none
  | _ => none
theorem law_use4 {R : Prop} {w : World} {tl tl' : List Stmt} {scope sc' : Scope} {oc : Value} {od : Option Addr} {nm q : Str} {ps : Arguments} {s0 s1 s2 s3 s4 : Stmt} {d0 k0 doc0 pm0 : Value} {an0 : Option Addr} {cd0 ct0 : Value} {osl : Array (Option Value)}
    (I : lawTail ((Mine.hd.heap_1 w.params).lookup 234) = some (tl, scope)) (hL : (Mine.hd.heap_1 w.params).lookup 234 = some ⟨oc, od, .func (fnOf nm q ps (s0 :: s1 :: s2 :: s3 :: s4 :: tl') sc' d0 k0 doc0 pm0 an0 cd0 ct0), osl⟩)
    (k : tl = tl' → scope = sc' → R) : R := by
  rw [hL] at I
  have I' : some (tl', sc') = some (tl, scope) := I
  cases I'
  exact k rfl rfl
theorem parts_of {w : World} {tb : List Stmt} {oc : Value} {od : Option Addr} {nm q : Str} {ps : Arguments} {s0 s1 s2 s3 s4 : Stmt} {lv it : Expr} {els : List Stmt} {fp : Pos} {rest : List Stmt} {sc : Scope} {d0 k0 doc0 pm0 : Value} {an0 : Option Addr} {cd0 ct0 : Value} {osl : Array (Option Value)}
    (hL : (Mine.hd.heap_1 w.params).lookup 234 = some ⟨oc, od, .func (fnOf nm q ps (s0 :: s1 :: s2 :: s3 :: s4 :: .For lv it tb els fp :: rest) sc d0 k0 doc0 pm0 an0 cd0 ct0), osl⟩) : lawParts ((Mine.hd.heap_1 w.params).lookup 234) = some (tb, sc) := by
  rw [hL]; rfl
theorem tail_of {w : World} {tl : List Stmt} {oc : Value} {od : Option Addr} {nm q : Str} {ps : Arguments} {s0 s1 s2 s3 s4 : Stmt} {sc : Scope} {d0 k0 doc0 pm0 : Value} {an0 : Option Addr} {cd0 ct0 : Value} {osl : Array (Option Value)}
    (hL : (Mine.hd.heap_1 w.params).lookup 234 = some ⟨oc, od, .func (fnOf nm q ps (s0 :: s1 :: s2 :: s3 :: s4 :: tl) sc d0 k0 doc0 pm0 an0 cd0 ct0), osl⟩) : lawTail ((Mine.hd.heap_1 w.params).lookup 234) = some (tl, sc) := by
  rw [hL]; rfl
theorem put5 {g h : Heap} {L : Addr} {u : Str → Option Value} {x a b c d : Str} {v va vb vc vd : Value} (F : Fr g L h (fun y => if y = x then some v else u y)) (ea : u a = some va) (eb : u b = some vb) (ec : u c = some vc) (ed : u d = some vd) :
    Fr g L h (fun y => if y = x then some v else if y = a then some va else if y = b then some vb else if y = c then some vc else if y = d then some vd else u y) := by
  have e : (fun y => if y = x then some v else if y = a then some va else if y = b then some vb else if y = c then some vc else if y = d then some vd else u y) = fun y => if y = x then some v else u y := by
    funext y
    by_cases q0 : y = x
    · rw [if_pos q0, if_pos q0]
    rw [if_neg q0, if_neg q0]
    by_cases q1 : y = a
    · rw [if_pos q1, q1, ea]
    rw [if_neg q1]
    by_cases q2 : y = b
    · rw [if_pos q2, q2, eb]
    rw [if_neg q2]
    by_cases q3 : y = c
    · rw [if_pos q3, q3, ec]
    rw [if_neg q3]
    by_cases q4 : y = d
    · rw [if_pos q4, q4, ed]
    rw [if_neg q4]
  rw [e]; exact F
theorem put1 {g h : Heap} {L : Addr} {u : Str → Option Value} {a : Str} {va : Value} (F : Fr g L h u) (ea : u a = some va) : Fr g L h (fun y => if y = a then some va else u y) := by
  have e : (fun y => if y = a then some va else u y) = u := by
    funext y
    by_cases q1 : y = a
    · rw [if_pos q1, q1, ea]
    rw [if_neg q1]
  rw [e]; exact F
def LoopR (w : World) (L wl c mem fx cc : Addr) (om ofx occ oM oT o231 : Obj) (ys : List Value) (n : Nat) (fm : Int → Option Int) (u : Str → Option Value) (nx : List (Addr × Obj)) : Prop :=
  ∃ hd pd oh op oS oL vS vL p tp q tq f fs, nx = [(hd, oh), (pd, op), (wl, wellO c p tp q tq n), (mem, om), (fx, ofx), (cc, occ), (c, LCg.lst ys), (L + 1 + 1 + 1 + 1, oM), (L + 1 + 1 + 1, oT), (L + 1 + 1, oS), (L + 1, oL), (231, o231)] ∧ AllNE hd [(wl, o231), (mem, o231), (fx, o231), (cc, o231), (c, o231), (L + 1 + 1 + 1 + 1, o231), (L + 1 + 1 + 1, o231), (L + 1 + 1, o231), (L + 1, o231), (231, o231)] ∧ AllNE pd [(wl, o231), (mem, o231), (fx, o231), (cc, o231), (c, o231), (L + 1 + 1 + 1 + 1, o231), (L + 1 + 1 + 1, o231), (L + 1 + 1, o231), (L + 1, o231), (231, o231)] ∧ u (Str.ofString "held") = some (.ref hd) ∧ u (Str.ofString "places") = some (.ref pd) ∧ u (Str.ofString "reader") = some (.ref fx) ∧ u (Str.ofString "well") = some (.ref wl) ∧
    (hd == sysModules) = false ∧ (pd == sysModules) = false ∧ 0 ≤ p ∧ 0 ≤ q ∧ q < 1009 ∧ oS.data = .cell vS ∧ oL.data = .cell vL ∧ IDictO w oh f 100 ∧ IDictO w op fs 100 ∧ Inv fm f fs
set_option maxHeartbeats 8000000 in
theorem law_loop {w : World} {mean : ExcName → Option Value} {mg mb : Str → Option Value} {g : Heap} {dp un : Nat} {gd : Option (List Code)} {s : Shared} {tl : List Stmt} {scope : Scope} {L fa wl c hd pd mem fx cc : Addr} {cd : Value} {oh op om ofx occ oM oT oS oL o231 : Obj} {ys : List Value} {script : List Int} {p q : Int} {tp tq : Tok} {n : Nat} {m : Str → Option Value} {f fs fm : Int → Option Int} {tI : Bool} {vL vS : Option Value} {Q : Flow → Shared → Prop}
    (h4 : lawTail ((Mine.hd.heap_1 w.params).lookup 234) = some (tl, scope)) (hroom : dp < 600) (hun : un < cLine) (hun2 : un + 64 < cLine) (X : (Mine.hd.heap_1 w.params).In g) (T : Top topProg (looseW Mine.view [Str.ofString "ROUND"] ++ List.map (fun x => x.name) (recsOf Mine.view) ++ List.map (fun x => x.fst) (litsOf Mine.view) ++ List.map (fun x => x.name) (clssOf Mine.view (looseW Mine.view [Str.ofString "ROUND"]))) mean mg mb g)
    (F : Fr g L s.heap m) (mh : m (Str.ofString "held") = some (.ref hd)) (mp : m (Str.ofString "places") = some (.ref pd)) (mr : m (Str.ofString "reader") = some (.ref fx)) (mw : m (Str.ofString "well") = some (.ref wl))
    (N : News g L s.heap [(hd, oh), (pd, op), (wl, wellO c p tp q tq n), (mem, om), (fx, ofx), (cc, occ), (c, LCg.lst ys), (L + 1 + 1 + 1 + 1, oM), (L + 1 + 1 + 1, oT), (L + 1 + 1, oS), (L + 1, oL), (231, o231)])
    (nh : AllNE hd [(wl, o231), (mem, o231), (fx, o231), (cc, o231), (c, o231), (L + 1 + 1 + 1 + 1, o231), (L + 1 + 1 + 1, o231), (L + 1 + 1, o231), (L + 1, o231), (231, o231)]) (np : AllNE pd [(wl, o231), (mem, o231), (fx, o231), (cc, o231), (c, o231), (L + 1 + 1 + 1 + 1, o231), (L + 1 + 1 + 1, o231), (L + 1 + 1, o231), (L + 1, o231), (231, o231)]) (nw : AllNE wl [(mem, o231), (fx, o231), (cc, o231), (c, o231), (L + 1 + 1 + 1 + 1, o231), (L + 1 + 1 + 1, o231), (L + 1 + 1, o231), (L + 1, o231), (231, o231)]) (nS : AllNE (L + 1 + 1) [(wl, o231), (mem, o231), (fx, o231), (cc, o231), (c, o231), (231, o231)]) (nL : AllNE (L + 1) [(wl, o231), (mem, o231), (fx, o231), (cc, o231), (c, o231), (231, o231)])
    (hi : IntsAre ys (List.map (fun k => k.fmod 1000003) (List.take 63 script))) (hp : 0 ≤ p) (hq0 : 0 ≤ q) (hq1 : q < 1009)
    (ih : IDictO w oh f 100) (ip : IDictO w op fs 100) (io : IDictO w om fm 40) (hf : ∀ k i, fm k = some i → 0 ≤ i ∧ i < 256) (hI : Inv fm f fs) (yh : (hd == sysModules) = false) (yp : (pd == sysModules) = false) (ym : (mem == sysModules) = false)
    (dM : oM.data = .cell (some (.ref mem))) (dS : oS.data = .cell vS) (dL : oL.data = .cell vL)
    (hRd : ∀ h, News g L h [(fx, ofx), (cc, occ), (L + 1 + 1 + 1 + 1, oM), (L + 1 + 1 + 1, oT)] → ReaderAt w h fx tI mem)
    (hret : ∀ h tk m', Fr g L h m' → News g L h [(231, o231)] → Q (.ret (.bool true)) { s with heap := h, toks := tk }) :
    wpAny (model PySem.Challenge.rw_sa0618_01.row.prog w) (Ar dp un (some [envOfC (Str.ofString "law") scope L fa cd]) gd) (execs tl (envOfC (Str.ofString "law") scope L fa cd)) Q (fun _ _ => False) s := by
  have hK : ∃ k, k = (Mine.hd.heap_1 w.params) := ⟨_, rfl⟩
  revert hK
  k_fill
  w_top off
  intro hK
  have hP : ∃ tb, lawParts ((Mine.hd.heap_1 w.params).lookup 234) = some (tb, scope) ∧ ∃ lv it els fp rest, tl = .For lv it tb els fp :: rest := by
    refine' law_use4 h4 ?hL ?_
    (case hL => k_is)
    rintro rfl rfl
    refine' ⟨_, parts_of ?hL2, _, _, _, _, _, rfl⟩
    (case hL2 => k_is)
  refine' law_use4 h4 ?hL ?_
  (case hL => k_is)
  rintro rfl rfl
  clear h4
  obtain ⟨tb, h234, lv, it, els, fp, rest, he⟩ := hP
  cases he
  have nx1 : AllNE wl ((hd, o231) :: (pd, o231) :: [(mem, o231), (fx, o231), (cc, o231), (c, o231), (L + 1 + 1 + 1 + 1, o231), (L + 1 + 1 + 1, o231), (L + 1 + 1, o231), (L + 1, o231), (231, o231)]) := by
    refine ⟨nh.1.sy, np.1.sy, nw⟩
  simp only [AllNE, and_true] at nx1
  repeat (obtain ⟨_, nx1⟩ := nx1)
  have F0 := put1 F mw
  clear F
  (show wpAny _ _ _ _ _ _)
  (try k_fold)
  k_steps
  (with_reducible rename Fr _ _ _ _ => F1)
  (with_reducible rename News _ _ _ _ => N1)
  (with_reducible rename IsRange _ _ _ _ _ _ _ _ => rng)
  unfold Stop
  rename_i lF0 g1 v tv p1 tp1 q1' tq1 tk1 F00 N00 hp1 hq10 hq11 hv0 hv1 g2 tk2 t1 t2 t3 kk
  have hv : v = 0 ∨ v = 1 ∨ v = 2 := by omega
  have hsm : Builtin.Range.small 0 (1 + v) 1 = true := by rcases hv with rfl | rfl | rfl <;> rfl
  have hrs : Builtin.Range.rangeSize 0 (1 + v) 1 = ((1 + v).toNat : Int) := by rcases hv with rfl | rfl | rfl <;> rfl
  clear F00 N00 lF0 N
  refine loop_range4 (n := (1 + v).toNat) _ (fun i u nx => LoopR w L wl c mem fx cc om ofx occ oM oT o231 ys n fm u nx) rfl rng hsm hrs F1 N1 ⟨hd, pd, oh, op, oS, oL, vS, vL, p1, tp1, q1', tq1, f, fs, rfl, nh, np, mh, mp, mr, rfl, yh, yp, hp1, hq10, hq11, dS, dL, ih, ip, hI⟩ ?_ ?_
  · rintro I i t u nx h tk oI hi' hcI ⟨hd, pd, oh, op, oS, oL, vS, vL, p, tp, q, tq, f, fs, rfl, nh, np, mh, mp, mr, mw, yh, yp, hp, hq0, hq1, dS, dL, ih, ip, hI⟩ hdI F6 N6
    clear F1 N1 rng kk
    have F7 := put5 F6 mh mp mr mw
    simp only [List.cons_append, List.nil_append] at N6
    have nI := allNE_all hdI
    have nx2 : AllNE wl ((hd, o231) :: (pd, o231) :: [(mem, o231), (fx, o231), (cc, o231), (c, o231), (L + 1 + 1 + 1 + 1, o231), (L + 1 + 1 + 1, o231), (L + 1 + 1, o231), (L + 1, o231), (231, o231)]) := ⟨nh.1.sy, np.1.sy, nw⟩
    simp only [AllNE, and_true] at nI nh np nw nS nL nx2
    repeat (obtain ⟨_, nI⟩ := nI)
    repeat (obtain ⟨_, nh⟩ := nh)
    repeat (obtain ⟨_, np⟩ := np)
    repeat (obtain ⟨_, nw⟩ := nw)
    repeat (obtain ⟨_, nS⟩ := nS)
    repeat (obtain ⟨_, nL⟩ := nL)
    repeat (obtain ⟨_, nx2⟩ := nx2)
    have N7 : News g L h [(wl, wellO c p tp q tq n), (hd, oh), (pd, op), (mem, om), (fx, ofx), (cc, occ), (c, LCg.lst ys), (L + 1 + 1 + 1 + 1, oM), (L + 1 + 1 + 1, oT), (L + 1 + 1, oS), (L + 1, oL), (231, o231), (I, oI)] := fun p hp => N6 p (by revert p; walk_at "mine sub")
    refine turn_spec h234 hroom hun hun2 X T F7 N7 ?nw ?nS ?nL hi hp hq0 hq1 ih ip io hf hI yh yp ym dM dS dL hRd ?_ ?_
    case nw =>
      simp only [AllNE, and_true]
      and_intros
      all_goals first | assumption | (refine NE.sy ?_; assumption)
    case nS =>
      simp only [AllNE, and_true]
      and_intros
      all_goals first | assumption | (refine NE.sy ?_; assumption)
    case nL =>
      simp only [AllNE, and_true]
      and_intros
      all_goals first | assumption | (refine NE.sy ?_; assumption)
    · intro h3 tk3 m3 F3 N3
      exact hret h3 tk3 m3 F3 N3
    · intro h3 tk3 m3 ld ol sd os oS' oL' vS' vL' p' tp' q' tq' f' fs' F3 N3 e0 e1 nld nsd yl ys' b1 b2 b3 m1 m2 m4 m5 i3 i4 I3
      simp only [AllNE, and_true] at nld nsd
      repeat (obtain ⟨_, nld⟩ := nld)
      repeat (obtain ⟨_, nsd⟩ := nsd)
      refine' ⟨h3, tk3, m3, _, _, rfl, F3, N3, ?_, ?_, ?_, ⟨ld, sd, ol, os, oS', oL', vS', vL', p', tp', q', tq', f', fs', rfl, ?_, ?_, m1, m2, m4, m5, yl, ys', b1, b2, b3, e0, e1, i3, i4, I3⟩⟩
      · walk_at "mine sub"
      · k_mem
      · k_all
      · simp only [AllNE, and_true]
        and_intros
        all_goals assumption
      · simp only [AllNE, and_true]
        and_intros
        all_goals assumption
  · rintro u nx h tk ⟨hd, pd, oh, op, oS, oL, vS, vL, p, tp, q, tq, f, fs, rfl, nh, np, mh, mp, mr, mw, yh, yp, hp, hq0, hq1, dS, dL, ih, ip, hI⟩ F6 N6
    clear F1 N1 rng kk
    replace F6 : Fr g L _ _ := F6
    replace N6 : News g L _ _ := N6
    k_steps
    all_goals
      (with_reducible rename Fr _ _ _ _ => F9)
      (with_reducible rename News _ _ _ _ => N9)
      exact hret _ _ _ F9 (fun p hp => N9 p (by revert p; walk_at "mine sub"))
end Mine
end
section
local macro_rules | `(tactic| walk_at "mine cells") => `(tactic| (refine' Mine.cells_news ?cN ?cm ?ci; (case cN => k_asm); (case cm => k_mem); (case ci => k_asm)))
local macro_rules | `(tactic| walk_at "call ref") => `(tactic| ((with_reducible show wpAny _ _ (call (Value.ref 201) _) _ _ _); k_dflt (refine' Mine.memory_K ?F ?N ?X ?T ?U ?hc ?hr ?hp ?hq0 ?hq1 ?_; (case F | N | X | T => k_asm); (case U => k_updF); (case hc => walk_at "mine cells"); (case hr => walk_at "mine room"); (case hp | hq0 | hq1 => omega); k_whole; intro h' base tb t0 mem om f p' tp' q' tq' tk F' N' n1 n2 b1 b2 b3 hb y1 io hf; (try dsimp only at N'); (replace n1 := Mine.allNE_of n1); (replace n2 := Mine.allNE_of n2); (simp only [Mine.AllNE, and_true] at n1 n2); (repeat (obtain ⟨_, n1⟩ := n1)); (repeat (obtain ⟨_, n2⟩ := n2)))))
local macro_rules | `(tactic| walk_at "call ref") => `(tactic| ((with_reducible show wpAny _ _ (call (Value.ref 215) _) _ _ _); k_dflt (refine' Mine.first_K ?F ?N ?X ?T ?U ?hc ?IM ?hf ?hm ?hr ?hp ?hq0 ?hq1 ?_; (case F | N | X | T => k_asm); (case U => k_updF); (case hc => walk_at "mine cells"); (case IM => walk_at "mine dict"); (case hf => k_asm); (case hm => k_ne); (case hr => walk_at "mine room"); (case hp | hq0 | hq1 => omega); k_whole; intro h' t0 hd pd oh op f fs p' tp' q' tq' tk F' N' n1 n2 n3 b1 b2 b3 y1 y2 ih ip hI; (try dsimp only at N'); (replace n1 := Mine.allNE_of n1); (replace n2 := Mine.allNE_of n2); (replace n3 := Mine.allNE_of n3); (simp only [Mine.AllNE, and_true] at n1 n2 n3); (repeat (obtain ⟨_, n1⟩ := n1)); (repeat (obtain ⟨_, n2⟩ := n2)); (repeat (obtain ⟨_, n3⟩ := n3)))))
local macro_rules | `(tactic| walk_at "execs cons") => `(tactic| ((with_reducible show wpAny _ _ (execs (Stmt.For _ _ _ _ _ :: _) _) _ _ _); refine Mine.Stop.of ?_))
namespace Mine
theorem reader_of {w : World} {g h : Heap} {L fx cc cI cM mem : Addr} {occ oM oT : Obj} {vs : Array Value} {qual : Str} {t : Tok} {tI : Bool} {doc pm ct : Value} {oc : Value} {od : Option Addr} {nm q : Str} {ps : Arguments} {s0 s1 s2 s3 : Stmt} {rest : List Stmt} {sc0 : Scope} {d0 k0 doc0 pm0 : Value} {an0 : Option Addr} {cd0 ct0 : Value} {osl : Array (Option Value)}
    {n : Str} {a : Arguments} {b : List Stmt} {dl : List Expr} {rt : Option Expr} {tps sc tsc bind pos} (hL : (Mine.hd.heap_1 w.params).lookup 234 = some ⟨oc, od, .func (fnOf nm q ps (s0 :: s1 :: s2 :: s3 :: .FunctionDef n a b dl rt tps sc tsc bind pos :: rest) sc0 d0 k0 doc0 pm0 an0 cd0 ct0), osl⟩)
    (N : News g L h [(fx, fnMade n qual a b sc [(Str.ofString "memory", cM), (Str.ofString "is_trap", cI)] doc pm cc ct), (cc, occ), (cM, oM), (cI, oT)]) (hd : occ.data = .fields vs) (hv : vs[1]? = some (.str qual t)) (dM : oM.data = .cell (some (.ref mem))) (dT : oT.data = .cell (some (.bool tI))) : ReaderAt w h fx tI mem := by
  have e : rdParts ((Mine.hd.heap_1 w.params).lookup 234) = some (n, a, b, sc) := by rw [hL]; rfl
  exact ⟨n, a, b, sc, qual, doc, pm, none, .ref cc, ct, _, _, _, cI, cM, e, N.get (by k_mem), codeRec_news N (by k_mem) hd hv, ⟨_, N.get (by k_mem), dT⟩, ⟨_, N.get (by k_mem), dM⟩⟩
theorem law_loop2 {w : World} {mean : ExcName → Option Value} {mg mb : Str → Option Value} {g : Heap} {dp un : Nat} {gd : Option (List Code)} {s : Shared} {tl : List Stmt} {scope : Scope} {L fa wl c hd pd mem fx cc : Addr} {x1 x2 x3 : Addr × Obj} {cd : Value} {oh op om ofx occ oM oT oS oL o231 : Obj} {ys : List Value} {script : List Int} {p q : Int} {tp tq : Tok} {n : Nat} {m : Str → Option Value} {f fs fm : Int → Option Int} {tI : Bool} {vL vS : Option Value} {Q : Flow → Shared → Prop} {E : Value → Shared → Prop}
    (h4 : lawTail ((Mine.hd.heap_1 w.params).lookup 234) = some (tl, scope)) (hroom : dp < 600) (hun2 : un + 64 < cLine) (X : (Mine.hd.heap_1 w.params).In g) (T : Top topProg (looseW Mine.view [Str.ofString "ROUND"] ++ List.map (fun x => x.name) (recsOf Mine.view) ++ List.map (fun x => x.fst) (litsOf Mine.view) ++ List.map (fun x => x.name) (clssOf Mine.view (looseW Mine.view [Str.ofString "ROUND"]))) mean mg mb g)
    (F : Fr g L s.heap m) (mh : m (Str.ofString "held") = some (.ref hd)) (mp : m (Str.ofString "places") = some (.ref pd)) (mr : m (Str.ofString "reader") = some (.ref fx)) (mw : m (Str.ofString "well") = some (.ref wl))
    (N : News g L s.heap ((fx, ofx) :: (cc, occ) :: x1 :: (hd, oh) :: (pd, op) :: x2 :: (mem, om) :: (wl, wellO c p tp q tq n) :: (c, LCg.lst ys) :: x3 :: (L + 1 + 1 + 1 + 1, oM) :: (L + 1 + 1 + 1, oT) :: (L + 1 + 1, oS) :: (L + 1, oL) :: (231, o231) :: []))
    (nh : AllNE hd [(wl, o231), (mem, o231), (fx, o231), (cc, o231), (c, o231), (L + 1 + 1 + 1 + 1, o231), (L + 1 + 1 + 1, o231), (L + 1 + 1, o231), (L + 1, o231), (231, o231)]) (np : AllNE pd [(wl, o231), (mem, o231), (fx, o231), (cc, o231), (c, o231), (L + 1 + 1 + 1 + 1, o231), (L + 1 + 1 + 1, o231), (L + 1 + 1, o231), (L + 1, o231), (231, o231)]) (nw : AllNE wl [(mem, o231), (fx, o231), (cc, o231), (c, o231), (L + 1 + 1 + 1 + 1, o231), (L + 1 + 1 + 1, o231), (L + 1 + 1, o231), (L + 1, o231), (231, o231)]) (nS : AllNE (L + 1 + 1) [(wl, o231), (mem, o231), (fx, o231), (cc, o231), (c, o231), (231, o231)]) (nL : AllNE (L + 1) [(wl, o231), (mem, o231), (fx, o231), (cc, o231), (c, o231), (231, o231)])
    (hi : IntsAre ys (List.map (fun k => k.fmod 1000003) (List.take 63 script))) (hp : 0 ≤ p) (hq0 : 0 ≤ q) (hq1 : q < 1009)
    (ih : IDictO w oh f 36) (ip : IDictO w op fs 36) (io : IDictO w om fm 40) (hf : ∀ k i, fm k = some i → 0 ≤ i ∧ i < 256) (hI : Inv fm f fs) (yh : (hd == sysModules) = false) (yp : (pd == sysModules) = false) (ym : (mem == sysModules) = false)
    (dM : oM.data = .cell (some (.ref mem))) (dT : oT.data = .cell (some (.bool tI))) (dS : oS.data = .cell vS) (dL : oL.data = .cell vL)
    (hRd : ∀ h, News g L h [(fx, ofx), (cc, occ), (L + 1 + 1 + 1 + 1, oM), (L + 1 + 1 + 1, oT)] → ReaderAt w h fx tI mem)
    (hret : ∀ h tk m', Fr g L h m' → News g L h [(231, o231)] → Q (.ret (.bool true)) { s with heap := h, toks := tk }) :
    wpAny (model PySem.Challenge.rw_sa0618_01.row.prog w) (Ar dp un (some [envOfC (Str.ofString "law") scope L fa cd]) gd) (execs tl (envOfC (Str.ofString "law") scope L fa cd)) Q E s :=
  wpAny_mono (law_loop h4 hroom (by omega) hun2 X T F mh mp mr mw (fun p hp => N p (by revert p; walk_at "mine sub")) nh np nw nS nL hi hp hq0 hq1 (ih.mono (by omega)) (ip.mono (by omega)) io hf hI yh yp ym dM dS dL hRd hret) (fun _ _ x => x) (fun _ _ x => x.elim)
theorem cells_units : (4 : Nat) + 64 < cLine := by decide
set_option maxHeartbeats 8000000 in
theorem law_dev : PySem.Challenge.rw_sa0618_01.Holds := Mine.hd (by
  k_go0
  (all_goals try k_fold)
  k_steps
  unfold Stop
  refine' law_loop2 ?h4 ?hroom ?hun ?X ?T ?F ?mh ?mp ?mr ?mw ?N ?nh ?np ?nw ?nS ?nL ?hi ?hp ?hq0 ?hq1 ?ih ?ip ?io ?hf ?hI ?yh ?yp ?ym ?dM ?dT ?dS ?dL ?hRd ?hret
  case F => k_asm
  case N => k_asm
  case X => k_asm
  case T => k_asm
  case mh => rfl
  case mp => rfl
  case mr => rfl
  case mw => rfl
  case hI => k_asm
  case hi => k_asm
  case hp => assumption
  case hq0 => assumption
  case hq1 => assumption
  case ih => assumption
  case ip => assumption
  case io => assumption
  case hf => assumption
  case yh => assumption
  case yp => assumption
  case ym => assumption
  case dM => assumption
  case dT => assumption
  case dS => assumption
  case dL => assumption
  case hroom => decide
  case hun => decide
  case h4 =>
    refine' tail_of ?hL
    case hL => k_is
  case nh =>
    simp only [AllNE, and_true]
    and_intros
    all_goals first | assumption | (refine NE.sy ?_; assumption) | (show @Ne Nat _ _; omega)
  case np =>
    simp only [AllNE, and_true]
    and_intros
    all_goals first | assumption | (refine NE.sy ?_; assumption) | (show @Ne Nat _ _; omega)
  case nw =>
    simp only [AllNE, and_true]
    and_intros
    all_goals first | assumption | (refine NE.sy ?_; assumption) | (show @Ne Nat _ _; omega)
  case nS =>
    simp only [AllNE, and_true]
    and_intros
    all_goals first | assumption | (refine NE.sy ?_; assumption) | (show @Ne Nat _ _; omega)
  case nL =>
    simp only [AllNE, and_true]
    and_intros
    all_goals first | assumption | (refine NE.sy ?_; assumption) | (show @Ne Nat _ _; omega)
  case hRd =>
    intro h3 N3
    refine' reader_of ?hL N3 ?hd ?hv ?dM ?dT
    case hL => k_is
    case hd => assumption
    case hv => assumption
    case dM => assumption
    case dT => assumption
  case hret =>
    intro h3 tk3 m3 F3 N3
    k_steps)
end Mine
end
end
end
end
end
theorem PySem.Challenge.cw_sa0618_01_holds : PySem.Challenge.rw_sa0618_01.Holds :=
  Mine.law_dev
