import PyProof.Rows.All
import Wide.All
import OpenK.AllK
import Wide.FinOn
import PySem.Challenge.RW_pq0410_01
open PySem PySem.W PySem.Spec PySem.Calls PyProof.Rows
set_option Elab.async false
set_option maxRecDepth 100000
set_option maxHeartbeats 8000000
namespace Mine
abbrev pr : Program := PySem.Challenge.rw_pq0410_01.row.toRowW.1
abbrev hp0 : Pos := ⟨0, 0, 0, 0⟩
abbrev henv : Env := { scope := pr.main.scope, locals := mainNs, globals := mainNs, cells := [], code := .ref 13, frame := some 14 }
abbrev hcode : Code := .body (behindTheImports pr) henv
def ho1 : Obj := { cls := .type "tuple", data := .seq #[] }
def ho2 : Obj := { cls := .none, data := .fields #[] }
def ho3 : Obj := { cls := .type "code", data := .fields #[.str "<module>" 182, .str "<module>" 183, .str "/claim/cut.py" 184, .int 1 0, .int 0 0, .int 0 0, .int 0 0, .int 0 0, .ref 11, .bool false,
  .int 181 0, .ref 12, .none, .none, .none, .none, .int 185 0, .int 1 0, .str "/claim/cut.py" 186] }
def ho4 : Obj := { cls := .type "frame", slots := #[some (.ref 13), some (.ref 3), some (.ref 3), none, some (.str "__main__" 164), none, some (.ref 0)] }
noncomputable def hheap (P : Params) : Heap := { objs := { toList := [boot_o_0 P, boot_o_1 P, boot_o_2 P, boot_o_3 P, boot_o_4 P, boot_o_5 P, boot_o_6 P, boot_o_7 P, boot_o_8 P, boot_o_9 P, boot_o_10 P, ho1, ho2, ho3, ho4] } }
noncomputable def htree (P : Params) : BT :=
  .node (boot_o_0 P)
    (.node (boot_o_1 P) (.node (boot_o_3 P) (.node (boot_o_7 P) .nil .nil) (.node ho1 .nil .nil)) (.node (boot_o_5 P) (.node (boot_o_9 P) .nil .nil) (.node ho3 .nil .nil)))
    (.node (boot_o_2 P) (.node (boot_o_4 P) (.node (boot_o_8 P) .nil .nil) (.node ho2 .nil .nil)) (.node (boot_o_6 P) (.node (boot_o_10 P) .nil .nil) (.node ho4 .nil .nil)))
noncomputable abbrev hS (w : World) (os : OsState) : SharedT := { tree := htree w.params, n := 15, life := {}, gens := { toList := [] }, drawn := {}, toks := 187, os := os }
abbrev hB : List Frame := [topFrame hp0]
theorem h_pre : ∀ (w : World) (os : OsState), topGo treeTable pr w 11 (some (.ref 6)) 12 { heap := boot_heap w.params, drawn := boot_drawn, toks := boot_toks, os := os } (topStub pr) =
    some ({ heap := hheap w.params, toks := 187, os := os }, { cur := denote treeTable hcode, code := hcode, pos := hp0, stack := hB }) := by
  rw [PySem.W.Fast.te14364793385576792824, PySem.W.Fast.te15667345088766844465, PySem.W.Fast.te11892475500146522536]
  intro w os
  kernel_rfl
theorem h_block : ∀ (w : World) (os : OsState), segRun treeTable pr w 11 (some (.ref 6)) 1 1 { heap := hheap w.params, toks := 187, os := os } (blockOf (behindTheImports pr) henv hcode hp0 hB) =
    some (.next, (hS w os).abs, hcode, hp0) := by
  intro w os
  kernel_rfl
theorem h_size : ∀ w : World, ((boot_heap w.params).isNs mainGlobals && (Array.mk ([] : List GenState)).size == 0, (boot_heap w.params).objs.size, (boot_heap w.params).nsMap mainGlobals "__annotations__") = (true, 11, some (.ref 6)) := by
  intro w; kernel_rfl
theorem h_open : ∀ w : World, (fencedOpening treeTable pr w 8342).map (fun s => (s.heap, s.gens, s.drawn, s.toks)) = some (boot_heap w.params, Array.mk [], boot_drawn, boot_toks) :=
  boot_open (by kernel_rfl) (by decide +kernel) (fun s => by kernel_rfl)
theorem h_said : PySem.Challenge.rw_pq0410_01.wellSaid = true := by
  rw [PySem.W.Fast.te9446332074065402090]; kernel_rfl
def vc (k : Nat) : Stmt := pr.main.body.getD k default
def vw : Program := { pr with main := { pr.main with body := [vc 0, vc 2, vc 3, vc 5, vc 7, vc 8, vc 9, vc 10, vc 11, vc 12, vc 13, vc 14, vc 15, vc 16, vc 17, vc 18, vc 20, vc 22, vc 23, vc 24, vc 25, vc 26, vc 27, vc 29, vc 30, vc 31, vc 33, vc 34, vc 35, vc 36, vc 38, vc 39, vc 40, vc 42, vc 44, vc 46, vc 47, vc 48, vc 49, vc 50, vc 51, vc 52, vc 53, vc 54, vc 55, vc 56, vc 57, vc 58] } }
abbrev hloose : List PySem.Str := [Str.ofString "MOST_NONCE", Str.ofString "WORD"]
abbrev hlv : List (PySem.Str × WData) := [(Str.ofString "MOST_NONCE", .int 18446744073709551615), (Str.ofString "WORD", .int 115792089237316195423570985008687907853269984665640564039457584007913129639936)]
abbrev hXt : Shared → Bool := fun s => xlAt vw hlv s && recOk (RowW.records PySem.Challenge.rw_pq0410_01.row.toRowW) s
noncomputable abbrev hrun (w : World) (os : OsState) : Option (Flow × SharedT × Code × Pos) := segRunT treeTable pr w 11 (some (.ref 6)) 1 4200 (hS w os) (piecesOf (behindTheImports pr) henv hcode hp0 hB)
abbrev hfin (w : World) (s : SharedT) (c : Code) (p : Pos) : Option Shared := topRun treeTable pr w 11 (some (.ref 6)) 2 s.abs { cur := doneF .next, code := c, pos := p, stack := hB }


theorem left_gen {p q : Program} {loose : List PySem.Str} {Xt : Shared → Bool} {α : Type} {Yf : Shared → α} {Ya : World → α} {N m₀ n₁ n₂ n₃ n₄ : Nat} {ann : Option Value} {H₀ : Params → Heap} {gs₀ : Array GenState} {d₀ : Drawn} {k₀ : Nat}
    {S₁ : World → OsState → Shared} {S : World → OsState → SharedT} {env : Env} {b : List Stmt} {c : Code} {p0 : Pos} {q0 : Pos}
    (open_ : ∀ w : World, (fencedOpening treeTable p w N).map (fun s => (s.heap, s.gens, s.drawn, s.toks)) = some (H₀ w.params, gs₀, d₀, k₀))
    (size : ∀ w : World, ((H₀ w.params).isNs mainGlobals && gs₀.size == 0, (H₀ w.params).objs.size, (H₀ w.params).nsMap mainGlobals "__annotations__") = (true, m₀, ann))
    (pre : ∀ (w : World) (os : OsState), topGo treeTable p w m₀ ann n₁ ⟨H₀ w.params, gs₀, d₀, k₀, os⟩ (topStub p) = some (S₁ w os, ⟨denote treeTable (.body b env), c, p0, [topFrame q0]⟩))
    (block : ∀ (w : World) (os : OsState), segRun treeTable p w m₀ ann 1 n₂ (S₁ w os) (blockOf b env c p0 [topFrame q0]) = some (.next, (S w os).abs, c, p0))
    (le : Nat.ble (n₁ + (n₂ + (n₃ + n₄))) N = true)
    (h1 : ∀ (w : World) (os : OsState), (segRunT treeTable p w m₀ ann 1 n₃ (S w os) (piecesOf b env c p0 [topFrame q0])).bind (fun r => (topRun treeTable p w m₀ ann n₄ r.2.1.abs ⟨doneF .next, r.2.2.1, r.2.2.2, [topFrame q0]⟩).map fun s => (r.1, r.2.2.1, (staticsOk (importedModules p.main.body) (H₀ w.params) s.heap && namesBound p s.heap && gensDone s && laidKept (H₀ w.params) s.heap))) = some (.next, c, true))
    (h2 : ∀ (w : World) (os : OsState), (segRunT treeTable p w m₀ ann 1 n₃ (S w os) (piecesOf b env c p0 [topFrame q0])).bind (fun r => (topRun treeTable p w m₀ ann n₄ r.2.1.abs ⟨doneF .next, r.2.2.1, r.2.2.2, [topFrame q0]⟩).map fun s => openSeen q loose (importedModules p.main.body) Xt true s) = some (openGood q loose))
    (h3 : ∀ (w : World) (os : OsState), (segRunT treeTable p w m₀ ann 1 n₃ (S w os) (piecesOf b env c p0 [topFrame q0])).bind (fun r => (topRun treeTable p w m₀ ann n₄ r.2.1.abs ⟨doneF .next, r.2.2.1, r.2.2.2, [topFrame q0]⟩).map fun s => Yf s) = some (Ya w)) :
    LeftO p q loose Xt Yf Ya N := fun w => by
  obtain ⟨⟨h0, gs, d, k, os⟩, e, e'⟩ := Option.map_eq_some_iff.mp (open_ w)
  obtain ⟨rfl, rfl, rfl, rfl⟩ : h0 = H₀ w.params ∧ gs = gs₀ ∧ d = d₀ ∧ k = k₀ := by simpa using e'
  obtain ⟨z1, z2, z3⟩ : _ ∧ _ ∧ _ := by simpa only [Prod.mk.injEq] using size w
  have l1 := h1 w os
  have l2 := h2 w os
  have l3 := h3 w os
  cases hr : segRunT treeTable p w m₀ ann 1 n₃ (S w os) (piecesOf b env c p0 [topFrame q0]) with
  | none => rw [hr] at l1; exact nomatch l1
  | some r =>
    obtain ⟨f, S', c', p'⟩ := r
    rw [hr] at l1 l2 l3
    replace l1 : (topRun treeTable p w m₀ ann n₄ S'.abs ⟨doneF .next, c', p', [topFrame q0]⟩).map (fun s => (f, c', (staticsOk (importedModules p.main.body) (H₀ w.params) s.heap && namesBound p s.heap && gensDone s && laidKept (H₀ w.params) s.heap))) = some (.next, c, true) := l1
    replace l2 : (topRun treeTable p w m₀ ann n₄ S'.abs ⟨doneF .next, c', p', [topFrame q0]⟩).map (fun s => openSeen q loose (importedModules p.main.body) Xt true s) = some (openGood q loose) := l2
    replace l3 : (topRun treeTable p w m₀ ann n₄ S'.abs ⟨doneF .next, c', p', [topFrame q0]⟩).map Yf = some (Ya w) := l3
    obtain ⟨s, hs, q1⟩ := Option.map_eq_some_iff.mp l1
    rw [hs] at l2 l3
    replace l2 : openSeen q loose (importedModules p.main.body) Xt true s = openGood q loose := Option.some.inj l2
    replace l3 : Yf s = Ya w := Option.some.inj l3
    obtain ⟨rfl, q2⟩ := Prod.mk.inj q1
    obtain ⟨rfl, l1'⟩ := Prod.mk.inj q2
    have r1 := segRun_of hr
    have k1 := piece_app (rest := []) r1 (piece_nil (env := env) hs)
    rw [List.append_nil] at k1
    have k2 := piece_block (block w os) k1
    have k3 := go_top (pre w os) k2
    have k4 := topRun_mono (N - (n₁ + (n₂ + (n₃ + n₄)))) _ _ _ _ k3
    rw [show n₁ + (n₂ + (n₃ + n₄)) + (N - (n₁ + (n₂ + (n₃ + n₄)))) = N by have := Nat.le_of_ble_eq_true le; omega] at k4
    have t : topFrom treeTable p w N ⟨H₀ w.params, gs, d, k, os⟩ = some s := by
      unfold topFrom
      dsimp only
      rw [z1, z2, z3, k4]
      show (match staticsOk (importedModules p.main.body) (H₀ w.params) s.heap && namesBound p s.heap && gensDone s && laidKept (H₀ w.params) s.heap with | true => _ | false => _) = _
      rw [l1']
    unfold openEnds
    rw [e]
    show (topFrom treeTable p w N _).map _ = _
    rw [t]
    exact congrArg some (Prod.ext l2 l3)
theorem h_looks1 : ∀ (w : World) (os : OsState), (hrun w os).bind (fun r => (hfin w r.2.1 r.2.2.1 r.2.2.2).map fun s => (r.1, r.2.2.1, (staticsOk (importedModules pr.main.body) (boot_heap w.params) s.heap && namesBound pr s.heap && gensDone s && laidKept (boot_heap w.params) s.heap))) = some (.next, hcode, true) := by
  unfold hrun hfin
  rw [PySem.W.Fast.te14364793385576792824, PySem.W.Fast.te10110043849684766642, PySem.W.Fast.te14082659384304107361, PySem.W.Fast.te5923862056798008813]
  intro w os
  kernel_rfl
theorem h_looks2 : ∀ (w : World) (os : OsState), (hrun w os).bind (fun r => (hfin w r.2.1 r.2.2.1 r.2.2.2).map fun s => openSeen vw hloose (importedModules pr.main.body) hXt true s) = some (openGood vw hloose) := by
  unfold hrun hfin
  rw [PySem.W.Fast.te14364793385576792824, PySem.W.Fast.te10110043849684766642, PySem.W.Fast.te14082659384304107361, PySem.W.Fast.te4187177175401517315, PySem.W.Fast.te5923862056798008813]
  intro w os
  kernel_rfl
theorem h_left {α : Type} {Yf : Shared → α} {Ya : World → α} (h : ∀ (w : World) (os : OsState), (hrun w os).bind (fun r => (hfin w r.2.1 r.2.2.1 r.2.2.2).map fun s => Yf s) = some (Ya w)) :
    LeftO pr vw hloose hXt Yf Ya 8342 := left_gen h_open h_size h_pre h_block (by decide) h_looks1 h_looks2 h
set_option hygiene false in
local macro_rules | `(tactic| o_law) => `(tactic| refine holds_law Mine.h_said fun said => ?_)
set_option hygiene false in
local macro_rules | `(tactic| o_head $H) => `(tactic| (
  refine holds_open (q := Mine.vw) (loose := Mine.hloose) (Xt := Mine.hXt) (XP := XL Mine.vw Mine.hlv) (Yf := Hook.obs $H) (Ya := Hook.val $H) (YP := Hook.says $H) (N := 8342) (Mine.h_left ?hl) (Hook.of $H) (Hook.keeps $H)
    (fun s e => xl_of s (Bool.and_eq_true_iff.mp e).1) XL.keeps (by rfl) (by rfl) (by rfl) (fun s e => recFacts_of (Bool.and_eq_true_iff.mp e).2) (by rfl) (by assumption) (by decide +kernel) ⟨rfl, rfl, rfl, rfl, rfl, by decide +kernel⟩ ?hw ?hc;
  (case hl => (unfold Mine.hrun Mine.hfin; rw [PySem.W.Fast.te14364793385576792824, PySem.W.Fast.te10110043849684766642, PySem.W.Fast.te14082659384304107361]; intro w os; kernel_rfl));
  (all_goals clear said)))
open_top hd for PySem.Challenge.rw_pq0410_01
/-- all but the addresses in ds stand as they stood -/
def Kept (h h' : Heap) (ds : List Addr) : Prop := ∀ b o, h.get? b = some o → b ∉ ds → h'.get? b = some o

theorem Kept.refl (h : Heap) (ds : List Addr) : Kept h h ds := fun _ _ e _ => e
theorem Kept.trans {a b c : Heap} {ds : List Addr} (x : Kept a b ds) (y : Kept b c ds) : Kept a c ds :=
  fun p o e n => y p o (x p o e n) n
theorem Kept.mono {a b : Heap} {ds es : List Addr} (x : Kept a b ds) (s : ∀ d ∈ ds, d ∈ es) : Kept a b es :=
  fun p o e n => x p o e fun q => n (s _ q)
theorem Kept.get {a b : Heap} {ds : List Addr} {p : Addr} {o : Obj} (x : Kept a b ds) (e : a.get? p = some o) (n : p ∉ ds) : b.get? p = some o := x p o e n
theorem Kept.off {a b : Heap} {ds : List Addr} {g : Heap} (x : Kept a b ds) (hg : ∀ p o, g.get? p = some o → a.get? p = some o) (hd : ∀ d ∈ ds, g.get? d = none) :
    ∀ p o, g.get? p = some o → b.get? p = some o := fun p o e => x p o (hg p o e) fun q => by rw [hd p q] at e; cases e

section
variable {prog : Program} {w : World} {A₀ A : Around} {s : Shared} {base h₀ : Heap} {outer : List Env} {L : Addr} {m mg mb : Str → Option Value} {news : List (Addr × Obj)} {K : Frag} {p : Program} {loose : List Str} {mean : ExcName → Option Value}

/-- what the frame's end says of the caller's heap -/
theorem kept_end {g h h' : Heap} {L' : Addr} {m' : Str → Option Value} {ds : List Addr} (N : News h₀ L h news)
    (hG : ∀ b o, h.get? b = some o → b ∉ news.map (·.1) → g.get? b = some o) (F' : Fr g L' h' m')
    (hn : ∀ q ∈ news, q.1 ∉ ds → h'.get? q.1 = some q.2) : Kept h h' ds := fun b o e n => by
  by_cases q : b ∈ news.map (·.1)
  · obtain ⟨x, hx, rfl⟩ := List.mem_map.mp q
    have e1 := (N x hx).1
    rw [e] at e1
    cases e1
    exact hn x hx n
  · exact F'.keep b o (hG b o e q)

theorem fr_kept {h h' : Heap} {ds : List Addr} (F : Fr h₀ L h m) (k : Kept h h' ds) (hL : L ∉ ds) (hd : ∀ d ∈ ds, h₀.get? d = none) : Fr h₀ L h' m := by
  obtain ⟨oL, es, ep, a1, a2, a3, a4⟩ := F.ns
  exact ⟨⟨oL, es, ep, k _ _ a1 hL, a2, a3, a4⟩, k.off F.keep hd, F.above⟩
end

theorem lower {α : Type} {M : Model} {A : Around} {dp un : Nat} {fr : Option (List Env)} {t : Sem α} {Q : α → Shared → Prop} {E : Value → Shared → Prop} {s : Shared} (hh : A.handled = none) (hf : A.frames = fr) (hd : A.depth ≤ dp) (hu : A.units ≤ un)
    (h : wpAny M { handled := none, depth := dp, frames := fr, guards := A.guards, units := un } t Q E s) : wpAny M A t Q E s :=
  fun Γ p hΓ => h Γ p ⟨hΓ.1.trans hh, Nat.le_trans hΓ.2.1 hd, fun l hl => hΓ.2.2.1 l (hf.trans hl), hΓ.2.2.2.1, Nat.le_trans hΓ.2.2.2.2 hu⟩


section
variable {prog : Program} {w : World} {A : Around} {E : Value → Shared → Prop} {s : Shared} {env : Env} {g : Heap} {m : Str → Option Value} {news : List (Addr × Obj)}

/-- what a turn of a for loop must come to -/
def TurnEnd (g : Heap) (L I : Addr) (oI : Obj) (keep : Heap → Prop) (J : Nat → (Str → Option Value) → List (Addr × Obj) → Heap → Prop) (i : Nat) (s : Shared) (Q : Flow → Shared → Prop) (f : Flow) (s₂ : Shared) : Prop :=
  match f with
  | .ret v => Q (.ret v) s₂
  | .brk => Q .next s₂
  | _ => ∃ h' tk m' news', s₂ = { s with heap := h', toks := tk } ∧ Fr g L h' m' ∧ News g L h' ((I, oI) :: news') ∧ (∀ p ∈ news', p.1 ≠ I) ∧ keep h' ∧ J i m' news' h'

theorem turn_end {L I : Addr} {oI : Obj} {keep : Heap → Prop} {J : Nat → (Str → Option Value) → List (Addr × Obj) → Heap → Prop} {i : Nat} {Q : Flow → Shared → Prop} {h : Heap} {tk : Nat}
    (F : Fr g L h m) (N : News g L h ((I, oI) :: news)) (hn : ∀ p ∈ news, p.1 ≠ I) (hk : keep h) (hj : J i m news h) : TurnEnd g L I oI keep J i s Q .next { s with heap := h, toks := tk } := ⟨h, tk, m, news, rfl, F, N, hn, hk, hj⟩
inductive LoopI (g : Heap) (L I : Addr) (n : Nat) (St : Nat → Heap → Prop) (keep : Heap → Prop) (J : Nat → (Str → Option Value) → List (Addr × Obj) → Heap → Prop) (s : Shared) : Nat → Shared → Prop
  | mk {h : Heap} {tk : Nat} {m' : Str → Option Value} {news' : List (Addr × Obj)} {i : Nat} (st : St i h) (F : Fr g L h m') (N : News g L h news') (hn : ∀ p ∈ news', p.1 ≠ I) (hk : keep h) (hj : J i m' news' h) (hi : i ≤ n) : LoopI g L I n St keep J s (n + 1 - i) { s with heap := h, toks := tk }
theorem LoopI.elim {L I : Addr} {n : Nat} {St : Nat → Heap → Prop} {keep : Heap → Prop} {J : Nat → (Str → Option Value) → List (Addr × Obj) → Heap → Prop} {R : Nat → Shared → Prop} {k : Nat} {s' : Shared} (h : LoopI g L I n St keep J s k s')
    (q : ∀ h tk m' news' i, St i h → Fr g L h m' → News g L h news' → (∀ p ∈ news', p.1 ≠ I) → keep h → J i m' news' h → i ≤ n → R (n + 1 - i) { s with heap := h, toks := tk }) : R k s' := by
  obtain ⟨a, b, c, d, e, f, hi⟩ := h
  exact q _ _ _ _ _ a b c d e f hi
theorem loop_less {i n : Nat} (h : i < n) : n + 1 - (i + 1) < n + 1 - i := Nat.sub_lt_sub_left (Nat.lt_succ_of_lt h) (Nat.lt_succ_self i)
/-- a for loop over an object that is walked by an iterator at I, which changes itself alone -/
theorem loop_code {target : Expr} {body : List Stmt} {Q : Flow → Shared → Prop} {I : Addr} {fp : List Addr} {n : Nat} {P : Nat → Value → Prop} {St : Nat → Heap → Prop} {keep : Heap → Prop}
    (W : Walks prog w A I fp [I] n P St) (J : Nat → (Str → Option Value) → List (Addr × Obj) → Heap → Prop)
    (hgI : g.get? I = none) (hLI : env.locals ≠ I) (hfp : ∀ b ∈ fp, b = I ∨ ∀ h h', keep h → keep h' → ∀ o, h.get? b = some o → h'.get? b = some o)
    (hkeep : ∀ h h', keep h → (∀ b o, b ≠ I → h.get? b = some o → h'.get? b = some o) → keep h')
    (hst : St 0 s.heap) (hIo : ∀ i h, St i h → ∃ o, h.get? I = some o) (F : Fr g env.locals s.heap m) (N : News g env.locals s.heap news) (hn : ∀ p ∈ news, p.1 ≠ I) (hk : keep s.heap) (hj : J 0 m news s.heap)
    (hJ : ∀ i m news h h', J i m news h → (∀ b o, b ≠ I → h.get? b = some o → h'.get? b = some o) → J i m news h')
    (hgo : ∀ (s' : Shared) v (Q' : Unit → Shared → Prop), keep s'.heap → (∃ i, St i s'.heap) → Q' () s' → wpAny (model prog w) A (letOwnedTupleGo target (.ref I) v) Q' E s')
    (turn : ∀ i v m₁ news₁ h tk oI, i < n → P i v → J i m₁ news₁ h → (∀ p ∈ news₁, p.1 ≠ I) → keep h → Fr g env.locals h m₁ → News g env.locals h ((I, oI) :: news₁) →
      wpAny (model prog w) A (assign target env v) (fun _ s₃ => wpAny (model prog w) A (execs body env) (TurnEnd g env.locals I oI keep J (i + 1) s Q) E s₃) E { s with heap := h, toks := tk })
    (done : ∀ m₁ news₁ h tk, J n m₁ news₁ h → keep h → Fr g env.locals h m₁ → News g env.locals h news₁ → (∀ p ∈ news₁, p.1 ≠ I) → Q .next { s with heap := h, toks := tk })
    (hE : PassesOwn (model prog w) A env E) :
    codeAny (model prog w) A (.forLoop target (.ref I) body [] env) (fun r s' => match r with | .ok f => Q f s' | .error e => cameBackBy (model prog w) A env E e s') s := by
  have next : ∀ (h h₁ : Heap) (m' : Str → Option Value) (news' : List (Addr × Obj)), Fr g env.locals h m' → News g env.locals h news' → (∀ p ∈ news', p.1 ≠ I) → (∀ b o, b ∉ [I] → h.get? b = some o → h₁.get? b = some o) → Fr g env.locals h₁ m' ∧ News g env.locals h₁ news' :=
    fun h h₁ m' news' F' N' hn' hk₁ => ⟨⟨F'.ns.at' fun o e => hk₁ _ o (by simpa using hLI) e, fun b o e => hk₁ b o (by rintro q; rw [List.mem_singleton.mp q, hgI] at e; cases e) (F'.keep b o e), F'.above⟩, fun p hp => ⟨hk₁ _ _ (by simpa using hn' p hp) (N' p hp).1, (N' p hp).2⟩⟩
  refine codeAny_forLoop_any (LoopI g env.locals I n St keep J s) ?_ (n + 1) (.mk hst F N hn hk hj (Nat.zero_le _))
  intro k s' X
  apply LoopI.elim X
  intro h' tk m' news' i hst' F' N' hn' hk' hJ' hi
  have offI : ∀ {a b : Heap}, (∀ p o, p ∉ [I] → a.get? p = some o → b.get? p = some o) → ∀ p o, p ≠ I → a.get? p = some o → b.get? p = some o := fun x p o q e => x p o (by simpa using q) e
  by_cases hlt : i < n
  · refine W.item i _ _ _ hlt hst' fun v h₁ tk₁ hP hst₁ hk₁ => ?_
    obtain ⟨F₁, N₁⟩ := next h' h₁ m' news' F' N' hn' hk₁
    have K₁ := hkeep _ _ hk' (offI hk₁)
    have J₁ := hJ _ _ _ _ _ hJ' (offI hk₁)
    obtain ⟨oI, hoI⟩ := hIo _ _ hst₁
    have NI : News g env.locals h₁ ((I, oI) :: news') := fun p hp => by
      rcases List.mem_cons.mp hp with rfl | hp
      · exact ⟨hoI, Ne.symm hLI, hgI⟩
      · exact N₁ p hp
    refine wpAny_mono (hgo { s with heap := h₁, toks := tk₁ } v _ K₁ ⟨_, hst₁⟩ (turn i v m' news' h₁ tk₁ oI hlt hP J₁ hn' K₁ F₁ NI)) (fun _ s₂ h₂ => wpAny_mono h₂ (fun _ s₃ h₃ => wpAny_mono h₃ (fun f s₄ h₄ => ?_) fun e s e' => hE e s e') fun e s e' => hE e s e') fun e s e' => hE e s e'
    have fin : (∃ h₂ tk₂ m₂ news₂, s₄ = { s with heap := h₂, toks := tk₂ } ∧ Fr g env.locals h₂ m₂ ∧ News g env.locals h₂ ((I, oI) :: news₂) ∧ (∀ p ∈ news₂, p.1 ≠ I) ∧ keep h₂ ∧ J (i + 1) m₂ news₂ h₂) → ∃ k', k' < n + 1 - i ∧ LoopI g env.locals I n St keep J s k' s₄ := by
      rintro ⟨h₂, tk₂, m₂, news₂, rfl, F₂, N₂, hn₂, K₂, J₂⟩
      refine ⟨n + 1 - (i + 1), loop_less hlt, .mk ?_ F₂ (fun p hp => N₂ p (.tail _ hp)) hn₂ K₂ J₂ hlt⟩
      refine W.frame _ _ _ hst₁ fun b hb o e => ?_
      rcases hfp b hb with rfl | q
      · have := (N₂ _ (.head _)).1
        rw [hoI] at e; cases e; exact this
      · exact q _ _ K₁ K₂ o e
    cases f with
    | ret v => exact h₄
    | brk => exact h₄
    | next => exact fin h₄
    | cont => exact fin h₄
  · have hin : i = n := Nat.le_antisymm hi (Nat.not_lt.mp hlt)
    subst hin
    refine W.done _ _ _ hst' fun h₁ tk₁ hk₁ => wpAny_execs_nil ?_
    obtain ⟨F₁, N₁⟩ := next h' h₁ m' news' F' N' hn' hk₁
    exact done m' news' h₁ tk₁ (hJ _ _ _ _ _ hJ' (offI hk₁)) (hkeep _ _ hk' (offI hk₁)) F₁ N₁ hn'

/-- for over a list that stands -/
theorem for_list {target : Expr} {body : List Stmt} {Q : Flow → Shared → Prop} {l : Addr} {ol : Obj} {vs : List Value} {nn : Nat}
    (J : Nat → (Str → Option Value) → List (Addr × Obj) → Heap → Prop) (hh : A.handled = none)
    (ho : s.heap.get? l = some ol) (hc : ol.cls = .type "list") (hd : ol.data = .seq vs.toArray nn) (F : Fr g env.locals s.heap m) (N : News g env.locals s.heap news) (hj : J 0 m news s.heap)
    (hJ : ∀ i m news h h', J i m news h → (∀ b o, b ≠ s.heap.objs.size → h.get? b = some o → h'.get? b = some o) → J i m news h')
    (hgo : ∀ (s' : Shared) v (Q' : Unit → Shared → Prop), s'.heap.get? l = some ol → (∃ i, s'.heap.IsListIter s.heap.objs.size l i) → Q' () s' → wpAny (model prog w) A (letOwnedTupleGo target (.ref s.heap.objs.size) v) Q' E s')
    (turn : ∀ i v m₁ news₁ h tk oI, vs[i]? = some v → J i m₁ news₁ h → (∀ p ∈ news₁, p.1 ≠ s.heap.objs.size) → h.get? l = some ol → Fr g env.locals h m₁ → News g env.locals h ((s.heap.objs.size, oI) :: news₁) →
      wpAny (model prog w) A (assign target env v) (fun _ s₃ => wpAny (model prog w) A (execs body env) (TurnEnd g env.locals s.heap.objs.size oI (fun h => h.get? l = some ol) J (i + 1) s Q) E s₃) E { s with heap := h, toks := tk })
    (done : ∀ m₁ news₁ h tk, J vs.length m₁ news₁ h → h.get? l = some ol → Fr g env.locals h m₁ → News g env.locals h news₁ → Q .next { s with heap := h, toks := tk })
    (hE : PassesOwn (model prog w) A env E) :
    wpAny (model prog w) A (pyIter (.ref l)) (fun it s₂ => codeAny (model prog w) A (.forLoop target it body [] env) (fun r s' => match r with | .ok f => Q f s' | .error e => cameBackBy (model prog w) A env E e s') s₂) E s := by
  have hl : s.heap.IsList l vs.toArray := ⟨ol, ho, hc, nn, hd⟩
  have hlt : l < s.heap.objs.size := Heap.lt_size ho
  have hne : l ≠ s.heap.objs.size := Nat.ne_of_lt hlt
  have hLt : env.locals < s.heap.objs.size := F.ns.lt
  have up : ∀ b o, s.heap.get? b = some o → (s.heap.push { cls := .type "list_iterator", data := .fields #[.ref l, .int 0 0] }).get? b = some o := fun b o e => Heap.get?_push_of_some _ e
  refine wpAny_pyIter_list hl ?_
  refine loop_code (keep := fun h => h.get? l = some ol) (Walks.list (prog := prog) (w := w) hh s.heap.objs.size l hne vs.toArray) J ?_ (Nat.ne_of_lt hLt) ?_ ?_ ⟨⟨_, Heap.get?_push_size _ rfl, rfl, rfl⟩, hl.push _⟩ ?_ (F.push _) (N.grown up) ?_ (up _ _ ho) (hJ _ _ _ _ _ hj fun b o _ e => up b o e) hJ
    (fun s' v Q' k st q => hgo s' v Q' k (st.imp fun _ x => x.1) q) ?_ ?_ hE
  · cases q : g.get? s.heap.objs.size with
    | none => rfl
    | some o => exact absurd (Heap.lt_size (F.keep _ _ q)) (Nat.lt_irrefl _)
  · intro b hb
    rcases List.mem_cons.mp hb with rfl | hb
    · exact .inl rfl
    · rw [List.mem_singleton.mp hb]
      exact .inr fun h h' a b o e => by rw [a] at e; cases e; exact b
  · exact fun h h' k q => q _ _ hne k
  · rintro i h ⟨⟨o, ho, _⟩, _⟩
    exact ⟨o, ho⟩
  · exact fun p hp => Nat.ne_of_lt (Heap.lt_size (N p hp).1)
  · intro i v m₁ news₁ h tk oI hi hP hj hn hk F₁ N₁
    exact turn i v m₁ news₁ h tk oI (by simpa using hP) hj hn hk F₁ N₁
  · intro m₁ news₁ h tk hj hk F₁ N₁ _
    exact done m₁ news₁ h tk (by simpa using hj) hk F₁ N₁

/-- for over a tuple that stands -/
theorem for_tuple {target : Expr} {body : List Stmt} {Q : Flow → Shared → Prop} {l : Addr} {ol : Obj} {vs : List Value} {nn : Nat}
    (J : Nat → (Str → Option Value) → List (Addr × Obj) → Heap → Prop) (hh : A.handled = none)
    (ho : s.heap.get? l = some ol) (hc : ol.cls = .type "tuple") (hd : ol.data = .seq vs.toArray nn) (F : Fr g env.locals s.heap m) (N : News g env.locals s.heap news) (hj : J 0 m news s.heap)
    (hJ : ∀ i m news h h', J i m news h → (∀ b o, b ≠ s.heap.objs.size → h.get? b = some o → h'.get? b = some o) → J i m news h')
    (hgo : ∀ (s' : Shared) v (Q' : Unit → Shared → Prop), s'.heap.get? l = some ol → Q' () s' → wpAny (model prog w) A (letOwnedTupleGo target (.ref s.heap.objs.size) v) Q' E s')
    (turn : ∀ i v m₁ news₁ h tk oI, vs[i]? = some v → J i m₁ news₁ h → (∀ p ∈ news₁, p.1 ≠ s.heap.objs.size) → h.get? l = some ol → Fr g env.locals h m₁ → News g env.locals h ((s.heap.objs.size, oI) :: news₁) →
      wpAny (model prog w) A (assign target env v) (fun _ s₃ => wpAny (model prog w) A (execs body env) (TurnEnd g env.locals s.heap.objs.size oI (fun h => h.get? l = some ol) J (i + 1) s Q) E s₃) E { s with heap := h, toks := tk })
    (done : ∀ m₁ news₁ h tk, J vs.length m₁ news₁ h → h.get? l = some ol → Fr g env.locals h m₁ → News g env.locals h news₁ → Q .next { s with heap := h, toks := tk })
    (hE : PassesOwn (model prog w) A env E) :
    wpAny (model prog w) A (pyIter (.ref l)) (fun it s₂ => codeAny (model prog w) A (.forLoop target it body [] env) (fun r s' => match r with | .ok f => Q f s' | .error e => cameBackBy (model prog w) A env E e s') s₂) E s := by
  have hl : s.heap.IsTuple l vs.toArray := ⟨ol, ho, hc, nn, hd⟩
  have hlt : l < s.heap.objs.size := Heap.lt_size ho
  have hne : l ≠ s.heap.objs.size := Nat.ne_of_lt hlt
  have hLt : env.locals < s.heap.objs.size := F.ns.lt
  have up : ∀ b o, s.heap.get? b = some o → (s.heap.push { cls := .type "tuple_iterator", data := .fields #[.ref l, .int 0 0] }).get? b = some o := fun b o e => Heap.get?_push_of_some _ e
  refine wpAny_pyIter_tuple hl ?_
  refine loop_code (keep := fun h => h.get? l = some ol) (Walks.tuple (prog := prog) (w := w) hh s.heap.objs.size l hne vs.toArray) J ?_ (Nat.ne_of_lt hLt) ?_ ?_ ⟨⟨_, Heap.get?_push_size _ rfl, rfl, rfl⟩, hl.at fun o e => up _ _ e⟩ ?_ (F.push _) (N.grown up) ?_ (up _ _ ho) (hJ _ _ _ _ _ hj fun b o _ e => up b o e) hJ
    (fun s' v Q' k _ q => hgo s' v Q' k q) ?_ ?_ hE
  · cases q : g.get? s.heap.objs.size with
    | none => rfl
    | some o => exact absurd (Heap.lt_size (F.keep _ _ q)) (Nat.lt_irrefl _)
  · intro b hb
    rcases List.mem_cons.mp hb with rfl | hb
    · exact .inl rfl
    · rw [List.mem_singleton.mp hb]
      exact .inr fun h h' a b o e => by rw [a] at e; cases e; exact b
  · exact fun h h' k q => q _ _ hne k
  · rintro i h ⟨⟨o, ho, _⟩, _⟩
    exact ⟨o, ho⟩
  · exact fun p hp => Nat.ne_of_lt (Heap.lt_size (N p hp).1)
  · intro i v m₁ news₁ h tk oI hi hP hj hn hk F₁ N₁
    exact turn i v m₁ news₁ h tk oI (by simpa using hP) hj hn hk F₁ N₁
  · intro m₁ news₁ h tk hj hk F₁ N₁ _
    exact done m₁ news₁ h tk (by simpa using hj) hk F₁ N₁

/-- for over a range that goes up by ones from nought -/
theorem for_range {target : Expr} {body : List Stmt} {Q : Flow → Shared → Prop} {r : Addr} {b : Int} {n : Nat} {t u v : Tok}
    (J : Nat → (Str → Option Value) → List (Addr × Obj) → Heap → Prop) (hh : A.handled = none)
    (hr : IsRange s.heap r 0 b 1 t u v) (hsmall : Builtin.Range.small 0 b 1 = true) (hsz : Builtin.Range.rangeSize 0 b 1 = (n : Int)) (F : Fr g env.locals s.heap m) (N : News g env.locals s.heap news) (hj : J 0 m news s.heap)
    (hJ : ∀ i m news h h', J i m news h → (∀ b o, b ≠ s.heap.objs.size → h.get? b = some o → h'.get? b = some o) → J i m news h')
    (hgo : ∀ (s' : Shared) v (Q' : Unit → Shared → Prop), Q' () s' → wpAny (model prog w) A (letOwnedTupleGo target (.ref s.heap.objs.size) v) Q' E s')
    (turn : ∀ (i : Nat) (t : Tok) m₁ news₁ h tk oI, i < n → J i m₁ news₁ h → (∀ p ∈ news₁, p.1 ≠ s.heap.objs.size) → Fr g env.locals h m₁ → News g env.locals h ((s.heap.objs.size, oI) :: news₁) →
      wpAny (model prog w) A (assign target env (.int (i : Int) t)) (fun _ s₃ => wpAny (model prog w) A (execs body env) (TurnEnd g env.locals s.heap.objs.size oI (fun _ => True) J (i + 1) s Q) E s₃) E { s with heap := h, toks := tk })
    (done : ∀ m₁ news₁ h tk, J n m₁ news₁ h → Fr g env.locals h m₁ → News g env.locals h news₁ → Q .next { s with heap := h, toks := tk })
    (hE : PassesOwn (model prog w) A env E) :
    wpAny (model prog w) A (pyIter (.ref r)) (fun it s₂ => codeAny (model prog w) A (.forLoop target it body [] env) (fun r s' => match r with | .ok f => Q f s' | .error e => cameBackBy (model prog w) A env E e s') s₂) E s := by
  have hLt : env.locals < s.heap.objs.size := F.ns.lt
  refine wpAny_pyIter_range hr hsmall ?_
  rw [hsz]
  have up : ∀ p o, s.heap.get? p = some o → (s.heap.push { cls := .type "range_iterator", data := .fields #[rawInt 0, rawInt (n : Int), rawInt 1] }).get? p = some o := fun p o e => Heap.get?_push_of_some _ e
  refine loop_code (keep := fun _ => True) (Walks.range (prog := prog) (w := w) hh s.heap.objs.size 0 1 n) J ?_ (Nat.ne_of_lt hLt) ?_ (fun _ _ _ _ => trivial) ?_ ?_ (F.push _) (N.grown up) ?_ trivial (hJ _ _ _ _ _ hj fun b o _ e => up b o e) hJ
    (fun s' v Q' _ _ q => hgo s' v Q' q) ?_ ?_ hE
  · cases q : g.get? s.heap.objs.size with
    | none => rfl
    | some o => exact absurd (Heap.lt_size (F.keep _ _ q)) (Nat.lt_irrefl _)
  · intro p hp
    exact .inl (List.mem_singleton.mp hp)
  · show IsRangeIter _ _ _ _ _
    have : (s.heap.push { cls := .type "range_iterator", data := .fields #[rawInt 0, rawInt (n : Int), rawInt 1] }).get? s.heap.objs.size = some { cls := .type "range_iterator", data := .fields #[rawInt 0, rawInt (n : Int), rawInt 1] } := Heap.get?_push_size _ rfl
    unfold IsRangeIter
    simpa using this
  · intro i h st
    exact ⟨_, st⟩
  · exact fun p hp => Nat.ne_of_lt (Heap.lt_size (N p hp).1)
  · rintro i v m₁ news₁ h tk oI hi ⟨t, rfl⟩ hj hn hk F₁ N₁
    have e : (0 : Int) + (i : Int) * 1 = (i : Int) := by rw [Int.mul_one, Int.zero_add]
    rw [e]
    exact turn i t m₁ news₁ h tk oI hi hj hn F₁ N₁
  · intro m₁ news₁ h tk hj hk F₁ N₁ _
    exact done m₁ news₁ h tk hj F₁ N₁

theorem for_rangeN {target : Expr} {body : List Stmt} {Q : Flow → Shared → Prop} {r : Addr} {b : Int} {t u v : Tok}
    (J : Nat → (Str → Option Value) → List (Addr × Obj) → Heap → Prop) (hh : A.handled = none)
    (hr : IsRange s.heap r 0 b 1 t u v) (hb0 : -1000000 ≤ b) (hb1 : b ≤ 1000000) (F : Fr g env.locals s.heap m) (N : News g env.locals s.heap news) (hj : J 0 m news s.heap)
    (hJ : ∀ i m news h h', J i m news h → (∀ b o, b ≠ s.heap.objs.size → h.get? b = some o → h'.get? b = some o) → J i m news h')
    (hgo : ∀ (s' : Shared) v (Q' : Unit → Shared → Prop), Q' () s' → wpAny (model prog w) A (letOwnedTupleGo target (.ref s.heap.objs.size) v) Q' E s')
    (turn : ∀ (i : Nat) (t : Tok) m₁ news₁ h tk oI, i < b.toNat → J i m₁ news₁ h → (∀ p ∈ news₁, p.1 ≠ s.heap.objs.size) → Fr g env.locals h m₁ → News g env.locals h ((s.heap.objs.size, oI) :: news₁) →
      wpAny (model prog w) A (assign target env (.int (i : Int) t)) (fun _ s₃ => wpAny (model prog w) A (execs body env) (TurnEnd g env.locals s.heap.objs.size oI (fun _ => True) J (i + 1) s Q) E s₃) E { s with heap := h, toks := tk })
    (done : ∀ m₁ news₁ h tk, J b.toNat m₁ news₁ h → Fr g env.locals h m₁ → News g env.locals h news₁ → Q .next { s with heap := h, toks := tk })
    (hE : PassesOwn (model prog w) A env E) :
    wpAny (model prog w) A (pyIter (.ref r)) (fun it s₂ => codeAny (model prog w) A (.forLoop target it body [] env) (fun r s' => match r with | .ok f => Q f s' | .error e => cameBackBy (model prog w) A env E e s') s₂) E s := by
  have hrs : Builtin.Range.rangeSize 0 b 1 = (b.toNat : Int) := by rw [rangeSize_nat, Int.sub_zero]
  exact for_range J hh hr (small_one (by omega) (by omega) (by omega) (by omega)) hrs F N hj hJ hgo turn done hE

/-- for over a bytes -/
theorem for_bytes {target : Expr} {body : List Stmt} {Q : Flow → Shared → Prop} {b : Array UInt8} {t : Tok}
    (J : Nat → (Str → Option Value) → List (Addr × Obj) → Heap → Prop) (hh : A.handled = none)
    (F : Fr g env.locals s.heap m) (N : News g env.locals s.heap news) (hj : J 0 m news s.heap)
    (hJ : ∀ i m news h h', J i m news h → (∀ b o, b ≠ s.heap.objs.size → h.get? b = some o → h'.get? b = some o) → J i m news h')
    (hgo : ∀ (s' : Shared) v (Q' : Unit → Shared → Prop), Q' () s' → wpAny (model prog w) A (letOwnedTupleGo target (.ref s.heap.objs.size) v) Q' E s')
    (turn : ∀ (i : Nat) (c : UInt8) (u : Tok) m₁ news₁ h tk oI, b[i]? = some c → J i m₁ news₁ h → (∀ p ∈ news₁, p.1 ≠ s.heap.objs.size) → Fr g env.locals h m₁ → News g env.locals h ((s.heap.objs.size, oI) :: news₁) →
      wpAny (model prog w) A (assign target env (.int (c.toNat : Int) u)) (fun _ s₃ => wpAny (model prog w) A (execs body env) (TurnEnd g env.locals s.heap.objs.size oI (fun _ => True) J (i + 1) s Q) E s₃) E { s with heap := h, toks := tk })
    (done : ∀ m₁ news₁ h tk, J b.size m₁ news₁ h → Fr g env.locals h m₁ → News g env.locals h news₁ → Q .next { s with heap := h, toks := tk })
    (hE : PassesOwn (model prog w) A env E) :
    wpAny (model prog w) A (pyIter (.bytes b t)) (fun it s₂ => codeAny (model prog w) A (.forLoop target it body [] env) (fun r s' => match r with | .ok f => Q f s' | .error e => cameBackBy (model prog w) A env E e s') s₂) E s := by
  have hLt : env.locals < s.heap.objs.size := F.ns.lt
  refine KBw.pyIter_bytes ?_
  have up : ∀ p o, s.heap.get? p = some o → (s.heap.push { cls := .type "bytes_iterator", data := .fields #[.bytes b t, .int 0 0] }).get? p = some o := fun p o e => Heap.get?_push_of_some _ e
  refine loop_code (keep := fun _ => True) (KBw.walks (prog := prog) (w := w) hh s.heap.objs.size b t) J ?_ (Nat.ne_of_lt hLt) ?_ (fun _ _ _ _ => trivial) ⟨_, Heap.get?_push_size _ rfl, rfl, rfl⟩ ?_ (F.push _) (N.grown up) ?_ trivial (hJ _ _ _ _ _ hj fun b o _ e => up b o e) hJ
    (fun s' v Q' _ _ q => hgo s' v Q' q) ?_ ?_ hE
  · cases q : g.get? s.heap.objs.size with
    | none => rfl
    | some o => exact absurd (Heap.lt_size (F.keep _ _ q)) (Nat.lt_irrefl _)
  · intro p hp
    exact .inl (List.mem_singleton.mp hp)
  · rintro i h ⟨o, ho, _⟩
    exact ⟨o, ho⟩
  · exact fun p hp => Nat.ne_of_lt (Heap.lt_size (N p hp).1)
  · rintro i v m₁ news₁ h tk oI hi ⟨c, u, hc, rfl⟩ hj hn hk F₁ N₁
    exact turn i c u m₁ news₁ h tk oI hc hj hn F₁ N₁
  · intro m₁ news₁ h tk hj hk F₁ N₁ _
    exact done m₁ news₁ h tk hj F₁ N₁

theorem neA {a b : Addr} (h : @Ne Nat a b) : a ≠ b := h
theorem ltA {a b : Addr} (h : a < b) : @LT.lt Nat _ a b := h
/-- what a comprehension's element must come to -/
def EltEnd (g : Heap) (L : Addr) (m : Str → Option Value) (own : List (Addr × Obj)) (keep : Heap → Prop) (J : Nat → List Value → List (Addr × Obj) → Heap → Prop) (i : Nat) (ys : List Value) (s : Shared) (y : Value) (s₂ : Shared) : Prop :=
  ∃ h' tk news', s₂ = { s with heap := h', toks := tk } ∧ Fr g L h' m ∧ News g L h' (own ++ news') ∧ (∀ p ∈ news', p.1 ∉ own.map (·.1)) ∧ keep h' ∧ J i (ys ++ [y]) news' h'

theorem elt_end {L : Addr} {own : List (Addr × Obj)} {keep : Heap → Prop} {J : Nat → List Value → List (Addr × Obj) → Heap → Prop} {i : Nat} {ys : List Value} {y : Value} {h : Heap} {tk : Nat}
    (F : Fr g L h m) (N : News g L h (own ++ news)) (hn : ∀ p ∈ news, p.1 ∉ own.map (·.1)) (hk : keep h) (hj : J i (ys ++ [y]) news h) : EltEnd g L m own keep J i ys s y { s with heap := h, toks := tk } := ⟨h, tk, news, rfl, F, N, hn, hk, hj⟩
inductive CompI (g : Heap) (L I D C : Addr) (m : Str → Option Value) (n : Nat) (St : Nat → Heap → Prop) (keep : Heap → Prop) (J : Nat → List Value → List (Addr × Obj) → Heap → Prop) (s : Shared) : Nat → Shared → Prop
  | mk {h : Heap} {tk : Nat} {m' : Str → Option Value} {news' : List (Addr × Obj)} {ys : List Value} {i : Nat} (st : St i h) (F : Fr g L h m) (N : News g L h news') (hn : ∀ p ∈ news', p.1 ∉ [I, D, C]) (hk : keep h) (hj : J i ys news' h) (hl : ys.length = i) (hD : h.PlainList D ys.toArray) (hC : h.Ns C m') (hi : i ≤ n) :
    CompI g L I D C m n St keep J s (n + 1 - i) { s with heap := h, toks := tk }
theorem CompI.elim {L I D C : Addr} {n : Nat} {St : Nat → Heap → Prop} {keep : Heap → Prop} {J : Nat → List Value → List (Addr × Obj) → Heap → Prop} {R : Nat → Shared → Prop} {k : Nat} {s' : Shared} (h : CompI g L I D C m n St keep J s k s')
    (q : ∀ h tk m' news' ys i, St i h → Fr g L h m → News g L h news' → (∀ p ∈ news', p.1 ∉ [I, D, C]) → keep h → J i ys news' h → ys.length = i → h.PlainList D ys.toArray → h.Ns C m' → i ≤ n → R (n + 1 - i) { s with heap := h, toks := tk }) : R k s' := by
  obtain ⟨a, b, c, d, e, f, x, y, z, hi⟩ := h
  exact q _ _ _ _ _ _ a b c d e f x y z hi
theorem offIDC {news : List (Addr × Obj)} {I D C : Addr} (hn : ∀ p ∈ news, p.1 ∉ [I, D, C]) : ∀ p ∈ news, p.1 ≠ I ∧ p.1 ≠ D ∧ p.1 ≠ C := fun p hp => by
  have := hn p hp
  simp only [List.mem_cons, List.not_mem_nil, or_false, not_or] at this
  exact this
/-- a comprehension of one clause over an iterator at I, its elements changing what they like of the ledger -/
theorem comp_code {elt iter : Expr} {x : Str} {px : Pos} {scope : Scope} {cl : List (Str × Addr)} {pos : Pos} {I : Addr} {fp : List Addr} {n : Nat} {P : Nat → Value → Prop} {St : Nat → Heap → Prop} {keep : Heap → Prop} {Q : Value → Shared → Prop}
    (W : Walks prog w A I fp [I] n P St) (J : Nat → List Value → List (Addr × Obj) → Heap → Prop) (hsz : n ≤ sizeLine)
    (hcell : ∀ y ∈ scope.names, y.2 ≠ .cell) (hkind : scope.kind = .function) (hx : scope.names.lookup x = some .local)
    (hgI : g.get? I = none) (hLI : env.locals ≠ I) (hIs : @LT.lt Nat _ I s.heap.objs.size) (hfp : ∀ b ∈ fp, b = I ∨ ∀ h h', keep h → keep h' → ∀ o, h.get? b = some o → h'.get? b = some o)
    (hkeep : ∀ h h', keep h → (∀ b o, @LT.lt Nat _ b s.heap.objs.size → b ≠ I → h.get? b = some o → h'.get? b = some o) → keep h')
    (hst : St 0 s.heap) (hIo : ∀ i h, St i h → ∃ o, h.get? I = some o) (F : Fr g env.locals s.heap m) (N : News g env.locals s.heap news) (hn : ∀ p ∈ news, p.1 ≠ I) (hk : keep s.heap) (hj : J 0 [] news s.heap)
    (hJ : ∀ i ys news h h' D C, @LE.le Nat _ s.heap.objs.size D → @LE.le Nat _ s.heap.objs.size C → J i ys news h → (∀ b o, b ≠ I → b ≠ D → b ≠ C → h.get? b = some o → h'.get? b = some o) → J i ys news h')
    (turn : ∀ i v ys news₁ h tk oI oD oC D C m₁ E', i < n → P i v → J i ys news₁ h → @LE.le Nat _ s.heap.objs.size D → @LE.le Nat _ s.heap.objs.size C → (∀ p ∈ news₁, p.1 ∉ [I, D, C]) → keep h → Fr g env.locals h m → News g env.locals h ([(I, oI), (D, oD), (C, oC)] ++ news₁) →
      h.Ns C m₁ → m₁ x = some v → wpAny (model prog w) A (eval elt (compEnvC scope cl C env)) (EltEnd g env.locals m [(I, oI), (D, oD), (C, oC)] keep J (i + 1) ys s) E' { s with heap := h, toks := tk })
    (done : ∀ ys news₁ h tk D k, J n ys news₁ h → ys.length = n → @LE.le Nat _ s.heap.objs.size D → keep h → Fr g env.locals h m → News g env.locals h ((D, listOf ys.toArray k) :: news₁) → (∀ p ∈ news₁, p.1 ≠ D ∧ p.1 ≠ I) → Q (.ref D) { s with heap := h, toks := tk }) :
    wpAny (model prog w) A (newList []) (fun acc s₃ => wpAny (model prog w) A (newFunctionEnv scope env.globals cl [] env.qual none .none (some env)) (fun cenv s₄ =>
      codeAny (model prog w) A (.compStart (.ListComp elt [⟨.Name x px, iter, [], 0⟩] scope pos) 0 (.ref I) acc { cenv with scope := relabel scope env }) (compPost (model prog w) A E none Q acc cenv.locals) s₄) E s₃) E s := by
  have hLs : env.locals < s.heap.objs.size := F.ns.lt
  refine wpAny_newObj_type (hd := by size_fits) (wpAny_newFunctionEnv hcell (by intro y hy; simp at hy) (fun h₁ hns₁ hsb₁ => ?_) hkind)
  dsimp only at hns₁ hsb₁ ⊢
  generalize hH2 : s.heap.push { cls := .type "list", dict := none, data := .seq ([] : List Value).toArray } = H2 at hns₁ hsb₁ ⊢
  have hC : H2.objs.size = s.heap.objs.size + 1 := by rw [← hH2, Heap.size_push]
  have ltDC : @LT.lt Nat _ s.heap.objs.size H2.objs.size := Nat.lt_of_lt_of_eq (Nat.lt_succ_self _) hC.symm
  have leDC := Nat.le_of_lt ltDC
  have hDC : @Ne Nat s.heap.objs.size H2.objs.size := Nat.ne_of_lt ltDC
  have low : ∀ {b : Addr} {h : Heap} {o : Obj}, s.heap.get? b = some o → b < s.heap.objs.size := fun e => Heap.lt_size e
  have oldC : ∀ b o, b ≠ H2.objs.size → H2.get? b = some o → h₁.get? b = some o := fun b o hb e => hsb₁.extBut b o hb (Heap.get?_push_of_some _ e)
  have old : ∀ b o, s.heap.get? b = some o → h₁.get? b = some o := fun b o e => oldC b o (neA (Nat.ne_of_lt (Nat.lt_trans (ltA (Heap.lt_size e)) ltDC))) (hH2 ▸ Heap.get?_push_of_some _ e)
  have hD₁ : h₁.PlainList s.heap.objs.size #[] := ⟨_, oldC _ _ hDC (hH2 ▸ Heap.get?_push_size _ rfl)⟩
  have gD : g.get? s.heap.objs.size = none := by
    cases q : g.get? s.heap.objs.size with
    | none => rfl
    | some o => exact absurd (Heap.lt_size (F.keep _ _ q)) (Nat.lt_irrefl _)
  have gC : g.get? H2.objs.size = none := by
    cases q : g.get? H2.objs.size with
    | none => rfl
    | some o => exact absurd (ltA (Heap.lt_size (F.keep _ _ q))) (Nat.lt_asymm ltDC)
  have F₁ : Fr g env.locals h₁ m := ⟨F.ns.at' fun o e => old _ o e, fun b o e => old b o (F.keep b o e), F.above⟩
  have N₁ : News g env.locals h₁ news := N.grown old
  have hn₁ : ∀ p ∈ news, p.1 ∉ [I, s.heap.objs.size, H2.objs.size] := fun p hp => by
    have a := Heap.lt_size (N p hp).1
    have b := hn p hp
    simp only [List.mem_cons, List.not_mem_nil, or_false, not_or]
    exact ⟨b, Nat.ne_of_lt a, neA (Nat.ne_of_lt (Nat.lt_trans (ltA a) ltDC))⟩
  have K₁ : keep h₁ := hkeep _ _ hk fun b o _ _ e => old b o e
  have J₁ : J 0 [] news h₁ := hJ _ _ _ _ _ s.heap.objs.size H2.objs.size (Nat.le_refl _) leDC hj fun b o _ _ _ e => old b o e
  have st₁ : St 0 h₁ := W.frame _ _ _ hst fun b _ o e => old b o e
  have loop : ∀ s₃ : Shared, s₃ = { s with heap := h₁, toks := s.toks + ([] : List (Str × Value)).length } →
      codeAny (model prog w) A (.compLoop (.ListComp elt [⟨.Name x px, iter, [], 0⟩] scope pos) 0 (.ref I) (.ref s.heap.objs.size) (compEnvC scope cl H2.objs.size env))
        (compPost (model prog w) A E none Q (.ref s.heap.objs.size) H2.objs.size) s₃ := by
    rintro s₃ rfl
    refine codeAny_compLoop_list (CompI g env.locals I s.heap.objs.size H2.objs.size m n St keep J s) ?_ (n + 1) (.mk st₁ F₁ N₁ hn₁ K₁ J₁ rfl hD₁ hns₁ (Nat.zero_le _))
    intro k s' X
    apply CompI.elim X
    intro h' tk m' news' ys i hst' F' N' hn' hk' hJ' hlen hD' hC' hi
    have hLC : @Ne Nat env.locals H2.objs.size := Nat.ne_of_lt (Nat.lt_trans (ltA hLs) ltDC)
    have hLD : @Ne Nat env.locals s.heap.objs.size := Nat.ne_of_lt hLs
    have hd := offIDC hn'
    have next : ∀ h₂ : Heap, (∀ b o, b ∉ [I] → h'.get? b = some o → h₂.get? b = some o) → Fr g env.locals h₂ m ∧ News g env.locals h₂ news' := fun h₂ hk₂ =>
      ⟨⟨F'.ns.at' fun o e => hk₂ _ o (by simpa using hLI) e, fun b o e => hk₂ b o (by rintro q; rw [List.mem_singleton.mp q, hgI] at e; cases e) (F'.keep b o e), F'.above⟩,
        fun p hp => ⟨hk₂ _ _ (by simpa using (hd p hp).1) (N' p hp).1, (N' p hp).2⟩⟩
    have hDI : s.heap.objs.size ≠ I := Nat.ne_of_gt hIs
    have hCI : @Ne Nat H2.objs.size I := Nat.ne_of_gt (Nat.lt_trans hIs ltDC)
    by_cases hlt : i < n
    · refine W.item i _ _ _ hlt hst' fun v h₂ tk₂ hP hst₂ hk₂ => ?_
      obtain ⟨F₂, N₂⟩ := next h₂ hk₂
      have offI : ∀ p o, p ≠ I → h'.get? p = some o → h₂.get? p = some o := fun p o q e => hk₂ p o (by simpa using q) e
      refine wpAny_assign_Name (wpAny_storeName_local (lookup_relabel_local hx) (hC'.at' fun o e => offI _ o hCI e) (fun h₃ hn₃ hs₃ => ?_) (by simp [compEnvC, relabel, hkind]))
      have up₃ : ∀ p o, p ≠ H2.objs.size → h₂.get? p = some o → h₃.get? p = some o := fun p o q e => hs₃.extBut p o q e
      have F₃ : Fr g env.locals h₃ m := ⟨F₂.ns.at' fun o e => up₃ _ o hLC e, fun b o e => up₃ b o (by rintro rfl; rw [gC] at e; cases e) (F₂.keep b o e), F₂.above⟩
      obtain ⟨oI, hoI⟩ := hIo _ _ hst₂
      obtain ⟨nD, hoD⟩ := hD'
      obtain ⟨oC, _, _, hoC, _⟩ := id hn₃
      have N₃ : News g env.locals h₃ ([(I, oI), (s.heap.objs.size, { cls := .type "list", data := .seq ys.toArray nD }), (H2.objs.size, oC)] ++ news') := fun p hp => by
        rcases List.mem_append.mp hp with hp | hp
        · simp only [List.mem_cons, List.not_mem_nil, or_false] at hp
          rcases hp with rfl | rfl | rfl
          · exact ⟨up₃ _ _ (Ne.symm hCI) hoI, Ne.symm hLI, hgI⟩
          · exact ⟨up₃ _ _ hDC (offI _ _ hDI hoD), Ne.symm hLD, gD⟩
          · exact ⟨hoC, Ne.symm hLC, gC⟩
        · exact ⟨up₃ _ _ (hd p hp).2.2 (N₂ p hp).1, (N₂ p hp).2⟩
      have K₃ : keep h₃ := hkeep _ _ hk' fun b o hb hbI e => up₃ b o (neA (Nat.ne_of_lt (Nat.lt_trans hb ltDC))) (offI b o hbI e)
      have J₃ : J i ys news' h₃ := hJ _ _ _ _ _ s.heap.objs.size H2.objs.size (Nat.le_refl _) leDC hJ' fun b o a _ c e => up₃ b o c (offI b o a e)
      refine wpAny_mono (turn i v ys news' h₃ (tk₂ + 1) oI _ oC _ _ _ _ hlt hP J₃ (Nat.le_refl _) leDC hn' K₃ F₃ N₃ hn₃ (by simp)) (fun y s₄ h₄ => ?_) fun _ _ e => e
      obtain ⟨h₄, tk₄, news₄, rfl, F₄, N₄, hn₄, K₄, J₄⟩ := h₄
      have hn₄' := offIDC hn₄
      have sI := (N₄ (I, oI) (.head _)).1
      have sD := (N₄ (s.heap.objs.size, { cls := .type "list", data := .seq ys.toArray nD }) (.tail _ (.head _))).1
      have sC := (N₄ (H2.objs.size, oC) (.tail _ (.tail _ (.head _)))).1
      have hsz4 : ys.toArray.size ≤ sizeLine := by rw [List.size_toArray, hlen]; exact Nat.le_trans (Nat.le_of_lt hlt) hsz
      refine wpAny_list_append_plain (hsz := hsz4) ⟨nD, sD⟩ fun h₅ hl₅ hs₅ => ?_
      have up₅ : ∀ p o, p ≠ s.heap.objs.size → h₄.get? p = some o → h₅.get? p = some o := fun p o q e => hs₅.extBut p o q e
      refine ⟨n + 1 - (i + 1), loop_less hlt, .mk ?_ ⟨F₄.ns.at' fun o e => up₅ _ o hLD e, fun b o e => up₅ b o (by rintro rfl; rw [gD] at e; cases e) (F₄.keep b o e), F₄.above⟩
        (fun p hp => ⟨up₅ _ _ (hn₄' p hp).2.1 (N₄ p (List.mem_append_right _ hp)).1, (N₄ p (List.mem_append_right _ hp)).2⟩) hn₄ (hkeep _ _ K₄ (fun b o hb _ e => up₅ b o (Nat.ne_of_lt hb) e))
        (hJ _ _ _ _ _ s.heap.objs.size H2.objs.size (Nat.le_refl _) leDC J₄ (fun b o _ q _ e => up₅ b o q e)) (by rw [List.length_append, hlen]; rfl) ?_ (hn₃.at' fun o e => ?_) hlt⟩
      · refine W.frame _ _ _ hst₂ fun b hb o e => ?_
        rcases hfp b hb with rfl | q
        · rw [hoI] at e; cases e
          exact up₅ _ _ (Ne.symm hDI) sI
        · have K₂ : keep h₂ := hkeep _ _ hk' fun b o _ hbI e => offI b o hbI e
          have K₅ : keep h₅ := hkeep _ _ K₄ fun b o hb _ e => up₅ b o (Nat.ne_of_lt hb) e
          exact q _ _ K₂ K₅ o e
      · obtain ⟨n₅, e₅⟩ := hl₅
        exact ⟨n₅, by rw [e₅]; simp⟩
      · rw [hoC] at e; cases e
        exact up₅ _ _ (Ne.symm hDC) sC
    · have hin : i = n := Nat.le_antisymm hi (Nat.not_lt.mp hlt)
      subst hin
      refine W.done _ _ _ hst' fun h₂ tk₂ hk₂ => ?_
      obtain ⟨F₂, N₂⟩ := next h₂ hk₂
      have offI : ∀ p o, p ≠ I → h'.get? p = some o → h₂.get? p = some o := fun p o q e => hk₂ p o (by simpa using q) e
      refine ⟨m', hC'.at' fun o e => offI _ o hCI e, fun h₃ hs₃ => ?_⟩
      obtain ⟨nD, hoD⟩ := hD'
      have up₃ : ∀ p o, p ≠ H2.objs.size → h₂.get? p = some o → h₃.get? p = some o := fun p o q e => hs₃.extBut p o q e
      refine done ys news' h₃ tk₂ s.heap.objs.size nD (hJ _ _ _ _ _ s.heap.objs.size H2.objs.size (Nat.le_refl _) leDC hJ' fun b o a _ c e => up₃ b o c (offI b o a e)) hlen (Nat.le_refl _) (hkeep _ _ hk' fun b o hb hbI e => up₃ b o (neA (Nat.ne_of_lt (Nat.lt_trans hb ltDC))) (offI b o hbI e))
        ⟨F₂.ns.at' fun o e => up₃ _ o hLC e, fun b o e => up₃ b o (by rintro rfl; rw [gC] at e; cases e) (F₂.keep b o e), F₂.above⟩ (fun p hp => ?_) fun p hp => ⟨(hd p hp).2.1, (hd p hp).1⟩
      rcases List.mem_cons.mp hp with rfl | hp
      · exact ⟨up₃ _ _ hDC (offI _ _ hDI hoD), Ne.symm hLD, gD⟩
      · exact ⟨up₃ _ _ (hd p hp).2.2 (N₂ p hp).1, (N₂ p hp).2⟩
  exact codeAny_compStart_list (loop _ rfl) (W.self 0 _ _ _ st₁ (loop _ rfl))

/-- where a comprehension stands when its iterator is made -/
def CompAt (prog : Program) (w : World) (A : Around) (env : Env) (elt iter : Expr) (x : Str) (px : Pos) (scope : Scope) (cl : List (Str × Addr)) (pos : Pos) (Q : Value → Shared → Prop) (E : Value → Shared → Prop) (it : Value) (s₂ : Shared) : Prop :=
  wpAny (model prog w) A (newList []) (fun acc s₃ => wpAny (model prog w) A (newFunctionEnv scope env.globals cl [] env.qual none .none (some env)) (fun cenv s₄ =>
      codeAny (model prog w) A (.compStart (.ListComp elt [⟨.Name x px, iter, [], 0⟩] scope pos) 0 it acc { cenv with scope := relabel scope env }) (compPost (model prog w) A E none Q acc cenv.locals) s₄) E s₃) E s₂

theorem comp_eval {elt iter : Expr} {x : Str} {px : Pos} {scope : Scope} {cl : List (Str × Addr)} {pos : Pos} {Q : Value → Shared → Prop}
    (hclos : closureFor scope env = pure cl) (hkind : scope.kind = .function) (hnames : ∀ y ∈ scope.names, y.2 = .local → scope.names.lookup y.1 = some .local) (hs : ∀ x, foldedSetIterable iter env x = pure x)
    (h : wpAny (model prog w) A (eval iter env) (fun xv s₁ => wpAny (model prog w) A (pyIter xv) (fun it s₂ => CompAt prog w A env elt iter x px scope cl pos Q E it s₂) E s₁) E s) :
    wpAny (model prog w) A (eval (.ListComp elt [⟨.Name x px, iter, [], 0⟩] scope pos) env) Q E s := by
  rw [eval_ListComp]
  exact wpAny_comprehension_free (use := none) rfl hs hclos hkind hnames h

section
variable {elt iter : Expr} {x : Str} {px : Pos} {scope : Scope} {cl : List (Str × Addr)} {pos : Pos} {Q : Value → Shared → Prop} (J : Nat → List Value → List (Addr × Obj) → Heap → Prop)

/-- a comprehension over a list that stands -/
theorem comp_list {l : Addr} {ol : Obj} {vs : List Value} {nn : Nat} (hh : A.handled = none)
    (ho : s.heap.get? l = some ol) (hc : ol.cls = .type "list") (hd : ol.data = .seq vs.toArray nn) (hsz : vs.length ≤ sizeLine)
    (hcell : ∀ y ∈ scope.names, y.2 ≠ .cell) (hkind : scope.kind = .function) (hx : scope.names.lookup x = some .local)
    (F : Fr g env.locals s.heap m) (N : News g env.locals s.heap news) (hj : J 0 [] news s.heap)
    (hJ : ∀ i ys news h h', J i ys news h → (∀ p o, @LT.lt Nat _ p s.heap.objs.size → h.get? p = some o → h'.get? p = some o) → J i ys news h')
    (turn : ∀ i v ys news₁ h tk oI oD oC D C m₁ E', vs[i]? = some v → J i ys news₁ h → @LE.le Nat _ s.heap.objs.size D → @LE.le Nat _ s.heap.objs.size C → (∀ p ∈ news₁, p.1 ∉ [s.heap.objs.size, D, C]) → h.get? l = some ol → Fr g env.locals h m → News g env.locals h ([(s.heap.objs.size, oI), (D, oD), (C, oC)] ++ news₁) →
      h.Ns C m₁ → m₁ x = some v → wpAny (model prog w) A (eval elt (compEnvC scope cl C env)) (EltEnd g env.locals m [(s.heap.objs.size, oI), (D, oD), (C, oC)] (fun h => h.get? l = some ol) J (i + 1) ys s) E' { s with heap := h, toks := tk })
    (done : ∀ ys news₁ h tk D k, J vs.length ys news₁ h → ys.length = vs.length → @LE.le Nat _ s.heap.objs.size D → h.get? l = some ol → Fr g env.locals h m → News g env.locals h ((D, listOf ys.toArray k) :: news₁) → (∀ p ∈ news₁, p.1 ≠ D) → Q (.ref D) { s with heap := h, toks := tk }) :
    wpAny (model prog w) A (pyIter (.ref l)) (fun it s₂ => CompAt prog w A env elt iter x px scope cl pos Q E it s₂) E s := by
  have hl : s.heap.IsList l vs.toArray := ⟨ol, ho, hc, nn, hd⟩
  have hlt : @LT.lt Nat _ l s.heap.objs.size := Heap.lt_size ho
  have hne : l ≠ s.heap.objs.size := Nat.ne_of_lt hlt
  have hLt : env.locals < s.heap.objs.size := F.ns.lt
  have up : ∀ b o, s.heap.get? b = some o → (s.heap.push { cls := .type "list_iterator", data := .fields #[.ref l, .int 0 0] }).get? b = some o := fun b o e => Heap.get?_push_of_some _ e
  have hs1 : (s.heap.push { cls := .type "list_iterator", data := .fields #[.ref l, .int 0 0] }).objs.size = s.heap.objs.size + 1 := Heap.size_push ..
  have hq := Nat.lt_of_lt_of_eq (Nat.lt_succ_self s.heap.objs.size) hs1.symm
  refine wpAny_pyIter_list hl ?_
  unfold CompAt
  refine comp_code (keep := (fun h => h.get? l = some ol)) (Walks.list (prog := prog) (w := w) hh s.heap.objs.size l hne vs.toArray) J (by simpa using hsz) hcell hkind hx ?_ (Nat.ne_of_lt hLt) hq ?_ ?_ ⟨⟨_, Heap.get?_push_size _ rfl, rfl, rfl⟩, hl.push _⟩ ?_ (F.push _) (N.grown up) (fun p hp => Nat.ne_of_lt (Heap.lt_size (N p hp).1)) (up _ _ ho) (hJ _ _ _ _ _ hj fun p o _ e => up p o e) ?_ ?_ ?_
  · cases q : g.get? s.heap.objs.size with
    | none => rfl
    | some o => exact absurd (Heap.lt_size (F.keep _ _ q)) (Nat.lt_irrefl _)
  · intro b hb
    rcases List.mem_cons.mp hb with rfl | hb
    · exact .inl rfl
    · rw [List.mem_singleton.mp hb]
      exact .inr fun h h' a b o e => by rw [a] at e; cases e; exact b
  · exact fun h h' k q => q _ _ (Nat.lt_trans hlt hq) hne k
  · rintro i h ⟨⟨o, ho, _⟩, _⟩
    exact ⟨o, ho⟩
  · intro i ys news h h' D C hD hC hj hk
    refine hJ i ys news h h' hj fun p o hp e => hk p o (neA (Nat.ne_of_lt hp)) (neA ?_) (neA ?_) e
    · exact Nat.ne_of_lt (Nat.lt_of_lt_of_le (Nat.lt_trans hp hq) hD)
    · exact Nat.ne_of_lt (Nat.lt_of_lt_of_le (Nat.lt_trans hp hq) hC)
  · intro i v ys news₁ h tk oI oD oC D C m₁ E' hi hP hj hD hC hn hk F₁ N₁ hns hm
    exact turn i v ys news₁ h tk oI oD oC D C m₁ E' (by simpa using hP) hj (Nat.le_trans (Nat.le_of_lt hq) hD) (Nat.le_trans (Nat.le_of_lt hq) hC) hn hk F₁ N₁ hns hm
  · intro ys news₁ h tk D k hj hl hD hk F₁ N₁ hn
    exact done ys news₁ h tk D k (by simpa using hj) (by simpa using hl) (Nat.le_trans (Nat.le_of_lt hq) hD) hk F₁ N₁ fun p hp => (hn p hp).1

/-- a comprehension over a tuple that stands -/
theorem comp_tuple {l : Addr} {ol : Obj} {vs : List Value} {nn : Nat} (hh : A.handled = none)
    (ho : s.heap.get? l = some ol) (hc : ol.cls = .type "tuple") (hd : ol.data = .seq vs.toArray nn) (hsz : vs.length ≤ sizeLine)
    (hcell : ∀ y ∈ scope.names, y.2 ≠ .cell) (hkind : scope.kind = .function) (hx : scope.names.lookup x = some .local)
    (F : Fr g env.locals s.heap m) (N : News g env.locals s.heap news) (hj : J 0 [] news s.heap)
    (hJ : ∀ i ys news h h', J i ys news h → (∀ p o, @LT.lt Nat _ p s.heap.objs.size → h.get? p = some o → h'.get? p = some o) → J i ys news h')
    (turn : ∀ i v ys news₁ h tk oI oD oC D C m₁ E', vs[i]? = some v → J i ys news₁ h → @LE.le Nat _ s.heap.objs.size D → @LE.le Nat _ s.heap.objs.size C → (∀ p ∈ news₁, p.1 ∉ [s.heap.objs.size, D, C]) → h.get? l = some ol → Fr g env.locals h m → News g env.locals h ([(s.heap.objs.size, oI), (D, oD), (C, oC)] ++ news₁) →
      h.Ns C m₁ → m₁ x = some v → wpAny (model prog w) A (eval elt (compEnvC scope cl C env)) (EltEnd g env.locals m [(s.heap.objs.size, oI), (D, oD), (C, oC)] (fun h => h.get? l = some ol) J (i + 1) ys s) E' { s with heap := h, toks := tk })
    (done : ∀ ys news₁ h tk D k, J vs.length ys news₁ h → ys.length = vs.length → @LE.le Nat _ s.heap.objs.size D → h.get? l = some ol → Fr g env.locals h m → News g env.locals h ((D, listOf ys.toArray k) :: news₁) → (∀ p ∈ news₁, p.1 ≠ D) → Q (.ref D) { s with heap := h, toks := tk }) :
    wpAny (model prog w) A (pyIter (.ref l)) (fun it s₂ => CompAt prog w A env elt iter x px scope cl pos Q E it s₂) E s := by
  have hl : s.heap.IsTuple l vs.toArray := ⟨ol, ho, hc, nn, hd⟩
  have hlt : @LT.lt Nat _ l s.heap.objs.size := Heap.lt_size ho
  have hne : l ≠ s.heap.objs.size := Nat.ne_of_lt hlt
  have hLt : env.locals < s.heap.objs.size := F.ns.lt
  have up : ∀ b o, s.heap.get? b = some o → (s.heap.push { cls := .type "tuple_iterator", data := .fields #[.ref l, .int 0 0] }).get? b = some o := fun b o e => Heap.get?_push_of_some _ e
  have hs1 : (s.heap.push { cls := .type "tuple_iterator", data := .fields #[.ref l, .int 0 0] }).objs.size = s.heap.objs.size + 1 := Heap.size_push ..
  have hq := Nat.lt_of_lt_of_eq (Nat.lt_succ_self s.heap.objs.size) hs1.symm
  refine wpAny_pyIter_tuple hl ?_
  unfold CompAt
  refine comp_code (keep := (fun h => h.get? l = some ol)) (Walks.tuple (prog := prog) (w := w) hh s.heap.objs.size l hne vs.toArray) J (by simpa using hsz) hcell hkind hx ?_ (Nat.ne_of_lt hLt) hq ?_ ?_ ⟨⟨_, Heap.get?_push_size _ rfl, rfl, rfl⟩, hl.at fun o e => up _ _ e⟩ ?_ (F.push _) (N.grown up) (fun p hp => Nat.ne_of_lt (Heap.lt_size (N p hp).1)) (up _ _ ho) (hJ _ _ _ _ _ hj fun p o _ e => up p o e) ?_ ?_ ?_
  · cases q : g.get? s.heap.objs.size with
    | none => rfl
    | some o => exact absurd (Heap.lt_size (F.keep _ _ q)) (Nat.lt_irrefl _)
  · intro b hb
    rcases List.mem_cons.mp hb with rfl | hb
    · exact .inl rfl
    · rw [List.mem_singleton.mp hb]
      exact .inr fun h h' a b o e => by rw [a] at e; cases e; exact b
  · exact fun h h' k q => q _ _ (Nat.lt_trans hlt hq) hne k
  · rintro i h ⟨⟨o, ho, _⟩, _⟩
    exact ⟨o, ho⟩
  · intro i ys news h h' D C hD hC hj hk
    refine hJ i ys news h h' hj fun p o hp e => hk p o (neA (Nat.ne_of_lt hp)) (neA ?_) (neA ?_) e
    · exact Nat.ne_of_lt (Nat.lt_of_lt_of_le (Nat.lt_trans hp hq) hD)
    · exact Nat.ne_of_lt (Nat.lt_of_lt_of_le (Nat.lt_trans hp hq) hC)
  · intro i v ys news₁ h tk oI oD oC D C m₁ E' hi hP hj hD hC hn hk F₁ N₁ hns hm
    exact turn i v ys news₁ h tk oI oD oC D C m₁ E' (by simpa using hP) hj (Nat.le_trans (Nat.le_of_lt hq) hD) (Nat.le_trans (Nat.le_of_lt hq) hC) hn hk F₁ N₁ hns hm
  · intro ys news₁ h tk D k hj hl hD hk F₁ N₁ hn
    exact done ys news₁ h tk D k (by simpa using hj) (by simpa using hl) (Nat.le_trans (Nat.le_of_lt hq) hD) hk F₁ N₁ fun p hp => (hn p hp).1

/-- a comprehension over a range that goes up by ones from nought -/
theorem comp_range {r : Addr} {b : Int} {n : Nat} {t u v : Tok} (hh : A.handled = none)
    (hr : IsRange s.heap r 0 b 1 t u v) (hsmall : Builtin.Range.small 0 b 1 = true) (hrs : Builtin.Range.rangeSize 0 b 1 = (n : Int)) (hsz : n ≤ sizeLine)
    (hcell : ∀ y ∈ scope.names, y.2 ≠ .cell) (hkind : scope.kind = .function) (hx : scope.names.lookup x = some .local)
    (F : Fr g env.locals s.heap m) (N : News g env.locals s.heap news) (hj : J 0 [] news s.heap)
    (hJ : ∀ i ys news h h', J i ys news h → (∀ p o, @LT.lt Nat _ p s.heap.objs.size → h.get? p = some o → h'.get? p = some o) → J i ys news h')
    (turn : ∀ i (t : Tok) ys news₁ h tk oI oD oC D C m₁ E', i < n → J i ys news₁ h → @LE.le Nat _ s.heap.objs.size D → @LE.le Nat _ s.heap.objs.size C → (∀ p ∈ news₁, p.1 ∉ [s.heap.objs.size, D, C]) →  Fr g env.locals h m → News g env.locals h ([(s.heap.objs.size, oI), (D, oD), (C, oC)] ++ news₁) →
      h.Ns C m₁ → m₁ x = some (.int (i : Int) t) → wpAny (model prog w) A (eval elt (compEnvC scope cl C env)) (EltEnd g env.locals m [(s.heap.objs.size, oI), (D, oD), (C, oC)] (fun _ => True) J (i + 1) ys s) E' { s with heap := h, toks := tk })
    (done : ∀ ys news₁ h tk D k, J n ys news₁ h → ys.length = n → @LE.le Nat _ s.heap.objs.size D →  Fr g env.locals h m → News g env.locals h ((D, listOf ys.toArray k) :: news₁) → (∀ p ∈ news₁, p.1 ≠ D) → Q (.ref D) { s with heap := h, toks := tk }) :
    wpAny (model prog w) A (pyIter (.ref r)) (fun it s₂ => CompAt prog w A env elt iter x px scope cl pos Q E it s₂) E s := by
  have hLt : env.locals < s.heap.objs.size := F.ns.lt
  have up : ∀ b o, s.heap.get? b = some o → (s.heap.push { cls := .type "range_iterator", data := .fields #[rawInt 0, rawInt (n : Int), rawInt 1] }).get? b = some o := fun b o e => Heap.get?_push_of_some _ e
  have hs1 : (s.heap.push { cls := .type "range_iterator", data := .fields #[rawInt 0, rawInt (n : Int), rawInt 1] }).objs.size = s.heap.objs.size + 1 := Heap.size_push ..
  have hq := Nat.lt_of_lt_of_eq (Nat.lt_succ_self s.heap.objs.size) hs1.symm
  have st0 : IsRangeIter (s.heap.push { cls := .type "range_iterator", data := .fields #[rawInt 0, rawInt (n : Int), rawInt 1] }) s.heap.objs.size (0 + ((0 : Nat) : Int) * 1) ((n : Int) - ((0 : Nat) : Int)) 1 := by
    have e0 : (0 : Int) + ((0 : Nat) : Int) * 1 = 0 := rfl
    have e1 : (n : Int) - ((0 : Nat) : Int) = n := Int.sub_zero _
    rw [e0, e1]
    exact Heap.get?_push_size _ rfl
  refine wpAny_pyIter_range hr hsmall ?_
  rw [hrs]
  unfold CompAt
  refine comp_code (keep := (fun _ => True)) (Walks.range (prog := prog) (w := w) hh s.heap.objs.size 0 1 n) J hsz hcell hkind hx ?_ (Nat.ne_of_lt hLt) hq ?_ ?_ st0 ?_ (F.push _) (N.grown up) (fun p hp => Nat.ne_of_lt (Heap.lt_size (N p hp).1)) trivial (hJ _ _ _ _ _ hj fun p o _ e => up p o e) ?_ ?_ ?_
  · cases q : g.get? s.heap.objs.size with
    | none => rfl
    | some o => exact absurd (Heap.lt_size (F.keep _ _ q)) (Nat.lt_irrefl _)
  · intro p hp
    exact .inl (List.mem_singleton.mp hp)
  · exact fun _ _ _ _ => trivial
  · intro i h st
    exact ⟨_, st⟩
  · intro i ys news h h' D C hD hC hj hk
    refine hJ i ys news h h' hj fun p o hp e => hk p o (neA (Nat.ne_of_lt hp)) (neA ?_) (neA ?_) e
    · exact Nat.ne_of_lt (Nat.lt_of_lt_of_le (Nat.lt_trans hp hq) hD)
    · exact Nat.ne_of_lt (Nat.lt_of_lt_of_le (Nat.lt_trans hp hq) hC)
  · rintro i v ys news₁ h tk oI oD oC D C m₁ E' hi ⟨t, rfl⟩ hj hD hC hn hk F₁ N₁ hns hm
    have e : (0 : Int) + (i : Int) * 1 = (i : Int) := by rw [Int.mul_one, Int.zero_add]
    rw [e] at hm
    exact turn i t ys news₁ h tk oI oD oC D C m₁ E' hi hj (Nat.le_trans (Nat.le_of_lt hq) hD) (Nat.le_trans (Nat.le_of_lt hq) hC) hn F₁ N₁ hns hm
  · intro ys news₁ h tk D k hj hl hD hk F₁ N₁ hn
    exact done ys news₁ h tk D k hj hl (Nat.le_trans (Nat.le_of_lt hq) hD) F₁ N₁ fun p hp => (hn p hp).1

theorem comp_rangeN {r : Addr} {b : Int} {t u v : Tok} (hh : A.handled = none)
    (hr : IsRange s.heap r 0 b 1 t u v) (hb0 : -1000000 ≤ b) (hb1 : b ≤ 1000000)
    (hcell : ∀ y ∈ scope.names, y.2 ≠ .cell) (hkind : scope.kind = .function) (hx : scope.names.lookup x = some .local)
    (F : Fr g env.locals s.heap m) (N : News g env.locals s.heap news) (hj : J 0 [] news s.heap)
    (hJ : ∀ i ys news h h', J i ys news h → (∀ p o, @LT.lt Nat _ p s.heap.objs.size → h.get? p = some o → h'.get? p = some o) → J i ys news h')
    (turn : ∀ i (t : Tok) ys news₁ h tk oI oD oC D C m₁ E', i < b.toNat → J i ys news₁ h → @LE.le Nat _ s.heap.objs.size D → @LE.le Nat _ s.heap.objs.size C → (∀ p ∈ news₁, p.1 ∉ [s.heap.objs.size, D, C]) →  Fr g env.locals h m → News g env.locals h ([(s.heap.objs.size, oI), (D, oD), (C, oC)] ++ news₁) →
      h.Ns C m₁ → m₁ x = some (.int (i : Int) t) → wpAny (model prog w) A (eval elt (compEnvC scope cl C env)) (EltEnd g env.locals m [(s.heap.objs.size, oI), (D, oD), (C, oC)] (fun _ => True) J (i + 1) ys s) E' { s with heap := h, toks := tk })
    (done : ∀ ys news₁ h tk D k, J b.toNat ys news₁ h → ys.length = b.toNat → @LE.le Nat _ s.heap.objs.size D →  Fr g env.locals h m → News g env.locals h ((D, listOf ys.toArray k) :: news₁) → (∀ p ∈ news₁, p.1 ≠ D) → Q (.ref D) { s with heap := h, toks := tk }) :
    wpAny (model prog w) A (pyIter (.ref r)) (fun it s₂ => CompAt prog w A env elt iter x px scope cl pos Q E it s₂) E s := by
  have hrs : Builtin.Range.rangeSize 0 b 1 = (b.toNat : Int) := by rw [rangeSize_nat, Int.sub_zero]
  exact comp_range J hh hr (small_one (by omega) (by omega) (by omega) (by omega)) hrs (by rw [sizeLine_eq]; omega) hcell hkind hx F N hj hJ turn done

end
end
theorem ints_get : ∀ {vs : List Value} {ns : List Int} {i : Nat} {v : Value}, IntsAre vs ns → vs[i]? = some v → ∃ x t, v = .int x t ∧ ns[i]? = some x := by
  intro vs ns i v h
  induction h generalizing i with
  | nil => intro h; cases h
  | cons x t _ ih =>
    intro h
    cases i with
    | zero => cases h; exact ⟨_, _, rfl, rfl⟩
    | succ i => exact ih h
theorem paired_get {α β : Type} {F : α → β → Prop} : ∀ {vs : List α} {ns : List β} {i : Nat} {v : α}, Paired F vs ns → vs[i]? = some v → ∃ x, ns[i]? = some x ∧ F v x := by
  intro vs ns i v h
  induction h generalizing i with
  | nil => intro h; cases h
  | cons hx _ ih =>
    intro h
    cases i with
    | zero => cases h; exact ⟨_, rfl, hx⟩
    | succ i => exact ih h
theorem take_snoc {α : Type} {l : List α} {i : Nat} {x : α} (h : l[i]? = some x) : l.take (i + 1) = l.take i ++ [x] := by
  rw [List.take_add_one, h]; rfl
section
variable {news : List (Addr × Obj)}
/-- both ways of an if come to this -/
inductive JoinF (g : Heap) (L : Addr) (m : Str → Option Value) (P : List (Addr × Obj) → Prop) (s : Shared) : Flow → Shared → Prop
  | mk {h : Heap} {tk : Nat} {news : List (Addr × Obj)} (F : Fr g L h m) (N : News g L h news) (X : P news) : JoinF g L m P s .next { s with heap := h, toks := tk }
theorem JoinF.elim {g : Heap} {L : Addr} {m : Str → Option Value} {P : List (Addr × Obj) → Prop} {s : Shared} {R : Flow → Shared → Prop} {f : Flow} {s' : Shared} (h : JoinF g L m P s f s') (k : ∀ h tk news, Fr g L h m → News g L h news → P news → R .next { s with heap := h, toks := tk }) : R f s' := by
  obtain ⟨F, N, X⟩ := h
  exact k _ _ _ F N X
theorem ints_at {vs : List Value} {ns : List Int} {i : Nat} {v : Value} {P : Value → Prop} (h : IntsAre vs ns) (hi : vs[i]? = some v) (k : ∀ x t, ns[i]? = some x → P (.int x t)) : P v := by
  obtain ⟨x, t, rfl, hx⟩ := ints_get h hi
  exact k x t hx
end
theorem ints_mem {x : Value} {vs : List Value} {ns : List Int} {P : Value → Prop} (h : x ∈ vs) (hi : IntsAre vs ns) (k : ∀ i t, i ∈ ns → P (.int i t)) : P x := by
  obtain ⟨j, hj⟩ := List.mem_iff_getElem?.mp h
  exact ints_at hi hj fun i t e => k i t (List.mem_of_getElem? e)
def Off3 (jl wd ws : Addr) (news : List (Addr × Obj)) : Prop := ∀ p ∈ news, @Ne Nat p.1 jl ∧ @Ne Nat p.1 wd ∧ @Ne Nat p.1 ws
theorem paired_len {α β : Type} {F : α → β → Prop} : ∀ {l : List α} {r : List β}, Paired F l r → l.length = r.length := by
  intro l r h
  induction h with
  | nil => rfl
  | cons _ _ ih => exact congrArg Nat.succ ih
theorem gen_fr {g h : Heap} {L : Addr} {m : Str → Option Value} {P : Prop} (F : Fr g L h m) (k : ∀ M, Fr g L h M → (∀ y, M y = m y) → P) : P := k m F fun _ => rfl


/-- where a call of the text's own stands -/
structure Cx (w : World) (mean : ExcName → Option Value) (mg mb : Str → Option Value) (A₀ A : Around) (cn : Str) (cs : Scope) (L a : Addr) (ccd : Value) (cl : List (Str × Addr)) (outer : List Env) (base h₀ : Heap) (m : Str → Option Value) (h : Heap) (dp un : Nat) : Prop where
  B : Below A₀ base outer h₀
  F : Fr h₀ L h m
  X : (hd.heap_1 w.params).In h₀
  T : Top vw (looseW vw hloose) mean mg mb h₀
  hk : cs.kind = .function
  hA : A.frames = some (envX cn cs L a ccd cl :: outer)
  hh : A.handled = none
  hdp : A.depth ≤ dp
  hun : A.units ≤ un

section
variable {w : World} {mean : ExcName → Option Value} {mg mb : Str → Option Value} {A₀ A : Around} {cn : Str} {cs : Scope} {L a : Addr} {ccd : Value} {cl : List (Str × Addr)} {outer : List Env} {base h₀ : Heap} {m : Str → Option Value} {dp un : Nat}
  {s : Shared} {Q E : Value → Shared → Prop} {news : List (Addr × Obj)}

/-- the body of a called def, from a ground where all but the named objects stand as they stood -/
theorem call_enter {name qual : Str} {params : Arguments} {body : List Stmt} {scope : Scope} {dV kV doc pm cdv ct oc : Value} {an od : Option Addr} {osl : Array (Option Value)} {f : Addr} {args : List Value} {binds : List (Str × Value)}
    (C : Cx w mean mg mb A₀ A cn cs L a ccd cl outer base h₀ m s.heap dp un) (N : News h₀ L s.heap news)
    (ho : (hd.heap_1 w.params).lookup f = some ⟨oc, od, .func (fnOf name qual params body scope dV kV doc pm an cdv ct), osl⟩) (hcd : codeIn (hd.heap_1 w.params) cdv qual = true) (hroom : dp < recursionLimit)
    (hbind : BindsTo s (fnOf name qual params body scope dV kV doc pm an cdv ct) ⟨args, []⟩ binds) (hloc : ∀ y ∈ binds, scope.names.lookup y.1 = some .local)
    (h : ∀ g L' h₁, (∀ b o, s.heap.get? b = some o → b ∉ news.map (·.1) → g.get? b = some o) → (∀ b o, s.heap.get? b = some o → h₁.get? b = some o) → Fr g L' h₁ (fun y => binds.reverse.lookup y) → News g L' h₁ news → Below (ktrTop dp un A.guards cn cs L a ccd cl outer) base (envX cn cs L a ccd cl :: outer) g →
      (hd.heap_1 w.params).In g → Top vw (looseW vw hloose) mean mg mb g →
      wpAny (model PySem.Challenge.rw_pq0410_01.row.prog w) ((ktrTop dp un A.guards cn cs L a ccd cl outer).deeper (envOf qual scope L' f cdv)) (execs body (envOf qual scope L' f cdv))
        (fun fl s' => Q (match fl with | .ret v => v | _ => .none) s')
        (fun e s' => wpAny (model PySem.Challenge.rw_pq0410_01.row.prog w) ((ktrTop dp un A.guards cn cs L a ccd cl outer).deeper (envOf qual scope L' f cdv)) (leaving (envOf qual scope L' f cdv) e) (fun _ s'' => E e s'') (fun e' s'' => E e' s'') s')
        { s with heap := h₁, toks := s.toks + binds.length })
    (hco : scope.isCoroutine = false) (hgen : scope.isGenerator = false) (hk : scope.kind = .function)
    (hcell : ∀ x ∈ scope.names, x.2 ≠ .cell) : wpAny (model PySem.Challenge.rw_pq0410_01.row.prog w) A (call (.ref f) args) Q E s := by
  refine lower C.hh C.hA C.hdp C.hun ?_
  show wpAny _ (ktrTop dp un A.guards cn cs L a ccd cl outer) _ _ _ _
  refine wpAny_call ?_
  obtain ⟨FG, BG, st, _⟩ := groundX (R := fun _ _ => True) (A := ktrTop dp un A.guards cn cs L a ccd cl outer) (env := envX cn cs L a ccd cl) C.B C.F N rfl rfl C.hk
  have XS := C.X.keeps C.F.keep
  refine codeAny_call_def (fd := fnOf name qual params body scope dV kV doc pm an cdv ct) (body := body) (binds := binds) hroom (XS _ _ ho) rfl (C.T.nolimit.keeps C.F.keep) (codeRec_of XS hcd) rfl hbind hcell hloc (fun h₁ hns hk₁ => ?_) hco hgen hk
  exact h _ s.heap.objs.size h₁ (fun b o e n => hideAll_get _ e n) hk₁ ⟨hns, fun b o e => hk₁ b o (of_hideAll _ e), Nat.le_of_eq (hideAll_size _ _)⟩
    (fun q hq => ⟨hk₁ _ _ (N q hq).1, Nat.ne_of_lt (Heap.lt_size (N q hq).1), hideAll_none _ (List.mem_map_of_mem hq)⟩) BG (C.X.keeps st) (C.T.keeps st)

/-- the same where locals are captured -/
theorem call_enterC {name qual : Str} {params : Arguments} {body : List Stmt} {scope : Scope} {dV kV doc pm cdv ct oc : Value} {an od : Option Addr} {osl : Array (Option Value)} {f : Addr} {args : List Value} {binds : List (Str × Value)}
    (C : Cx w mean mg mb A₀ A cn cs L a ccd cl outer base h₀ m s.heap dp un) (N : News h₀ L s.heap news)
    (ho : (hd.heap_1 w.params).lookup f = some ⟨oc, od, .func (fnOf name qual params body scope dV kV doc pm an cdv ct), osl⟩) (hcd : codeIn (hd.heap_1 w.params) cdv qual = true) (hroom : dp < recursionLimit)
    (hbind : BindsTo s (fnOf name qual params body scope dV kV doc pm an cdv ct) ⟨args, []⟩ binds)
    (hkind : (binds.all fun y => scope.names.lookup y.1 == some .local || scope.names.lookup y.1 == some .cell) = true)
    (hnd : ((cellsFrom 0 scope.names []).map (·.1)).Nodup)
    (h : ∀ g L' h₁ tk cells, (∀ b o, s.heap.get? b = some o → b ∉ news.map (·.1) → g.get? b = some o) → (∀ b o, s.heap.get? b = some o → h₁.get? b = some o) → Fr g L' h₁ (bindL (envOfC qual scope L' f cdv).kindOf binds fun _ => none) → News g L' h₁ (cells ++ news) →
      CellsAre (bindC (envOfC qual scope L' f cdv).kindOf binds fun _ => none) (cellsFrom (L' + 1) scope.names []) cells → Below (ktrTop dp un A.guards cn cs L a ccd cl outer) base (envX cn cs L a ccd cl :: outer) g →
      (hd.heap_1 w.params).In g → Top vw (looseW vw hloose) mean mg mb g → (∀ p ∈ news, p.1 < L') →
      wpAny (model PySem.Challenge.rw_pq0410_01.row.prog w) ((ktrTop dp un A.guards cn cs L a ccd cl outer).deeper (envOfC qual scope L' f cdv)) (execs body (envOfC qual scope L' f cdv))
        (fun fl s' => Q (match fl with | .ret v => v | _ => .none) s')
        (fun e s' => wpAny (model PySem.Challenge.rw_pq0410_01.row.prog w) ((ktrTop dp un A.guards cn cs L a ccd cl outer).deeper (envOfC qual scope L' f cdv)) (leaving (envOfC qual scope L' f cdv) e) (fun _ s'' => E e s'') (fun e' s'' => E e' s'') s')
        { s with heap := h₁, toks := tk })
    (hco : scope.isCoroutine = false) (hgen : scope.isGenerator = false) (hk : scope.kind = .function) : wpAny (model PySem.Challenge.rw_pq0410_01.row.prog w) A (call (.ref f) args) Q E s := by
  refine lower C.hh C.hA C.hdp C.hun ?_
  show wpAny _ (ktrTop dp un A.guards cn cs L a ccd cl outer) _ _ _ _
  refine wpAny_call ?_
  obtain ⟨FG, BG, st, _⟩ := groundX (R := fun _ _ => True) (A := ktrTop dp un A.guards cn cs L a ccd cl outer) (env := envX cn cs L a ccd cl) C.B C.F N rfl rfl C.hk
  have XS := C.X.keeps C.F.keep
  have hlim := C.T.nolimit
  refine codeAny_call_function hroom (XS _ _ ho) rfl hco hgen rfl (codeRec_of XS hcd) (hbind _ _ _ _ ?_)
  refine wpAny_newFunctionEnv_cells hk (kindsX hkind _) fun env' he s' x => ?_
  subst he
  refine ⟨(hlim.keeps C.F.keep).keeps x.toInCall.keep, codeAny_func ?_⟩
  obtain ⟨h₁, tk, rfl, _⟩ := x.done
  have hk₁ := x.toInCall.keep
  obtain ⟨cells, NC, Y⟩ := Cl.news (h₀ := s.heap) (Nat.le_refl _) fun n c hm => ⟨x.cell n c (lookup_of_mem_nodup (cellsFrom_names scope.names 0 (s.heap.objs.size + 1) [] [] rfl ▸ hnd) hm), x.above n c hm⟩
  refine h _ s.heap.objs.size h₁ tk cells (fun b o e n => hideAll_get _ e n) hk₁ ⟨x.toInCall.ns, fun b o e => hk₁ b o (of_hideAll _ e), Nat.le_of_eq (hideAll_size _ _)⟩ (fun p hp => ?_) Y BG (C.X.keeps st) (C.T.keeps st) (fun p hp => Heap.lt_size (N p hp).1)
  rcases List.mem_append.mp hp with hp | hp
  · refine ⟨(NC p hp).1, (NC p hp).2.1, ?_⟩
    cases q : (hideAll s.heap (news.map (·.1))).get? p.1 with
    | none => rfl
    | some o => have := of_hideAll _ q; rw [(NC p hp).2.2] at this; cases this
  · exact ⟨hk₁ _ _ (N p hp).1, Nat.ne_of_lt (Heap.lt_size (N p hp).1), hideAll_none _ (List.mem_map_of_mem hp)⟩

/-- the caller's facts behind a call that changes ds alone -/
theorem Cx.after {h h' : Heap} {ds : List Addr} (C : Cx w mean mg mb A₀ A cn cs L a ccd cl outer base h₀ m h dp un) (k : Kept h h' ds) (hL : L ∉ ds) (hd : ∀ d ∈ ds, h₀.get? d = none) : Fr h₀ L h' m := fr_kept C.F k hL hd

theorem news_upd1 {h h' : Heap} {d : Addr} {o o' : Obj} {gg : Obj → List (Addr × Obj)} (N : News h₀ L h news) (U : UpdF d o news gg) (k : Kept h h' [d]) (e : h'.get? d = some o') : News h₀ L h' (gg o') := by
  obtain ⟨pre, post, rfl, hg, a1, a2⟩ := U.split
  rw [hg]
  intro p hp
  have hm := N (d, o) (by simp)
  rcases List.mem_append.mp hp with q | q
  · exact ⟨k _ _ (N p (by simp [q])).1 (by simpa using a1 p q), (N p (by simp [q])).2⟩
  · rcases List.mem_cons.mp q with rfl | q
    · exact ⟨e, hm.2⟩
    · exact ⟨k _ _ (N p (by simp [q])).1 (by simpa using a2 p q), (N p (by simp [q])).2⟩
theorem updF_mem {d : Addr} {o : Obj} {gg : Obj → List (Addr × Obj)} (U : UpdF d o news gg) : (d, o) ∈ news := by
  obtain ⟨pre, post, rfl, _, _, _⟩ := U.split
  simp
theorem news_two {h : Heap} {p q : Addr × Obj} (N : News h₀ L h news) (a : p ∈ news) (b : q ∈ news) : News h₀ L h [p, q] := fun x hx => by
  rcases List.mem_cons.mp hx with rfl | hx
  · exact N _ a
  · rw [List.mem_singleton.mp hx]; exact N _ b
/-- what is not of the ground and not of the named objects is new -/
theorem fresh_end {g h h' : Heap} {L' T : Addr} {o : Obj} {news' : List (Addr × Obj)} (hG : ∀ b o, h.get? b = some o → b ∉ news.map (·.1) → g.get? b = some o) (N' : News g L' h' news') (hm : (T, o) ∈ news') (hn : T ∉ news.map (·.1)) : h.get? T = none := by
  cases q : h.get? T with
  | none => rfl
  | some x => have := hG _ _ q hn; rw [(N' _ hm).2.2] at this; cases this
/-- a new object goes onto the ledger -/
theorem news_new {h h' : Heap} {T : Addr} {o : Obj} {ds : List Addr} (F : Fr h₀ L h m) (N : News h₀ L h news) (k : Kept h h' ds) (hds : ∀ p ∈ news, p.1 ∉ ds) (hT : h.get? T = none) (e : h'.get? T = some o) : News h₀ L h' ((T, o) :: news) := fun p hp => by
  rcases List.mem_cons.mp hp with rfl | hp
  · refine ⟨e, ?_, ?_⟩
    · rintro rfl
      obtain ⟨oL, _, _, hL, _⟩ := F.ns
      rw [hT] at hL; cases hL
    · cases q : h₀.get? T with
      | none => rfl
      | some x => have := F.keep _ _ q; rw [hT] at this; cases this
  · exact ⟨k _ _ (N p hp).1 (hds p hp), (N p hp).2⟩
theorem news_lt {h h' : Heap} {T : Addr} {o : Obj} (N : News h₀ L h news) (k : Kept h h' []) (hT : h.get? T = none) (e : h'.get? T = some o) : ∀ p ∈ news, p.1 ≠ T := fun p hp q => by
  have := (N p hp).1
  rw [q, hT] at this; cases this

theorem keptN {g h : Heap} {L' : Addr} {news' : List (Addr × Obj)} {ds : List Addr} (N' : News g L' h news') (hs : ∀ q ∈ news, q.1 ∈ ds ∨ q ∈ news') : ∀ q ∈ news, q.1 ∉ ds → h.get? q.1 = some q.2 :=
  fun q hq hn => (hs q hq).elim (fun x => absurd x hn) fun x => (N' q x).1
end

theorem off3 {p a b c : Addr} (h1 : @Ne Nat p a) (h2 : @Ne Nat p b) (h3 : @Ne Nat p c) : p ∉ [a, b, c] := by
  intro h
  simp only [List.mem_cons, List.not_mem_nil, or_false] at h
  rcases h with h | h | h
  · exact h1 h
  · exact h2 h
  · exact h3 h
theorem off_same {news news' : List (Addr × Obj)} {l : List Addr} (h : ∀ p ∈ news, p.1 ∉ l) (e : news'.map (·.1) = news.map (·.1)) : ∀ p ∈ news', p.1 ∉ l := fun p hp => by
  have q : p.1 ∈ news.map (·.1) := e ▸ List.mem_map_of_mem hp
  obtain ⟨r, hr, hq⟩ := List.mem_map.mp q
  rw [← hq]
  exact h r hr
theorem getD_all {P : Int → Prop} {zs : List Int} (h : ∀ z ∈ zs, P z) (h0 : P 0) (j : Nat) : P (zs.getD j 0) := by
  rw [List.getD_eq_getElem?_getD]
  cases e : zs[j]? with
  | none => simpa using h0
  | some z => simpa using h z (List.mem_of_getElem? e)
theorem map1_id (M : Str → Option Value) (a : Str) : M = fun y => if y = a then M a else M y := by
  funext y
  by_cases h : y = a
  · rw [if_pos h, h]
  · rw [if_neg h]
theorem map2_id (M : Str → Option Value) (a b : Str) : M = fun y => if y = a then M a else if y = b then M b else M y := by
  funext y
  by_cases h : y = a
  · rw [if_pos h, h]
  · rw [if_neg h]
    by_cases h' : y = b
    · rw [if_pos h', h']
    · rw [if_neg h']
theorem map2_put {M : Str → Option Value} {a b : Str} {u1 u2 v1 v2 : Option Value} (hab : a ≠ b) : (fun y => if y = b then v2 else if y = a then v1 else if y = a then u1 else if y = b then u2 else M y) = fun y => if y = a then v1 else if y = b then v2 else M y := by
  funext y
  by_cases h : y = a
  · have h' : ¬ y = b := fun q => hab (h.symm.trans q)
    rw [if_neg h', if_pos h, if_pos h]
  · by_cases h' : y = b
    · rw [if_pos h', if_neg h, if_pos h']
    · rw [if_neg h', if_neg h, if_neg h, if_neg h', if_neg h, if_neg h']
theorem map1_put {M : Str → Option Value} {a : Str} {u1 v1 : Option Value} : (fun y => if y = a then v1 else if y = a then u1 else M y) = fun y => if y = a then v1 else M y := by
  funext y
  by_cases h : y = a
  · rw [if_pos h, if_pos h]
  · rw [if_neg h, if_neg h, if_neg h]
theorem tail_ne {d : Addr} : ∀ {tl : List (Addr × Obj)}, AllLt d tl → ∀ p ∈ tl, p.1 ≠ d := by
  intro tl
  induction tl with
  | nil => intro _ p hp; cases hp
  | cons q tl ih =>
    intro h p hp
    rcases List.mem_cons.mp hp with rfl | hp
    · exact Nat.ne_of_lt h.1
    · exact ih h.2 p hp
theorem ne_lit1 {b : Nat} (h : False) : @Ne Nat 98765432123 b := h.elim
theorem ne_lit2 {a : Nat} (h : False) : @Ne Nat a 98765432123 := h.elim

local macro_rules | `(tactic| walk_at $s:str) => `(tactic| k_extra $s)
local macro_rules | `(tactic| k_room) => `(tactic| k_extra "k_room")
local macro_rules | `(tactic| size_fits) => `(tactic| k_extra "size_fits")
local macro_rules | `(tactic| k_ne) => `(tactic| k_extra "k_ne")
local macro_rules | `(tactic| k_mem) => `(tactic| k_extra "k_mem")
local macro_rules | `(tactic| k_all) => `(tactic| k_extra "k_all")
example : True := by
  k_with "k_mem" => ((repeat (refine List.mem_cons_of_mem _ ?_)); with_reducible assumption)
  k_with "CX" => (refine' ⟨?zzcB, ?zzcF, ?zzcX, ?zzcT, ?zzck, ?zzcA, ?zzch, ?zzcd, ?zzcu⟩; (case zzcF => k_asm); (case zzcA => rfl); (case zzcB => k_asm); (case zzcX => k_asm); (case zzcT => k_asm); (case zzck => first | rfl | assumption); (case zzch => rfl); (case zzcd => exact Nat.le_of_ble_eq_true rfl); (case zzcu => exact Nat.le_of_ble_eq_true rfl))
  k_with "J1" => ((intro h' tk' r' tr' tk2' fo' K' hT' F' N' I' r0' r1'; (try dsimp only at N'); (try (have T9' := hT' _ _ (by assumption)))); (revert h' tk' r' tr' tk2' fo' K' hT' F' N' I' r0' r1'); intros; (try k_fold))
  k_with "J2" => ((intro h' tk' x' tk2' fo' K' hT' F' N' I' x0'; (try dsimp only at N'); (try (have T9' := hT' _ _ (by assumption)))); (revert h' tk' x' tk2' fo' K' hT' F' N' I' x0'); intros; (try k_fold))
  k_with "J3" => ((intro h' tk' b' tb' k' tk2' fo' K' hT' F' N' I' k1' k2' b1'; (try dsimp only at N'); (try (have T9' := hT' _ _ (by assumption)))); (revert h' tk' b' tb' k' tk2' fo' K' hT' F' N' I' k1' k2' b1'); intros; (try k_fold))
  k_with "J4" => ((intro h' tk' wo' its' jn' own' K' hT' F' N' hO' S'; (try simp only [List.cons_append, List.nil_append] at N' hO'); (try dsimp only at N'); (try (have T9' := hT' _ _ (by assumption)))); (revert h' tk' wo' its' jn' own' K' hT' F' N' hO' S'); intros; (try k_fold))
  k_with "J5" => ((intro h' tk' so' its' jn' own' K' hT' F' N' hO' S'; (try simp only [List.cons_append, List.nil_append] at N' hO'); (try dsimp only at N'); (try (have T9' := hT' _ _ (by assumption)))); (revert h' tk' so' its' jn' own' K' hT' F' N' hO' S'); intros; (try k_fold))
  k_with "k_room" => (simp only [ktrTop, depth_mark, depth_under_make, depth_under_kw, depth_in1, depth_deeper]; decide)
  k_with "ENTER" => ((k_dflt (refine' call_enter (by assumption) (by assumption) ?zzk6 ?zzk7 ?zzk8 ?zzk9 ?zzkB ?_ ?zzc2 ?zzc3 ?zzc4 ?zzc5; (case zzk6 => k_is); (case zzk7 => k_is); (case zzk8 => decide); (case zzk9 => exact BindsTo.of_eq rfl); (case zzc5 => decide); (case zzkB => exact locs rfl); (case zzc2 => exact rfl); (case zzc3 => exact rfl); (case zzc4 => exact rfl); intro g' L' h' hG hU F' N' B' X' T'; (try dsimp only); (try k_lift B'))); (revert g' L' h' hG hU F' N' B' X' T'); intros; (try k_fold))
  k_with "KEPT" => (first | exact List.forall_mem_nil _ | (refine List.forall_mem_cons.mpr ⟨?_, ?_⟩; (· first | exact Or.inl (by k_mem) | exact Or.inr (by k_mem)); (· k_extra "KEPT")) | (intro q hq; refine Or.inr ?_; k_extra "SUBA"))
  k_with "SUB" => (first | exact List.forall_mem_nil _ | (refine List.forall_mem_cons.mpr ⟨?_, ?_⟩; (· k_mem); (· k_extra "SUB")))
  k_with "OFF3" => (first | exact List.forall_mem_nil _ | (refine List.forall_mem_cons.mpr ⟨?_, ?_⟩; (· exact off3 (by (try dsimp only); omega) (by (try dsimp only); omega) (by (try dsimp only); omega)); (· k_extra "OFF3")))
  k_with "k_all" => (first | assumption | (refine tail_ne ?_; assumption))
  k_with "SUBT" => (first | exact List.forall_mem_nil _ | (refine List.forall_mem_cons.mpr ⟨?_, ?_⟩; (· k_mem); (· k_extra "SUBT")) | (intro p hp; k_extra "SUBA"))
  k_with "SUBA" => (first | assumption | (refine List.mem_cons_of_mem _ ?_; k_extra "SUBA"))
  k_with "size_fits" => (with_reducible assumption)
  k_with "LTC" => (first | with_reducible assumption | exact And.left (by with_reducible assumption) | exact And.left (And.right (by with_reducible assumption)) | exact And.left (And.right (And.right (by with_reducible assumption))) | exact And.left (And.right (And.right (And.right (by with_reducible assumption)))) | exact And.left (And.right (And.right (And.right (And.right (by with_reducible assumption))))) | exact And.left (And.right (And.right (And.right (And.right (And.right (by with_reducible assumption)))))) | exact And.left (And.right (And.right (And.right (And.right (And.right (And.right (by with_reducible assumption))))))) | exact And.left (And.right (And.right (And.right (And.right (And.right (And.right (And.right (by with_reducible assumption)))))))) | exact And.left (And.right (And.right (And.right (And.right (And.right (And.right (And.right (And.right (by with_reducible assumption))))))))) | exact And.left (And.right (And.right (And.right (And.right (And.right (And.right (And.right (And.right (And.right (by with_reducible assumption)))))))))))
  k_with "NE" => (first | assumption | (refine Ne.symm ?_; assumption) | ((fail_if_success (k_extra "OFF")); (fail_if_success (with_reducible refine ne_lit1 ?_)); (fail_if_success (with_reducible refine ne_lit2 ?_)); first | (refine Nat.ne_of_lt ?_; k_extra "LTC") | (refine Nat.ne_of_gt ?_; k_extra "LTC") | (refine Nat.ne_of_lt (Nat.lt_trans ?_ (by with_reducible assumption)); k_extra "LTC") | (refine Nat.ne_of_gt (Nat.lt_trans ?_ (by with_reducible assumption)); k_extra "LTC")) | omega)
  k_with "k_ne" => (refine neN ?_; (try dsimp only); k_extra "NE")
  trivial

/-- entries laid one after the other -/
def esOf (f : Nat → Int) (g : Nat → Tok) : Nat → List (Str × Value) → List DictEntry
  | _, [] => []
  | i, p :: r => ⟨f i, .str p.1 (g i), p.2⟩ :: esOf f g (i + 1) r
theorem esOf_congr {f f' : Nat → Int} {g g' : Nat → Tok} : ∀ (l : List (Str × Value)) (i : Nat), (∀ j, j < i + l.length → f' j = f j ∧ g' j = g j) → esOf f' g' i l = esOf f g i l
  | [], _, _ => rfl
  | p :: r, i, h => by
    rw [List.length_cons] at h
    unfold esOf
    rw [(h i (by omega)).1, (h i (by omega)).2, esOf_congr r (i + 1) fun j hj => h j (by omega)]
theorem esOf_snoc {f : Nat → Int} {g : Nat → Tok} {p : Str × Value} : ∀ (l : List (Str × Value)) (i : Nat), esOf f g i (l ++ [p]) = esOf f g i l ++ [⟨f (i + l.length), .str p.1 (g (i + l.length)), p.2⟩]
  | [], _ => rfl
  | q :: r, i => by
    show _ :: esOf f g (i + 1) (r ++ [p]) = _
    rw [esOf_snoc r (i + 1), List.length_cons, show i + 1 + r.length = i + (r.length + 1) by omega]
    rfl
theorem isStr_ne {x y : Str} {t : Tok} (h : y ≠ x) : (Value.str y t).isStr x = false := by
  show (y == x) = false
  exact beq_eq_false_iff_ne.mpr h
theorem esOf_put {f : Nat → Int} {g : Nat → Tok} {x : Str} {hs : Int} {tk : Tok} {v : Value} : ∀ (l : List (Str × Value)) (i : Nat), (∀ p ∈ l, p.1 ≠ x) → putL x hs (.str x tk) v (esOf f g i l) = esOf f g i l ++ [⟨hs, .str x tk, v⟩]
  | [], _, _ => rfl
  | p :: r, i, h => by
    unfold esOf putL
    rw [isStr_ne (h p (.head _)), if_neg Bool.false_ne_true, esOf_put r (i + 1) fun q hq => h q (.tail _ hq)]
    rfl
theorem esOf_get {f : Nat → Int} {g : Nat → Tok} {x : Str} (l : List (Str × Value)) (i : Nat) : (getL x (esOf f g i l)).isSome = true := by
  have : ∀ (l : List (Str × Value)) i, (esOf f g i l).any (·.refKey) = false := by
    intro l
    induction l with
    | nil => intro _; rfl
    | cons p r ih => intro i; unfold esOf; rw [List.any_cons, ih]; rfl
  unfold getL
  split
  · rfl
  · rw [this]; rfl
theorem esOf_len {f : Nat → Int} {g : Nat → Tok} : ∀ (l : List (Str × Value)) (i : Nat), (esOf f g i l).length = l.length
  | [], _ => rfl
  | p :: r, i => by unfold esOf; rw [List.length_cons, List.length_cons, esOf_len r]
theorem esOf_putN {f : Nat → Int} {g : Nat → Tok} {x : Str} {n : Nat} : ∀ (l : List (Str × Value)) (i : Nat), (∀ p ∈ l, p.1 ≠ x) → putN x (esOf f g i l) n = n + 1 := by
  have : ∀ (l : List (Str × Value)) (i : Nat), (∀ p ∈ l, p.1 ≠ x) → (esOf f g i l).any (·.key.isStr x) = false := by
    intro l
    induction l with
    | nil => intro _ _; rfl
    | cons p r ih =>
      intro i h
      unfold esOf
      rw [List.any_cons, isStr_ne (h p (.head _)), ih (i + 1) fun q hq => h q (.tail _ hq)]
      rfl
  intro l i h
  unfold putN
  rw [this l i h]
  rfl
/-- self.x = x, one after the other -/
inductive InitBody : List Str → List Stmt → Prop
  | nil : InitBody [] []
  | cons {x : Str} {r : List Str} {b : List Stmt} {p1 p2 p3 p4 : Pos} : InitBody r b → InitBody (x :: r) (.Assign [.Attribute (.Name (Str.ofString "self") p1) x p2] (.Name x p3) p4 :: b)
section
variable {prog : Program} {w : World} {K : Frag} {A : Around} {E : Value → Shared → Prop} {h₀ : Heap} {L : Addr} {m : Str → Option Value} {news : List (Addr × Obj)} {cn : Str} {cs : Scope} {a : Addr} {ccd : Value} {cl : List (Str × Addr)} {x C d : Addr}
theorem inits_go {g₁ : Array GenState} {dr : Drawn} {os : OsState} {Q : Flow → Shared → Prop} (X₀ : K.In h₀) (hself : m (Str.ofString "self") = some (.ref x)) (hk : cs.kind = .function) (kself : cs.names.lookup (Str.ofString "self") = some .local)
    (hs : findIn K (.ref C) "__setattr__" = some (some (.builtin "object.__setattr__"))) (hp : plainOver K C = true) (hh : hasDictIn K C = true)
    (hx : @LT.lt Nat _ d x) (hl : ∀ p ∈ news, @LT.lt Nat _ p.1 d) :
    ∀ (todo : List (Str × Value)) (body : List Stmt) (done : List (Str × Value)) (f : Nat → Int) (g : Nat → Tok) (n : Nat) (h : Heap) (tk : Nat), InitBody (todo.map (·.1)) body →
      (∀ p ∈ todo, m p.1 = some p.2 ∧ cs.names.lookup p.1 = some .local ∧ (p.1 == ("__debug__" : Str)) = false ∧ takerIn K C p.1 = some none) → ((done ++ todo).map (·.1)).Nodup → (done ++ todo).length ≤ 1000 →
      Fr h₀ L h m → News h₀ L h ((x, instObj C d) :: (d, dictOf (esOf f g 1 done) n) :: news) →
      (∀ h' tk' f' g', Fr h₀ L h' m → News h₀ L h' ((x, instObj C d) :: (d, dictOf (esOf f' g' 1 (done ++ todo)) (n + todo.length)) :: news) → Q .next { heap := h', gens := g₁, drawn := dr, toks := tk', os := os }) →
      wpAny (model prog w) A (execs body (envX cn cs L a ccd cl)) Q E { heap := h, gens := g₁, drawn := dr, toks := tk, os := os } := by
  intro todo
  induction todo with
  | nil =>
    intro body done f g n h tk hb _ _ _ F N hret
    cases hb
    exact wpAny_execs_nil (hret h tk f g F (by rw [List.append_nil]; exact N))
  | cons p todo ih =>
    intro body done f g n h tk hb hm hnd hz F N hret
    obtain ⟨y, v⟩ := p
    cases hb with
    | cons hb =>
      obtain ⟨hy, ky, by', ty⟩ := hm (y, v) (.head _)
      have hny : ∀ p ∈ done, p.1 ≠ y := fun p hp e => by
        rw [List.map_append, List.nodup_append] at hnd
        exact hnd.2.2 p.1 (List.mem_map_of_mem hp) y (.head _) e
      have e3 : done ++ (y, v) :: todo = (done ++ [(y, v)]) ++ todo := by simp
      rw [e3, List.length_cons, Nat.add_comm todo.length 1, ← Nat.add_assoc] at hret
      rw [e3] at hnd hz
      have hz2 : (esOf f g 1 done).length + 1 ≤ 1000 := by
        rw [List.length_append, List.length_append] at hz
        rw [esOf_len]
        exact Nat.le_trans (Nat.le_add_right _ _) hz
      refine wpAny_execs_cons (plainObj_wpAny_Assign_Attribute ?_ (by rfl))
      refine nameX_L (s := { heap := h, gens := g₁, drawn := dr, toks := tk, os := os }) F hy ?_ hk ky by'
      refine nameX_L (s := { heap := h, gens := g₁, drawn := dr, toks := tk, os := os }) F hself ?_ hk kself (by decide)
      refine set_dict (s := { heap := h, gens := g₁, drawn := dr, toks := tk, os := os }) F X₀ N (InstAt.of_news N (.head _) (.tail _ (.head _))) rfl hs hp ty hh (esOf_get done 1) rfl (.tail (Nat.ne_of_gt hx) (.head fun p hp => Nat.ne_of_lt (hl p hp))) ?_ fun h' F' N' => ?_
      · rw [esOf_put done 1 hny, List.length_append]
        exact hz2
      · rw [esOf_put done 1 hny, esOf_putN done 1 hny] at N'
        let f2 : Nat → Int := fun j => if j = 1 + done.length then PyData.keyHash w.params y else f j
        let g2 : Nat → Tok := fun j => if j = 1 + done.length then tk + 1 else g j
        have e2 : esOf f2 g2 1 (done ++ [(y, v)]) = esOf f g 1 done ++ [⟨PyData.keyHash w.params y, .str y (tk + 1), v⟩] := by
          rw [esOf_snoc, esOf_congr (f' := f2) (g' := g2) (f := f) (g := g) done 1 fun j hj => ⟨if_neg (Nat.ne_of_lt hj), if_neg (Nat.ne_of_lt hj)⟩]
          show _ ++ [(⟨f2 (1 + done.length), .str y (g2 (1 + done.length)), v⟩ : DictEntry)] = _
          rw [show f2 (1 + done.length) = _ from if_pos rfl, show g2 (1 + done.length) = _ from if_pos rfl]
        rw [← e2] at N'
        exact ih _ (done ++ [(y, v)]) f2 g2 _ h' (tk + 2) hb (fun p hp => hm p (.tail _ hp)) hnd hz F' N' hret
end
theorem lookup_rev {l : List (Str × Value)} (hn : (l.map (·.1)).Nodup) {p : Str × Value} (hp : p ∈ l) : l.reverse.lookup p.1 = some p.2 := by
  have hr : (l.reverse.map (·.1)).Nodup := by
    rw [List.map_reverse]; unfold List.Nodup; rw [List.pairwise_reverse]; exact hn.imp Ne.symm
  have hp' : p ∈ l.reverse := List.mem_reverse.mpr hp
  revert hr hp'
  generalize l.reverse = r
  intro hr hp'
  induction r with
  | nil => cases hp'
  | cons q r ih =>
    obtain ⟨k, v⟩ := q
    rw [List.map_cons, List.nodup_cons] at hr
    rcases List.mem_cons.mp hp' with rfl | h
    · simp [List.lookup]
    · have : p.1 ≠ k := fun e => hr.1 (e ▸ List.mem_map_of_mem (f := (·.1)) h)
      rw [List.lookup_cons, beq_eq_false_iff_ne.mpr this]
      exact ih hr.2 h
section
variable {w : World} {mean : ExcName → Option Value} {mg mb : Str → Option Value} {A₀ A : Around} {cn : Str} {cs : Scope} {L a : Addr} {ccd : Value} {cl : List (Str × Addr)} {outer : List Env} {base h₀ : Heap} {m : Str → Option Value} {dp un : Nat}
  {s : Shared} {Q E : Value → Shared → Prop} {news : List (Addr × Obj)}
theorem ctor_led {fields : List (Str × Value)} (names : List Str) {C fI : Addr} {name qual : Str} {params : Arguments} {body : List Stmt} {scope : Scope} {dV kV doc pm cdv ct oc : Value} {an od : Option Addr} {osl : Array (Option Value)}
    (Y : Cx w mean mg mb A₀ A cn cs L a ccd cl outer base h₀ m s.heap dp un) (N : News h₀ L s.heap news)
    (hm : makesIn (hd.heap_1 w.params) C = true) (hi : findIn (hd.heap_1 w.params) (.ref C) "__init__" = some (some (.ref fI))) (hf : isFn (hd.heap_1 w.params) (.ref fI) = true)
    (hs : findIn (hd.heap_1 w.params) (.ref C) "__setattr__" = some (some (.builtin "object.__setattr__"))) (hp : plainOver (hd.heap_1 w.params) C = true) (hh : hasDictIn (hd.heap_1 w.params) C = true)
    (ho : (hd.heap_1 w.params).lookup fI = some ⟨oc, od, .func (fnOf name qual params body scope dV kV doc pm an cdv ct), osl⟩) (hcd : codeIn (hd.heap_1 w.params) cdv qual = true) (hroom : dp + 1 < recursionLimit)
    (hbind : ∀ x : Addr, bindArgs (fnOf name qual params body scope dV kV doc pm an cdv ct) ⟨.ref x :: fields.map (·.2), []⟩ = pure ((Str.ofString "self", .ref x) :: fields))
    (hn : fields.map (·.1) = names) (ht : ∀ y ∈ names, takerIn (hd.heap_1 w.params) C y = some none)
    (hloc : (fields.all fun p => decide (scope.names.lookup p.1 = some .local) && !(p.1 == ("__debug__" : Str))) = true) (hself : scope.names.lookup (Str.ofString "self") = some .local)
    (hb : InitBody names body) (hnd : (Str.ofString "self" :: names).Nodup) (hz : fields.length ≤ 1000)
    (hco : scope.isCoroutine = false) (hgen : scope.isGenerator = false) (hk : scope.kind = .function) (hcell : ∀ x ∈ scope.names, x.2 ≠ .cell)
    (hret : ∀ h' tk' x d f g, Fr h₀ L h' m → News h₀ L h' ((x, instObj C d) :: (d, dictOf (esOf f g 1 fields) (0 + fields.length)) :: news) → (∀ p ∈ news, p.1 < d) → @LT.lt Nat _ d x → Q (.ref x) { s with heap := h', toks := tk' }) :
    wpAny (model PySem.Challenge.rw_pq0410_01.row.prog w) A (call (.ref C) (fields.map (·.2))) Q E s := by
  subst hn
  refine lower Y.hh Y.hA Y.hdp Y.hun ?_
  show wpAny _ (ktrTop dp un A.guards cn cs L a ccd cl outer) _ _ _ _
  refine call_cls Y.F Y.X N hm hi hf fun x d h1 F1 N1 l1 l2 => ?_
  have hloc' : ∀ p ∈ fields, scope.names.lookup p.1 = some .local ∧ (p.1 == ("__debug__" : Str)) = false := fun p hp => by
    have := List.all_eq_true.mp hloc p hp
    rw [Bool.and_eq_true, Bool.not_eq_true'] at this
    exact ⟨of_decide_eq_true this.1, this.2⟩
  refine code_def (A := (ktrTop dp un A.guards cn cs L a ccd cl outer).under _) (env := envX cn cs L a ccd cl) (binds := (Str.ofString "self", .ref x) :: fields) Y.B F1 Y.X N1 Y.T rfl rfl Y.hk ho hcd ?_ (BindsTo.of_eq (hbind x)) ?_ (fun g L' h2 FG F2 N2 B2 X2 T2 => ?_) hco hgen hk hcell
  · exact hroom
  · exact List.forall_mem_cons.mpr ⟨hself, fun p hp => (hloc' p hp).1⟩
  · have hnd' : (((Str.ofString "self", Value.ref x) :: fields).map (·.1)).Nodup := hnd
    refine inits_go X2 (lookup_rev hnd' (.head _)) hk hself hs hp hh l2 l1 fields body [] (fun _ => 0) (fun _ => 0) 0 h2 _ hb (fun p hp => ⟨lookup_rev hnd' (.tail _ hp), (hloc' p hp).1, (hloc' p hp).2, ht _ (List.mem_map_of_mem hp)⟩) (List.nodup_cons.mp hnd).2 hz F2 N2 fun h3 tk3 f3 g3 F3 N3 => ?_
    refine leaveK_ F3 N3 fun F4 N4 => ?_
    exact ⟨rfl, hret _ _ x d f3 g3 F4 N4 l1 l2⟩
end


section
variable {w : World} {mean : ExcName → Option Value} {mg mb : Str → Option Value} {A₀ A : Around} {cn : Str} {cs : Scope} {L a : Addr} {ccd : Value} {cl : List (Str × Addr)} {outer : List Env} {base h₀ : Heap} {m : Str → Option Value}
  {s : Shared} {Q E : Value → Shared → Prop} {news : List (Addr × Obj)}
theorem row_led {v1 v2 v3 v4 : Value} (C : Cx w mean mg mb A₀ A cn cs L a ccd cl outer base h₀ m s.heap 700 8000) (N : News h₀ L s.heap news)
    (hret : ∀ (h' : Heap) (tk' : Nat) (x d : Addr) (f : Nat → Int) (g : Nat → Tok), Fr h₀ L h' m → News h₀ L h' ((x, instObj 245 d) :: (d, dictOf [⟨f 1, .str (Str.ofString "kind") (g 1), v1⟩, ⟨f 2, .str (Str.ofString "address") (g 2), v2⟩, ⟨f 3, .str (Str.ofString "key") (g 3), v3⟩, ⟨f 4, .str (Str.ofString "old") (g 4), v4⟩] 4) :: news) → (∀ p ∈ news, p.1 < d) → @LT.lt Nat _ d x → Q (.ref x) { s with heap := h', toks := tk' }) :
    wpAny (model PySem.Challenge.rw_pq0410_01.row.prog w) A (call (.ref 245) [v1, v2, v3, v4]) Q E s := by
  refine' ctor_led [Str.ofString "kind", Str.ofString "address", Str.ofString "key", Str.ofString "old"] (fields := [(Str.ofString "kind", v1), (Str.ofString "address", v2), (Str.ofString "key", v3), (Str.ofString "old", v4)]) C N ?k1 ?k2 ?k3 ?k4 ?k5 ?k6 ?k7 ?k8 ?k9 ?k10 rfl ?kt ?k11 ?k12 ?kb ?kn ?kz ?k13 ?k14 ?k15 ?kc hret
  case k1 => k_is
  case k2 => k_is
  case k3 => k_is
  case k4 => k_is
  case k5 => k_is
  case k6 => k_is
  case k7 => k_is
  case k8 => k_is
  case k9 => decide
  case kt => repeat' (first | exact List.forall_mem_nil _ | refine List.forall_mem_cons.mpr ⟨by k_is, ?_⟩)
  case kb => repeat' constructor
  case kn => decide
  case kz => exact Nat.le_of_ble_eq_true rfl
  case kc => decide
  case k10 => exact fun _ => rfl
  all_goals rfl

theorem account_led {v1 v2 v3 v4 : Value} (C : Cx w mean mg mb A₀ A cn cs L a ccd cl outer base h₀ m s.heap 700 8000) (N : News h₀ L s.heap news)
    (hret : ∀ (h' : Heap) (tk' : Nat) (x d : Addr) (f : Nat → Int) (g : Nat → Tok), Fr h₀ L h' m → News h₀ L h' ((x, instObj 203 d) :: (d, dictOf [⟨f 1, .str (Str.ofString "nonce") (g 1), v1⟩, ⟨f 2, .str (Str.ofString "balance") (g 2), v2⟩, ⟨f 3, .str (Str.ofString "code") (g 3), v3⟩, ⟨f 4, .str (Str.ofString "storage") (g 4), v4⟩] 4) :: news) → (∀ p ∈ news, p.1 < d) → @LT.lt Nat _ d x → Q (.ref x) { s with heap := h', toks := tk' }) :
    wpAny (model PySem.Challenge.rw_pq0410_01.row.prog w) A (call (.ref 203) [v1, v2, v3, v4]) Q E s := by
  refine' ctor_led [Str.ofString "nonce", Str.ofString "balance", Str.ofString "code", Str.ofString "storage"] (fields := [(Str.ofString "nonce", v1), (Str.ofString "balance", v2), (Str.ofString "code", v3), (Str.ofString "storage", v4)]) C N ?k1 ?k2 ?k3 ?k4 ?k5 ?k6 ?k7 ?k8 ?k9 ?k10 rfl ?kt ?k11 ?k12 ?kb ?kn ?kz ?k13 ?k14 ?k15 ?kc hret
  case k1 => k_is
  case k2 => k_is
  case k3 => k_is
  case k4 => k_is
  case k5 => k_is
  case k6 => k_is
  case k7 => k_is
  case k8 => k_is
  case k9 => decide
  case kt => repeat' (first | exact List.forall_mem_nil _ | refine List.forall_mem_cons.mpr ⟨by k_is, ?_⟩)
  case kb => repeat' constructor
  case kn => decide
  case kz => exact Nat.le_of_ble_eq_true rfl
  case kc => decide
  case k10 => exact fun _ => rfl
  all_goals rfl

theorem message_led {v1 v2 v3 v4 v5 v6 v7 v8 v9 v10 v11 : Value} (C : Cx w mean mg mb A₀ A cn cs L a ccd cl outer base h₀ m s.heap 600 7000) (N : News h₀ L s.heap news)
    (hret : ∀ (h' : Heap) (tk' : Nat) (x d : Addr) (f : Nat → Int) (g : Nat → Tok), Fr h₀ L h' m → News h₀ L h' ((x, instObj 70 d) :: (d, dictOf [⟨f 1, .str (Str.ofString "kind") (g 1), v1⟩, ⟨f 2, .str (Str.ofString "caller") (g 2), v2⟩, ⟨f 3, .str (Str.ofString "target") (g 3), v3⟩, ⟨f 4, .str (Str.ofString "code_address") (g 4), v4⟩, ⟨f 5, .str (Str.ofString "value") (g 5), v5⟩, ⟨f 6, .str (Str.ofString "told_value") (g 6), v6⟩, ⟨f 7, .str (Str.ofString "data") (g 7), v7⟩, ⟨f 8, .str (Str.ofString "gas") (g 8), v8⟩, ⟨f 9, .str (Str.ofString "is_static") (g 9), v9⟩, ⟨f 10, .str (Str.ofString "depth") (g 10), v10⟩, ⟨f 11, .str (Str.ofString "salt") (g 11), v11⟩] 11) :: news) → (∀ p ∈ news, p.1 < d) → @LT.lt Nat _ d x → Q (.ref x) { s with heap := h', toks := tk' }) :
    wpAny (model PySem.Challenge.rw_pq0410_01.row.prog w) A (call (.ref 70) [v1, v2, v3, v4, v5, v6, v7, v8, v9, v10, v11]) Q E s := by
  refine' ctor_led [Str.ofString "kind", Str.ofString "caller", Str.ofString "target", Str.ofString "code_address", Str.ofString "value", Str.ofString "told_value", Str.ofString "data", Str.ofString "gas", Str.ofString "is_static", Str.ofString "depth", Str.ofString "salt"] (fields := [(Str.ofString "kind", v1), (Str.ofString "caller", v2), (Str.ofString "target", v3), (Str.ofString "code_address", v4), (Str.ofString "value", v5), (Str.ofString "told_value", v6), (Str.ofString "data", v7), (Str.ofString "gas", v8), (Str.ofString "is_static", v9), (Str.ofString "depth", v10), (Str.ofString "salt", v11)]) C N ?k1 ?k2 ?k3 ?k4 ?k5 ?k6 ?k7 ?k8 ?k9 ?k10 rfl ?kt ?k11 ?k12 ?kb ?kn ?kz ?k13 ?k14 ?k15 ?kc hret
  case k1 => k_is
  case k2 => k_is
  case k3 => k_is
  case k4 => k_is
  case k5 => k_is
  case k6 => k_is
  case k7 => k_is
  case k8 => k_is
  case k9 => decide
  case kt => repeat' (first | exact List.forall_mem_nil _ | refine List.forall_mem_cons.mpr ⟨by k_is, ?_⟩)
  case kb => repeat' constructor
  case kn => decide
  case kz => exact Nat.le_of_ble_eq_true rfl
  case kc => decide
  case k10 => exact fun _ => rfl
  all_goals rfl

theorem blockinfo_led {v1 v2 v3 v4 v5 v6 v7 : Value} (C : Cx w mean mg mb A₀ A cn cs L a ccd cl outer base h₀ m s.heap 400 5000) (N : News h₀ L s.heap news)
    (hret : ∀ (h' : Heap) (tk' : Nat) (x d : Addr) (f : Nat → Int) (g : Nat → Tok), Fr h₀ L h' m → News h₀ L h' ((x, instObj 182 d) :: (d, dictOf [⟨f 1, .str (Str.ofString "number") (g 1), v1⟩, ⟨f 2, .str (Str.ofString "time") (g 2), v2⟩, ⟨f 3, .str (Str.ofString "beneficiary") (g 3), v3⟩, ⟨f 4, .str (Str.ofString "base_fee") (g 4), v4⟩, ⟨f 5, .str (Str.ofString "limit") (g 5), v5⟩, ⟨f 6, .str (Str.ofString "random") (g 6), v6⟩, ⟨f 7, .str (Str.ofString "hashes") (g 7), v7⟩] 7) :: news) → (∀ p ∈ news, p.1 < d) → @LT.lt Nat _ d x → Q (.ref x) { s with heap := h', toks := tk' }) :
    wpAny (model PySem.Challenge.rw_pq0410_01.row.prog w) A (call (.ref 182) [v1, v2, v3, v4, v5, v6, v7]) Q E s := by
  refine' ctor_led [Str.ofString "number", Str.ofString "time", Str.ofString "beneficiary", Str.ofString "base_fee", Str.ofString "limit", Str.ofString "random", Str.ofString "hashes"] (fields := [(Str.ofString "number", v1), (Str.ofString "time", v2), (Str.ofString "beneficiary", v3), (Str.ofString "base_fee", v4), (Str.ofString "limit", v5), (Str.ofString "random", v6), (Str.ofString "hashes", v7)]) C N ?k1 ?k2 ?k3 ?k4 ?k5 ?k6 ?k7 ?k8 ?k9 ?k10 rfl ?kt ?k11 ?k12 ?kb ?kn ?kz ?k13 ?k14 ?k15 ?kc hret
  case k1 => k_is
  case k2 => k_is
  case k3 => k_is
  case k4 => k_is
  case k5 => k_is
  case k6 => k_is
  case k7 => k_is
  case k8 => k_is
  case k9 => decide
  case kt => repeat' (first | exact List.forall_mem_nil _ | refine List.forall_mem_cons.mpr ⟨by k_is, ?_⟩)
  case kb => repeat' constructor
  case kn => decide
  case kz => exact Nat.le_of_ble_eq_true rfl
  case kc => decide
  case k10 => exact fun _ => rfl
  all_goals rfl

theorem transaction_led {v1 v2 v3 v4 v5 v6 v7 v8 v9 v10 v11 : Value} (C : Cx w mean mg mb A₀ A cn cs L a ccd cl outer base h₀ m s.heap 450 5500) (N : News h₀ L s.heap news)
    (hret : ∀ (h' : Heap) (tk' : Nat) (x d : Addr) (f : Nat → Int) (g : Nat → Tok), Fr h₀ L h' m → News h₀ L h' ((x, instObj 511 d) :: (d, dictOf [⟨f 1, .str (Str.ofString "kind") (g 1), v1⟩, ⟨f 2, .str (Str.ofString "chain") (g 2), v2⟩, ⟨f 3, .str (Str.ofString "nonce") (g 3), v3⟩, ⟨f 4, .str (Str.ofString "priority") (g 4), v4⟩, ⟨f 5, .str (Str.ofString "cap") (g 5), v5⟩, ⟨f 6, .str (Str.ofString "limit") (g 6), v6⟩, ⟨f 7, .str (Str.ofString "target") (g 7), v7⟩, ⟨f 8, .str (Str.ofString "value") (g 8), v8⟩, ⟨f 9, .str (Str.ofString "data") (g 9), v9⟩, ⟨f 10, .str (Str.ofString "access") (g 10), v10⟩, ⟨f 11, .str (Str.ofString "signature") (g 11), v11⟩] 11) :: news) → (∀ p ∈ news, p.1 < d) → @LT.lt Nat _ d x → Q (.ref x) { s with heap := h', toks := tk' }) :
    wpAny (model PySem.Challenge.rw_pq0410_01.row.prog w) A (call (.ref 511) [v1, v2, v3, v4, v5, v6, v7, v8, v9, v10, v11]) Q E s := by
  refine' ctor_led [Str.ofString "kind", Str.ofString "chain", Str.ofString "nonce", Str.ofString "priority", Str.ofString "cap", Str.ofString "limit", Str.ofString "target", Str.ofString "value", Str.ofString "data", Str.ofString "access", Str.ofString "signature"] (fields := [(Str.ofString "kind", v1), (Str.ofString "chain", v2), (Str.ofString "nonce", v3), (Str.ofString "priority", v4), (Str.ofString "cap", v5), (Str.ofString "limit", v6), (Str.ofString "target", v7), (Str.ofString "value", v8), (Str.ofString "data", v9), (Str.ofString "access", v10), (Str.ofString "signature", v11)]) C N ?k1 ?k2 ?k3 ?k4 ?k5 ?k6 ?k7 ?k8 ?k9 ?k10 rfl ?kt ?k11 ?k12 ?kb ?kn ?kz ?k13 ?k14 ?k15 ?kc hret
  case k1 => k_is
  case k2 => k_is
  case k3 => k_is
  case k4 => k_is
  case k5 => k_is
  case k6 => k_is
  case k7 => k_is
  case k8 => k_is
  case k9 => decide
  case kt => repeat' (first | exact List.forall_mem_nil _ | refine List.forall_mem_cons.mpr ⟨by k_is, ?_⟩)
  case kb => repeat' constructor
  case kn => decide
  case kz => exact Nat.le_of_ble_eq_true rfl
  case kc => decide
  case k10 => exact fun _ => rfl
  all_goals rfl

end

example : True := by
  k_with "JR" => ((intro h' tk' x' d' f' g' F' N' l1 l2; (try k_lt l1); (try dsimp only at N')); (revert h' tk' x' d' f' g' F' N' l1 l2); intros; (try k_fold))
  k_with "call ref" => (k_here; (with_reducible show wpAny _ _ (call (Value.ref 245) _) _ _ _); k_dflt (refine' row_led ?zzzC ?zzzN ?_; (case zzzC => k_extra "CX"); (case zzzN => k_asm)); k_extra "JR")
  k_with "call ref" => (k_here; (with_reducible show wpAny _ _ (call (Value.ref 203) _) _ _ _); k_dflt (refine' account_led ?zzzC ?zzzN ?_; (case zzzC => k_extra "CX"); (case zzzN => k_asm)); k_extra "JR")
  k_with "call ref" => (k_here; (with_reducible show wpAny _ _ (call (Value.ref 70) _) _ _ _); k_dflt (refine' message_led ?zzzC ?zzzN ?_; (case zzzC => k_extra "CX"); (case zzzN => k_asm)); k_extra "JR")
  trivial

section
variable {w : World} {mean : ExcName → Option Value} {mg mb : Str → Option Value} {A₀ A : Around} {cn : Str} {cs : Scope} {L a : Addr} {ccd : Value} {cl : List (Str × Addr)} {outer : List Env} {base h₀ : Heap} {m : Str → Option Value}
  {s : Shared} {Q E : Value → Shared → Prop}

abbrev IsFeed (w : World) (fo : Obj) (ce : Addr) (k : Int) (tk : Tok) : Prop := fo.IsDictOf (PySem.strKind PySem.Challenge.rw_pq0410_01.row.prog w) [(Str.ofString "cells", .ref ce), (Str.ofString "at", .int k tk)]

theorem draw_spec {fd ce : Addr} {fo : Obj} {k : Int} {tk tw : Tok} {nc : Nat} {vs : List Value} {ns : List Int} {wd : Int}
    (C : Cx w mean mg mb A₀ A cn cs L a ccd cl outer base h₀ m s.heap 600 7000)
    (N : News h₀ L s.heap [(fd, fo), (ce, listOf vs.toArray nc)]) (hfo : IsFeed w fo ce k tk) (hne : @Ne Nat fd ce) (hi : IntsAre vs ns) (hl : ns.length ≤ 60) (h0 : 0 ≤ k) (h1 : k ≤ 1000) (hw : 1 ≤ wd) (hw' : wd ≤ 1000)
    (hret : ∀ h' tk' r tr tk2 fo', Kept s.heap h' [fd] → h'.get? fd = some fo' → IsFeed w fo' ce (k + 1) tk2 → 0 ≤ r → r < wd → Q (.int r tr) { s with heap := h', toks := tk' }) :
    wpAny (model PySem.Challenge.rw_pq0410_01.row.prog w) A (call (.ref 537) [.ref fd, .int wd tw]) Q E s := by
  have hfo' : fo.IsDictOf (PySem.strKind PySem.Challenge.rw_pq0410_01.row.prog w) [(Str.ofString "cells", .ref ce), (Str.ofString "at", .int k tk)] := hfo
  clear hfo
  walk_at "ENTER"
  k_steps
  all_goals (try (show Q _ _))
  · refine hret _ _ _ _ _ _ (kept_end N (by assumption) (by assumption) (keptN (by assumption) (by walk_at "KEPT"))) (News.get (by assumption) (by k_mem)) (by assumption) (Int.fmod_nonneg_of_pos _ (by omega)) (Int.fmod_lt_of_pos _ (by omega))
  · refine hret _ _ _ _ _ _ (kept_end N (by assumption) (by assumption) (keptN (by assumption) (by walk_at "KEPT"))) (News.get (by assumption) (by k_mem)) (by assumption) (Int.fmod_nonneg_of_pos _ (by omega)) (Int.fmod_lt_of_pos _ (by omega))

theorem tup_off {h h' : Heap} {fd ce : Addr} {fo : Obj} {k : Int} {tk : Tok} (hF : h.get? fd = some fo) (hfo : IsFeed w fo ce k tk) (K : Kept h h' [fd]) : ∀ t its, IsTup h t its → IsTup h' t its := by
  rintro t its ⟨o, ho, hc, r⟩
  refine ⟨o, K _ _ ho ?_, hc, r⟩
  rintro q
  rw [List.mem_singleton.mp q, hF] at ho
  cases ho
  obtain ⟨_, _, ⟨hc', _⟩, _⟩ := hfo
  rw [hc] at hc'
  revert hc'
  decide

theorem draw_led {fd ce : Addr} {fo : Obj} {gg : Obj → List (Addr × Obj)} {news : List (Addr × Obj)} {k : Int} {tk tw : Tok} {nc : Nat} {vs : List Value} {ns : List Int} {wd : Int}
    (C : Cx w mean mg mb A₀ A cn cs L a ccd cl outer base h₀ m s.heap 600 7000)
    (N : News h₀ L s.heap news) (U : UpdF fd fo news gg) (hfo : IsFeed w fo ce k tk) (hm : (ce, listOf vs.toArray nc) ∈ news) (hne : @Ne Nat fd ce) (hi : IntsAre vs ns) (hl : ns.length ≤ 60) (h0 : 0 ≤ k) (h1 : k ≤ 1000) (hw : 1 ≤ wd) (hw' : wd ≤ 1000)
    (hret : ∀ h' tk' r tr tk2 fo', Kept s.heap h' [fd] → (∀ t its, IsTup s.heap t its → IsTup h' t its) → Fr h₀ L h' m → News h₀ L h' (gg fo') → IsFeed w fo' ce (k + 1) tk2 → 0 ≤ r → r < wd → Q (.int r tr) { s with heap := h', toks := tk' }) :
    wpAny (model PySem.Challenge.rw_pq0410_01.row.prog w) A (call (.ref 537) [.ref fd, .int wd tw]) Q E s := by
  have hF := N _ (updF_mem U)
  refine draw_spec C (news_two N (updF_mem U) hm) hfo hne hi hl h0 h1 hw hw' fun h' tk' r tr tk2 fo' K e I r0 r1 => ?_
  exact hret h' tk' r tr tk2 fo' K (tup_off hF.1 hfo K) (C.after K (by simpa using Ne.symm hF.2.1) (by simpa using hF.2.2)) (news_upd1 N U K e) I r0 r1

theorem lt_off {d : Addr} {l : List (Addr × Obj)} (h : ∀ p ∈ l, p.1 < d) : d ∉ l.map (·.1) := fun hm => by
  obtain ⟨p, hp, e⟩ := List.mem_map.mp hm
  exact Nat.lt_irrefl _ (e ▸ h p hp)
theorem places_lt {news : List (Addr × Obj)} (C : Cx w mean mg mb A₀ A cn cs L a ccd cl outer base h₀ m s.heap 600 7000) (N : News h₀ L s.heap news)
    (hret : ∀ h' tk' T t1 t2 t3 t4 t5, Kept s.heap h' [] → Fr h₀ L h' m → News h₀ L h' ((T, { cls := .type "tuple", data := .seq [Value.int 1001 t1, .int 1002 t2, .int 4 t3, .int 2 t4, .int (2 ^ 160 - 1) t5].toArray }) :: news) → (∀ p ∈ news, p.1 < T) → Q (.ref T) { s with heap := h', toks := tk' }) :
    wpAny (model PySem.Challenge.rw_pq0410_01.row.prog w) A (call (.ref 522) []) Q E s := by
  have N0 := N
  walk_at "ENTER"
  rename_i g1 L1 h1' hG1 hU1 F1 N1 B1 X1 T1
  k_steps
  all_goals (try (show Q _ _))
  rename_i T9 h9 F9 N9 lt
  have K : Kept s.heap h9 [] := kept_end N0 hG1 F9 (keptN N9 fun q hq => .inr (.tail _ hq))
  exact hret _ _ _ _ _ _ _ _ K (C.after K (fun h => nomatch h) (fun _ h => nomatch h)) (news_new C.F N0 K (fun _ _ h => nomatch h) (fresh_end hG1 N9 (.head _) (lt_off lt)) (News.get N9 (.head _))) lt
theorem slots_lt {news : List (Addr × Obj)} (C : Cx w mean mg mb A₀ A cn cs L a ccd cl outer base h₀ m s.heap 600 7000) (N : News h₀ L s.heap news)
    (hret : ∀ h' tk' T t1 t2 t3, Kept s.heap h' [] → Fr h₀ L h' m → News h₀ L h' ((T, { cls := .type "tuple", data := .seq [Value.int 0 t1, .int 9 t2, .int (2 ^ 256 - 1) t3].toArray }) :: news) → (∀ p ∈ news, p.1 < T) → Q (.ref T) { s with heap := h', toks := tk' }) :
    wpAny (model PySem.Challenge.rw_pq0410_01.row.prog w) A (call (.ref 529) []) Q E s := by
  have N0 := N
  walk_at "ENTER"
  rename_i g1 L1 h1' hG1 hU1 F1 N1 B1 X1 T1
  k_steps
  all_goals (try (show Q _ _))
  rename_i T9 h9 F9 N9 lt
  have K : Kept s.heap h9 [] := kept_end N0 hG1 F9 (keptN N9 fun q hq => .inr (.tail _ hq))
  exact hret _ _ _ _ _ _ K (C.after K (fun h => nomatch h) (fun _ h => nomatch h)) (news_new C.F N0 K (fun _ _ h => nomatch h) (fresh_end hG1 N9 (.head _) (lt_off lt)) (News.get N9 (.head _))) lt
end

example : True := by
  k_with "call ref" => (k_here; (with_reducible show wpAny _ _ (call (Value.ref 537) _) _ _ _); k_dflt (refine' draw_led ?zzzC ?zzN ?zzU ?zzfo ?zzm ?zzne ?zzhi ?zzhl ?zzh0 ?zzh1 ?zzhw ?zzhw' ?_; (case zzzC => k_extra "CX"); (case zzN => k_asm); (case zzU => k_updF); (case zzfo => k_asm); (case zzm => k_mem); (case zzne => k_asm); (case zzhi => k_asm); (case zzhl => k_asm); (case zzh0 => first | k_asm | omega); (case zzh1 => first | k_asm | omega); (case zzhw => first | k_asm | omega | (simp only [List.size_toArray]; omega)); (case zzhw' => first | k_asm | omega | (simp only [List.size_toArray]; omega))); k_extra "J1")
  k_with "call ref" => (k_here; (with_reducible show wpAny _ _ (call (Value.ref 522) _) _ _ _); k_dflt (refine' places_lt ?zzC ?zzN ?_; (case zzC => k_extra "CX"); (case zzN => k_asm)); (intro h' tk' T' t1' t2' t3' t4' t5' K' F' N' l1; (try k_lt l1); (try dsimp only); (revert h' tk' T' t1' t2' t3' t4' t5' K' F' N' l1); intros; (try k_fold)))
  k_with "call ref" => (k_here; (with_reducible show wpAny _ _ (call (Value.ref 529) _) _ _ _); k_dflt (refine' slots_lt ?zzC ?zzN ?_; (case zzC => k_extra "CX"); (case zzN => k_asm)); (intro h' tk' T' t1' t2' t3' K' F' N' l1; (try k_lt l1); (try dsimp only); (revert h' tk' T' t1' t2' t3' K' F' N' l1); intros; (try k_fold)))
  trivial

section
variable {w : World} {mean : ExcName → Option Value} {mg mb : Str → Option Value} {A₀ A : Around} {cn : Str} {cs : Scope} {L a : Addr} {ccd : Value} {cl : List (Str × Addr)} {outer : List Env} {base h₀ : Heap} {m : Str → Option Value}
  {s : Shared} {Q E : Value → Shared → Prop}


/-- an item of a tuple at a place within it -/
theorem tup_item {prog : Program} {value slice : PySem.Expr} {t : Addr} {l : List Value} {k : Int} {u : Tok} (ht : IsTup s.heap t l.toArray) (h0 : 0 ≤ k) (h1 : k < (l.length : Int)) (hz : l.length ≤ 1000)
    (h : ∀ x, x ∈ l → l[k.toNat]? = some x → Q x s)
    (hs : subscripted slice false (.ref t) (.int k u) = operate [.ref t, .int k u] (getItem (.ref t) (.int k u)) := by with_unfolding_all rfl) :
    wpAny (model prog w) A (subscriptTail value slice (.ref t) (.int k u)) Q E s := by
  have hk : k.toNat < l.length := by omega
  refine item_tupleT (j := k.toNat) (x := l[k.toNat]) ht (by omega) (by omega) ?_ (by simp [hk]) (h _ (List.getElem_mem hk) (by simp [hk])) hs
  unfold seqIndex?
  simp only []
  have e : ¬ k < 0 := by omega
  simp [e]
  omega

theorem pick_spec {fd ce sm : Addr} {fo : Obj} {k : Int} {tk : Tok} {nc : Nat} {vs items : List Value} {ns : List Int}
    (C : Cx w mean mg mb A₀ A cn cs L a ccd cl outer base h₀ m s.heap 500 6000)
    (N : News h₀ L s.heap [(fd, fo), (ce, listOf vs.toArray nc)]) (hfo : IsFeed w fo ce k tk) (hne : @Ne Nat fd ce) (hi : IntsAre vs ns) (hl : ns.length ≤ 60) (h0 : 0 ≤ k) (h1 : k ≤ 1000)
    (ht : IsTup s.heap sm items.toArray) (hsm : sm ≠ fd) (hw : 1 ≤ items.length) (hw' : items.length ≤ 1000)
    (hret : ∀ h' tk' x tk2 fo', Kept s.heap h' [fd] → h'.get? fd = some fo' → IsFeed w fo' ce (k + 1) tk2 → x ∈ items → Q x { s with heap := h', toks := tk' }) :
    wpAny (model PySem.Challenge.rw_pq0410_01.row.prog w) A (call (.ref 544) [.ref fd, .ref sm]) Q E s := by
  walk_at "ENTER"
  k_steps
  have ht' := IsTup.keeps ht (by assumption)
  refine len_tuple ht' (by simp only [List.size_toArray]; omega) ?_
  k_steps
  (rename (_ < (items.toArray.size : Int)) => r1)
  simp only [List.size_toArray] at r1
  refine tup_item (by assumption) (by assumption) r1 hw' (fun x9 hx9 _ => ?_)
  try (show Q _ _)
  refine hret _ _ _ _ _ (kept_end N (by assumption) (by assumption) (keptN (by assumption) (by walk_at "KEPT"))) (News.get (by assumption) (by k_mem)) (by assumption) hx9

theorem pick_led {fd ce sm : Addr} {fo : Obj} {gg : Obj → List (Addr × Obj)} {news : List (Addr × Obj)} {k : Int} {tk : Tok} {nc : Nat} {vs items : List Value} {ns : List Int}
    (C : Cx w mean mg mb A₀ A cn cs L a ccd cl outer base h₀ m s.heap 500 6000)
    (N : News h₀ L s.heap news) (U : UpdF fd fo news gg) (hfo : IsFeed w fo ce k tk) (hm : (ce, listOf vs.toArray nc) ∈ news) (hne : @Ne Nat fd ce) (hi : IntsAre vs ns) (hl : ns.length ≤ 60) (h0 : 0 ≤ k) (h1 : k ≤ 1000)
    (ht : IsTup s.heap sm items.toArray) (hw : 1 ≤ items.length) (hw' : items.length ≤ 1000)
    (hret : ∀ h' tk' x tk2 fo', Kept s.heap h' [fd] → (∀ t its, IsTup s.heap t its → IsTup h' t its) → Fr h₀ L h' m → News h₀ L h' (gg fo') → IsFeed w fo' ce (k + 1) tk2 → x ∈ items → Q x { s with heap := h', toks := tk' }) :
    wpAny (model PySem.Challenge.rw_pq0410_01.row.prog w) A (call (.ref 544) [.ref fd, .ref sm]) Q E s := by
  have hF := N _ (updF_mem U)
  have hsm : sm ≠ fd := by
    rintro rfl
    obtain ⟨o, ho, hc, _⟩ := ht
    rw [hF.1] at ho; cases ho
    obtain ⟨_, _, ⟨hc', _⟩, _⟩ := hfo
    rw [hc] at hc'
    revert hc'
    decide
  refine pick_spec C (news_two N (updF_mem U) hm) hfo hne hi hl h0 h1 ht hsm hw hw' fun h' tk' x tk2 fo' K e I hx => ?_
  exact hret h' tk' x tk2 fo' K (tup_off hF.1 hfo K) (C.after K (by simpa using Ne.symm hF.2.1) (by simpa using hF.2.2)) (news_upd1 N U K e) I hx
end

example : True := by
  k_with "call ref" => (k_here; (with_reducible show wpAny _ _ (call (Value.ref 544) _) _ _ _); k_dflt (refine' pick_led ?zzzC ?zzN ?zzU ?zzfo ?zzm ?zzne ?zzhi ?zzhl ?zzh0 ?zzh1 ?zzt ?zzhw ?zzhw' ?_; (case zzzC => k_extra "CX"); (case zzN => k_asm); (case zzU => k_updF); (case zzfo => k_asm); (case zzm => k_mem); (case zzne => k_asm); (case zzhi => k_asm); (case zzhl => k_asm); (case zzh0 => first | k_asm | omega); (case zzh1 => first | k_asm | omega); (case zzt => first | k_asm | exact News.isTup (by k_asm) (by k_mem)); (case zzhw => first | exact Nat.le_of_ble_eq_true rfl | k_asm | omega); (case zzhw' => first | exact Nat.le_of_ble_eq_true rfl | k_asm | omega)); k_extra "J2")
  trivial

theorem nameG_C {M : Model} {A : Around} {E : Value → Shared → Prop} {s : Shared} {g : Heap} {L c : Addr} {o : Obj} {v : Value} {x : Str} {pos : Pos} {env : Env} {news : List (Addr × Obj)} {Q : Value → Shared → Prop} (N : News g L s.heap news) (hc : env.cells.lookup x = some c) (hm : (c, o) ∈ news) (hd : o.data = .cell (some v)) (h : Q v s)
    (hk : env.scope.kind = .function) (hx : env.kindOf x = some .cell) (hb : (x == ("__debug__" : Str)) = false) : wpAny M A (eval (.Name x pos) env) Q E s := wpAny_Name (wpAny_loadName_cell hk hx hc ⟨o, N.get hm, hd⟩ h) hb
theorem nameG_L {M : Model} {A : Around} {E : Value → Shared → Prop} {s : Shared} {v : Value} {x : Str} {pos : Pos} {env : Env} {m : Str → Option Value} {Q : Value → Shared → Prop} (hn : s.heap.Ns env.locals m) (hm : m x = some v) (h : Q v s)
    (hk : env.scope.kind = .function) (hx : env.kindOf x = some .local) (hb : (x == ("__debug__" : Str)) = false) : wpAny M A (eval (.Name x pos) env) Q E s := wpAny_Name (wpAny_loadName_local hk hx hn hm h) hb

example : True := by
  k_with "ENTERC" => ((k_dflt (refine' call_enterC (by assumption) (by assumption) ?zzk6 ?zzk7 ?zzk8 ?zzk9 ?zzkB ?zzkD ?_ ?zzc2 ?zzc3 ?zzc4; (case zzk6 => k_is); (case zzk7 => k_is); (case zzk8 => decide); (case zzk9 => exact BindsTo.of_eq rfl); (case zzkB => exact rfl); (case zzkD => decide +kernel); (case zzc2 => exact rfl); (case zzc3 => exact rfl); (case zzc4 => exact rfl); intro g' L' h' tk' cells' hG hU F' N' Y' B' X' T' l1; (try k_lt l1); (try dsimp only); (try k_lift B'))); (revert g' L' h' tk' cells' hG hU F' N' Y' B' X' T' l1); intros; (rename CellsAre _ _ _ => Y'); k_cells Y'; (rename News _ _ _ _ => N'); (try simp only [List.cons_append, List.nil_append] at N'); (revert N'); intros; (try k_fold))
  k_with "eval Name" => (k_here; k_inBlock; k_dflt (refine' nameG_C ?zzN ?zzc ?zzm ?zzd ?_ ?zzk ?zzx ?zzb; (case zzc => rfl); (case zzk => rfl); (case zzx => rfl); (case zzb => decide); (case zzN => k_asm); (case zzm => k_mem); (case zzd => k_asm)))
  k_with "eval Name" => (k_here; k_inBlock; k_dflt (refine' nameG_L ?zzN ?zzm ?_ ?zzk ?zzx ?zzb; (case zzk => rfl); (case zzx => rfl); (case zzb => decide); (case zzN => k_asm); (case zzm => k_asm)))
  k_with "eval Name" => (k_here; k_dflt (refine' nameX_L ?zzF ?zzv ?_ ?zzk ?zzx ?zzb; (case zzF => k_asm); (case zzv => assumption); (case zzk => first | rfl | assumption); (case zzx => rfl); (case zzb => decide)))
  trivial

/-- a list of drawn numbers grows, the feed with it -/
inductive FJ (w : World) (fd ce : Addr) (nt : List (Addr × Obj)) (k : Int) (R : Int → Prop) (ys : List Value) : List (Addr × Obj) → Prop
  | mk {fo' : Obj} {tk' : Tok} {zs : List Int} (If : IsFeed w fo' ce k tk') (hz : IntsAre ys zs) (hb : ∀ z ∈ zs, R z) : FJ w fd ce nt k R ys ((fd, fo') :: nt)
theorem FJ.elim {w : World} {fd ce : Addr} {nt : List (Addr × Obj)} {k : Int} {R : Int → Prop} {ys : List Value} {ld : List (Addr × Obj)} {P : List (Addr × Obj) → Prop} (h : FJ w fd ce nt k R ys ld)
    (q : ∀ fo' tk' zs, IsFeed w fo' ce k tk' → IntsAre ys zs → (∀ z ∈ zs, R z) → P ((fd, fo') :: nt)) : P ld := by
  obtain ⟨a, b, c⟩ := h
  exact q _ _ _ a b c
inductive ZJ (nt : List (Addr × Obj)) (R : Int → Prop) (ys : List Value) (ld : List (Addr × Obj)) : Prop
  | mk {zs : List Int} (hz : IntsAre ys zs) (hb : ∀ z ∈ zs, R z) (H : ∀ p ∈ nt, p ∈ ld)
theorem app_in {g h : Heap} {L : Addr} {own nt ld : List (Addr × Obj)} (N : News g L h (own ++ ld)) (H : ∀ p ∈ nt, p ∈ ld) : News g L h (own ++ nt) := fun p hp => (List.mem_append.mp hp).elim (fun q => N p (List.mem_append_left _ q)) fun q => N p (List.mem_append_right _ (H p q))
theorem drawn_at {k : Int} {i : Nat} {b : Int} (h0 : 0 ≤ k) (h1 : k ≤ 900) (hb : b ≤ 5) (hi : i < b.toNat) : 0 ≤ k + 2 + (i : Int) ∧ k + 2 + (i : Int) ≤ 1000 := by constructor <;> omega
theorem drawn_end {k b : Int} (hb : b ≤ 4) : k ≤ k + 2 + (b.toNat : Int) ∧ k + 2 + (b.toNat : Int) ≤ k + 6 := by constructor <;> omega
theorem toNat70 {z : Int} (h : z ≤ 70) : z.toNat ≤ 70 := by omega
section
variable {w : World} {mean : ExcName → Option Value} {mg mb : Str → Option Value} {A₀ A : Around} {cn : Str} {cs : Scope} {L a : Addr} {ccd : Value} {cl : List (Str × Addr)} {outer : List Env} {base h₀ : Heap} {m : Str → Option Value}
  {s : Shared} {Q E : Value → Shared → Prop}

theorem data_spec {fd ce : Addr} {fo : Obj} {k : Int} {tk : Tok} {nc : Nat} {vs : List Value} {ns : List Int}
    (C : Cx w mean mg mb A₀ A cn cs L a ccd cl outer base h₀ m s.heap 400 5000)
    (N : News h₀ L s.heap [(fd, fo), (ce, listOf vs.toArray nc)]) (hfo : IsFeed w fo ce k tk) (hne : @Ne Nat fd ce) (hi : IntsAre vs ns) (hl : ns.length ≤ 60) (h0 : 0 ≤ k) (h1 : k ≤ 900)
    (hret : ∀ h' tk' b tb k' tk2 fo', Kept s.heap h' [fd] → h'.get? fd = some fo' → IsFeed w fo' ce k' tk2 → k ≤ k' → k' ≤ k + 6 → b.size ≤ 70 → Q (.bytes b tb) { s with heap := h', toks := tk' }) :
    wpAny (model PySem.Challenge.rw_pq0410_01.row.prog w) A (call (.ref 549) [.ref fd]) Q E s := by
  have N0 := N
  walk_at "ENTERC"
  rename_i g1 L1 h1' tk1 hG1 hU1 F1 B1 X1 T1 l1 oP oF dP dF N1
  have eP : oP.data = .cell none := by with_unfolding_all exact dP
  have eF : oF.data = .cell (some (.ref fd)) := by with_unfolding_all exact dF
  clear dP dF
  obtain ⟨M0, F0⟩ : ∃ M, Fr g1 L1 h1' M := ⟨_, F1⟩
  clear F1
  have r1 : @Ne Nat fd (L1 + 1) := Nat.ne_of_lt (Nat.lt_succ_of_lt l1.1)
  have r2 : @Ne Nat fd (L1 + 1 + 1) := Nat.ne_of_lt (Nat.lt_succ_of_lt (Nat.lt_succ_of_lt l1.1))
  have r3 : @Ne Nat ce (L1 + 1 + 1) := Nat.ne_of_lt (Nat.lt_succ_of_lt (Nat.lt_succ_of_lt l1.2))
  have r4 : @Ne Nat (L1 + 1) (L1 + 1 + 1) := Nat.ne_of_lt (Nat.lt_succ_self _)
  have z1 : k ≤ 1000 := Int.le_trans h1 (by decide)
  have z2 : 0 ≤ k + 1 := Int.le_trans h0 (Int.le_add_one (Int.le_refl _))
  have z3 : k + 1 ≤ 1000 := Int.le_trans (Int.add_le_add_right h1 1) (by decide)
  repeat' ((fail_if_success (with_reducible show wpAny _ _ (exec (Stmt.Assign _ (Expr.ListComp _ _ _ _) _) _) _ _ _)); first | walk1 | (dsimp only; walk1))
  (rename News g1 L1 _ _ => N2)
  (rename Fr g1 L1 _ _ => F2)
  have hlong : ∀ j : Nat, 0 ≤ ([0, 1, 31, 32, 33, 64, 70] : List Int).getD j 0 ∧ ([0, 1, 31, 32, 33, 64, 70] : List Int).getD j 0 ≤ 70 := getD_all (P := fun z => 0 ≤ z ∧ z ≤ 70) (by decide) (by decide)
  obtain ⟨M, F3, lg, tg, hM, lg0, lg1⟩ : ∃ M, Fr g1 L1 _ M ∧ ∃ lg t, M (Str.ofString "law_long") = some (.int lg t) ∧ 0 ≤ lg ∧ lg ≤ 70 := ⟨_, F2, _, _, rfl, (hlong _).1, (hlong _).2⟩
  clear F2 hlong
  refine wpAny_Assign_Name ?_ (by rfl)
  refine comp_eval rfl rfl (by decide) (fun _ => rfl) ?_
  try k_fold
  repeat' ((fail_if_success (with_reducible show wpAny _ _ (pyIter _) _ _ _)); first | walk1 | (dsimp only; walk1))
  show wpAny _ _ (pyIter _) _ _ _
  try dsimp only
  rename_i h7 tk7 r7 tr7 tk8 fo7 K7 hT7 F7 N7 I7 s0 s1 e7 h6 tk6 t₁ u₁ v₁ R6 F6 N6 K6
  obtain ⟨nt, hnt⟩ : ∃ n, n = [(L1 + 1 + 1, oP), (L1 + 1, oF), (ce, listOf vs.toArray nc)] := ⟨_, rfl⟩
  have NT : News g1 L1 h6 ((fd, fo7) :: nt) := News.perm N6 (by rw [hnt]; walk_at "SUB")
  have hf : ∀ p ∈ nt, p.1 ≠ fd := hnt ▸ List.forall_mem_cons.mpr ⟨Ne.symm r2, List.forall_mem_cons.mpr ⟨Ne.symm r1, List.forall_mem_cons.mpr ⟨Ne.symm hne, List.forall_mem_nil _⟩⟩⟩
  have g1m : (L1 + 1, oF) ∈ nt := hnt ▸ .tail _ (.head _)
  have g2m : (ce, listOf vs.toArray nc) ∈ nt := hnt ▸ .tail _ (.tail _ (.head _))
  have s2 : 1 + r7 ≤ 4 := by rw [Int.add_comm]; exact s1
  have s3 : 0 ≤ 1 + r7 := Int.add_nonneg (by decide) s0
  clear N7 F7 N6 K6 K7 hT7 e7
  refine' comp_rangeN (J := fun i ys ld _ => FJ w fd ce nt (k + 2 + i) (fun z => 0 ≤ z ∧ z < 256) ys ld) rfl R6 ?hb0 ?hb1 ?hcell ?hkind ?hx F6 NT ?hj ?hJ ?turn ?done
  case hb0 => exact Int.le_trans (by decide) s3
  case hb1 => exact Int.le_trans s2 (by decide)
  case hkind => rfl
  case hx => rfl
  case hcell => decide
  case hj => exact .mk (by rw [Int.natCast_zero, Int.add_zero]; exact (Int.add_assoc k 1 1 ▸ I7)) .nil (List.forall_mem_nil _)
  case hJ => exact fun i ys news h h' x _ => x
  case turn =>
    clear NT F6 R6 I7
    intro i t ys news₁ h tk oI oD oC D C m₁ E' hi X hD hC hn N7 N hns hm
    revert hn N
    apply FJ.elim X
    intro fo2 tk2 zs If2 hz hzb hn N
    simp only [List.cons_append, List.nil_append] at N
    dsimp only at N hD hC hn
    have c0 := (drawn_at (i := i) h0 h1 (Int.le_trans s2 (by decide)) hi).1
    have c1 := (drawn_at (i := i) h0 h1 (Int.le_trans s2 (by decide)) hi).2
    have n0 := offIDC hn (fd, fo2) (.head _)
    have n1 := n0.1
    have n2 := n0.2.1
    have n3 := n0.2.2
    dsimp only at n1 n2 n3
    k_steps
    rename_i T9 hA FA NA lA hB tkB x7 tk9 fo9 KB hTB FB NB IB xB
    apply ints_mem xB (.cons _ _ (.cons _ _ (.cons _ _ (.cons _ _ .nil))))
    intro b9 t9 hb9
    have hb9' : 0 ≤ b9 ∧ b9 < 256 := by
      have : ∀ z ∈ ([0, 7, 0, 255] : List Int), 0 ≤ z ∧ z < 256 := by decide
      exact this _ hb9
    exact elt_end (news := (fd, fo9) :: nt) FB (News.perm NB (by simp only [List.cons_append, List.nil_append]; walk_at "SUBT")) (off_same hn rfl) trivial (.mk (by rw [Int.natCast_succ, ← Int.add_assoc]; exact IB) (hz.append (.cons _ _ .nil)) (List.forall_mem_append.mpr ⟨hzb, List.forall_mem_singleton.mpr hb9'⟩))
  case done =>
    clear NT F6 R6 I7
    intro ys news₁ h tk D nD X hlen hD F N hn
    revert N hn
    apply FJ.elim X
    intro fo2 tk2 zs If2 hz hzb N hn
    have N5 : News g1 L1 h [(D, listOf ys.toArray nD), (L1 + 1 + 1, oP), (L1 + 1, oF), (fd, fo2), (ce, listOf vs.toArray nc)] := News.perm N (by rw [hnt]; walk_at "SUB")
    have hnD : ∀ p ∈ [(L1 + 1 + 1, oP), (L1 + 1, oF), (ce, listOf vs.toArray nc)], p.1 ≠ D := fun p hp => hn p (.tail _ (hnt ▸ hp))
    have n3 : @Ne Nat fd D := hn (fd, fo2) (.head _)
    have n1 : @Ne Nat (L1 + 1 + 1) D := hnD (L1 + 1 + 1, oP) (.head _)
    have n2 : @Ne Nat (L1 + 1) D := hnD (L1 + 1, oF) (.tail _ (.head _))
    have n4 : @Ne Nat ce D := hnD (ce, listOf vs.toArray nc) (.tail _ (.tail _ (.head _)))
    clear N hn hnD hf g1m g2m hnt X
    try dsimp only
    try (show wpAny _ _ (storeName _ _ _) _ _ _)
    repeat' ((fail_if_success (with_reducible show wpAny _ _ (eval (Expr.ListComp _ _ _ _) _) _ _ _)); first | walk1 | (dsimp only; walk1))
    refine comp_eval rfl rfl (by decide) (fun _ => rfl) ?_
    try k_fold
    repeat' ((fail_if_success (with_reducible show wpAny _ _ (pyIter _) _ _ _)); first | walk1 | (dsimp only; walk1))
    show wpAny _ _ (pyIter _) _ _ _
    try dsimp only
    rename_i hQ oQ FQ NQ dQ h8 tk8 t₁ u₁ v₁ R8 F8 N8 K8
    obtain ⟨n8, hn8⟩ : ∃ n, n = [(D, listOf ys.toArray nD), (L1 + 1 + 1, oQ), (L1 + 1, oF), (fd, fo2), (ce, listOf vs.toArray nc)] := ⟨_, rfl⟩
    have mD : (D, listOf ys.toArray nD) ∈ n8 := hn8 ▸ .head _
    have mQ : (L1 + 1 + 1, oQ) ∈ n8 := hn8 ▸ .tail _ (.head _)
    have mfd : (fd, fo2) ∈ n8 := hn8 ▸ .tail _ (.tail _ (.tail _ (.head _)))
    have mce : (ce, listOf vs.toArray nc) ∈ n8 := hn8 ▸ .tail _ (.tail _ (.tail _ (.tail _ (.head _))))
    rw [← hn8] at N8
    have hzl : zs.length = ys.length := hz.length.symm
    clear NQ FQ K8 hn8 n1 n2 n3 n4
    refine' comp_rangeN (J := fun i ys2 ld _ => ZJ n8 (fun z => 0 ≤ z ∧ z < 256) ys2 ld) rfl R8 ?hr0 ?hr1 ?hcell2 ?hkind2 ?hx2 F8 N8 ?hj2 ?hJ2 ?turn2 ?done2
    case hr0 => exact Int.le_trans (by decide) lg0
    case hr1 => exact Int.le_trans lg1 (by decide)
    case hkind2 => rfl
    case hx2 => rfl
    case hcell2 => decide
    case hj2 => exact .mk .nil (List.forall_mem_nil _) fun _ h => h
    case hJ2 => exact fun i ys news h h' x _ => x
    case turn2 =>
      clear R8 F8 N8
      intro i t ys2 ld h2 tk2 oI oD oC D2 C2 m₁ E' hi2 X hD2 hC2 hn2 hk2 N2 hns2 hm2
      obtain @⟨zs2, hz2, hzb2, H⟩ := X
      replace N2 := app_in N2 H
      replace hn2 := fun p hp => hn2 p (H p hp)
      simp only [List.cons_append, List.nil_append] at N2
      dsimp only at N2 hD2 hC2 hn2
      clear H
      have N3 : News _ _ _ ((D, listOf ys.toArray nD) :: (h8.objs.size, oI) :: (D2, oD) :: (C2, oC) :: n8) := List.forall_mem_cons.mpr ⟨N2 _ (.tail _ (.tail _ (.tail _ mD))), N2⟩
      k_steps
      refine elt_end (news := n8) hk2 N2 hn2 trivial (.mk (hz2.append (.cons _ _ .nil)) (List.forall_mem_append.mpr ⟨hzb2, List.forall_mem_singleton.mpr (getD_all (P := fun z => 0 ≤ z ∧ z < 256) hzb (by decide) _)⟩) fun _ h => h)
    case done2 =>
      clear R8 F8 N8
      intro ys2 ld h2 tk2 D2 nD2 X hlen2 hD2 F2 N2 hn2
      obtain @⟨zs2, hz2, hzb2, H⟩ := X
      replace N2 : News _ _ _ ((D2, listOf ys2.toArray nD2) :: n8) := List.forall_mem_cons.mpr ⟨N2 _ (.head _), fun p hp => N2 p (.tail _ (H p hp))⟩
      clear H hn2
      have hy70 : ys2.length ≤ 70 := by rw [hlen2]; exact toNat70 lg1
      try dsimp only
      k_steps
      show Q _ _
      have de := drawn_end (k := k) s2
      refine hret _ _ _ _ _ _ _ (kept_end N0 hG1 (by assumption) (keptN (by assumption) (List.forall_mem_cons.mpr ⟨.inl (.head _), List.forall_mem_cons.mpr ⟨.inr (.tail _ mce), List.forall_mem_nil _⟩⟩))) (News.get (by assumption) (.tail _ mfd)) If2 de.1 de.2 ?_
      rw [byteArr_size, ← hz2.length]
      exact hy70

theorem data_led {fd ce : Addr} {fo : Obj} {gg : Obj → List (Addr × Obj)} {news : List (Addr × Obj)} {k : Int} {tk : Tok} {nc : Nat} {vs : List Value} {ns : List Int}
    (C : Cx w mean mg mb A₀ A cn cs L a ccd cl outer base h₀ m s.heap 400 5000)
    (N : News h₀ L s.heap news) (U : UpdF fd fo news gg) (hfo : IsFeed w fo ce k tk) (hm : (ce, listOf vs.toArray nc) ∈ news) (hne : @Ne Nat fd ce) (hi : IntsAre vs ns) (hl : ns.length ≤ 60) (h0 : 0 ≤ k) (h1 : k ≤ 900)
    (hret : ∀ h' tk' b tb k' tk2 fo', Kept s.heap h' [fd] → (∀ t its, IsTup s.heap t its → IsTup h' t its) → Fr h₀ L h' m → News h₀ L h' (gg fo') → IsFeed w fo' ce k' tk2 → k ≤ k' → k' ≤ k + 6 → b.size ≤ 70 → Q (.bytes b tb) { s with heap := h', toks := tk' }) :
    wpAny (model PySem.Challenge.rw_pq0410_01.row.prog w) A (call (.ref 549) [.ref fd]) Q E s := by
  have hF := N _ (updF_mem U)
  refine data_spec C (news_two N (updF_mem U) hm) hfo hne hi hl h0 h1 fun h' tk' b tb k' tk2 fo' K e I k1 k2 hb => ?_
  exact hret h' tk' b tb k' tk2 fo' K (tup_off hF.1 hfo K) (C.after K (by simpa using Ne.symm hF.2.1) (by simpa using hF.2.2)) (news_upd1 N U K e) I k1 k2 hb
end

example : True := by
  k_with "call ref" => (k_here; (with_reducible show wpAny _ _ (call (Value.ref 549) _) _ _ _); k_dflt (refine' data_led ?zzzC ?zzN ?zzU ?zzfo ?zzm ?zzne ?zzhi ?zzhl ?zzh0 ?zzh1 ?_; (case zzzC => k_extra "CX"); (case zzN => k_asm); (case zzU => k_updF); (case zzfo => k_asm); (case zzm => k_mem); (case zzne => k_asm); (case zzhi => k_asm); (case zzhl => k_asm); (case zzh0 => first | k_asm | omega); (case zzh1 => first | k_asm | omega)); k_extra "J3")
  trivial

/-- a row: a place, and its slots -/
inductive RowIn (own : List (Addr × Obj)) : Value → Int × List Int → Prop where
  | mk {T l : Addr} {a : Int} {t : Tok} {us : List Value} {ss : List Int} {k : Nat} : (T, { cls := .type "tuple", data := .seq [Value.int a t, Value.ref l].toArray }) ∈ own → (l, listOf us.toArray k) ∈ own → IntsAre us ss → RowIn own (.ref T) (a, ss)
theorem RowIn.mono {own own' : List (Addr × Obj)} (hs : ∀ p ∈ own, p ∈ own') {v : Value} {r : Int × List Int} (h : RowIn own v r) : RowIn own' v r := by
  cases h with
  | mk h1 h2 h3 => exact .mk (hs _ h1) (hs _ h2) h3
abbrev RowsIn (own : List (Addr × Obj)) : List Value → List (Int × List Int) → Prop := Paired (RowIn own)
theorem RowsIn.mono {own own' : List (Addr × Obj)} (hs : ∀ p ∈ own, p ∈ own') : ∀ {vs : List Value} {rs : List (Int × List Int)}, RowsIn own vs rs → RowsIn own' vs rs := by
  intro vs rs h
  induction h with
  | nil => exact .nil
  | cons h _ ih => exact .cons (RowIn.mono hs h) ih
def places5 : List Int := [1001, 1002, 4, 2, 2 ^ 160 - 1]
def slots3 : List Int := [0, 9, 2 ^ 256 - 1]
/-- rows as they are drawn -/
def RowsOk (rs : List (Int × List Int)) : Prop := rs.length ≤ 3 ∧ ∀ r ∈ rs, r.1 ∈ places5 ∧ r.2.length ≤ 3 ∧ ∀ x ∈ r.2, x ∈ slots3

inductive LJ (w : World) (l1 cA fd ce : Addr) (oF oce : Obj) (k : Int) (i : Nat) : List (Addr × Obj) → Prop
  | mk {its : List Value} {nn : Nat} {fo' : Obj} {k' : Int} {tk' : Tok} {rs : List (Int × List Int)} {tl : List (Addr × Obj)} (If : IsFeed w fo' ce k' tk') (k1 : k + 1 ≤ k') (k2 : k' ≤ k + 1 + 5 * i) (hl : its.length = i) (hR : RowsIn tl its rs)
      (hro : ∀ r ∈ rs, r.1 ∈ places5 ∧ r.2.length ≤ 3 ∧ ∀ x ∈ r.2, x ∈ slots3) (O : Off3 l1 fd ce tl) : LJ w l1 cA fd ce oF oce k i ((l1, listOf its.toArray nn) :: (cA, oF) :: (fd, fo') :: (ce, oce) :: tl)
theorem LJ.elim {w : World} {l1 cA fd ce : Addr} {oF oce : Obj} {k : Int} {i : Nat} {ld : List (Addr × Obj)} {P : List (Addr × Obj) → Prop} (h : LJ w l1 cA fd ce oF oce k i ld)
    (q : ∀ its nn fo' k' tk' rs tl, IsFeed w fo' ce k' tk' → k + 1 ≤ k' → k' ≤ k + 1 + 5 * i → its.length = i → RowsIn tl its rs → (∀ r ∈ rs, r.1 ∈ places5 ∧ r.2.length ≤ 3 ∧ ∀ x ∈ r.2, x ∈ slots3) → Off3 l1 fd ce tl → P ((l1, listOf its.toArray nn) :: (cA, oF) :: (fd, fo') :: (ce, oce) :: tl)) : P ld := by
  obtain ⟨a, b, c, d, e, f, g⟩ := h
  exact q _ _ _ _ _ _ _ a b c d e f g
inductive LK (w : World) (fd ce : Addr) (nt : List (Addr × Obj)) (k : Int) (ys : List Value) : List (Addr × Obj) → Prop
  | mk {fo' : Obj} {tk' : Tok} {ss : List Int} (If : IsFeed w fo' ce k tk') (hz : IntsAre ys ss) (hb : ∀ z ∈ ss, z ∈ slots3) : LK w fd ce nt k ys ((fd, fo') :: nt)
theorem LK.elim {w : World} {fd ce : Addr} {nt : List (Addr × Obj)} {k : Int} {ys : List Value} {ld : List (Addr × Obj)} {P : List (Addr × Obj) → Prop} (h : LK w fd ce nt k ys ld)
    (q : ∀ fo' tk' ss, IsFeed w fo' ce k tk' → IntsAre ys ss → (∀ z ∈ ss, z ∈ slots3) → P ((fd, fo') :: nt)) : P ld := by
  obtain ⟨a, b, c⟩ := h
  exact q _ _ _ a b c
theorem row_at {nb : List (Addr × Obj)} {vs : List Value} {rs : List (Int × List Int)} {i : Nat} {v : Value} {P : Value → Prop} (h : RowsIn nb vs rs) (hi : vs[i]? = some v)
    (k : ∀ T l pa t us ss kk, (T, ({ cls := .type "tuple", data := .seq [Value.int pa t, Value.ref l].toArray } : Obj)) ∈ nb → (l, listOf us.toArray kk) ∈ nb → IntsAre us ss → rs[i]? = some (pa, ss) → P (.ref T)) : P v := by
  obtain ⟨r, hri, hrow⟩ := paired_get h hi
  cases hrow with
  | mk x1 x2 x3 => exact k _ _ _ _ _ _ _ x1 x2 x3 hri
structure LAr (k k' : Int) : Prop where
  a0 : 0 ≤ k'
  a1 : k' ≤ 1000
  b0 : 0 ≤ k' + 1
  b1 : k' + 1 ≤ 1000
  c0 : k + 1 ≤ k' + 2
theorem lAr2 {k k' : Int} {i j : Nat} (h0 : 0 ≤ k) (h1 : k ≤ 900) (k1 : k + 1 ≤ k') (k2 : k' ≤ k + 1 + 5 * i) (hi : i ≤ 3) (hj : j ≤ 3) : 0 ≤ k' + 2 + (j : Int) ∧ k' + 2 + (j : Int) ≤ 1000 := by constructor <;> omega
theorem lAr3 {k k' : Int} {i j : Nat} (k1 : k + 1 ≤ k') (k2 : k' ≤ k + 1 + 5 * i) (hj : j ≤ 3) : k + 1 ≤ k' + 2 + (j : Int) ∧ k' + 2 + (j : Int) ≤ k + 1 + 5 * ((i + 1 : Nat) : Int) := by constructor <;> omega
theorem toNat_lt4 {r : Int} {i : Nat} (h : r < 4) (hi : i < r.toNat) : i ≤ 3 := by omega
theorem toNat_le4 {r : Int} (h : r < 4) : r.toNat ≤ 3 := by omega
theorem lAr {k k' : Int} {i : Nat} (h0 : 0 ≤ k) (h1 : k ≤ 900) (k1 : k + 1 ≤ k') (k2 : k' ≤ k + 1 + 5 * i) (hi : i ≤ 3) : LAr k k' := by constructor <;> omega
section
variable {w : World} {mean : ExcName → Option Value} {mg mb : Str → Option Value} {A₀ A : Around} {cn : Str} {cs : Scope} {L a : Addr} {ccd : Value} {cl : List (Str × Addr)} {outer : List Env} {base h₀ : Heap} {m : Str → Option Value}
  {s : Shared} {Q E : Value → Shared → Prop}

theorem listed_spec {fd ce : Addr} {fo : Obj} {k : Int} {tk : Tok} {nc : Nat} {vs : List Value} {ns : List Int}
    (C : Cx w mean mg mb A₀ A cn cs L a ccd cl outer base h₀ m s.heap 400 5000)
    (N : News h₀ L s.heap [(fd, fo), (ce, listOf vs.toArray nc)]) (hfo : IsFeed w fo ce k tk) (hne : @Ne Nat fd ce) (hi : IntsAre vs ns) (hl : ns.length ≤ 60) (h0 : 0 ≤ k) (h1 : k ≤ 900)
    (hret : ∀ h' tk' k' tk2 fo' D nD its rs own, Kept s.heap h' [fd] → h'.get? fd = some fo' → IsFeed w fo' ce k' tk2 → k ≤ k' → (∀ p ∈ own, h'.get? p.1 = some p.2 ∧ s.heap.get? p.1 = none) → h'.get? D = some (listOf its.toArray nD) → s.heap.get? D = none → RowsIn own its rs → RowsOk rs → (∀ p ∈ own, p.1 ≠ D) → Q (.ref D) { s with heap := h', toks := tk' }) :
    wpAny (model PySem.Challenge.rw_pq0410_01.row.prog w) A (call (.ref 554) [.ref fd]) Q E s := by
  have N0 := N
  walk_at "ENTERC"
  repeat' ((fail_if_success (with_reducible show wpAny _ _ (exec (Stmt.For _ _ _ _ _) _) _ _ _)); first | walk1 | (dsimp only; walk1))
  rename_i g1 L1 h1' tk1 hG1 hU1 B1 X1 T1 l1 oF dF l1' h2' l2 h3' F3 N3
  have eF : oF.data = .cell (some (.ref fd)) := by with_unfolding_all exact dF
  clear dF
  obtain ⟨M, F4, hM⟩ : ∃ M, Fr g1 L1 h3' M ∧ M (Str.ofString "law_found") = some (.ref l1') := ⟨_, F3, rfl⟩
  clear F3
  refine wpAny_For ?_ (fun _ => rfl)
  try k_fold
  repeat' ((fail_if_success (with_reducible show wpAny _ _ (pyIter _) _ _ _)); first | walk1 | (dsimp only; walk1))
  show wpAny _ _ (pyIter _) _ _ _
  try dsimp only
  rename_i h8 tk8 r tr tk2 fo8 K8 hT8 F8 N8 I8 r0 r1 e8 h9 tk9 t₁ u₁ v₁ R9 F9 N9 K9
  have hlI : @LT.lt Nat _ L1 h9.objs.size := F9.ns.lt
  refine' for_rangeN (J := fun i m ld _ => (∀ y, y ≠ Str.ofString "turn" → y ≠ Str.ofString "law_place" → m y = M y) ∧ LJ w l1' (L1 + 1) fd ce oF (listOf vs.toArray nc) k i ld) rfl R9 ?hb0 ?hb1 F9 N9 ?hj ?hJ ?hgo ?turn ?done ?hE
  case hb0 => exact Int.le_trans (by decide) r0
  case hb1 => exact Int.le_trans (Int.le_of_lt r1) (by decide)
  case hE => passes_own
  case hgo => exact fun s' v Q' q => wpAny_pure q
  case hJ => exact fun i m news h h' x _ => x
  case hj => exact ⟨fun _ _ _ => rfl, .mk I8 (Int.le_refl _) (by rw [Int.natCast_zero, Int.mul_zero, Int.add_zero]; exact Int.le_refl _) rfl .nil (List.forall_mem_nil _) (fun _ h => nomatch h)⟩
  case turn =>
    clear N8 F8 R9 N9 F9 N3 F4 K9 K8 hT8 I8 hret N N0
    intro i t m₁ news₁ h tk oI hi X hn F N
    have hm := X.1
    revert hn N
    apply LJ.elim X.2
    intro its nn fo' k' tk' rs tl If k1 k2 hil hR hro O hn N
    try dsimp only at hn N ⊢
    have hi3 : i ≤ 3 := toNat_lt4 r1 hi
    have ar := lAr h0 h1 k1 k2 hi3
    have hM' := (hm _ (by decide) (by decide)).trans hM
    have a0 := ar.a0
    have a1 := ar.a1
    have b0 := ar.b0
    have b1 := ar.b1
    have q1 : @Ne Nat l1' h9.objs.size := hn (l1', listOf its.toArray nn) (.head _)
    have q2 : @Ne Nat (L1 + 1) h9.objs.size := hn (L1 + 1, oF) (.tail _ (.head _))
    have q3 : @Ne Nat fd h9.objs.size := hn (fd, fo') (.tail _ (.tail _ (.head _)))
    have q4 : @Ne Nat ce h9.objs.size := hn (ce, _) (.tail _ (.tail _ (.tail _ (.head _))))
    have q5 : ∀ p ∈ tl, p.1 ≠ h9.objs.size := fun p hp => hn p (.tail _ (.tail _ (.tail _ (.tail _ hp))))
    have e1 : ∀ p ∈ tl, p.1 ≠ l1' := fun p hp => (O p hp).1
    have e2 : ∀ p ∈ tl, p.1 ≠ fd := fun p hp => (O p hp).2.1
    have q6 : @Ne Nat fd l1' := Nat.ne_of_lt l2.2.1
    have q7 : @Ne Nat ce l1' := Nat.ne_of_lt l2.2.2
    have q8 : @Ne Nat (L1 + 1) l1' := Nat.ne_of_lt l2.1
    have q9 : @Ne Nat fd (L1 + 1) := Nat.ne_of_lt (Nat.lt_succ_of_lt l1.1)
    clear hn
    refine wpAny_assign_Name ?_
    repeat' ((fail_if_success (with_reducible show wpAny _ _ (eval (Expr.ListComp _ _ _ _) _) _ _ _)); first | walk1 | (dsimp only; walk1))
    rename_i hA hB tkB T5 t1 t2 t3 t4 t5 KB lB hC tkC x9 tk9 fo5 KC hTC I5 x0 hD FD ND
    revert FD
    apply ints_mem x0 (.cons _ _ (.cons _ _ (.cons _ _ (.cons _ _ (.cons _ _ .nil)))))
    intro pl tpl hpl FD
    have q10 : @Ne Nat T5 fd := Nat.ne_of_gt lB.2.2.2.1
    clear x0 hTC KC lB KB
    refine comp_eval rfl rfl (by decide) (fun _ => rfl) ?_
    try k_fold
    repeat' ((fail_if_success (with_reducible show wpAny _ _ (pyIter _) _ _ _)); first | walk1 | (dsimp only; walk1))
    show wpAny _ _ (pyIter _) _ _ _
    try dsimp only
    rename_i h7 tk7 r7 tr7 tk8 fo7 K7 hT7 F7 N7 I7 s0 s1 e7 h6 tk6 t₁ u₁ v₁ R6 F6 N6 K6
    obtain ⟨nt, hnt⟩ : ∃ n, n = (h9.objs.size, oI) :: (l1', listOf its.toArray nn) :: (L1 + 1, oF) :: (ce, listOf vs.toArray nc) :: tl := ⟨_, rfl⟩
    have NT : News g1 L1 h6 ((fd, fo7) :: nt) := News.perm N6 (by rw [hnt]; walk_at "SUBT")
    have hf : ∀ p ∈ nt, p.1 ≠ fd := hnt ▸ List.forall_mem_cons.mpr ⟨Ne.symm q3, List.forall_mem_cons.mpr ⟨Ne.symm q6, List.forall_mem_cons.mpr ⟨Ne.symm q9, List.forall_mem_cons.mpr ⟨Ne.symm hne, e2⟩⟩⟩⟩
    have g1m : (L1 + 1, oF) ∈ nt := hnt ▸ .tail _ (.tail _ (.head _))
    have g2m : (ce, listOf vs.toArray nc) ∈ nt := hnt ▸ .tail _ (.tail _ (.tail _ (.head _)))
    clear N7 F7 N6 K6 K7 hT7 ND FD e7
    refine' comp_rangeN (J := fun j ys ld _ => LK w fd ce nt (k' + 2 + j) ys ld) rfl R6 ?cb0 ?cb1 ?ccell ?ckind ?cx F6 NT ?cj ?cJ ?cturn ?cdone
    case cb0 => exact Int.le_trans (by decide) s0
    case cb1 => exact Int.le_trans (Int.le_of_lt s1) (by decide)
    case ckind => rfl
    case cx => rfl
    case ccell => decide
    case cj => exact .mk (by rw [Int.natCast_zero, Int.add_zero]; exact (Int.add_assoc k' 1 1 ▸ I7)) .nil (List.forall_mem_nil _)
    case cJ => exact fun i ys news h h' x _ => x
    case cturn =>
      clear NT F6 R6 I7
      intro j t ys news₁ h7 tk7 oI2 oD oC D C m₁ E' hj X hD hC hn7 F7 N7 hns hm7
      revert hn7 N7
      apply LK.elim X
      intro fo2 tk2 ss If2 hz hzb hn7 N7
      simp only [List.cons_append, List.nil_append] at N7
      dsimp only at N7 hD hC hn7
      have c0 := (lAr2 (j := j) h0 h1 k1 k2 hi3 (toNat_lt4 s1 hj)).1
      have c1 := (lAr2 (j := j) h0 h1 k1 k2 hi3 (toNat_lt4 s1 hj)).2
      have n0 := offIDC hn7 (fd, fo2) (.head _)
      have n1 := n0.1
      have n2 := n0.2.1
      have n3 := n0.2.2
      dsimp only at n1 n2 n3
      k_steps
      rename_i hA tkA T9 u1 u2 u3 KA FA NA lA hB tkB x7 tk9 fo9 KB hTB FB NB IB xB
      apply ints_mem xB (.cons _ _ (.cons _ _ (.cons _ _ .nil)))
      intro sl tsl hsl
      refine elt_end (news := (fd, fo9) :: nt) FB (News.perm NB (by simp only [List.cons_append, List.nil_append]; walk_at "SUBT")) (off_same hn7 rfl) trivial (.mk (by rw [Int.natCast_succ, ← Int.add_assoc]; exact IB) (hz.append (.cons _ _ .nil)) (List.forall_mem_append.mpr ⟨hzb, List.forall_mem_singleton.mpr hsl⟩))
    case cdone =>
      clear NT F6 R6 I7
      intro ys news₁ h6 tk6 D6 nD6 X hlen6 hD6 F6 N6 hn6
      revert N6 hn6
      apply LK.elim X
      intro fo2 tk2 ss If2 hz hzb N6 hn6
      have N5 : News g1 L1 h6 ((D6, listOf ys.toArray nD6) :: (h9.objs.size, oI) :: (l1', listOf its.toArray nn) :: (L1 + 1, oF) :: (fd, fo2) :: (ce, listOf vs.toArray nc) :: tl) := News.perm N6 (by rw [hnt]; walk_at "SUBT")
      have hnD : ∀ p ∈ (h9.objs.size, oI) :: (l1', listOf its.toArray nn) :: (L1 + 1, oF) :: (ce, listOf vs.toArray nc) :: tl, p.1 ≠ D6 := fun p hp => hn6 p (.tail _ (hnt ▸ hp))
      have n3 : @Ne Nat fd D6 := hn6 (fd, fo2) (.head _)
      have n1 : @Ne Nat l1' D6 := hnD (l1', listOf its.toArray nn) (.tail _ (.head _))
      have n2 : @Ne Nat (L1 + 1) D6 := hnD (L1 + 1, oF) (.tail _ (.tail _ (.head _)))
      have n4 : @Ne Nat ce D6 := hnD (ce, listOf vs.toArray nc) (.tail _ (.tail _ (.tail _ (.head _))))
      have n5 : @Ne Nat h9.objs.size D6 := hnD (h9.objs.size, oI) (.head _)
      have n6 : ∀ p ∈ tl, p.1 ≠ D6 := fun p hp => hnD p (.tail _ (.tail _ (.tail _ (.tail _ hp))))
      have hsz : its.toArray.size ≤ sizeLine := by rw [List.size_toArray, sizeLine_eq, hil]; exact Nat.le_trans hi3 (Nat.le_of_ble_eq_true rfl)
      clear N6 hn6 hnD hf g1m g2m hnt X
      dsimp only
      k_steps
      simp only [List.cons_append, List.nil_append]
      walk_at "call builtin:list.append"
      k_steps
      rename_i T9 h5 lT9 h4 F4 N4
      rw [List.push_toArray] at N4
      have lt9 := lAr3 (j := r7.toNat) k1 k2 (toNat_le4 s1)
      refine turn_end (news := (l1', listOf (its ++ [Value.ref T9]).toArray (nn + 1)) :: (L1 + 1, oF) :: (fd, fo2) :: (ce, listOf vs.toArray nc) :: (T9, { cls := .type "tuple", data := .seq [Value.int pl tpl, Value.ref D6].toArray }) :: (D6, listOf ys.toArray nD6) :: tl) F4 (News.perm N4 (by walk_at "SUBT"))
        (List.forall_mem_cons.mpr ⟨q1, List.forall_mem_cons.mpr ⟨q2, List.forall_mem_cons.mpr ⟨q3, List.forall_mem_cons.mpr ⟨q4, List.forall_mem_cons.mpr ⟨Nat.ne_of_gt lT9.2.1, List.forall_mem_cons.mpr ⟨Ne.symm n5, q5⟩⟩⟩⟩⟩⟩) trivial
        ⟨fun y z1 z2 => (if_neg z2).trans ((if_neg z1).trans (hm y z1 z2)), .mk If2 lt9.1 lt9.2 (by rw [List.length_append, hil]; rfl) (PySem.Paired.snoc (RowsIn.mono (fun p hp => .tail _ (.tail _ hp)) hR) (.mk (.head _) (.tail _ (.head _)) hz))
          (List.forall_mem_append.mpr ⟨hro, List.forall_mem_singleton.mpr ⟨hpl, by rw [← hz.length, hlen6]; exact toNat_le4 s1, hzb⟩⟩)
          (List.forall_mem_cons.mpr ⟨⟨Nat.ne_of_gt lT9.2.2.1, Nat.ne_of_gt lT9.2.2.2.2.1, Nat.ne_of_gt lT9.2.2.2.2.2.1⟩, List.forall_mem_cons.mpr ⟨⟨Ne.symm n1, Ne.symm n3, Ne.symm n4⟩, O⟩⟩)⟩
  case done =>
    clear N8 F8 R9 N9 F9 N3 F4 K9 K8 hT8 I8
    intro m news h tk X F N
    have hM' := (X.1 _ (by decide) (by decide)).trans hM
    revert N
    apply LJ.elim X.2
    intro its nn fo' k' tk' rs tl If k1 k2 hil hR hro O N
    k_steps
    show Q _ _
    have hfr : ∀ p ∈ tl, s.heap.get? p.1 = none := fun p hp => fresh_end hG1 N (T := p.1) (o := p.2) (.tail _ (.tail _ (.tail _ (.tail _ hp)))) (by
      simp only [List.map_cons, List.map_nil, List.mem_cons, List.not_mem_nil, or_false, not_or]
      exact ⟨(O p hp).2.1, (O p hp).2.2⟩)
    have hrl := paired_len hR
    refine hret _ _ _ _ _ _ _ its rs tl (kept_end N0 hG1 F (keptN N (by walk_at "KEPT"))) (News.get N (.tail _ (.tail _ (.head _)))) If (Int.le_trans (Int.le_add_one (Int.le_refl k)) k1) (fun p hp => ⟨News.get N (.tail _ (.tail _ (.tail _ (.tail _ hp)))), hfr p hp⟩) (News.get N (.head _)) (fresh_end hG1 N (.head _) ?_) hR ⟨?_, hro⟩ (fun p hp => (O p hp).1)
    · simp only [List.map_cons, List.map_nil, List.mem_cons, List.not_mem_nil, or_false, not_or]
      exact ⟨Nat.ne_of_gt l2.2.1, Nat.ne_of_gt l2.2.2⟩
    · rw [← hrl, hil]
      exact toNat_le4 r1

/-- new objects go onto the ledger -/
theorem news_adds {h h' : Heap} {adds news' : List (Addr × Obj)} (F : Fr h₀ L h m) (N' : News h₀ L h' news') (e : ∀ p ∈ adds, h'.get? p.1 = some p.2 ∧ h.get? p.1 = none) : News h₀ L h' (adds ++ news') := fun p hp => by
  rcases List.mem_append.mp hp with hp | hp
  · obtain ⟨e1, hT⟩ := e p hp
    refine ⟨e1, ?_, ?_⟩
    · intro q
      obtain ⟨oL, _, _, hL, _⟩ := F.ns
      rw [q, hL] at hT; cases hT
    · cases q : h₀.get? p.1 with
      | none => rfl
      | some x => have := F.keep _ _ q; rw [hT] at this; cases this
  · exact N' p hp
theorem adds_ne {d : Addr} {o o' : Obj} {gg : Obj → List (Addr × Obj)} {news adds : List (Addr × Obj)} {h h' : Heap} (N : News h₀ L h news) (U : UpdF d o news gg) (e : ∀ p ∈ adds, h'.get? p.1 = some p.2 ∧ h.get? p.1 = none) : ∀ p ∈ adds, ∀ q ∈ gg o', p.1 ≠ q.1 := by
  obtain ⟨pre, post, rfl, hg, a1, a2⟩ := U.split
  rw [hg]
  intro p hp q hq he
  have h1 := (e p hp).2
  rw [he] at h1
  rcases List.mem_append.mp hq with z | z
  · rw [(N q (by simp [z])).1] at h1; cases h1
  · rcases List.mem_cons.mp z with rfl | z
    · rw [(N (d, o) (by simp)).1] at h1; cases h1
    · rw [(N q (by simp [z])).1] at h1; cases h1

theorem listed_led {fd ce : Addr} {fo : Obj} {gg : Obj → List (Addr × Obj)} {news : List (Addr × Obj)} {k : Int} {tk : Tok} {nc : Nat} {vs : List Value} {ns : List Int}
    (C : Cx w mean mg mb A₀ A cn cs L a ccd cl outer base h₀ m s.heap 400 5000)
    (N : News h₀ L s.heap news) (U : UpdF fd fo news gg) (hfo : IsFeed w fo ce k tk) (hm : (ce, listOf vs.toArray nc) ∈ news) (hne : @Ne Nat fd ce) (hi : IntsAre vs ns) (hl : ns.length ≤ 60) (h0 : 0 ≤ k) (h1 : k ≤ 900)
    (hret : ∀ h' tk' k' tk2 fo' D nD its rs own, Kept s.heap h' [fd] → (∀ t its, IsTup s.heap t its → IsTup h' t its) → Fr h₀ L h' m → News h₀ L h' ((D, listOf its.toArray nD) :: (own ++ gg fo')) → IsFeed w fo' ce k' tk2 → k ≤ k' → RowsIn own its rs → RowsOk rs →
      (∀ p ∈ own ++ gg fo', p.1 ≠ D) → (∀ p ∈ own, ∀ q ∈ gg fo', p.1 ≠ q.1) → Q (.ref D) { s with heap := h', toks := tk' }) :
    wpAny (model PySem.Challenge.rw_pq0410_01.row.prog w) A (call (.ref 554) [.ref fd]) Q E s := by
  have hF := N _ (updF_mem U)
  refine listed_spec C (news_two N (updF_mem U) hm) hfo hne hi hl h0 h1 fun h' tk' k' tk2 fo' D nD its rs own K e I k1 hown eD nD' hR hok hoD => ?_
  have F2 := C.after K (by simpa using Ne.symm hF.2.1) (by simpa using hF.2.2)
  have N2 := news_upd1 N U K e
  have hall : ∀ p ∈ (D, listOf its.toArray nD) :: own, h'.get? p.1 = some p.2 ∧ s.heap.get? p.1 = none := List.forall_mem_cons.mpr ⟨⟨eD, nD'⟩, hown⟩
  have hne2 := adds_ne (o' := fo') N U hall
  refine hret h' tk' k' tk2 fo' D nD its rs own K (tup_off hF.1 hfo K) F2 (news_adds C.F N2 hall) I k1 hR hok ?_ fun p hp q hq => hne2 p (List.mem_cons_of_mem _ hp) q hq
  intro p hp
  rcases List.mem_append.mp hp with z | z
  · exact hoD p z
  · exact Ne.symm (hne2 _ (List.mem_cons_self ..) p z)
end


section
variable {prog : Program} {w : World} {K : Type} [DecidableEq K] (knd : HeapKind prog w K) (d a : Addr)

/-- a key of the heap is taken out: its place was the last -/
theorem takeOut_heap {A : Around} {E : Value → Shared → Prop} {s : Shared} {ys : List (K × Addr × Value)} {k : K} {p : Addr × Value} {Q : Option DictEntry → Shared → Prop}
    (hu : knd.room A) (hkey : knd.is s.heap k a) (hm : s.heap.DictOfH knd d (ys ++ [(k, p)]))
    (h : ∀ e h', h'.DictOfH knd d ys → Heap.SameBut d s.heap h' → Q (some e) { s with heap := h', toks := s.toks + knd.draws k })
    (hsz : ys.length + 1 ≤ sizeLine) : wpAny (model prog w) A (Builtin.Dict.takeOut d (.ref a)) Q E s := by
  obtain ⟨o, es, ep, ho, hc, hd, he, his, hn⟩ := hm
  have hes : es.size = ys.length + 1 := by rw [size_of_entries he]; simp
  unfold Builtin.Dict.takeOut
  try with_reducible refine wpAny_holding ?_
  refine wpAny_bind (knd.pyHash hu hkey ?_)
  refine wpAny_bind (wpAny_dictFind_heap (s := { s with toks := s.toks + knd.draws k }) hu hkey ho hd he his hn ?_ ?_)
  · intro hno
    exact absurd (List.getElem?_concat_length) (hno ys.length p)
  · intro j q hj
    have hj2 : j = ys.length := idxH_unique hn hj List.getElem?_concat_length
    subst hj2
    refine wpAny_bind (wpAny_dictEntries (s := { s with toks := s.toks + knd.draws k }) ho hd ?_)
    rw [entry_at he ys.length, List.getElem?_concat_length]
    refine wpAny_bind (wpAny_updateDictKeys (hz := by omega) (s := { s with toks := s.toks + knd.draws k }) ho hd (wpAny_pure (h _ _ ⟨_, _, ep + 1, Heap.get?_update_self _ ho (Obj.isFreed_of_dict (Obj.data_mapDictKeys hd _)),
      hc.mapDictKeys _, Obj.data_mapDictKeys hd _, ?_, ?_, ?_⟩ (Heap.SameBut.update ..))))
    · obtain ⟨l⟩ := es
      simp only at he
      subst he
      simp [List.eraseIdx_append_of_length_le]
    · intro x hx
      exact knd.keeps (his x (List.mem_append_left _ hx)) ho hd (Heap.SameBut.update ..)
    · rw [List.map_append, List.nodup_append] at hn
      exact hn.1

theorem delItem_heap {A : Around} {E : Value → Shared → Prop} {s : Shared} {ys : List (K × Addr × Value)} {k : K} {p : Addr × Value} {Q : Unit → Shared → Prop}
    (hu : knd.room A.in1) (hkey : knd.is s.heap k a) (hm : s.heap.DictOfH knd d (ys ++ [(k, p)]))
    (h : ∀ h', h'.DictOfH knd d ys → Heap.SameBut d s.heap h' → Q () { s with heap := h', toks := s.toks + knd.draws k })
    (hsz : ys.length + 1 ≤ sizeLine) : wpAny (model prog w) A (delItem (.ref d) (.ref a)) Q E s := by
  have M : MeetsIn prog w (Builtin.«dict.__delitem__» ⟨[.ref d, .ref a], []⟩) (fun A R s => knd.room A.in1 ∧ knd.is s.heap k a ∧ s.heap.DictOfH knd d (ys ++ [(k, p)]) ∧
      ∀ h', h'.DictOfH knd d ys → Heap.SameBut d s.heap h' → R (.ok (.ret .none)) { s with heap := h', toks := s.toks + knd.draws k }) :=
    .of_wp fun A R s x => by
      obtain ⟨hu, hkey, hm, h⟩ := x
      unfold Builtin.«dict.__delitem__»
      refine wpAny_bind ?_
      unfold Builtin.Dict.dictSlotArgs
      refine wpAny_bind (wpAny_notOrdered_dict hm.typeIs ?_)
      show wpAny _ _ (pure (Value.ref d, Value.ref a)) _ _ s
      refine wpAny_pure ?_
      show wpAny _ _ (Builtin.Dict.takeOut d (Value.ref a) >>= _) _ _ s
      refine wpAny_bind (takeOut_heap knd d a hu hkey hm (fun e h' hm' hs' => ?_) hsz)
      exact wpAny_bind (wpAny_letGo (wpAny_pure ⟨.none, rfl, h h' hm' hs'⟩))
  unfold delItem
  try with_reducible refine wpAny_holding ?_
  refine wpAny_bind (wpAny_sequenceKey hm.typeIs (by decide) ?_)
  refine wpAny_bind (wpAny_callSpecial?_slot (name := Str.ofString "__delitem__") hm.typeIs PySem.F.slot_dict_delitem
    (call_meetsIn PySem.F.slot_dict_delitem hm.typeIs PySem.F.entry_dict_delitem (PySem.F.args_dict_delitem_2 _ _) M ⟨hu, hkey, hm, fun h' hm' hs' => ?_⟩))
  exact wpAny_pure (h h' hm' hs')
end

abbrev prg : Program := PySem.Challenge.rw_pq0410_01.row.prog
abbrev ik (w : World) := PySem.intKind prg w
/-- the dict of pairs: its keys are tuples of own -/
def PairsObj (w : World) (so : Obj) (own : List (Addr × Obj)) (xs : List (List Int × Addr × Value)) : Prop :=
  so.ExactDict ∧ ∃ es ep, so.data = .dict es ep ∧ es.toList = xs.map (entryOfKey (tupleKind (ik w))) ∧ (xs.map (·.1)).Nodup ∧ ∀ x ∈ xs, ∃ o, (x.2.1, o) ∈ own ∧ TupKeyObj (ik w) x.1 o
section
variable {w : World} {A : Around} {E : Value → Shared → Prop} {s : Shared} {h₀ h : Heap} {L d a : Addr} {m : Str → Option Value} {news own : List (Addr × Obj)} {so ao : Obj} {xs ys : List (List Int × Addr × Value)} {k : List Int}
theorem PairsObj.mono {own' : List (Addr × Obj)} (P : PairsObj w so own xs) (hs : ∀ p ∈ own, p ∈ own') : PairsObj w so own' xs :=
  let ⟨c, es, ep, a, b, n, f⟩ := P; ⟨c, es, ep, a, b, n, fun x hx => let ⟨o, ho, t⟩ := f x hx; ⟨o, hs _ ho, t⟩⟩
theorem PairsObj.at (P : PairsObj w so own xs) (N : News h₀ L h news) (hm : (d, so) ∈ news) (ho : ∀ p ∈ own, p ∈ news) : h.DictOfH (tupleKind (ik w)) d xs :=
  let ⟨c, es, ep, a, b, n, f⟩ := P; ⟨so, es, ep, N.get hm, c, a, b, fun x hx => let ⟨_, ho', t⟩ := f x hx; t.key (N.get (ho _ ho')), n⟩
theorem PairsObj.of (H : h.DictOfH (tupleKind (ik w)) d xs) (f : ∀ x ∈ xs, ∃ o, (x.2.1, o) ∈ own ∧ TupKeyObj (ik w) x.1 o) : ∃ so, h.get? d = some so ∧ PairsObj w so own xs :=
  H.elim fun o H => H.elim fun es H => H.elim fun ep H => ⟨o, H.1, H.2.1, es, ep, H.2.2.1, H.2.2.2.1, H.2.2.2.2.2, f⟩
theorem PairsObj.keys (P : PairsObj w so own xs) : ∀ x ∈ xs, ∃ o, (x.2.1, o) ∈ own ∧ TupKeyObj (ik w) x.1 o := P.2.elim fun _ P => P.elim fun _ P => P.2.2.2
theorem PairsObj.empty {o : Obj} (hd : o.IsDictOf (ik w) []) : PairsObj w o own [] := by
  obtain ⟨es, ep, hc, hdat, _, hp, _⟩ := hd
  have he : es.toList = [] := List.length_eq_zero_iff.mp hp.length
  exact ⟨hc, es, ep, hdat, he, List.nodup_nil, fun _ hx => by simp at hx⟩

theorem notin_pairs {Q : Value → Shared → Prop} (N : News h₀ L s.heap news) (hm : (d, so) ∈ news) (P : PairsObj w so own xs) (ho : ∀ p ∈ own, p ∈ news) (ha : (a, ao) ∈ news) (hk : TupKeyObj (ik w) k ao)
    (lo : (d == sysModules) = false) (hu : A.units + 1 < cLine) (h : Q (.bool (!(atKey xs k).isSome)) { s with toks := s.toks + (k.length + 1) }) :
    wpAny (model prg w) A (compareOp .NotIn (.ref a) (.ref d)) Q E s :=
  wpAny_notIn_heap (knd := tupleKind (ik w)) (tupleKind_room_in1 hu) (hk.key (N.get ha)) lo (P.at N hm ho) h
theorem in_pairs {Q : Value → Shared → Prop} (N : News h₀ L s.heap news) (hm : (d, so) ∈ news) (P : PairsObj w so own xs) (ho : ∀ p ∈ own, p ∈ news) (ha : (a, ao) ∈ news) (hk : TupKeyObj (ik w) k ao)
    (lo : (d == sysModules) = false) (hu : A.units + 1 < cLine) (h : Q (.bool (atKey xs k).isSome) { s with toks := s.toks + (k.length + 1) }) :
    wpAny (model prg w) A (compareOp .In (.ref a) (.ref d)) Q E s :=
  wpAny_in_heap (knd := tupleKind (ik w)) (tupleKind_room_in1 hu) (hk.key (N.get ha)) lo (P.at N hm ho) h
theorem set_pairs {Q : Unit → Shared → Prop} {v : Value} {gg : Obj → List (Addr × Obj)} (F : Fr h₀ L s.heap m) (N : News h₀ L s.heap news) (U : UpdF d so news gg) (P : PairsObj w so own xs) (ho : ∀ p ∈ own, p ∈ news) (ha : (a, ao) ∈ news) (hk : TupKeyObj (ik w) k ao)
    (hu : A.units + 1 < cLine) (hn : atKey xs k = none) (hz : xs.length ≤ sizeLine)
    (h : ∀ h' so', Fr h₀ L h' m → News h₀ L h' (gg so') → PairsObj w so' ((a, ao) :: own) (xs ++ [(k, a, v)]) → Q () { s with heap := h', toks := s.toks + (k.length + 1) }) :
    wpAny (model prg w) A (setItem (.ref d) (.ref a) v) Q E s := by
  have hm := N _ (updF_mem U)
  have hf := P.keys
  refine wpAny_setItem_heap (knd := tupleKind (ik w)) (hsz := hz) (tupleKind_room_in1 hu) (hk.key (N.get ha)) (P.at N (updF_mem U) ho) fun h' H hs => ?_
  rw [storedH_new hn] at H
  obtain ⟨so', e', P'⟩ := PairsObj.of (own := (a, ao) :: own) H (by
    intro x hx
    rcases List.mem_append.mp hx with hx | hx
    · obtain ⟨o, h1, h2⟩ := hf x hx
      exact ⟨o, List.mem_cons_of_mem _ h1, h2⟩
    · rw [List.mem_singleton.mp hx]
      exact ⟨ao, List.mem_cons_self .., hk⟩)
  refine h h' so' (F.change hs hm.2.1 hm.2.2) ?_ P'
  obtain ⟨pre, post, rfl, hg, a1, a2⟩ := U.split
  rw [hg]
  exact news_set N a1 a2 hs e'
theorem del_pairs {Q : Unit → Shared → Prop} {p : Addr × Value} {gg : Obj → List (Addr × Obj)} (F : Fr h₀ L s.heap m) (N : News h₀ L s.heap news) (U : UpdF d so news gg) (P : PairsObj w so own (ys ++ [(k, p)])) (ho : ∀ p ∈ own, p ∈ news) (ha : (a, ao) ∈ news) (hk : TupKeyObj (ik w) k ao)
    (hu : A.units + 1 < cLine) (hz : ys.length + 1 ≤ sizeLine)
    (h : ∀ h' so', Fr h₀ L h' m → News h₀ L h' (gg so') → PairsObj w so' own ys → Q () { s with heap := h', toks := s.toks + (k.length + 1) }) :
    wpAny (model prg w) A (delItem (.ref d) (.ref a)) Q E s := by
  have hm := N _ (updF_mem U)
  have hf := P.keys
  refine delItem_heap (tupleKind (ik w)) d a (tupleKind_room_in1 hu) (hk.key (N.get ha)) (P.at N (updF_mem U) ho) (fun h' H hs => ?_) hz
  obtain ⟨so', e', P'⟩ := PairsObj.of (own := own) H (fun x hx => hf x (List.mem_append_left _ hx))
  refine h h' so' (F.change hs hm.2.1 hm.2.2) ?_ P'
  obtain ⟨pre, post, rfl, hg, a1, a2⟩ := U.split
  rw [hg]
  exact news_set N a1 a2 hs e'
theorem tupKey2 {x y : Int} {t u : Tok} : TupKeyObj (ik w) [x, y] { cls := .type "tuple", data := .seq [Value.int x t, Value.int y u].toArray } :=
  TupKeyObj.made (.cons (by simp [ik, intKind, Value.isInt]) (.cons (by simp [ik, intKind, Value.isInt]) .nil))
end

section
variable {w : World} {A : Around} {E : Value → Shared → Prop} {s : Shared} {h₀ h : Heap} {L d a : Addr} {m : Str → Option Value} {news own : List (Addr × Obj)} {so ao : Obj} {xs ys : List (List Int × Addr × Value)} {k : List Int}
theorem notin_pairsB {Q : Value → Shared → Prop} {b : Bool} (N : News h₀ L s.heap news) (hm : (d, so) ∈ news) (P : PairsObj w so own xs) (ho : ∀ p ∈ own, p ∈ news) (ha : (a, ao) ∈ news) (hk : TupKeyObj (ik w) k ao)
    (lo : (d == sysModules) = false) (hu : A.units + 1 < cLine) (hb : (atKey xs k).isSome = b) (h : Q (.bool (!b)) { s with toks := s.toks + (k.length + 1) }) :
    wpAny (model PySem.Challenge.rw_pq0410_01.row.prog w) A (compareOp .NotIn (.ref a) (.ref d)) Q E s := notin_pairs N hm P ho ha hk lo hu (by rw [hb]; exact h)
theorem in_pairsB {Q : Value → Shared → Prop} {b : Bool} (N : News h₀ L s.heap news) (hm : (d, so) ∈ news) (P : PairsObj w so own xs) (ho : ∀ p ∈ own, p ∈ news) (ha : (a, ao) ∈ news) (hk : TupKeyObj (ik w) k ao)
    (lo : (d == sysModules) = false) (hu : A.units + 1 < cLine) (hb : (atKey xs k).isSome = b) (h : Q (.bool b) { s with toks := s.toks + (k.length + 1) }) :
    wpAny (model PySem.Challenge.rw_pq0410_01.row.prog w) A (compareOp .In (.ref a) (.ref d)) Q E s := in_pairs N hm P ho ha hk lo hu (by rw [hb]; exact h)
theorem in_ones {Q : Value → Shared → Prop} {o : Obj} {kvs : List (Int × Value)} {x : Int} {tk : Tok} {b : Bool} (N : News h₀ L s.heap news) (hm : (d, o) ∈ news) (hd : o.IsDictOf (PySem.intKind PySem.Challenge.rw_pq0410_01.row.prog w) kvs)
    (lo : (d == sysModules) = false) (hb : (valueAt kvs x).isSome = b) (h : Q (.bool b) { s with toks := s.toks + 1 }) :
    wpAny (model PySem.Challenge.rw_pq0410_01.row.prog w) A (compareOp .In (.int x tk) (.ref d)) Q E s := wpAny_in_of (intKind_is _ _ _ _) lo (kda_dict N hm hd).mapOf (by rw [hb]; exact h)
end


/-- what the journal tells: a warm place, or a warm slot of a place -/
inductive Ent where
  | inl (a : Int)
  | inr (p : Int × Int)
  deriving DecidableEq
def oneOf : Ent → Option (Int × Value)
  | .inl a => some (a, .bool true)
  | .inr _ => none
def pairOf : Ent → Option (List Int)
  | .inl _ => none
  | .inr (a, b) => some [a, b]
def ones (σ : List Ent) : List (Int × Value) := σ.filterMap oneOf
def prs (σ : List Ent) : List (List Int) := σ.filterMap pairOf
theorem ones_mem {σ : List Ent} {a : Int} : (∃ v, (a, v) ∈ ones σ) ↔ Ent.inl a ∈ σ := by
  constructor
  · rintro ⟨v, h⟩
    obtain ⟨e, he, h2⟩ := List.mem_filterMap.mp h
    cases e with
    | inl b => simp only [oneOf, Option.some.injEq, Prod.mk.injEq] at h2; rw [← h2.1]; exact he
    | inr b => cases h2
  · intro h
    exact ⟨.bool true, List.mem_filterMap.mpr ⟨_, h, rfl⟩⟩
theorem ones_has (σ : List Ent) (a : Int) : (valueAt (ones σ) a).isSome = decide (Ent.inl a ∈ σ) := by
  unfold valueAt
  rw [Option.isSome_map]
  by_cases h : Ent.inl a ∈ σ
  · rw [decide_eq_true h, List.find?_isSome]
    obtain ⟨v, hv⟩ := ones_mem.mpr h
    exact ⟨_, hv, by simp⟩
  · rw [decide_eq_false h]
    cases q : (ones σ).find? (fun kv => decide (kv.1 = a)) with
    | none => rfl
    | some p =>
      have h1 := List.find?_some q
      have h2 := List.mem_of_find?_eq_some q
      simp only [decide_eq_true_eq] at h1
      exact absurd (ones_mem.mp ⟨p.2, by rw [← h1]; exact h2⟩) h
theorem ones_add {σ : List Ent} {a : Int} (h : Ent.inl a ∉ σ) : stored (ones σ) a (.bool true) = ones (σ ++ [Ent.inl a]) := by
  have : (ones σ).any (fun kv => decide (kv.1 = a)) = false := by
    rw [List.any_eq_false]
    intro p hp hq
    simp only [decide_eq_true_eq] at hq
    exact h (ones_mem.mp ⟨p.2, by rw [← hq]; exact hp⟩)
  unfold stored
  rw [if_neg (by rw [this]; exact Bool.false_ne_true)]
  simp [ones, oneOf]
theorem ones_skip {σ : List Ent} {p : Int × Int} : ones (σ ++ [Ent.inr p]) = ones σ := by simp [ones, oneOf]
theorem prs_skip {σ : List Ent} {a : Int} : prs (σ ++ [Ent.inl a]) = prs σ := by simp [prs, pairOf]
theorem prs_add {σ : List Ent} {a b : Int} : prs (σ ++ [Ent.inr (a, b)]) = prs σ ++ [[a, b]] := by simp [prs, pairOf]
theorem prs_mem {σ : List Ent} {a b : Int} : [a, b] ∈ prs σ ↔ Ent.inr (a, b) ∈ σ := by
  constructor
  · intro h
    obtain ⟨e, he, h2⟩ := List.mem_filterMap.mp h
    cases e with
    | inl b => cases h2
    | inr b =>
      obtain ⟨x, y⟩ := b
      simp only [pairOf, Option.some.injEq, List.cons.injEq, and_true] at h2
      rw [← h2.1, ← h2.2]; exact he
  · intro h
    exact List.mem_filterMap.mpr ⟨_, h, rfl⟩
theorem prs_has {σ : List Ent} {xs : List (List Int × Addr × Value)} (e : xs.map (·.1) = prs σ) (a b : Int) : (atKey xs [a, b]).isSome = decide (Ent.inr (a, b) ∈ σ) := by
  unfold atKey
  rw [Option.isSome_map]
  by_cases h : Ent.inr (a, b) ∈ σ
  · rw [decide_eq_true h, List.find?_isSome]
    have h2 : [a, b] ∈ xs.map (·.1) := by rw [e]; exact prs_mem.mpr h
    obtain ⟨x, hx, hx2⟩ := List.mem_map.mp h2
    exact ⟨x, hx, by simpa using hx2⟩
  · rw [decide_eq_false h]
    cases q : xs.find? (fun x => decide (x.1 = [a, b])) with
    | none => rfl
    | some p =>
      have h1 := List.find?_some q
      have h2 := List.mem_of_find?_eq_some q
      simp only [decide_eq_true_eq] at h1
      exact absurd (prs_mem.mp (by rw [← e, ← h1]; exact List.mem_map_of_mem h2)) h
theorem prs_none {σ : List Ent} {xs : List (List Int × Addr × Value)} (e : xs.map (·.1) = prs σ) {a b : Int} (h : Ent.inr (a, b) ∉ σ) : atKey xs [a, b] = none := by
  have := prs_has e a b
  rw [decide_eq_false h] at this
  cases q : atKey xs [a, b] with
  | none => rfl
  | some p => rw [q] at this; cases this

/-- a row of the journal -/
inductive JRow (own : List (Addr × Obj)) : Value → Ent → Prop where
  | one {x d : Addr} {a : Int} {h1 h2 h3 h4 : Int} {t1 t2 t3 t4 u1 u2 u3 u4 : Tok} {n : Nat} : (x, instObj 245 d) ∈ own →
      (d, dictOf [⟨h1, .str (Str.ofString "kind") t1, .str (Str.ofString "warm") u1⟩, ⟨h2, .str (Str.ofString "address") t2, .int a u2⟩, ⟨h3, .str (Str.ofString "key") t3, .int 0 u3⟩, ⟨h4, .str (Str.ofString "old") t4, .int 0 u4⟩] n) ∈ own → JRow own (.ref x) (Ent.inl a)
  | two {x d : Addr} {a b : Int} {h1 h2 h3 h4 : Int} {t1 t2 t3 t4 u1 u2 u3 u4 : Tok} {n : Nat} : (x, instObj 245 d) ∈ own →
      (d, dictOf [⟨h1, .str (Str.ofString "kind") t1, .str (Str.ofString "warm_slot") u1⟩, ⟨h2, .str (Str.ofString "address") t2, .int a u2⟩, ⟨h3, .str (Str.ofString "key") t3, .int b u3⟩, ⟨h4, .str (Str.ofString "old") t4, .int 0 u4⟩] n) ∈ own → JRow own (.ref x) (Ent.inr (a, b))
theorem JRow.mono {own own' : List (Addr × Obj)} (hs : ∀ p ∈ own, p ∈ own') {v : Value} {e : Ent} (h : JRow own v e) : JRow own' v e := by
  cases h with
  | one h1 h2 => exact .one (hs _ h1) (hs _ h2)
  | two h1 h2 => exact .two (hs _ h1) (hs _ h2)
theorem paired_mono {α β : Type} {F G : α → β → Prop} (hs : ∀ a b, F a b → G a b) : ∀ {l : List α} {r : List β}, Paired F l r → Paired G l r := by
  intro l r h
  induction h with
  | nil => exact .nil
  | cons h _ ih => exact .cons (hs _ _ h) ih
theorem ones_len : ∀ (σ : List Ent), (ones σ).length ≤ σ.length := fun σ => List.length_filterMap_le _ σ
theorem prs_len : ∀ (σ : List Ent), (prs σ).length ≤ σ.length := fun σ => List.length_filterMap_le _ σ

/-- the warm part of a state -/
structure StOk (w : World) (wo so : Obj) (its : List Value) (own : List (Addr × Obj)) (σ : List Ent) : Prop where
  one : wo.IsDictOf (PySem.intKind PySem.Challenge.rw_pq0410_01.row.prog w) (ones σ)
  prs : ∃ xs, PairsObj w so own xs ∧ xs.map (·.1) = prs σ
  rows : Paired (JRow own) its σ
  nd : σ.Nodup
def put1 (σ : List Ent) (e : Ent) : List Ent := if e ∈ σ then σ else σ ++ [e]
theorem put1_mem {σ : List Ent} {e f : Ent} : f ∈ put1 σ e ↔ f ∈ σ ∨ f = e := by
  unfold put1
  split
  · rename_i h
    constructor
    · exact Or.inl
    · rintro (q | rfl)
      · exact q
      · exact h
  · simp
theorem put1_len {σ : List Ent} {e : Ent} : (put1 σ e).length ≤ σ.length + 1 := by
  unfold put1; split <;> simp
theorem nodup_snoc {σ : List Ent} {e : Ent} (h : σ.Nodup) (n : e ∉ σ) : (σ ++ [e]).Nodup := by
  rw [List.nodup_append]
  refine ⟨h, by simp, ?_⟩
  intro x hx y hy
  rw [List.mem_singleton.mp hy]
  rintro rfl
  exact n hx

/-- the parts of a state are not one another -/
structure SN (st sd wd ws jl : Addr) : Prop where
  d1 : st ≠ sd
  d2 : st ≠ wd
  d3 : st ≠ jl
  d4 : sd ≠ wd
  d5 : sd ≠ jl
  d6 : wd ≠ jl
  d7 : st ≠ ws
  d8 : sd ≠ ws
  d9 : wd ≠ ws
  d10 : ws ≠ jl

theorem allLt_up {d x : Nat} : ∀ {tl : List (Addr × Obj)}, AllLt d tl → d < x → AllLt x tl
  | [], _, _ => trivial
  | _ :: _, h, hx => ⟨Nat.lt_trans h.1 hx, allLt_up h.2 hx⟩
theorem fresh_end2 {h g h' : Heap} {L' T : Addr} {o : Obj} {news news' : List (Addr × Obj)} (hG : ∀ b o, h.get? b = some o → b ∉ news.map (·.1) → g.get? b = some o) (N' : News g L' h' news') (hm : (T, o) ∈ news') (hn : ∀ q ∈ news, q.1 ≠ T) : h.get? T = none :=
  fresh_end hG N' hm (fun z => let ⟨q, hq, e⟩ := List.mem_map.mp z; hn q hq e)

example : True := by
  k_with "compareOp NotIn int ref" => (k_here; k_dflt (refine kdg_notin (knd := PySem.intKind _ _) (by k_asm) (by k_mem) (by k_asm) (by k_asm) (intKind_is _ _ _ _) _ (by with_reducible assumption) ?_); (try dsimp only [Bool.not_true, Bool.not_false]))
  k_with "setItem ref int" => ((k_here; k_dflt (refine' kda_set (knd := PySem.intKind _ _) ?zzF ?zzN ?zzU ?zzd (intKind_is _ _ _ _) ?zzz ?_; (case zzF => k_asm); (case zzN => k_asm); (case zzU => k_updF); (case zzd => k_asm); (case zzz => (rw [sizeLine_eq]; omega))); intro h' o' F' N' hd'; (try dsimp only at N')); (revert h' o' F' N' hd'); intros)
  trivial

abbrev sdO (zf : Nat → Int) (tf : Nat → Tok) (se ac jl td dd wd ws od lg : Addr) (nd : Nat) : Obj := dictOf [⟨zf 1, .str (Str.ofString "setting") (tf 1), .ref se⟩, ⟨zf 2, .str (Str.ofString "accounts") (tf 2), .ref ac⟩, ⟨zf 3, .str (Str.ofString "journal") (tf 3), .ref jl⟩, ⟨zf 4, .str (Str.ofString "touched") (tf 4), .ref td⟩, ⟨zf 5, .str (Str.ofString "destroyed") (tf 5), .ref dd⟩, ⟨zf 6, .str (Str.ofString "warm_ones") (tf 6), .ref wd⟩, ⟨zf 7, .str (Str.ofString "warm_slots") (tf 7), .ref ws⟩, ⟨zf 8, .str (Str.ofString "originals") (tf 8), .ref od⟩, ⟨zf 9, .str (Str.ofString "refund") (tf 9), .int 0 (tf 11)⟩, ⟨zf 10, .str (Str.ofString "logs") (tf 10), .ref lg⟩] nd
abbrev txO (qf : Nat → Int) (rf : Nat → Tok) (vKind vChain vNonce vPrio vCap vLimit vGoal vVal vData : Value) (al : Addr) (vSig : Value) (nx : Nat) : Obj := dictOf [⟨qf 1, .str (Str.ofString "kind") (rf 1), vKind⟩, ⟨qf 2, .str (Str.ofString "chain") (rf 2), vChain⟩, ⟨qf 3, .str (Str.ofString "nonce") (rf 3), vNonce⟩, ⟨qf 4, .str (Str.ofString "priority") (rf 4), vPrio⟩, ⟨qf 5, .str (Str.ofString "cap") (rf 5), vCap⟩, ⟨qf 6, .str (Str.ofString "limit") (rf 6), vLimit⟩, ⟨qf 7, .str (Str.ofString "target") (rf 7), vGoal⟩, ⟨qf 8, .str (Str.ofString "value") (rf 8), vVal⟩, ⟨qf 9, .str (Str.ofString "data") (rf 9), vData⟩, ⟨qf 10, .str (Str.ofString "access") (rf 10), .ref al⟩, ⟨qf 11, .str (Str.ofString "signature") (rf 11), vSig⟩] nx
abbrev bdO (pf : Nat → Int) (of' : Nat → Tok) (vNum vTime : Value) (tips : Int) (ob : Tok) (vFee vLim vRand vHash : Value) (nb : Nat) : Obj := dictOf [⟨pf 1, .str (Str.ofString "number") (of' 1), vNum⟩, ⟨pf 2, .str (Str.ofString "time") (of' 2), vTime⟩, ⟨pf 3, .str (Str.ofString "beneficiary") (of' 3), .int tips ob⟩, ⟨pf 4, .str (Str.ofString "base_fee") (of' 4), vFee⟩, ⟨pf 5, .str (Str.ofString "limit") (of' 5), vLim⟩, ⟨pf 6, .str (Str.ofString "random") (of' 6), vRand⟩, ⟨pf 7, .str (Str.ofString "hashes") (of' 7), vHash⟩] nb
abbrev seO (shf : Nat → Int) (skf : Nat → Tok) (sn : Nat) : Obj := dictOf [⟨shf 1, .str (Str.ofString "digest") (skf 1), .none⟩, ⟨shf 2, .str (Str.ofString "curve") (skf 2), .none⟩, ⟨shf 3, .str (Str.ofString "chain") (skf 3), .int 1 (skf 6)⟩, ⟨shf 4, .str (Str.ofString "most_depth") (skf 4), .int 64 (skf 7)⟩, ⟨shf 5, .str (Str.ofString "most_code") (skf 5), .int 24576 (skf 8)⟩] sn
abbrev acO (ahf : Nat → Int) (akf : Nat → Tok) (sto : Addr) (adn : Nat) : Obj := dictOf [⟨ahf 1, .str (Str.ofString "nonce") (akf 1), .int 0 (akf 5)⟩, ⟨ahf 2, .str (Str.ofString "balance") (akf 2), .int 1000000000 (akf 6)⟩, ⟨ahf 3, .str (Str.ofString "code") (akf 3), .bytes #[] (akf 7)⟩, ⟨ahf 4, .str (Str.ofString "storage") (akf 4), .ref sto⟩] adn


section
variable {w : World} {mean : ExcName → Option Value} {mg mb : Str → Option Value} {A₀ A : Around} {cn : Str} {cs : Scope} {L a : Addr} {ccd : Value} {cl : List (Str × Addr)} {outer : List Env} {base h₀ : Heap} {m : Str → Option Value}
  {s : Shared} {Q E : Value → Shared → Prop}

theorem warm_spec {st sd se ac jl td dd wd ws od lg : Addr} {zf : Nat → Int} {tf : Nat → Tok} {nd : Nat} {wo so : Obj} {its : List Value} {jn : Nat} {tl : List (Addr × Obj)} {σ : List Ent} {x : Int} {tk : Tok}
    (C : Cx w mean mg mb A₀ A cn cs L a ccd cl outer base h₀ m s.heap 500 6000)
    (N : News h₀ L s.heap [(st, instObj 490 sd), (sd, (sdO zf tf se ac jl td dd wd ws od lg nd)), (wd, wo), (jl, listOf its.toArray jn)])
    (S : StOk w wo so its tl σ) (lo : (wd == sysModules) = false) (hz : σ.length ≤ 100)
    (D : SN st sd wd ws jl)
    (hret : ∀ h' tk' wo' its' jn' own, Kept s.heap h' [wd, jl] → h'.get? wd = some wo' → h'.get? jl = some (listOf its'.toArray jn') → (∀ p ∈ own, h'.get? p.1 = some p.2 ∧ s.heap.get? p.1 = none) →
      StOk w wo' so its' (tl ++ own) (put1 σ (.inl x)) → Q .none { s with heap := h', toks := tk' }) :
    wpAny (model PySem.Challenge.rw_pq0410_01.row.prog w) A (call (.ref 417) [.ref st, .int x tk]) Q E s := by
  have N0 := N
  obtain ⟨d1, d2, d3, d4, d5, d6, d7, d8, d9, d10⟩ := D
  have hw := S.one
  have hzo := ones_len σ
  have hzi := paired_len S.rows
  have hsz : its.toArray.size ≤ sizeLine := by rw [List.size_toArray, sizeLine_eq]; omega
  have hnd : σ.Nodup := S.nd
  by_cases hx : Ent.inl x ∈ σ
  · have hnew : (valueAt (ones σ) x).isSome = true := by rw [ones_has, decide_eq_true hx]
    walk_at "ENTER"
    rename_i g1 L1 h1' hG1 hU1 F1 N1 B1 X1 T1
    k_steps
    refine hret _ _ wo its jn [] ?_ ?_ ?_ ?_ ?_
    · exact kept_end N0 hG1 (by assumption) (keptN N1 (by walk_at "KEPT"))
    · exact News.get N1 (by k_mem)
    · exact News.get N1 (by k_mem)
    · simp
    · rw [List.append_nil]
      unfold put1
      rw [if_pos hx]
      exact S
  · have hnew : (valueAt (ones σ) x).isSome = false := by rw [ones_has, decide_eq_false hx]
    walk_at "ENTER"
    rename_i g1 L1 h1' hG1 hU1 F1 N1 B1 X1 T1
    k_steps
    rename_i o9 ho9 _ _ x9 d9 f9 g9 lx2 lx1 h9 F9 N9
    have eA : its.toArray.push (Value.ref x9) = (its ++ [Value.ref x9]).toArray := by simp
    rw [eA] at N9
    refine hret _ _ o9 (its ++ [Value.ref x9]) (jn + 1) [(x9, ?ox), (d9, ?od)] ?K1 ?K2 ?K3 ?K4 ?K5
    case K1 => exact kept_end N0 hG1 F9 (keptN N9 (by walk_at "KEPT"))
    case K2 => exact News.get N9 (by k_mem)
    case K3 => exact News.get N9 (by k_mem)
    case K4 =>
      refine List.forall_mem_cons.mpr ⟨⟨News.get N9 (by k_mem), fresh_end hG1 N9 (by k_mem) ?_⟩, List.forall_mem_cons.mpr ⟨⟨News.get N9 (by k_mem), fresh_end hG1 N9 (by k_mem) ?_⟩, List.forall_mem_nil _⟩⟩ <;>
      · simp only [List.map_cons, List.map_nil, List.mem_cons, List.not_mem_nil, or_false, not_or]
        refine ⟨?_, ?_, ?_, ?_⟩ <;> (show @Ne Nat _ _) <;> omega
    case K5 =>
      have e1 : put1 σ (Ent.inl x) = σ ++ [Ent.inl x] := if_neg hx
      rw [e1]
      obtain ⟨xs, P, hxs⟩ := S.prs
      refine ⟨?_, ⟨xs, P.mono (fun p hp => List.mem_append_left _ hp), by rw [prs_skip]; exact hxs⟩, PySem.Paired.snoc (paired_mono (fun _ _ h => h.mono fun p hp => List.mem_append_left _ hp) S.rows) (.one (List.mem_append_right _ (List.mem_cons_self ..)) (List.mem_append_right _ (List.mem_cons_of_mem _ (List.mem_cons_self ..)))), nodup_snoc S.nd hx⟩
      rw [← ones_add hx]
      exact ho9

theorem news_upd2 {h h' : Heap} {d1 d2 : Addr} {o1 o2 o1' o2' : Obj} {news : List (Addr × Obj)} {g1 : Obj → List (Addr × Obj)} {g2 : Obj → Obj → List (Addr × Obj)} (N : News h₀ L h news) (U1 : UpdF d1 o1 news g1) (U2 : ∀ o, UpdF d2 o2 (g1 o) (g2 o)) (k : Kept h h' [d1, d2])
    (e1 : h'.get? d1 = some o1') (e2 : h'.get? d2 = some o2') (hne : d1 ≠ d2) : News h₀ L h' (g2 o1' o2') := by
  obtain ⟨pre, post, e, hg, a1, a2⟩ := (U2 o1').split
  have hm2 : (d2, o2) ∈ news := by
    obtain ⟨p1, q1, rfl, hg1, b1, b2⟩ := U1.split
    have := updF_mem (U2 o1')
    rw [hg1] at this
    rcases List.mem_append.mp this with z | z
    · simp [z]
    · rcases List.mem_cons.mp z with z | z
      · exact absurd (congrArg Prod.fst z).symm hne
      · simp [z]
  have N1 : ∀ p ∈ g1 o1', p.1 ≠ d2 → h'.get? p.1 = some p.2 ∧ p.1 ≠ L ∧ h₀.get? p.1 = none := by
    obtain ⟨p1, q1, rfl, hg1, b1, b2⟩ := U1.split
    intro p hp hn
    rw [hg1] at hp
    rcases List.mem_append.mp hp with z | z
    · exact ⟨k _ _ (N p (by simp [z])).1 (by simp [b1 p z, hn]), (N p (by simp [z])).2⟩
    · rcases List.mem_cons.mp z with rfl | z
      · exact ⟨e1, (N (d1, o1) (by simp)).2⟩
      · exact ⟨k _ _ (N p (by simp [z])).1 (by simp [b2 p z, hn]), (N p (by simp [z])).2⟩
  rw [hg]
  intro p hp
  rcases List.mem_append.mp hp with z | z
  · exact N1 p (by rw [e]; simp [z]) (a1 p z)
  · rcases List.mem_cons.mp z with rfl | z
    · exact ⟨e2, (N _ hm2).2⟩
    · exact N1 p (by rw [e]; simp [z]) (a2 p z)
theorem upd2_old {h : Heap} {d1 d2 : Addr} {o1 o2 o1' o2' : Obj} {news : List (Addr × Obj)} {g1 : Obj → List (Addr × Obj)} {g2 : Obj → Obj → List (Addr × Obj)} (N : News h₀ L h news) (U1 : UpdF d1 o1 news g1) (U2 : ∀ o, UpdF d2 o2 (g1 o) (g2 o)) (hne : d1 ≠ d2) :
    ∀ p ∈ g2 o1' o2', h.get? p.1 ≠ none := by
  obtain ⟨pre, post, e, hg, a1, a2⟩ := (U2 o1').split
  have N1 : ∀ p ∈ g1 o1', h.get? p.1 ≠ none := by
    obtain ⟨p1, q1, rfl, hg1, b1, b2⟩ := U1.split
    intro p hp
    rw [hg1] at hp
    rcases List.mem_append.mp hp with z | z
    · rw [(N p (by simp [z])).1]; exact fun q => nomatch q
    · rcases List.mem_cons.mp z with rfl | z
      · rw [(N (d1, o1) (by simp)).1]; exact fun q => nomatch q
      · rw [(N p (by simp [z])).1]; exact fun q => nomatch q
  rw [hg]
  intro p hp
  rcases List.mem_append.mp hp with z | z
  · exact N1 p (by rw [e]; simp [z])
  · rcases List.mem_cons.mp z with rfl | z
    · exact N1 (d2, o2) (by rw [e]; simp)
    · exact N1 p (by rw [e]; simp [z])
theorem upd2_mem {d1 d2 : Addr} {o1 o2 : Obj} {news : List (Addr × Obj)} {g1 : Obj → List (Addr × Obj)} {g2 : Obj → Obj → List (Addr × Obj)} (U1 : UpdF d1 o1 news g1) (U2 : ∀ o, UpdF d2 o2 (g1 o) (g2 o)) (hne : d1 ≠ d2) : (d2, o2) ∈ news := by
  obtain ⟨p1, q1, rfl, hg1, b1, b2⟩ := U1.split
  have := updF_mem (U2 o1)
  rw [hg1] at this
  exact this
theorem news_app {h : Heap} {n1 n2 : List (Addr × Obj)} (N1 : News h₀ L h n1) (N2 : News h₀ L h n2) : News h₀ L h (n1 ++ n2) := fun p hp => (List.mem_append.mp hp).elim (N1 p) (N2 p)
theorem tup_off2 {h h' : Heap} {d1 d2 : Addr} {o1 o2 : Obj} (e1 : h.get? d1 = some o1) (e2 : h.get? d2 = some o2) (c1 : o1.cls ≠ .type "tuple") (c2 : o2.cls ≠ .type "tuple") (k : Kept h h' [d1, d2]) : ∀ t its, IsTup h t its → IsTup h' t its := by
  rintro t its ⟨o, ho, hc, r⟩
  refine ⟨o, k _ _ ho ?_, hc, r⟩
  simp only [List.mem_cons, List.not_mem_nil, or_false, not_or]
  constructor
  · rintro rfl; rw [e1] at ho; cases ho; exact c1 hc
  · rintro rfl; rw [e2] at ho; cases ho; exact c2 hc

theorem warm_led {st sd se ac jl td dd wd ws od lg : Addr} {zf : Nat → Int} {tf : Nat → Tok} {nd : Nat} {wo so : Obj} {its : List Value} {jn : Nat} {tl news : List (Addr × Obj)} {σ : List Ent} {x : Int} {tk : Tok} {g1 : Obj → List (Addr × Obj)} {g2 : Obj → Obj → List (Addr × Obj)}
    (C : Cx w mean mg mb A₀ A cn cs L a ccd cl outer base h₀ m s.heap 500 6000)
    (N : News h₀ L s.heap news) (U1 : UpdF wd wo news g1) (U2 : ∀ o, UpdF jl (listOf its.toArray jn) (g1 o) (g2 o)) (m1 : (st, instObj 490 sd) ∈ news) (m2 : (sd, (sdO zf tf se ac jl td dd wd ws od lg nd)) ∈ news)
    (S : StOk w wo so its tl σ) (lo : (wd == sysModules) = false) (hz : σ.length ≤ 100) (D : SN st sd wd ws jl)
    (hret : ∀ h' tk' wo' its' jn' own, Kept s.heap h' [wd, jl] → (∀ t its, IsTup s.heap t its → IsTup h' t its) → Fr h₀ L h' m → News h₀ L h' (g2 wo' (listOf its'.toArray jn') ++ own) → (∀ p ∈ g2 wo' (listOf its'.toArray jn'), ∀ q ∈ own, q.1 ≠ p.1) →
      StOk w wo' so its' (tl ++ own) (put1 σ (.inl x)) → Q .none { s with heap := h', toks := tk' }) :
    wpAny (model PySem.Challenge.rw_pq0410_01.row.prog w) A (call (.ref 417) [.ref st, .int x tk]) Q E s := by
  have hne : wd ≠ jl := D.d6
  have k1 := N _ (updF_mem U1)
  have k2 := N _ (upd2_mem U1 U2 hne)
  have N4 : News h₀ L s.heap [(st, instObj 490 sd), (sd, (sdO zf tf se ac jl td dd wd ws od lg nd)), (wd, wo), (jl, listOf its.toArray jn)] :=
    List.forall_mem_cons.mpr ⟨N _ m1, List.forall_mem_cons.mpr ⟨N _ m2, List.forall_mem_cons.mpr ⟨k1, List.forall_mem_cons.mpr ⟨k2, List.forall_mem_nil _⟩⟩⟩⟩
  refine warm_spec C N4 S lo hz D fun h' tk' wo' its' jn' own K e1 e2 ho S' => ?_
  have F2 := C.after K (by simp [Ne.symm k1.2.1, Ne.symm k2.2.1]) (by simp [k1.2.2, k2.2.2])
  have N2 := news_upd2 N U1 U2 K e1 e2 hne
  obtain ⟨_, _, ⟨hc1, _⟩, _⟩ := S.one
  refine hret h' tk' wo' its' jn' own K (tup_off2 k1.1 k2.1 (by rw [hc1]; decide) (by rw [show (listOf its.toArray jn).cls = Value.type "list" from rfl]; decide) K) F2 (News.perm (news_adds C.F N2 ho) (fun p hp => (List.mem_append.mp hp).elim (fun z => List.mem_append_right _ z) fun z => List.mem_append_left _ z)) ?_ S'
  intro p hp q hq he
  have := upd2_old N U1 U2 hne p hp
  rw [← he] at this
  exact this (ho q hq).2
end

example : True := by
  k_with "compareOp NotIn ref ref" => (k_here; k_dflt (refine' notin_pairsB ?zzyN ?zzym ?zzyP ?zzyo ?zzya ?zzyk ?zzylo ?zzyu ?zzyb ?_; (case zzyN => k_asm); (case zzym => k_mem); (case zzyP => k_asm); (case zzyo => k_extra "SUBT"); (case zzya => k_mem); (case zzyk => exact tupKey2); (case zzylo => k_asm); (case zzyu => exact Nat.le_of_ble_eq_true rfl); (case zzyb => with_reducible assumption)); (try dsimp only [Bool.not_true, Bool.not_false]))
  k_with "compareOp In ref ref" => (k_here; k_dflt (refine' in_pairsB ?zzyN ?zzym ?zzyP ?zzyo ?zzya ?zzyk ?zzylo ?zzyu ?zzyb ?_; (case zzyN => k_asm); (case zzym => k_mem); (case zzyP => k_asm); (case zzyo => k_extra "SUBT"); (case zzya => k_mem); (case zzyk => exact tupKey2); (case zzylo => k_asm); (case zzyu => exact Nat.le_of_ble_eq_true rfl); (case zzyb => with_reducible assumption)))
  k_with "compareOp In int ref" => (k_here; k_dflt (refine' in_ones ?zzyN ?zzym ?zzyd ?zzylo ?zzyb ?_; (case zzyN => k_asm); (case zzym => k_mem); (case zzyd => k_asm); (case zzylo => k_asm); (case zzyb => with_reducible assumption)))
  k_with "setItem ref ref" => ((k_here; k_dflt (refine' set_pairs ?zzyF ?zzyN ?zzyU ?zzyP ?zzyo ?zzya ?zzyk ?zzyu ?zzyn ?zzyz ?_; (case zzyF => k_asm); (case zzyN => k_asm); (case zzyU => k_updF); (case zzyP => k_asm); (case zzyo => k_extra "SUBT"); (case zzya => k_mem); (case zzyk => exact tupKey2); (case zzyu => exact Nat.le_of_ble_eq_true rfl); (case zzyn => with_reducible assumption); (case zzyz => with_reducible assumption)); intro h' so' F' N' P'; (try dsimp only at N')); (revert h' so' F' N' P'); intros)
  trivial

section
variable {w : World} {mean : ExcName → Option Value} {mg mb : Str → Option Value} {A₀ A : Around} {cn : Str} {cs : Scope} {L a : Addr} {ccd : Value} {cl : List (Str × Addr)} {outer : List Env} {base h₀ : Heap} {m : Str → Option Value}
  {s : Shared} {Q E : Value → Shared → Prop}

theorem warmSlot_spec {st sd se ac jl td dd wd ws od lg : Addr} {zf : Nat → Int} {tf : Nat → Tok} {nd : Nat} {wo so : Obj} {its : List Value} {jn : Nat} {tl : List (Addr × Obj)} {σ : List Ent} {x y : Int} {tka tkb : Tok}
    (C : Cx w mean mg mb A₀ A cn cs L a ccd cl outer base h₀ m s.heap 500 6000)
    (N : News h₀ L s.heap ((st, instObj 490 sd) :: (sd, (sdO zf tf se ac jl td dd wd ws od lg nd)) :: (ws, so) :: (jl, listOf its.toArray jn) :: tl))
    (o1 : ∀ p ∈ tl, p.1 ≠ ws) (o2 : ∀ p ∈ tl, p.1 ≠ jl)
    (S : StOk w wo so its tl σ) (lo : (ws == sysModules) = false) (hz : σ.length ≤ 100)
    (D : SN st sd wd ws jl)
    (hret : ∀ h' tk' so' its' jn' own, Kept s.heap h' [ws, jl] → h'.get? ws = some so' → h'.get? jl = some (listOf its'.toArray jn') → (∀ p ∈ own, h'.get? p.1 = some p.2 ∧ s.heap.get? p.1 = none) →
      StOk w wo so' its' (tl ++ own) (put1 σ (.inr (x, y))) → Q .none { s with heap := h', toks := tk' }) :
    wpAny (model PySem.Challenge.rw_pq0410_01.row.prog w) A (call (.ref 431) [.ref st, .int x tka, .int y tkb]) Q E s := by
  have N0 := N
  obtain ⟨d1, d2, d3, d4, d5, d6, d7, d8, d9, d10⟩ := D
  obtain ⟨xs, P, hxs⟩ := S.prs
  have hxl : xs.length ≤ sizeLine := by
    have := prs_len σ
    have e : xs.length = (prs σ).length := by rw [← hxs, List.length_map]
    rw [sizeLine_eq]; omega
  have hzi := paired_len S.rows
  have hsz : its.toArray.size ≤ sizeLine := by rw [List.size_toArray, sizeLine_eq]; omega
  have hnd : σ.Nodup := S.nd
  by_cases hx : Ent.inr (x, y) ∈ σ
  · have hnew : (atKey xs [x, y]).isSome = true := by rw [prs_has hxs, decide_eq_true hx]
    walk_at "ENTER"
    rename_i g1 L1 h1' hG1 hU1 F1 N1 B1 X1 T1
    k_steps
    rename_i D1 h9 F9 N9 l9
    refine hret _ _ so its jn [] ?_ ?_ ?_ ?_ ?_
    · exact kept_end N0 hG1 F9 (keptN N9 (by walk_at "KEPT"))
    · exact News.get N9 (by k_mem)
    · exact News.get N9 (by k_mem)
    · simp
    · rw [List.append_nil]
      unfold put1
      rw [if_pos hx]
      exact S
  · have hnew : (atKey xs [x, y]).isSome = false := by rw [prs_has hxs, decide_eq_false hx]
    have hnone : atKey xs [x, y] = none := prs_none hxs hx
    walk_at "ENTER"
    rename_i g1 L1 h1' hG1 hU1 F1 N1 B1 X1 T1
    k_steps
    rename_i D1 h91 l91 tk91 D2 h92 l92 h93 so9 P9 _ _ x9 d9 f9 g9 lx2 lx1 h9 F9 N9
    have eA : its.toArray.push (Value.ref x9) = (its ++ [Value.ref x9]).toArray := by simp
    rw [eA] at N9
    have hAd : AllLt d9 tl := lx1.2.2.2.2.2.2
    have hAx : AllLt x9 tl := allLt_up hAd lx2
    have hA2 : AllLt D2 tl := l92.2.2.2.2.2
    refine hret _ _ so9 (its ++ [Value.ref x9]) (jn + 1) [(x9, ?ox), (d9, ?od), (D2, { cls := .type "tuple", data := .seq [Value.int x tka, Value.int y tkb].toArray })] ?K1 ?K2 ?K3 ?K4 ?K5
    case K1 => exact kept_end N0 hG1 F9 (keptN N9 (by walk_at "KEPT"))
    case K2 => exact News.get N9 (by k_mem)
    case K3 => exact News.get N9 (by k_mem)
    case K4 =>
      refine List.forall_mem_cons.mpr ⟨⟨News.get N9 (by k_mem), fresh_end2 hG1 N9 (by k_mem) ?_⟩, List.forall_mem_cons.mpr ⟨⟨News.get N9 (by k_mem), fresh_end2 hG1 N9 (by k_mem) ?_⟩, List.forall_mem_cons.mpr ⟨⟨News.get N9 (by k_mem), fresh_end2 hG1 N9 (by k_mem) ?_⟩, List.forall_mem_nil _⟩⟩⟩ <;> k_all
    case K5 =>
      have e1 : put1 σ (Ent.inr (x, y)) = σ ++ [Ent.inr (x, y)] := if_neg hx
      rw [e1]
      refine ⟨by rw [ones_skip]; exact S.one, ⟨_, P9.mono ?_, by rw [List.map_append, hxs, prs_add]; rfl⟩, PySem.Paired.snoc (paired_mono (fun _ _ h => h.mono fun p hp => List.mem_append_left _ hp) S.rows) (.two (List.mem_append_right _ (List.mem_cons_self ..)) (List.mem_append_right _ (List.mem_cons_of_mem _ (List.mem_cons_self ..)))), nodup_snoc S.nd hx⟩
      intro p hp
      rcases List.mem_cons.mp hp with rfl | hp
      · exact List.mem_append_right _ (List.mem_cons_of_mem _ (List.mem_cons_of_mem _ (List.mem_cons_self ..)))
      · exact List.mem_append_left _ hp
end


section
variable {w : World} {mean : ExcName → Option Value} {mg mb : Str → Option Value} {A₀ A : Around} {cn : Str} {cs : Scope} {L a : Addr} {ccd : Value} {cl : List (Str × Addr)} {outer : List Env} {base h₀ : Heap} {m : Str → Option Value}
  {s : Shared} {Q E : Value → Shared → Prop}

theorem warmSlot_led {st sd se ac jl td dd wd ws od lg : Addr} {zf : Nat → Int} {tf : Nat → Tok} {nd : Nat} {wo so : Obj} {its : List Value} {jn : Nat} {tl news : List (Addr × Obj)} {σ : List Ent} {x y : Int} {tka tkb : Tok} {g1 : Obj → List (Addr × Obj)} {g2 : Obj → Obj → List (Addr × Obj)}
    (C : Cx w mean mg mb A₀ A cn cs L a ccd cl outer base h₀ m s.heap 500 6000)
    (N : News h₀ L s.heap news) (U1 : UpdF ws so news g1) (U2 : ∀ o, UpdF jl (listOf its.toArray jn) (g1 o) (g2 o)) (m1 : (st, instObj 490 sd) ∈ news) (m2 : (sd, (sdO zf tf se ac jl td dd wd ws od lg nd)) ∈ news)
    (S : StOk w wo so its tl σ) (lo : (ws == sysModules) = false) (hz : σ.length ≤ 100) (D : SN st sd wd ws jl) (ht : ∀ p ∈ tl, p ∈ news)
    (o1 : ∀ p ∈ tl, p.1 ≠ ws) (o2 : ∀ p ∈ tl, p.1 ≠ jl)
    (hret : ∀ h' tk' so' its' jn' own, Kept s.heap h' [ws, jl] → (∀ t its, IsTup s.heap t its → IsTup h' t its) → Fr h₀ L h' m → News h₀ L h' (g2 so' (listOf its'.toArray jn') ++ own) → (∀ p ∈ g2 so' (listOf its'.toArray jn'), ∀ q ∈ own, q.1 ≠ p.1) →
      StOk w wo so' its' (tl ++ own) (put1 σ (.inr (x, y))) → Q .none { s with heap := h', toks := tk' }) :
    wpAny (model PySem.Challenge.rw_pq0410_01.row.prog w) A (call (.ref 431) [.ref st, .int x tka, .int y tkb]) Q E s := by
  have hne : ws ≠ jl := D.d10
  have k1 := N _ (updF_mem U1)
  have k2 := N _ (upd2_mem U1 U2 hne)
  have N4 : News h₀ L s.heap ((st, instObj 490 sd) :: (sd, (sdO zf tf se ac jl td dd wd ws od lg nd)) :: (ws, so) :: (jl, listOf its.toArray jn) :: tl) :=
    List.forall_mem_cons.mpr ⟨N _ m1, List.forall_mem_cons.mpr ⟨N _ m2, List.forall_mem_cons.mpr ⟨k1, List.forall_mem_cons.mpr ⟨k2, fun p hp => N p (ht p hp)⟩⟩⟩⟩
  refine warmSlot_spec C N4 o1 o2 S lo hz D fun h' tk' so' its' jn' own K e1 e2 ho S' => ?_
  have F2 := C.after K (by simp [Ne.symm k1.2.1, Ne.symm k2.2.1]) (by simp [k1.2.2, k2.2.2])
  have N2 := news_upd2 N U1 U2 K e1 e2 hne
  obtain ⟨_, ⟨hc1, _⟩, _⟩ := S.prs
  refine hret h' tk' so' its' jn' own K (tup_off2 k1.1 k2.1 (by rw [hc1.1]; decide) (by rw [show (listOf its.toArray jn).cls = Value.type "list" from rfl]; decide) K) F2 (News.perm (news_adds C.F N2 ho) (fun p hp => (List.mem_append.mp hp).elim (fun z => List.mem_append_right _ z) fun z => List.mem_append_left _ z)) ?_ S'
  intro p hp q hq he
  have := upd2_old N U1 U2 hne p hp
  rw [← he] at this
  exact this (ho q hq).2

theorem isWarm_spec {st sd se ac jl td dd wd ws od lg : Addr} {zf : Nat → Int} {tf : Nat → Tok} {nd : Nat} {wo so : Obj} {its : List Value} {tl : List (Addr × Obj)} {σ : List Ent} {x : Int} {tka : Tok}
    (C : Cx w mean mg mb A₀ A cn cs L a ccd cl outer base h₀ m s.heap 500 6000)
    (N : News h₀ L s.heap [(st, instObj 490 sd), (sd, (sdO zf tf se ac jl td dd wd ws od lg nd)), (wd, wo)])
    (S : StOk w wo so its tl σ) (lo : (wd == sysModules) = false) (d1 : @Ne Nat st sd) (d2 : @Ne Nat st wd) (d4 : @Ne Nat sd wd)
    (hret : ∀ h' tk', Kept s.heap h' [] → Q (.bool (decide (Ent.inl x ∈ σ))) { s with heap := h', toks := tk' }) :
    wpAny (model PySem.Challenge.rw_pq0410_01.row.prog w) A (call (.ref 410) [.ref st, .int x tka]) Q E s := by
  have N0 := N
  have hw := S.one
  have hnew := ones_has σ x
  walk_at "ENTER"
  rename_i g1 L1 h1' hG1 hU1 F1 N1 B1 X1 T1
  k_steps
  show Q _ _
  exact hret _ _ (kept_end N0 hG1 (by assumption) (keptN (by assumption) (by walk_at "KEPT")))

theorem isWarmSlot_spec {st sd se ac jl td dd wd ws od lg : Addr} {zf : Nat → Int} {tf : Nat → Tok} {nd : Nat} {wo so : Obj} {its : List Value} {tl : List (Addr × Obj)} {σ : List Ent} {x y : Int} {tka tkb : Tok}
    (C : Cx w mean mg mb A₀ A cn cs L a ccd cl outer base h₀ m s.heap 500 6000)
    (N : News h₀ L s.heap ((st, instObj 490 sd) :: (sd, (sdO zf tf se ac jl td dd wd ws od lg nd)) :: (ws, so) :: tl))
    (S : StOk w wo so its tl σ) (lo : (ws == sysModules) = false) (d1 : @Ne Nat st sd) (d7 : @Ne Nat st ws) (d8 : @Ne Nat sd ws)
    (hret : ∀ h' tk', Kept s.heap h' [] → Q (.bool (decide (Ent.inr (x, y) ∈ σ))) { s with heap := h', toks := tk' }) :
    wpAny (model PySem.Challenge.rw_pq0410_01.row.prog w) A (call (.ref 424) [.ref st, .int x tka, .int y tkb]) Q E s := by
  have N0 := N
  obtain ⟨xs, P, hxs⟩ := S.prs
  have hnew := prs_has hxs x y
  walk_at "ENTER"
  rename_i g1 L1 h1' hG1 hU1 F1 N1 B1 X1 T1
  k_steps
  show Q _ _
  exact hret _ _ (kept_end N0 hG1 (by assumption) (keptN (by assumption) (by walk_at "KEPT")))
theorem news_kept {h h' : Heap} {news : List (Addr × Obj)} (N : News h₀ L h news) (k : Kept h h' []) : News h₀ L h' news := fun p hp => ⟨k _ _ (N p hp).1 (by simp), (N p hp).2⟩

theorem isWarm_led {st sd se ac jl td dd wd ws od lg : Addr} {zf : Nat → Int} {tf : Nat → Tok} {nd : Nat} {wo so : Obj} {its : List Value} {tl news : List (Addr × Obj)} {σ : List Ent} {x : Int} {tka : Tok}
    (C : Cx w mean mg mb A₀ A cn cs L a ccd cl outer base h₀ m s.heap 500 6000)
    (N : News h₀ L s.heap news) (m1 : (st, instObj 490 sd) ∈ news) (m2 : (sd, (sdO zf tf se ac jl td dd wd ws od lg nd)) ∈ news) (m3 : (wd, wo) ∈ news)
    (S : StOk w wo so its tl σ) (lo : (wd == sysModules) = false) (D : SN st sd wd ws jl)
    (hret : ∀ h' tk', Kept s.heap h' [] → Fr h₀ L h' m → News h₀ L h' news → Q (.bool (decide (Ent.inl x ∈ σ))) { s with heap := h', toks := tk' }) :
    wpAny (model PySem.Challenge.rw_pq0410_01.row.prog w) A (call (.ref 410) [.ref st, .int x tka]) Q E s := by
  have N4 : News h₀ L s.heap [(st, instObj 490 sd), (sd, (sdO zf tf se ac jl td dd wd ws od lg nd)), (wd, wo)] :=
    List.forall_mem_cons.mpr ⟨N _ m1, List.forall_mem_cons.mpr ⟨N _ m2, List.forall_mem_cons.mpr ⟨N _ m3, List.forall_mem_nil _⟩⟩⟩
  exact isWarm_spec C N4 S lo D.d1 D.d2 D.d4 fun h' tk' K => hret h' tk' K (C.after K (by simp) (by simp)) (news_kept N K)

theorem isWarmSlot_led {st sd se ac jl td dd wd ws od lg : Addr} {zf : Nat → Int} {tf : Nat → Tok} {nd : Nat} {wo so : Obj} {its : List Value} {tl news : List (Addr × Obj)} {σ : List Ent} {x y : Int} {tka tkb : Tok}
    (C : Cx w mean mg mb A₀ A cn cs L a ccd cl outer base h₀ m s.heap 500 6000)
    (N : News h₀ L s.heap news) (m1 : (st, instObj 490 sd) ∈ news) (m2 : (sd, (sdO zf tf se ac jl td dd wd ws od lg nd)) ∈ news) (m3 : (ws, so) ∈ news) (ht : ∀ p ∈ tl, p ∈ news)
    (S : StOk w wo so its tl σ) (lo : (ws == sysModules) = false) (D : SN st sd wd ws jl)
    (hret : ∀ h' tk', Kept s.heap h' [] → Fr h₀ L h' m → News h₀ L h' news → Q (.bool (decide (Ent.inr (x, y) ∈ σ))) { s with heap := h', toks := tk' }) :
    wpAny (model PySem.Challenge.rw_pq0410_01.row.prog w) A (call (.ref 424) [.ref st, .int x tka, .int y tkb]) Q E s := by
  have N4 : News h₀ L s.heap ((st, instObj 490 sd) :: (sd, (sdO zf tf se ac jl td dd wd ws od lg nd)) :: (ws, so) :: tl) :=
    List.forall_mem_cons.mpr ⟨N _ m1, List.forall_mem_cons.mpr ⟨N _ m2, List.forall_mem_cons.mpr ⟨N _ m3, fun p hp => N p (ht p hp)⟩⟩⟩
  exact isWarmSlot_spec C N4 S lo D.d1 D.d7 D.d8 fun h' tk' K => hret h' tk' K (C.after K (by simp) (by simp)) (news_kept N K)
end

theorem IsTup.kept0 {h h' : Heap} {t : Addr} {its : Array Value} (k : Kept h h' []) (x : IsTup h t its) : IsTup h' t its :=
  let ⟨o, ho, r⟩ := x; ⟨o, k _ _ ho (by simp), r⟩

example : True := by
  k_with "J6" => ((intro h' tk' K' F' N'; (try (have T9' := IsTup.kept0 K' (by assumption)))); (revert h' tk' K' F' N'); intros; (try k_fold))
  k_with "J7" => ((intro h' tk' t' K' F' N'; (try (have T9' := IsTup.kept0 K' (by assumption)))); (revert h' tk' t' K' F' N'); intros; (try k_fold))
  k_with "call ref" => (k_here; (with_reducible show wpAny _ _ (call (Value.ref 417) _) _ _ _); k_dflt (refine' warm_led ?zzzC ?zzyN ?zzyU ?zzyV ?zzym1 ?zzym2 ?zzyS ?zzylo ?zzyz ?zzyD ?_; (case zzzC => k_extra "CX"); (case zzyN => k_asm); (case zzym1 => k_mem); (case zzym2 => k_mem); (case zzyU => k_updF); (case zzyV => intro _; k_updF); (case zzyS => k_asm); (case zzylo => k_asm); (case zzyz => assumption); (case zzyD => assumption)); k_extra "J4")
  k_with "call ref" => (k_here; (with_reducible show wpAny _ _ (call (Value.ref 431) _) _ _ _); k_dflt (refine' warmSlot_led ?zzzC ?zzyN ?zzyU ?zzyV ?zzym1 ?zzym2 ?zzyS ?zzylo ?zzyz ?zzyD ?zzyt ?zzy1 ?zzy2 ?_; (case zzzC => k_extra "CX"); (case zzyN => k_asm); (case zzym1 => k_mem); (case zzym2 => k_mem); (case zzyU => k_updF); (case zzyV => intro _; k_updF); (case zzyS => k_asm); (case zzylo => k_asm); (case zzyz => assumption); (case zzyD => assumption); (case zzyt => k_extra "SUBT"); (case zzy1 => assumption); (case zzy2 => assumption)); k_extra "J5")
  k_with "call ref" => (k_here; (with_reducible show wpAny _ _ (call (Value.ref 410) _) _ _ _); k_dflt (refine' isWarm_led ?zzzC ?zzyN ?zzym1 ?zzym2 ?zzym3 ?zzyS ?zzylo ?zzyD ?_; (case zzzC => k_extra "CX"); (case zzyN => k_asm); (case zzym1 => k_mem); (case zzym2 => k_mem); (case zzym3 => k_mem); (case zzyS => k_asm); (case zzylo => k_asm); (case zzyD => assumption)); k_extra "J6")
  k_with "call ref" => (k_here; (with_reducible show wpAny _ _ (call (Value.ref 424) _) _ _ _); k_dflt (refine' isWarmSlot_led ?zzzC ?zzyN ?zzym1 ?zzym2 ?zzym3 ?zzyt ?zzyS ?zzylo ?zzyD ?_; (case zzzC => k_extra "CX"); (case zzyN => k_asm); (case zzym1 => k_mem); (case zzym2 => k_mem); (case zzym3 => k_mem); (case zzyt => k_extra "SUBT"); (case zzyS => k_asm); (case zzylo => k_asm); (case zzyD => assumption)); k_extra "J6")
  trivial

/-- a stop for the walk -/
structure Hold (P : Prop) : Prop where
  out : P
def puts (σ : List Ent) (l : List Ent) : List Ent := l.foldl put1 σ
theorem puts_app (σ : List Ent) (l l' : List Ent) : puts σ (l ++ l') = puts (puts σ l) l' := List.foldl_append
theorem puts_snoc (σ : List Ent) (l : List Ent) (e : Ent) : puts σ (l ++ [e]) = put1 (puts σ l) e := by rw [puts_app]; rfl
theorem puts_mem {e : Ent} : ∀ {l σ : List Ent}, e ∈ puts σ l ↔ e ∈ σ ∨ e ∈ l
  | [], σ => by simp [puts]
  | f :: l, σ => by
    show e ∈ puts (put1 σ f) l ↔ _
    rw [puts_mem, put1_mem, List.mem_cons, or_assoc]
theorem puts_len : ∀ (l σ : List Ent), (puts σ l).length ≤ σ.length + l.length
  | [], σ => by simp [puts]
  | f :: l, σ => by
    show (puts (put1 σ f) l).length ≤ _
    have := puts_len l (put1 σ f)
    have h2 := @put1_len σ f
    rw [List.length_cons]; omega
theorem puts_take (l : List Ent) (i : Nat) : (puts [] (l.take i)).length ≤ l.length := by
  have := puts_len (l.take i) []
  have h3 := List.length_take_le i l
  have h2 := List.length_take_le' i l
  rw [List.length_nil] at this
  omega
def rowEnts (r : Int × List Int) : List Ent := .inl r.1 :: r.2.map fun b => .inr (r.1, b)
def ents (who tips : Int) (goal : Option Int) (rs : List (Int × List Int)) : List Ent :=
  [.inl who, .inl tips, .inl 1, .inl 4, .inl 5] ++ (goal.toList.map Ent.inl ++ rs.flatMap rowEnts)
theorem rowEnts_len (r : Int × List Int) : (rowEnts r).length = r.2.length + 1 := by simp [rowEnts]
theorem flat_len : ∀ (rs : List (Int × List Int)), (∀ r ∈ rs, r.2.length ≤ 3) → (rs.flatMap rowEnts).length ≤ 4 * rs.length
  | [], _ => by simp
  | r :: rs, h => by
    have := flat_len rs fun q hq => h q (List.mem_cons_of_mem _ hq)
    have h2 := h r (List.mem_cons_self ..)
    rw [List.flatMap_cons, List.length_append, rowEnts_len, List.length_cons]; omega
theorem ents_le (who tips : Int) (goal : Option Int) (rs : List (Int × List Int)) (i : Nat) (h3 : rs.length ≤ 3) (hr : ∀ r ∈ rs, r.2.length ≤ 3) : (puts [] (([who, tips, 1, 4, 5].map Ent.inl ++ goal.toList.map Ent.inl) ++ (rs.take i).flatMap rowEnts)).length ≤ 80 := by
  have q1 := puts_len (([who, tips, 1, 4, 5].map Ent.inl ++ goal.toList.map Ent.inl) ++ (rs.take i).flatMap rowEnts) []
  have q2 := flat_len (rs.take i) fun r h => hr r (List.mem_of_mem_take h)
  have q3 := List.length_take_le' i rs
  have q4 : (goal.toList.map Ent.inl).length ≤ 1 := by cases goal <;> simp
  have q5 : ([who, tips, 1, 4, 5].map Ent.inl).length = 5 := rfl
  rw [List.length_append, List.length_append, List.length_nil] at q1
  omega
theorem off_app {news news' own : List (Addr × Obj)} {I : Addr} (h : ∀ p ∈ news, p.1 ≠ I) (ho : ∀ p ∈ own, p.1 ≠ I) (e : news'.map (·.1) = news.map (·.1) ++ own.map (·.1)) : ∀ p ∈ news', p.1 ≠ I := fun p hp => by
  have q : p.1 ∈ news.map (·.1) ++ own.map (·.1) := e ▸ List.mem_map_of_mem hp
  rcases List.mem_append.mp q with q | q
  · obtain ⟨r, hr, hq⟩ := List.mem_map.mp q
    rw [← hq]; exact h r hr
  · obtain ⟨r, hr, hq⟩ := List.mem_map.mp q
    rw [← hq]; exact ho r hr
/-- the goal, as a value -/
def GoalIs (v : Value) (goal : Option Int) : Prop := (goal = none ∧ v = .none) ∨ ∃ i t, goal = some i ∧ v = .int i t
/-- none of these is one of those -/
structure Offs (tl : List (Addr × Obj)) (st sd wd ws jl : Addr) : Prop where
  e1 : ∀ p ∈ tl, p.1 ≠ ws
  e2 : ∀ p ∈ tl, p.1 ≠ jl
  e3 : ∀ p ∈ tl, p.1 ≠ st
  e4 : ∀ p ∈ tl, p.1 ≠ sd
  e5 : ∀ p ∈ tl, p.1 ≠ wd
section
variable {w : World} {wd ws jl I : Addr} {nb nw own news : List (Addr × Obj)} {σ : List Ent} {o1 o2 o3 o4 oI : Obj}
theorem Off3.grow (h : ∀ p ∈ news, ∀ q ∈ own, q.1 ≠ p.1) (m1 : (jl, o1) ∈ news) (m2 : (wd, o2) ∈ news) (m3 : (ws, o3) ∈ news) (O : Off3 jl wd ws nw) : Off3 jl wd ws (nw ++ own) := fun q hq =>
  (List.mem_append.mp hq).elim (O q) fun hq => ⟨h _ m1 q hq, h _ m2 q hq, h _ m3 q hq⟩
theorem hn_warm {o1' o2' o3' : Obj} (h : ∀ p ∈ (jl, o1) :: (wd, o2) :: (ws, o3) :: nw, p.1 ≠ I) (ho : ∀ q ∈ own, q.1 ≠ I) : ∀ p ∈ (jl, o1') :: (wd, o2') :: (ws, o3') :: (nw ++ own), p.1 ≠ I :=
  List.forall_mem_cons.mpr ⟨h (jl, o1) (.head _), List.forall_mem_cons.mpr ⟨h (wd, o2) (.tail _ (.head _)), List.forall_mem_cons.mpr ⟨h (ws, o3) (.tail _ (.tail _ (.head _))), fun q hq => (List.mem_append.mp hq).elim (fun z => h q (.tail _ (.tail _ (.tail _ z)))) (ho q)⟩⟩⟩
theorem StOk.mono {wo so : Obj} {its : List Value} {own own' : List (Addr × Obj)} {σ : List Ent} (S : StOk w wo so its own σ) (hs : ∀ p ∈ own, p ∈ own') : StOk w wo so its own' σ :=
  ⟨S.one, let ⟨xs, P, e⟩ := S.prs; ⟨xs, P.mono hs, e⟩, paired_mono (fun _ _ => JRow.mono hs) S.rows, S.nd⟩
/-- how things stand while it is made warm -/
inductive WJ (w : World) (wd ws jl : Addr) (nb : List (Addr × Obj)) (σ : List Ent) : List (Addr × Obj) → Prop
  | mk {wo so : Obj} {its : List Value} {jn : Nat} {nw : List (Addr × Obj)} (S : StOk w wo so its nw σ) (O : Off3 jl wd ws nw) (I : ∀ p ∈ nb, p ∈ nw) : WJ w wd ws jl nb σ ((jl, listOf its.toArray jn) :: (wd, wo) :: (ws, so) :: nw)
theorem WJ.elim {P : List (Addr × Obj) → Prop} (h : WJ w wd ws jl nb σ news) (k : ∀ wo so its jn nw, StOk w wo so its nw σ → Off3 jl wd ws nw → (∀ p ∈ nb, p ∈ nw) → P ((jl, listOf its.toArray jn) :: (wd, wo) :: (ws, so) :: nw)) : P news := by
  obtain ⟨S, O, I⟩ := h
  exact k _ _ _ _ _ S O I
inductive WJI (w : World) (wd ws jl : Addr) (nb : List (Addr × Obj)) (I : Addr) (oI : Obj) (σ : List Ent) : List (Addr × Obj) → Prop
  | mk {wo so : Obj} {its : List Value} {jn : Nat} {nw : List (Addr × Obj)} (S : StOk w wo so its nw σ) (O : Off3 jl wd ws nw) (H : ∀ p ∈ nb, p ∈ nw) (hI : ∀ p ∈ nw, p.1 ≠ I) : WJI w wd ws jl nb I oI σ ((I, oI) :: (jl, listOf its.toArray jn) :: (wd, wo) :: (ws, so) :: nw)
theorem WJI.elim {P : List (Addr × Obj) → Prop} (h : WJI w wd ws jl nb I oI σ news) (k : ∀ wo so its jn nw, StOk w wo so its nw σ → Off3 jl wd ws nw → (∀ p ∈ nb, p ∈ nw) → (∀ p ∈ nw, p.1 ≠ I) → P ((I, oI) :: (jl, listOf its.toArray jn) :: (wd, wo) :: (ws, so) :: nw)) : P news := by
  obtain ⟨S, O, H, hI⟩ := h
  exact k _ _ _ _ _ S O H hI
theorem goal_at {v : Value} {goal : Option Int} {P : Value → Prop} (h : GoalIs v goal) (k1 : goal = none → P .none) (k2 : ∀ i t, goal = some i → P (.int i t)) : P v := by
  rcases h with ⟨e, rfl⟩ | ⟨i, t, e, rfl⟩
  · exact k1 e
  · exact k2 i t e
end
section
variable {w : World} {mean : ExcName → Option Value} {mg mb : Str → Option Value} {A₀ A : Around} {cn : Str} {cs : Scope} {L a : Addr} {ccd : Value} {cl : List (Str × Addr)} {outer : List Env} {base h₀ : Heap} {m : Str → Option Value}
  {s : Shared} {Q E : Value → Shared → Prop}

theorem news_back {g h h' : Heap} {L' : Addr} {news own : List (Addr × Obj)} (hG : ∀ b o, h.get? b = some o → b ∉ news.map (·.1) → g.get? b = some o) (F : Fr h₀ L h m) (N0 : News h₀ L h news) (N' : News g L' h' own) : News h₀ L h' own := fun p hp => by
  refine ⟨(N' p hp).1, ?_⟩
  by_cases z : p.1 ∈ news.map (·.1)
  · obtain ⟨q, hq, e⟩ := List.mem_map.mp z
    rw [← e]; exact (N0 q hq).2
  · have e1 := fresh_end hG N' (T := p.1) (o := p.2) hp z
    exact (news_adds (h' := h') (adds := [p]) F (news' := []) (fun _ q => nomatch q) (fun q hq => by rw [List.mem_singleton.mp hq]; exact ⟨(N' p hp).1, e1⟩) p (by simp)).2
theorem putWarm_led {st sd se ac jl td dd wd ws od lg : Addr} {zf : Nat → Int} {tf : Nat → Tok} {nd : Nat} {tx txd al : Addr} {qf : Nat → Int} {rf : Nat → Tok} {vKind vChain vNonce vPrio vCap vLimit vGoal vVal vData vSig : Value} {nx : Nat} {bl bd : Addr} {pf : Nat → Int} {of' : Nat → Tok} {vNum vTime vFee vLim vRand vHash : Value} {tips : Int} {ob : Tok} {nb : Nat} {wo so : Obj} {its rits : List Value} {jn an : Nat} {tl news : List (Addr × Obj)} {rs : List (Int × List Int)} {who : Int} {tka : Tok} {goal : Option Int}
    (C : Cx w mean mg mb A₀ A cn cs L a ccd cl outer base h₀ m s.heap 400 5000)
    (N : News h₀ L s.heap ((jl, listOf its.toArray jn) :: (wd, wo) :: (ws, so) :: news))
    (m1 : (st, instObj 490 sd) ∈ news) (m2 : (sd, (sdO zf tf se ac jl td dd wd ws od lg nd)) ∈ news) (m3 : (tx, instObj 511 txd) ∈ news) (m4 : (txd, (txO qf rf vKind vChain vNonce vPrio vCap vLimit vGoal vVal vData al vSig nx)) ∈ news) (m5 : (bl, instObj 182 bd) ∈ news) (m6 : (bd, (bdO pf of' vNum vTime tips ob vFee vLim vRand vHash nb)) ∈ news) (m7 : (al, listOf rits.toArray an) ∈ news)
    (ht : ∀ p ∈ tl, p ∈ news) (hoff : Off3 jl wd ws news) (D : SN st sd wd ws jl)
    (S : StOk w wo so its tl []) (lo : (wd == sysModules) = false) (lo2 : (ws == sysModules) = false)
    (hg : GoalIs vGoal goal) (hR : RowsIn tl rits rs) (hro : RowsOk rs)
    (hret : ∀ h' tk' wo' so' its' jn' news', Fr h₀ L h' m → News h₀ L h' ((jl, listOf its'.toArray jn') :: (wd, wo') :: (ws, so') :: news') → (∀ p ∈ news, p ∈ news') → Off3 jl wd ws news' →
      StOk w wo' so' its' news' (puts [] (ents who tips goal rs)) → Q .none { s with heap := h', toks := tk' }) :
    wpAny (model PySem.Challenge.rw_pq0410_01.row.prog w) A (call (.ref 137) [.ref tx, .int who tka, .ref st, .ref bl]) Q E s := by
  have N0 := N
  have hz0 : ([] : List Ent).length ≤ 100 := Nat.zero_le _
  replace S := S.mono ht
  replace hR := RowsIn.mono ht hR
  clear ht
  walk_at "ENTER"
  rename_i g1 L1 h1' hG1 hU1 F1 N1 B1 X1 T1
  obtain ⟨M, F4, hM1, hM2, hM3, hM4⟩ : ∃ M, Fr g1 L1 h1' M ∧ M (Str.ofString "tx") = some (.ref tx) ∧ M (Str.ofString "sender") = some (.int who tka) ∧ M (Str.ofString "state") = some (.ref st) ∧ M (Str.ofString "block") = some (.ref bl) := ⟨_, F1, rfl, rfl, rfl, rfl⟩
  clear F1
  repeat' ((fail_if_success (with_reducible show wpAny _ _ (exec (Stmt.For _ _ _ _ _) _) _ _ _)); first | walk1 | (dsimp only; walk1))
  refine wpAny_For ?_ (fun _ => rfl)
  try k_fold
  repeat' ((fail_if_success (with_reducible show wpAny _ _ (pyIter _) _ _ _)); first | walk1 | (dsimp only; walk1))
  rename_i D9 h9 F9 N9 l9
  show wpAny _ _ (pyIter _) _ _ _
  try dsimp only
  obtain ⟨vs9, nv9, hvs9, N8⟩ : ∃ vs nv, IntsAre vs [who, tips, 1, 4, 5] ∧ News g1 L1 h9 ((jl, listOf its.toArray jn) :: (wd, wo) :: (ws, so) :: (D9, listOf vs.toArray nv) :: news) := ⟨[_, _, _, _, _], _, .cons _ _ (.cons _ _ (.cons _ _ (.cons _ _ (.cons _ _ .nil)))), News.perm N9 (by walk_at "SUBT")⟩
  obtain ⟨nb, hnb⟩ : ∃ n, n = (D9, listOf vs9.toArray nv9) :: news := ⟨_, rfl⟩
  have Ob : Off3 jl wd ws nb := hnb ▸ List.forall_mem_cons.mpr ⟨⟨Nat.ne_of_gt l9.2.2.1, Nat.ne_of_gt l9.2.2.2.1, Nat.ne_of_gt l9.2.2.2.2.1⟩, hoff⟩
  have mD : (D9, listOf vs9.toArray nv9) ∈ nb := hnb ▸ .head _
  have ub : ∀ p ∈ news, p ∈ nb := fun p hp => hnb ▸ .tail _ hp
  have d6 : wd ≠ jl := D.d6
  have d9 : wd ≠ ws := D.d9
  have d10 : ws ≠ jl := D.d10
  rw [← hnb] at N8
  clear N9 l9 hnb N
  refine' for_list (J := fun i m news _ => (∀ y, y ≠ Str.ofString "address" → m y = M y) ∧ WJ w wd ws jl nb (puts [] (([who, tips, 1, 4, 5].map Ent.inl).take i)) news) rfl (News.get N8 (.tail _ (.tail _ (.tail _ mD)))) rfl rfl F9 N8 ?hj ?hJ ?hgo ?turn ?done ?hE
  case hE => passes_own
  case hgo => exact fun s' v Q' h _ q => wpAny_pure q
  case hJ => exact fun i m news h h' x _ => x
  case hj => exact ⟨fun _ _ => rfl, .mk (S.mono ub) Ob fun _ h => h⟩
  case turn =>
    intro i v m₁ news₁ h tk oI hi X hn hol F N
    have hm := X.1
    revert hn N
    apply WJ.elim X.2
    intro wo so its jn nw S O H hn N
    try dsimp only at hn N ⊢
    apply ints_at hvs9 hi
    intro x t hx
    have hM3' := (hm _ (by decide)).trans hM3
    have hx2 : ([who, tips, 1, 4, 5].map Ent.inl)[i]? = some (Ent.inl x) := by rw [List.getElem?_map, hx]; rfl
    have hz : (puts [] (([who, tips, 1, 4, 5].map Ent.inl).take i)).length ≤ 100 := Nat.le_trans (puts_take _ i) (Nat.le_of_ble_eq_true rfl)
    have k1 := H _ (ub _ m1)
    have k2 := H _ (ub _ m2)
    have e1 : ∀ p ∈ nw, p.1 ≠ jl := fun p hp => (O p hp).1
    have e2 : ∀ p ∈ nw, p.1 ≠ wd := fun p hp => (O p hp).2.1
    have n1 : jl ≠ h9.objs.size := hn (jl, _) (.head _)
    have n2 : wd ≠ h9.objs.size := hn (wd, _) (.tail _ (.head _))
    refine wpAny_assign_Name ?_
    k_steps
    rename_i h6 F6 N6 tk6 h5 tk5 wo5 its5 jn5 own5 K5 hT5 F5 N5 hO5 S5
    refine turn_end F5 N5 (hn_warm hn (hO5 (h9.objs.size, oI) (.head _))) (News.get N5 (.tail _ (.tail _ (.tail _ (.tail _ (List.mem_append_left _ (H _ mD))))))) ⟨fun y q => (if_neg q).trans (hm y q), ?_⟩
    rw [take_snoc hx2, puts_snoc]
    exact .mk S5 (Off3.grow hO5 (.tail _ (.head _)) (.tail _ (.tail _ (.head _))) (.tail _ (.tail _ (.tail _ (.head _)))) O) fun p hp => List.mem_append_left _ (H p hp)
  case done =>
    intro m₁ news₁ h tk X hol F N
    have hm := X.1
    have X2 := X.2
    rw [hvs9.length] at X2
    have hM1' := (hm _ (by decide)).trans hM1
    have hM3' := (hm _ (by decide)).trans hM3
    have hM3'0 := hM3
    clear hM1 hM2 hM3 hM4 X
    revert N
    apply WJ.elim X2
    intro wo so its jn nw S O H N
    try dsimp only at N ⊢
    have hz : (puts [] (([who, tips, 1, 4, 5].map Ent.inl).take 5)).length ≤ 100 := Nat.le_trans (puts_take _ 5) (Nat.le_of_ble_eq_true rfl)
    have k1 := H _ (ub _ m1)
    have k2 := H _ (ub _ m2)
    have k3 := H _ (ub _ m3)
    have k4 := H _ (ub _ m4)
    have e1 : ∀ p ∈ nw, p.1 ≠ jl := fun p hp => (O p hp).1
    have e2 : ∀ p ∈ nw, p.1 ≠ wd := fun p hp => (O p hp).2.1
    repeat' ((fail_if_success (with_reducible show wpAny _ _ (exec (Stmt.If _ _ _ _) _) _ _ _)); first | walk1 | (dsimp only; walk1))
    refine wpAny_mono (Q := JoinF g1 L1 m₁ (WJ w wd ws jl nb (puts [] ([who, tips, 1, 4, 5].map Ent.inl ++ goal.toList.map Ent.inl))) s) ?_ ?_ (fun _ _ e => e)
    · clear hR m1 m2 m3 hret
      revert m4 k4
      apply goal_at hg
      · intro e m4 k4
        k_steps
        exact .mk F N (by rw [e]; exact .mk S O H)
      · intro gi gt e m4 k4
        k_steps
        rename_i h5 tk5 wo5 its5 jn5 own5 K5 hT5 F5 N5 hO5 S5
        refine .mk F5 N5 ?_
        have eq : puts [] ([who, tips, 1, 4, 5].map Ent.inl ++ goal.toList.map Ent.inl) = put1 (puts [] (([who, tips, 1, 4, 5].map Ent.inl).take 5)) (Ent.inl gi) := by
          rw [e]
          exact puts_snoc [] ([who, tips, 1, 4, 5].map Ent.inl) (Ent.inl gi)
        rw [eq]
        exact .mk S5 (Off3.grow hO5 (.head _) (.tail _ (.head _)) (.tail _ (.tail _ (.head _))) O) fun p hp => List.mem_append_left _ (H p hp)
    · intro f s2 X5
      clear hz k1 k2 k3 k4 e1 e2 S O H N F hol
      apply JoinF.elim X5
      intro h2 tk2 news2 F2 N2 X2
      dsimp only
      revert N2
      apply WJ.elim X2
      intro wo2 so2 its2 jn2 nw2 S2 O2 H2 N2
      have k1 := H2 _ (ub _ m3)
      have k2 := H2 _ (ub _ m4)
      have k3 := H2 _ (ub _ m7)
      have hR2 : RowsIn nb rits rs := RowsIn.mono ub hR
      clear X5 X2
      repeat' ((fail_if_success (with_reducible show wpAny _ _ (exec (Stmt.For _ _ _ _ _) _) _ _ _)); first | walk1 | (dsimp only; walk1))
      refine wpAny_For ?_ (fun _ => rfl)
      try k_fold
      repeat' ((fail_if_success (with_reducible show wpAny _ _ (pyIter _) _ _ _)); first | walk1 | (dsimp only; walk1))
      show wpAny _ _ (pyIter _) _ _ _
      try dsimp only
      refine' for_list (J := fun i m news _ => (∀ y, y ≠ Str.ofString "address" → y ≠ Str.ofString "slots" → y ≠ Str.ofString "slot" → m y = M y) ∧
        WJ w wd ws jl nb (puts [] (([who, tips, 1, 4, 5].map Ent.inl ++ goal.toList.map Ent.inl) ++ (rs.take i).flatMap rowEnts)) news) rfl (News.get N2 (.tail _ (.tail _ (.tail _ k3)))) rfl rfl F2 N2 ?ij ?iJ ?igo ?iturn ?idone ?iE
      case iE => passes_own
      case igo =>
        rintro s' v Q' h ⟨_, hit⟩ q
        cases v with
        | ref T => exact wpAny_letOwnedTupleGo_listiter hit q
        | _ => exact wpAny_pure q
      case iJ => exact fun i m news h h' x _ => x
      case ij => exact ⟨fun y q _ _ => hm y q, by rw [List.take_zero, List.flatMap_nil, List.append_nil]; exact .mk S2 O2 H2⟩
      case iturn =>
        clear k1 k2 k3 S2 O2 H2 N2 F2 hm hM1'
        intro i v m₂ news₁ h tk oI hi X hn hol F N
        have hm9 := X.1
        revert hn N
        apply WJ.elim X.2
        intro wo so its jn nw S O H hn N
        try dsimp only at hn N ⊢
        apply row_at hR2 hi
        intro T l pa t us ss kk hT1 hT2 hus hri
        have hM3' := (hm9 _ (by decide) (by decide) (by decide)).trans hM3'0
        have hz : (puts [] (([who, tips, 1, 4, 5].map Ent.inl ++ goal.toList.map Ent.inl) ++ (rs.take i).flatMap rowEnts)).length ≤ 80 := ents_le who tips goal rs i hro.1 fun r hr => (hro.2 r hr).2.1
        have hz1 : (puts [] (([who, tips, 1, 4, 5].map Ent.inl ++ goal.toList.map Ent.inl) ++ (rs.take i).flatMap rowEnts)).length ≤ 100 := Nat.le_trans hz (Nat.le_of_ble_eq_true rfl)
        have k1 := H _ (ub _ m1)
        have k2 := H _ (ub _ m2)
        have k3 := H _ hT1
        have k4 := H _ hT2
        have e1 : ∀ p ∈ nw, p.1 ≠ jl := fun p hp => (O p hp).1
        have e2 : ∀ p ∈ nw, p.1 ≠ wd := fun p hp => (O p hp).2.1
        have n1 : jl ≠ h2.objs.size := hn (jl, _) (.head _)
        have n2 : wd ≠ h2.objs.size := hn (wd, _) (.tail _ (.head _))
        have n3 : ws ≠ h2.objs.size := hn (ws, _) (.tail _ (.tail _ (.head _)))
        repeat' ((fail_if_success (with_reducible show wpAny _ _ (exec (Stmt.For _ _ _ _ _) _) _ _ _)); first | walk1 | (dsimp only; walk1))
        rename_i hA FA NA hB hC FB NB h5 tk5 wo5 its5 jn5 own5 K5 hT5 F5 N5 hO5 S5
        obtain ⟨M2, F6, hma, hms, hmt, hmm⟩ : ∃ M2, Fr g1 L1 h5 M2 ∧ M2 (Str.ofString "address") = some (.int pa t) ∧ M2 (Str.ofString "slots") = some (.ref l) ∧ M2 (Str.ofString "state") = some (.ref st) ∧ ∀ y, y ≠ Str.ofString "address" → y ≠ Str.ofString "slots" → y ≠ Str.ofString "slot" → M2 y = M y :=
          ⟨_, F5, rfl, rfl, hM3', fun y q1 q2 q3 => by rw [if_neg q2, if_neg q1]; exact hm9 y q1 q2 q3⟩
        obtain ⟨σ5, hσ5⟩ : ∃ σ, σ = put1 (puts [] (([who, tips, 1, 4, 5].map Ent.inl ++ goal.toList.map Ent.inl) ++ (rs.take i).flatMap rowEnts)) (Ent.inl pa) := ⟨_, rfl⟩
        have hz5 : σ5.length ≤ 81 := by rw [hσ5]; exact Nat.le_trans put1_len (Nat.succ_le_succ hz)
        obtain ⟨nw5, hnw5⟩ : ∃ n, n = nw ++ own5 := ⟨_, rfl⟩
        rw [← hσ5, ← hnw5] at S5
        rw [← hnw5] at N5
        have O5 : Off3 jl wd ws nw5 := hnw5 ▸ O.grow hO5 (.tail _ (.head _)) (.tail _ (.tail _ (.head _))) (.tail _ (.tail _ (.tail _ (.head _))))
        have H5 : ∀ p ∈ nb, p ∈ nw5 := fun p hp => hnw5 ▸ List.mem_append_left _ (H p hp)
        have hI5 : ∀ p ∈ nw5, p.1 ≠ h2.objs.size := hnw5 ▸ fun p hp => (List.mem_append.mp hp).elim (fun q => hn p (.tail _ (.tail _ (.tail _ q)))) (hO5 (h2.objs.size, oI) (.head _) p)
        have k5 : (l, listOf us.toArray kk) ∈ nw5 := H5 _ hT2
        have kal : (al, listOf rits.toArray an) ∈ nb := ub _ m7
        clear F5 FA NA FB NB S O H hn hO5 e1 e2 k1 k2 k3 k4 hz hz1 X hnw5 hT1
        refine wpAny_For ?_ (fun _ => rfl)
        try k_fold
        repeat' ((fail_if_success (with_reducible show wpAny _ _ (pyIter _) _ _ _)); first | walk1 | (dsimp only; walk1))
        show wpAny _ _ (pyIter _) _ _ _
        try dsimp only
        refine' for_list (J := fun j m news _ => (∀ y, y ≠ Str.ofString "slot" → m y = M2 y) ∧ WJI w wd ws jl nb h2.objs.size oI (puts σ5 ((ss.take j).map fun b => Ent.inr (pa, b))) news) rfl (News.get N5 (.tail _ (.tail _ (.tail _ (.tail _ k5))))) rfl rfl F6 N5 ?jj ?jJ ?jgo ?jturn ?jdone ?jE
        case jE => passes_own
        case jgo => exact fun s' v Q' h _ q => wpAny_pure q
        case jJ => exact fun i m news h h' x _ => x
        case jj => exact ⟨fun _ _ => rfl, .mk S5 O5 H5 hI5⟩
        case jturn =>
          clear S5 O5 H5 hI5 k5 N5 F6
          intro j v m₃ news₁ h tk oI3 hj X hn3 hol3 F N
          have hm3 := X.1
          revert hn3 N
          apply WJI.elim X.2
          intro wo so its jn nw S O H hI hn3 N
          try dsimp only at hn3 N ⊢
          apply ints_at hus hj
          intro b tb hb
          have hma' := (hm3 _ (by decide)).trans hma
          have hmt' := (hm3 _ (by decide)).trans hmt
          have hzj : (puts σ5 ((ss.take j).map fun b => Ent.inr (pa, b))).length ≤ 100 := by
            have q1 := puts_len ((ss.take j).map fun b => Ent.inr (pa, b)) σ5
            rw [List.length_map] at q1
            exact Nat.le_trans q1 (Nat.le_trans (Nat.add_le_add hz5 (Nat.le_trans (List.length_take_le' j ss) (hro.2 _ (List.mem_of_getElem? hri)).2.1)) (Nat.le_of_ble_eq_true rfl))
          have k1 := H _ (ub _ m1)
          have k2 := H _ (ub _ m2)
          have e1 : ∀ p ∈ nw, p.1 ≠ jl := fun p hp => (O p hp).1
          have e3 : ∀ p ∈ nw, p.1 ≠ ws := fun p hp => (O p hp).2.2
          have q1 : h2.objs.size ≠ h5.objs.size := hn3 (h2.objs.size, oI) (.head _)
          have q2 : jl ≠ h5.objs.size := hn3 (jl, _) (.tail _ (.head _))
          have q3 : ws ≠ h5.objs.size := hn3 (ws, _) (.tail _ (.tail _ (.tail _ (.head _))))
          refine wpAny_assign_Name ?_
          k_steps
          rename_i hA FA NA h6 tk6 so6 its6 jn6 own6 K6 hT6 F6' N6 hO6 S6
          refine turn_end F6' N6 (List.forall_mem_cons.mpr ⟨q1, hn_warm (fun p hp => hn3 p (.tail _ hp)) (hO6 (h5.objs.size, oI3) (.head _))⟩) (News.get N6 (.tail _ (.tail _ (.tail _ (.tail _ (.tail _ (List.mem_append_left _ (H _ hT2)))))))) ⟨fun y q => (if_neg q).trans (hm3 y q), ?_⟩
          rw [take_snoc hb, List.map_append, List.map_cons, List.map_nil, puts_snoc]
          exact .mk S6 (O.grow hO6 (.tail _ (.tail _ (.head _))) (.tail _ (.tail _ (.tail _ (.head _)))) (.tail _ (.tail _ (.tail _ (.tail _ (.head _)))))) (fun p hp => List.mem_append_left _ (H p hp)) (fun p hp => (List.mem_append.mp hp).elim (hI p) (hO6 (h2.objs.size, oI) (.tail _ (.head _)) p))
        case jdone =>
          intro m₃ news₁ h tk X hol3 F N
          have hm3 := X.1
          have X2 := X.2
          rw [hus.length, List.take_length] at X2
          clear X S5 O5 H5 hI5 k5 N5
          revert N
          apply WJI.elim X2
          intro wo so its jn nw S O H hI N
          try dsimp only at N ⊢
          k_steps
          refine turn_end F N (List.forall_mem_cons.mpr ⟨n1, List.forall_mem_cons.mpr ⟨n2, List.forall_mem_cons.mpr ⟨n3, hI⟩⟩⟩) (News.get N (.tail _ (.tail _ (.tail _ (.tail _ (H _ kal)))))) ⟨fun y q1 q2 q3 => (hm3 y q3).trans (hmm y q1 q2 q3), ?_⟩
          have e0 : [(pa, ss)].flatMap rowEnts = Ent.inl pa :: ss.map fun b => Ent.inr (pa, b) := by simp [rowEnts]
          rw [take_snoc hri, List.flatMap_append, ← List.append_assoc, puts_app, e0]
          refine .mk ?_ O H
          show StOk w wo so its nw (puts (put1 _ (Ent.inl pa)) _)
          rw [← hσ5]
          exact S
      case idone =>
        intro m₂ news₁ h tk X hol F N
        have X2 := X.2
        rw [paired_len hR, List.take_length, List.append_assoc] at X2
        clear k1 k2 k3 S2 O2 H2 N2 F2
        revert N
        apply WJ.elim X2
        intro wo so its jn nw S O H N
        try dsimp only at N ⊢
        k_steps
        show Q _ _
        have H0 : ∀ p ∈ news, p ∈ nw := fun p hp => H p (ub p hp)
        refine hret _ _ wo so its jn nw (C.after (ds := [jl, wd, ws]) (kept_end N0 hG1 F (keptN N ?_)) ?_ ?_) (news_back hG1 C.F N0 N) H0 O S
        · exact List.forall_mem_cons.mpr ⟨.inl (.head _), List.forall_mem_cons.mpr ⟨.inl (.tail _ (.head _)), List.forall_mem_cons.mpr ⟨.inl (.tail _ (.tail _ (.head _))), fun q hq => .inr (.tail _ (.tail _ (.tail _ (H0 q hq))))⟩⟩⟩
        · exact off3 (Ne.symm (N0 _ (.head _)).2.1) (Ne.symm (N0 _ (.tail _ (.head _))).2.1) (Ne.symm (N0 _ (.tail _ (.tail _ (.head _)))).2.1)
        · exact List.forall_mem_cons.mpr ⟨(N0 _ (.head _)).2.2, List.forall_mem_cons.mpr ⟨(N0 _ (.tail _ (.head _))).2.2, List.forall_mem_cons.mpr ⟨(N0 _ (.tail _ (.tail _ (.head _)))).2.2, List.forall_mem_nil _⟩⟩⟩
end

example : True := by
  k_with "k_mem" => (first | exact List.Mem.head _ | with_reducible assumption | (refine List.mem_cons_of_mem _ ?_; k_extra "k_mem"))
  trivial

/-- the noughts of octets, counted -/
theorem occ_zero (b : Array UInt8) : (Builtin.Bytes.occurrences b #[0] 0 b.size).length = b.toList.count 0 := by
  unfold Builtin.Bytes.occurrences
  simp only [List.length_reverse, List.size_toArray, List.length_cons, List.length_nil, Nat.zero_add, Nat.add_sub_cancel]
  have key : ∀ n, n ≤ b.size →
      ((((List.range n).map (· + 0)).foldl (fun (acc : List Nat × Nat) (i : Nat) => if i ≥ acc.2 && b.extract i (i + 1) == #[0] then (i :: acc.1, i + 1) else acc) ([], 0)).1.length = (b.toList.take n).count 0 ∧
      (((List.range n).map (· + 0)).foldl (fun (acc : List Nat × Nat) (i : Nat) => if i ≥ acc.2 && b.extract i (i + 1) == #[0] then (i :: acc.1, i + 1) else acc) ([], 0)).2 ≤ n) := by
    intro n
    induction n with
    | zero => intro _; simp
    | succ n ih =>
      intro hn
      obtain ⟨i1, i2⟩ := ih (by omega)
      have hlt : n < b.toList.length := by rw [Array.length_toList]; omega
      rw [List.range_succ, List.map_append, List.foldl_append, List.map_cons, List.map_nil, List.foldl_cons, List.foldl_nil]
      generalize hacc : (((List.range n).map (· + 0)).foldl (fun (acc : List Nat × Nat) (i : Nat) => if i ≥ acc.2 && b.extract i (i + 1) == #[0] then (i :: acc.1, i + 1) else acc) ([], 0)) = acc at i1 i2
      have hex : b.extract (n + 0) (n + 0 + 1) = #[b[n]'(by simpa using hlt)] := by
        apply Array.ext
        · simp; omega
        · intro i h1 h2
          simp at h2
          subst h2
          simp
      have htk : (b.toList.take (n + 1)).count 0 = (b.toList.take n).count 0 + (if b[n]'(by simpa using hlt) = 0 then 1 else 0) := by
        rw [List.take_add_one, List.getElem?_eq_getElem hlt, List.count_append]
        simp [List.count_cons]
      rw [htk, hex]
      by_cases hz : b[n]'(by simpa using hlt) = 0
      · rw [if_pos hz, hz]
        have : (n + 0 ≥ acc.2 && (#[(0 : UInt8)] == #[0])) = true := by simp; exact i2
        rw [if_pos this]
        exact ⟨by simp [i1], by simp⟩
      · rw [if_neg hz]
        have : ¬ (n + 0 ≥ acc.2 && (#[b[n]'(by simpa using hlt)] == #[0])) = true := by simp [hz]
        rw [if_neg this]
        exact ⟨by simpa using i1, by omega⟩
  have := (key b.size (Nat.le_refl _)).1
  rw [List.take_of_length_le (by simp)] at this
  simpa using this

theorem owner_bytes9 : Manifest.owners.lookup (String.ofList ['s', 'e', 't', 'y', 'b'].reverse) = some Manifest.sig_bytes := by kernel_rfl
theorem slot_bytes_count : Slot "bytes" "count" "bytes.count" :=
  .of (owner := "bytes") (n := "count") (by rw [typeLookup_type, builtinLookup_eq_fast]; kernel_rfl) (by decide +kernel) (by decide +kernel) (by decide +kernel)
    (by first | exact .inl (by decide +kernel) | exact .inr (by decide +kernel)) (by rw [isSubtype_type]; kernel_rfl)
theorem entry_bytes_count : entryFor table "bytes.count" = some Builtin.«bytes.count» := entryFor_of_tree (by kernel_rfl)
theorem args_bytes_count_2 (a b : Value) : argsOk "bytes.count" ⟨[a, b], []⟩ := by
  unfold argsOk; rw [signature?_of (id := "bytes.count") (n := ['t', 'n', 'u', 'o', 'c']) (o := ['s', 'e', 't', 'y', 'b']) (by kernel_rfl) owner_bytes9]; kernel_rfl
theorem int_no_buffer : typeLookup (.type "int") "__buffer__" = pure none := by rw [typeLookup_type, builtinLookup_eq_fast]; kernel_rfl
theorem count_zero {prog : Program} {w : World} {A : Around} {E : Value → Shared → Prop} {s : Shared} {b : Array UInt8} {t u : Tok} {Q : Value → Shared → Prop}
    (h : ∀ t' k, Q (.int (b.toList.count 0 : Nat) t') { s with toks := k }) : wpAny (model prog w) A (call (.builtin "bytes.count") [.bytes b t, .int 0 u]) Q E s := by
  refine wpAny_call_entry slot_bytes_count (typeIs_bytes _ _ _) entry_bytes_count ?_ (args_bytes_count_2 _ _)
  show wpAny _ _ (Builtin.Bytes.countM .bytes _) _ _ s
  unfold Builtin.Bytes.countM Builtin.Bytes.searchArgs
  refine wpAny_bind ?_
  refine wpAny_bind (wpAny_of_eq (a := (Value.bytes b t, [Value.int 0 u])) rfl ?_)
  refine wpAny_bind (wpAny_of_eq (a := none) rfl ?_)
  refine wpAny_bind (wpAny_of_eq (a := none) rfl ?_)
  refine wpAny_bind ?_
  show wpAny _ _ (Builtin.Bytes.buffer? _ (Value.int 0 u)) _ _ s
  unfold Builtin.Bytes.buffer?
  refine wpAny_bind (wpAny_specialOf (typeIs_int _ _ _) int_no_buffer ?_)
  dsimp only
  refine wpAny_bind (wpAny_specialOf (typeIs_int _ _ _) int_no_buffer ?_)
  refine wpAny_pure ?_
  dsimp only
  refine wpAny_bind (wpAny_specialOf (typeIs_int _ _ _) F.slot_int_index.lookup ?_)
  dsimp only [Option.isNone]
  rw [if_neg (by decide)]
  refine wpAny_bind (wpAny_of_eq (a := (0 : Int)) rfl ?_)
  rw [if_neg (by decide)]
  refine wpAny_bind (wpAny_pure ?_)
  refine wpAny_bind (wpAny_of_eq (a := b) rfl ?_)
  refine wpAny_pure ?_
  have hw : Builtin.Bytes.window b.size none none = (0, (b.size : Int)) := by
    unfold Builtin.Bytes.window
    have hn : ¬ ((b.size : Int) < 0) := by omega
    simp [hn]
  rw [hw]
  have e1 : (#[(0 : Int).toNat.toUInt8] : Array UInt8) = #[0] := rfl
  rw [e1]
  by_cases hz : b.size = 0
  · have hb : b.toList.count 0 = 0 := by
      have : b.toList = [] := List.length_eq_zero_iff.mp (by simpa using hz)
      rw [this]; rfl
    rw [if_pos (by simp [hz])]
    dsimp only
    rw [hb] at h
    unfold retInt
    exact wpAny_bind (wpAny_mkInt (wpAny_pure ⟨_, rfl, h _ _⟩))
  · rw [if_neg (by simp; omega)]
    dsimp only
    rw [if_neg (by simp)]
    show wpAny _ _ (retInt ((Builtin.Bytes.occurrences b #[0] 0 b.size).length : Nat)) _ _ _
    rw [occ_zero]
    unfold retInt
    exact wpAny_bind (wpAny_mkInt (wpAny_pure ⟨_, rfl, h _ _⟩))

theorem type_bytes_count : typeOf (.builtin "bytes.count") = pure (.type "method_descriptor") := by show builtinType _ = _; rw [builtinType_eq_fast]; kernel_rfl
theorem count_method {M : Model} {A : Around} {E : Value → Shared → Prop} {s : Shared} {b : Array UInt8} {t : Tok} {pl : Sem Bool} {Q : Value × List Value → Shared → Prop} (h : Q (.builtin "bytes.count", [.bytes b t]) s) : wpAny M A (getMethod (.bytes b t) (Str.ofString "count") pl) Q E s := by
  refine KBd.method_of (.bytes b t) (typeIs_bytes _ _ _) slot_bytes_count type_bytes_count KBd.noRef h

example : True := by
  k_with "call builtin:bytes.count" => (k_here; (refine count_zero ?_); intro _ _)
  k_with "getMethod bytes" => (k_here; (with_reducible refine count_method ?_))
  trivial

/-- what the rows cost -/
def rowsCost : List (Int × List Int) → Int
  | [] => 0
  | r :: rs => 2400 + 1900 * (r.2.length : Int) + rowsCost rs
theorem rowsCost_app : ∀ (a b : List (Int × List Int)), rowsCost (a ++ b) = rowsCost a + rowsCost b
  | [], b => by simp [rowsCost]
  | r :: a, b => by rw [List.cons_append]; simp only [rowsCost]; rw [rowsCost_app a b]; omega
theorem rowsCost_snoc (a : List (Int × List Int)) (r : Int × List Int) : rowsCost (a ++ [r]) = rowsCost a + (2400 + 1900 * (r.2.length : Int)) := by
  rw [rowsCost_app]; simp [rowsCost]
theorem int_eq {x y : Int} (t : Tok) (e : x = y) : some (Value.int x t) = some (Value.int y t) := by rw [e]
section
variable {w : World} {mean : ExcName → Option Value} {mg mb : Str → Option Value} {A₀ A : Around} {cn : Str} {cs : Scope} {L a : Addr} {ccd : Value} {cl : List (Str × Addr)} {outer : List Env} {base h₀ : Heap} {m : Str → Option Value}
  {s : Shared} {Q E : Value → Shared → Prop}

inductive AJ (x : Int) (news : List (Addr × Obj)) (m : Str → Option Value) (ld : List (Addr × Obj)) : Prop
  | mk {t : Tok} (a : m (Str.ofString "cost") = some (.int x t)) (H : ∀ p ∈ news, p ∈ ld)
theorem aj_in {g h : Heap} {L I : Addr} {oI : Obj} {news ld : List (Addr × Obj)} (N : News g L h ((I, oI) :: ld)) (H : ∀ p ∈ news, p ∈ ld) : News g L h ((I, oI) :: news) := List.forall_mem_cons.mpr ⟨N _ (.head _), fun p hp => N p (.tail _ (H p hp))⟩
theorem rows_next {rs : List (Int × List Int)} {i : Nat} {pa : Int} {n : Nat} {ss : List Int} (h : rs[i]? = some (pa, ss)) (e : n = ss.length) : rowsCost (rs.take i) + (2400 + 1900 * (n : Int)) = rowsCost (rs.take (i + 1)) := by
  rw [take_snoc h, rowsCost_snoc, e]
theorem access_led {al : Addr} {rits : List Value} {an : Nat} {tl news : List (Addr × Obj)} {rs : List (Int × List Int)}
    (C : Cx w mean mg mb A₀ A cn cs L a ccd cl outer base h₀ m s.heap 600 7000)
    (N : News h₀ L s.heap news) (hm : (al, listOf rits.toArray an) ∈ news) (ht : ∀ p ∈ tl, p ∈ news) (hR : RowsIn tl rits rs) (hro : RowsOk rs)
    (hret : ∀ h' tk' t, Kept s.heap h' [] → Fr h₀ L h' m → News h₀ L h' news → Q (.int (rowsCost rs) t) { s with heap := h', toks := tk' }) :
    wpAny (model PySem.Challenge.rw_pq0410_01.row.prog w) A (call (.ref 102) [.ref al]) Q E s := by
  have N0 := N
  replace hR := RowsIn.mono ht hR
  walk_at "ENTER"
  rename_i g1 L1 h1' hG1 hU1 F1 N1 B1 X1 T1
  repeat' ((fail_if_success (with_reducible show wpAny _ _ (exec (Stmt.For _ _ _ _ _) _) _ _ _)); first | walk1 | (dsimp only; walk1))
  refine wpAny_For ?_ (fun _ => rfl)
  try k_fold
  repeat' ((fail_if_success (with_reducible show wpAny _ _ (pyIter _) _ _ _)); first | walk1 | (dsimp only; walk1))
  show wpAny _ _ (pyIter _) _ _ _
  try dsimp only
  rename_i tk2 h2 F2 N2
  refine' for_list (J := fun i m ld _ => AJ (rowsCost (rs.take i)) news m ld) rfl (News.get N2 hm) rfl rfl F2 N2 ?ij ?iJ ?igo ?iturn ?idone ?iE
  case iE => passes_own
  case igo =>
    intro s' v Q' h hit q
    cases v with
    | ref T => exact hit.elim fun _ hit => wpAny_letOwnedTupleGo_listiter hit q
    | _ => exact wpAny_pure q
  case iJ => exact fun i m news h h' x _ => x
  case ij => exact .mk (t := _) rfl fun _ h => h
  case iturn =>
    clear F2 N2
    intro i v m₂ ld h tk oI hi X hn hol F N
    obtain @⟨tc, hc, H⟩ := X
    replace N := aj_in N H
    replace hn := fun p hp => hn p (H p hp)
    try dsimp only at hn N ⊢
    clear H
    apply row_at hR hi
    intro T l pa t us ss kk hT1 hT2 hus hri
    have f7 : T ≠ h2.objs.size := hn _ hT1
    have f8 : l ≠ h2.objs.size := hn _ hT2
    have h33 : ss.length ≤ 3 := (hro.2 _ (List.mem_of_getElem? hri)).2.1
    have hul := hus.length
    have hsz : us.toArray.size ≤ sizeLine := by rw [List.size_toArray, hul, sizeLine_eq]; exact Nat.le_trans h33 (by decide)
    have N7 : News g1 L1 h ((T, ({ cls := .type "tuple", data := .seq [Value.int pa t, Value.ref l].toArray } : Obj)) :: (l, listOf us.toArray kk) :: (h2.objs.size, oI) :: news) := List.forall_mem_cons.mpr ⟨N _ (.tail _ hT1), List.forall_mem_cons.mpr ⟨N _ (.tail _ hT2), N⟩⟩
    clear N
    rw [show m₂ = fun y => if y = Str.ofString "cost" then some (.int (rowsCost (rs.take i)) tc) else m₂ y by rw [← hc]; exact map1_id m₂ _] at F
    k_steps
    rename_i hA FA NA hB hC tkA h9 F9 N9
    exact turn_end F9 (fun p hp => N9 p (.tail _ (.tail _ hp))) hn (News.get N9 (.tail _ (.tail _ (.tail _ hm)))) (.mk (int_eq _ (rows_next hri rfl)) fun _ h => h)
  case idone =>
    clear F2 N2
    intro m₂ ld h tk X hol F N
    obtain ⟨hc, H⟩ := X
    replace N : News _ _ _ news := fun p hp => N p (H p hp)
    try dsimp only at N ⊢
    clear H
    k_steps
    show Q _ _
    rw [paired_len hR, List.take_length]
    have K : Kept s.heap _ [] := kept_end N0 hG1 F (keptN N fun q hq => .inr hq)
    exact hret _ _ _ K (C.after K (fun h => nomatch h) (fun _ h => nomatch h)) (news_kept N0 K)
end

example : True := by
  k_with "call ref" => (k_here; (with_reducible show wpAny _ _ (call (Value.ref 102) _) _ _ _); k_dflt (refine' access_led ?zzzC ?zzyN ?zzym1 ?zzyt ?zzyR ?zzyo ?_; (case zzzC => k_extra "CX"); (case zzyN => k_asm); (case zzym1 => k_mem); (case zzyR => assumption); (case zzyt => k_extra "SUBT"); (case zzyo => assumption)); k_extra "J7")
  trivial

/-- what a transaction costs ahead of its run -/
def intr (data : Array UInt8) (rs : List (Int × List Int)) : Option Int → Int
  | none => 21000 + (4 * (data.toList.count 0 : Nat) + 16 * ((data.size : Int) - (data.toList.count 0 : Nat))) + rowsCost rs + (32000 + 2 * ((data.size : Int) + 31).fdiv 32)
  | some _ => 21000 + (4 * (data.toList.count 0 : Nat) + 16 * ((data.size : Int) - (data.toList.count 0 : Nat))) + rowsCost rs
section
variable {w : World} {mean : ExcName → Option Value} {mg mb : Str → Option Value} {A₀ A : Around} {cn : Str} {cs : Scope} {L a : Addr} {ccd : Value} {cl : List (Str × Addr)} {outer : List Env} {base h₀ : Heap} {m : Str → Option Value}
  {s : Shared} {Q E : Value → Shared → Prop}

theorem intrinsic_led {tx txd al : Addr} {qf : Nat → Int} {rf : Nat → Tok} {vKind vChain vNonce vPrio vCap vLimit vGoal vVal vData vSig : Value} {nx : Nat} {data : Array UInt8} {tb : Tok} {rits : List Value} {an : Nat} {tl news : List (Addr × Obj)} {rs : List (Int × List Int)} {goal : Option Int}
    (C : Cx w mean mg mb A₀ A cn cs L a ccd cl outer base h₀ m s.heap 500 6000)
    (N : News h₀ L s.heap news) (m1 : (tx, instObj 511 txd) ∈ news) (m2 : (txd, (txO qf rf vKind vChain vNonce vPrio vCap vLimit vGoal vVal vData al vSig nx)) ∈ news) (m3 : (al, listOf rits.toArray an) ∈ news) (ht : ∀ p ∈ tl, p ∈ news) (hd : vData = .bytes data tb) (hz : data.size ≤ 70)
    (hg : GoalIs vGoal goal) (hR : RowsIn tl rits rs) (hro : RowsOk rs)
    (hret : ∀ h' tk' t, Kept s.heap h' [] → Fr h₀ L h' m → News h₀ L h' news → Q (.int (intr data rs goal) t) { s with heap := h', toks := tk' }) :
    wpAny (model PySem.Challenge.rw_pq0410_01.row.prog w) A (call (.ref 109) [.ref tx]) Q E s := by
  subst hd
  have N0 := N
  have hsz : data.size ≤ sizeLine := by rw [sizeLine_eq]; exact Nat.le_trans hz (Nat.le_of_ble_eq_true rfl)
  replace hR := RowsIn.mono ht hR
  walk_at "ENTER"
  rename_i g1 L1 h1' hG1 hU1 F1 N1 B1 X1 T1
  apply gen_fr F1
  clear F1
  intro M F2 eM
  have hM : M (Str.ofString "tx") = some (.ref tx) := eM _
  clear eM
  repeat' ((fail_if_success (with_reducible show wpAny _ _ (exec (Stmt.If _ _ _ _) _) _ _ _)); first | walk1 | (dsimp only; walk1))
  try dsimp only
  have hr2 := fun (h' : Heap) (tk' : Nat) (t : Tok) (K : Kept s.heap h' []) => hret h' tk' t K (C.after K (fun h => nomatch h) (fun _ h => nomatch h)) (news_kept N0 K)
  revert m2
  apply goal_at hg
  · intro e m2
    rw [e] at hr2
    k_steps
    show Q _ _
    exact hr2 _ _ _ (kept_end N0 hG1 (by assumption) (keptN (by assumption) fun q hq => .inr hq))
  · intro gi gt e m2
    rw [e] at hr2
    k_steps
    show Q _ _
    exact hr2 _ _ _ (kept_end N0 hG1 (by assumption) (keptN (by assumption) fun q hq => .inr hq))
end

example : True := by
  k_with "call ref" => (k_here; (with_reducible show wpAny _ _ (call (Value.ref 109) _) _ _ _); k_dflt (refine' intrinsic_led ?zzzC ?zzyN ?zzym1 ?zzym2 ?zzym3 ?zzyt ?zzyd ?zzyz ?zzyg ?zzyR ?zzyo ?_; (case zzzC => k_extra "CX"); (case zzyN => k_asm); (case zzym1 => k_mem); (case zzym2 => k_mem); (case zzym3 => k_mem); (case zzyd => rfl); (case zzyz => assumption); (case zzyg => assumption); (case zzyR => assumption); (case zzyt => k_extra "SUBT"); (case zzyo => assumption)); k_extra "J7")
  trivial

/-- what the octets cost -/
def octs : List UInt8 → Int
  | [] => 0
  | c :: r => (if c = 0 then 4 else 16) + octs r
theorem octs_app : ∀ (a b : List UInt8), octs (a ++ b) = octs a + octs b
  | [], b => by simp [octs]
  | c :: a, b => by rw [List.cons_append]; simp only [octs]; rw [octs_app a b]; omega
theorem octs_snoc (a : List UInt8) (c : UInt8) : octs (a ++ [c]) = octs a + (if c = 0 then 4 else 16) := by
  rw [octs_app]; simp [octs]
theorem octs_eq : ∀ (l : List UInt8), octs l = 4 * (l.count 0 : Nat) + 16 * ((l.length : Int) - (l.count 0 : Nat))
  | [] => by simp [octs]
  | c :: l => by
    simp only [octs, octs_eq l, List.count_cons, List.length_cons]
    by_cases h : c = 0
    · subst h; simp; omega
    · rw [if_neg h]; simp [h]; omega
/-- how the sum stands -/
inductive SJ (x : Int) (tx : Addr) (news : List (Addr × Obj)) (m : Str → Option Value) (ld : List (Addr × Obj)) : Prop
  | mk {t : Tok} (a : m (Str.ofString "law_total") = some (.int x t)) (b : m (Str.ofString "law_deal") = some (.ref tx)) (H : ∀ p ∈ news, p ∈ ld)
inductive SWJ (K : Int) (z : Nat) (tx : Addr) (news : List (Addr × Obj)) (n : Nat) (m : Str → Option Value) (ld : List (Addr × Obj)) : Prop
  | mk {i : Nat} {t u : Tok} (hi : n + 32 * i = z + 31) (a : m (Str.ofString "law_total") = some (.int (K + 2 * (i : Int)) t)) (b : m (Str.ofString "at") = some (.int (32 * (i : Int)) u)) (c : m (Str.ofString "law_deal") = some (.ref tx)) (H : ∀ p ∈ news, p ∈ ld)
theorem sj_in {g h : Heap} {L I : Addr} {oI : Obj} {news ld : List (Addr × Obj)} (N : News g L h ((I, oI) :: ld)) (H : ∀ p ∈ news, p ∈ ld) : News g L h ((I, oI) :: news) := List.forall_mem_cons.mpr ⟨N _ (.head _), fun p hp => N p (.tail _ (H p hp))⟩
theorem oct_le {c : UInt8} {K : Int} {l : List UInt8} {i : Nat} (h : l[i]? = some c) : K + octs (l.take (i + 1)) = K + octs (l.take i) + (if c = 0 then 4 else 16) := by
  rw [take_snoc h, octs_snoc, Int.add_assoc]
theorem while_lt {n i z : Nat} (hi : n + 32 * i = z + 31) (h : (32 * (i : Int)) < (z : Int)) : n - 32 < n ∧ n - 32 + 32 * (i + 1) = z + 31 := by constructor <;> omega
theorem while_end {data : Array UInt8} {rs : List (Int × List Int)} {n i : Nat} (hi : n + 32 * i = data.size + 31) (h : ¬ (32 * (i : Int)) < (data.size : Int)) (hz : data.size ≤ 70) : 21000 + octs data.toList + rowsCost rs + 32000 + 2 * (i : Int) = intr data rs none := by
  unfold intr
  rw [octs_eq, Array.length_toList, Int.fdiv_eq_ediv_of_nonneg _ (by decide)]
  dsimp only
  omega
theorem two_next {K : Int} {i : Nat} : K + 2 * (i : Int) + 2 = K + 2 * ((i + 1 : Nat) : Int) := by rw [Int.natCast_succ]; omega
theorem at_next {i : Nat} : 32 * (i : Int) + 32 = 32 * ((i + 1 : Nat) : Int) := by rw [Int.natCast_succ]; omega
theorem row_next {K : Int} {j : Nat} : K + 1900 * (j : Int) + 1900 = K + 1900 * ((j + 1 : Nat) : Int) := by rw [Int.natCast_succ]; omega
section
variable {w : World} {mean : ExcName → Option Value} {mg mb : Str → Option Value} {A₀ A : Around} {cn : Str} {cs : Scope} {L a : Addr} {ccd : Value} {cl : List (Str × Addr)} {outer : List Env} {base h₀ : Heap} {m : Str → Option Value}
  {s : Shared} {Q E : Value → Shared → Prop}

theorem sum_led {tx txd al : Addr} {qf : Nat → Int} {rf : Nat → Tok} {vKind vChain vNonce vPrio vCap vLimit vGoal vVal vData vSig : Value} {nx : Nat} {data : Array UInt8} {tb : Tok} {rits : List Value} {an : Nat} {tl news : List (Addr × Obj)} {rs : List (Int × List Int)} {goal : Option Int}
    (C : Cx w mean mg mb A₀ A cn cs L a ccd cl outer base h₀ m s.heap 400 5000)
    (N : News h₀ L s.heap news) (m1 : (tx, instObj 511 txd) ∈ news) (m2 : (txd, (txO qf rf vKind vChain vNonce vPrio vCap vLimit vGoal vVal vData al vSig nx)) ∈ news) (m3 : (al, listOf rits.toArray an) ∈ news) (ht : ∀ p ∈ tl, p ∈ news) (hd : vData = .bytes data tb) (hz : data.size ≤ 70)
    (hg : GoalIs vGoal goal) (hR : RowsIn tl rits rs) (hro : RowsOk rs)
    (hret : ∀ h' tk' t, Kept s.heap h' [] → Fr h₀ L h' m → News h₀ L h' news → Q (.int (intr data rs goal) t) { s with heap := h', toks := tk' }) :
    wpAny (model PySem.Challenge.rw_pq0410_01.row.prog w) A (call (.ref 561) [.ref tx]) Q E s := by
  subst hd
  have N0 := N
  have hsz : data.size ≤ sizeLine := by rw [sizeLine_eq]; exact Nat.le_trans hz (Nat.le_of_ble_eq_true rfl)
  replace hR := RowsIn.mono ht hR
  walk_at "ENTER"
  rename_i g1 L1 h1' hG1 hU1 F1 N1 B1 X1 T1
  obtain ⟨M0, F0, hM0⟩ : ∃ M, Fr g1 L1 h1' M ∧ M (Str.ofString "law_deal") = some (.ref tx) := ⟨_, F1, rfl⟩
  clear F1
  repeat' ((fail_if_success (with_reducible show wpAny _ _ (exec (Stmt.For _ _ _ _ _) _) _ _ _)); first | walk1 | (dsimp only; walk1))
  refine wpAny_For ?_ (fun _ => rfl)
  try k_fold
  repeat' ((fail_if_success (with_reducible show wpAny _ _ (pyIter _) _ _ _)); first | walk1 | (dsimp only; walk1))
  show wpAny _ _ (pyIter _) _ _ _
  try dsimp only
  rename_i tk2 h2 F2 N2
  refine' for_bytes (J := fun i m ld _ => SJ (21000 + octs (data.toList.take i)) tx news m ld) rfl F2 N2 ?ij ?iJ ?igo ?iturn ?idone ?iE
  case iE => passes_own
  case igo => exact fun s' v Q' q => wpAny_pure q
  case iJ => exact fun i m news h h' x _ => x
  case ij => exact .mk (t := _) rfl hM0 fun _ h => h
  case iturn =>
    clear F2 N2
    intro i c u m₂ ld h tk oI hi X hn F N
    obtain ⟨hc, hd2, H⟩ := X
    replace N := sj_in N H
    replace hn := fun p hp => hn p (H p hp)
    try dsimp only at hn N ⊢
    clear H
    have hc' : (data.toList)[i]? = some c := by rw [Array.getElem?_toList]; exact hi
    k_steps
    · rename_i hA hz0 h9 F9 N9
      have c0 : c = 0 := UInt8.toNat_inj.mp (by simpa using hz0)
      exact turn_end F9 N9 hn trivial (.mk (int_eq _ (by rw [oct_le hc', if_pos c0])) hd2 fun _ h => h)
    · rename_i hA hz0 h9 F9 N9
      have c0 : ¬ c = 0 := fun q => hz0 (by rw [q]; rfl)
      exact turn_end F9 N9 hn trivial (.mk (int_eq _ (by rw [oct_le hc', if_neg c0])) hd2 fun _ h => h)
  case idone =>
    clear F2 N2
    intro m₂ ld h tk X F N
    rw [List.take_of_length_le (Nat.le_of_eq Array.length_toList)] at X
    obtain ⟨hc, hd2, H⟩ := X
    replace N : News _ _ _ news := fun p hp => N p (H p hp)
    try dsimp only at N ⊢
    clear H
    repeat' ((fail_if_success (with_reducible show wpAny _ _ (exec (Stmt.For _ _ _ _ _) _) _ _ _)); first | walk1 | (dsimp only; walk1))
    refine wpAny_For ?_ (fun _ => rfl)
    try k_fold
    repeat' ((fail_if_success (with_reducible show wpAny _ _ (pyIter _) _ _ _)); first | walk1 | (dsimp only; walk1))
    show wpAny _ _ (pyIter _) _ _ _
    try dsimp only
    refine' for_list (J := fun i m ld _ => SJ (21000 + octs data.toList + rowsCost (rs.take i)) tx news m ld) rfl (News.get N m3) rfl rfl F N ?jj ?jJ ?jgo ?jturn ?jdone ?jE
    case jE => passes_own
    case jgo => exact fun s' v Q' h _ q => wpAny_pure q
    case jJ => exact fun i m news h h' x _ => x
    case jj => exact .mk (hc.trans (int_eq _ (by rw [List.take_zero]; exact (Int.add_zero _).symm))) hd2 fun _ h => h
    case jturn =>
      clear hc hd2 F N
      intro i v m₃ ld h3 tk oI hi X hn hol F N
      obtain ⟨hc, hd3, H⟩ := X
      replace N := sj_in N H
      replace hn := fun p hp => hn p (H p hp)
      try dsimp only at hn N ⊢
      clear H
      apply row_at hR hi
      intro T l pa t us ss kk hT1 hT2 hus hri
      repeat' ((fail_if_success (with_reducible show wpAny _ _ (exec (Stmt.For _ _ _ _ _) _) _ _ _)); first | walk1 | (dsimp only; walk1))
      refine wpAny_For ?_ (fun _ => rfl)
      try k_fold
      repeat' ((fail_if_success (with_reducible show wpAny _ _ (pyIter _) _ _ _)); first | walk1 | (dsimp only; walk1))
      show wpAny _ _ (pyIter _) _ _ _
      try dsimp only
      rename_i h4 tk4 h5 F5 N5
      refine' for_list (J := fun j m ld _ => SJ (21000 + octs data.toList + rowsCost (rs.take i) + 2400 + 1900 * (j : Int)) tx ((h.objs.size, oI) :: news) m ld) rfl (News.get N5 (.tail _ hT2)) rfl rfl F5 N5 ?kj ?kJ ?kgo ?kturn ?kdone ?kE
      case kE => passes_own
      case kgo => exact fun s' v Q' h _ q => wpAny_pure q
      case kJ => exact fun i m news h h' x _ => x
      case kj => exact .mk (int_eq _ (by rw [Int.natCast_zero, Int.mul_zero, Int.add_zero])) hd3 fun _ h => h
      case kturn =>
        clear hc hd3 F5 N5 F N
        intro j v m₅ ld2 h6 tk oJ hj X hn5 hol5 F N
        obtain ⟨hc, hd5, H⟩ := X
        replace N := sj_in N H
        replace hn5 := fun p hp => hn5 p (H p hp)
        try dsimp only at hn5 N ⊢
        clear H
        k_steps
        rename_i h9 F9 N9
        exact turn_end F9 N9 hn5 (News.get N9 (.tail _ (.tail _ hT2))) (.mk (int_eq _ row_next) hd5 fun _ h => h)
      case kdone =>
        clear hc hd3 F5 N5 F N
        intro m₅ ld2 h6 tk X hol5 F N
        obtain ⟨hc, hd5, H⟩ := X
        replace N : News _ _ _ ((h.objs.size, oI) :: news) := fun p hp => N p (H p hp)
        try dsimp only at N ⊢
        k_steps
        refine turn_end F N hn (News.get N (.tail _ m3)) (.mk (hc.trans (int_eq _ ?_)) hd5 fun _ h => h)
        rw [take_snoc hri, rowsCost_snoc, ← hus.length]
        omega
    case jdone =>
      clear hc hd2 F N
      intro m₃ ld h3 tk X hol F N
      rw [paired_len hR, List.take_length] at X
      obtain ⟨hc, hd3, H⟩ := X
      replace N : News _ _ _ news := fun p hp => N p (H p hp)
      try dsimp only at N ⊢
      clear H
      revert m2
      apply goal_at hg
      · intro eg m2
        repeat' ((fail_if_success (with_reducible show wpAny _ _ (exec (Stmt.While _ _ _ _) _) _ _ _)); first | walk1 | (dsimp only; walk1))
        try dsimp only
        rename_i h4 h5 F5 N5
        refine' While_inv2 (J := fun n m ld => SWJ (21000 + octs data.toList + rowsCost rs + 32000) data.size tx news n m ld) (n₀ := data.size + 31) F5 N5 (.mk (i := 0) rfl (int_eq _ (by rw [Int.natCast_zero, Int.mul_zero, Int.add_zero])) (int_eq _ rfl) hd3 fun _ h => h) ?wturn ?wE
        case wE => passes_own
        case wturn =>
          clear hc hd3 F N F5 N5
          intro n m₇ ld7 h7 tk7 F N X
          obtain @⟨i, tc, ta, hi, hc, ha, hd7, H⟩ := X
          replace N : News _ _ _ news := fun p hp => N p (H p hp)
          try dsimp only at N ⊢
          clear H
          k_steps
          · rename_i hlt D5 h8a l8 h8b h8c h9 F9 N9
            have lt := while_lt hi hlt
            exact ⟨h9, _, _, _, n - 32, rfl, F9, fun p hp => N9 p (.tail _ hp), lt.1, .mk (i := i + 1) lt.2 (int_eq _ two_next) (int_eq _ at_next) hd7 fun _ h => h⟩
          · rename_i hge
            show Q (Value.int (21000 + octs data.toList + rowsCost rs + 32000 + 2 * (i : Int)) tc) _
            rw [while_end hi hge hz, ← eg]
            have K : Kept s.heap _ [] := kept_end N0 hG1 F (keptN N fun q hq => .inr hq)
            exact hret _ _ _ K (C.after K (fun h => nomatch h) (fun _ h => nomatch h)) (news_kept N0 K)
      · intro gi gt eg m2
        rw [show 21000 + octs data.toList + rowsCost rs = intr data rs goal from by rw [eg]; unfold intr; rw [octs_eq, Array.length_toList]] at hc
        k_steps
        show Q _ _
        have K : Kept s.heap _ [] := kept_end N0 hG1 F (keptN N fun q hq => .inr hq)
        exact hret _ _ _ K (C.after K (fun h => nomatch h) (fun _ h => nomatch h)) (news_kept N0 K)
end

example : True := by
  k_with "call ref" => (k_here; (with_reducible show wpAny _ _ (call (Value.ref 561) _) _ _ _); k_dflt (refine' sum_led ?zzzC ?zzyN ?zzym1 ?zzym2 ?zzym3 ?zzyt ?zzyd ?zzyz ?zzyg ?zzyR ?zzyo ?_; (case zzzC => k_extra "CX"); (case zzyN => k_asm); (case zzym1 => k_mem); (case zzym2 => k_mem); (case zzym3 => k_mem); (case zzyd => rfl); (case zzyz => assumption); (case zzyg => assumption); (case zzyR => assumption); (case zzyt => k_extra "SUBT"); (case zzyo => assumption)); k_extra "J7")
  trivial

theorem allT {f : Nat → Bool} (h : ∀ j, f j = true) : ∀ l : List Nat, l.all f = true := fun l => List.all_eq_true.mpr fun x _ => h x
theorem tup_same {prog : Program} {w : World} {A : Around} {E : Value → Shared → Prop} {s : Shared} {Q : Value → Shared → Prop} {p q : Addr} {xs ys : List Value} (hp : s.heap.IsTuple p xs.toArray) (hq : s.heap.IsTuple q ys.toArray)
    (he : Paired (fun x y => SeqAt.EqAt A.in1 s x y true) xs ys) (hu : A.units + 64 < cLine) (h : Q (.bool true) s) : wpAny (model prog w) A (compareOp .Eq (.ref p) (.ref q)) Q E s := by
  have hl := paired_len he
  refine (SeqAt.RcAt.tuples (e := fun _ => true) hp hq (by omega) fun j h1 h2 => ?_) prog w E Q ?_
  · have g1 : xs[j]? = some (xs.toArray[j]) := by simp [List.getElem?_eq_getElem (by simpa using h1)]
    obtain ⟨y, hy, hr⟩ := paired_get he g1
    have e : y = ys.toArray[j] := by
      have g2 : ys[j]? = some (ys.toArray[j]) := by simp [List.getElem?_eq_getElem (by simpa using h2)]
      rw [hy] at g2
      exact Option.some.inj g2
    rw [← e]
    exact hr
  · rw [allT (fun _ => rfl)]
    simpa [hl] using h
theorem tup_sameN {prog : Program} {w : World} {A : Around} {E : Value → Shared → Prop} {s : Shared} {Q : Value → Shared → Prop} {p q : Addr} {xs ys : List Value} (hp : s.heap.IsTuple p xs.toArray) (hq : s.heap.IsTuple q ys.toArray)
    (he : Paired (fun x y => SeqAt.EqAt A.in1 s x y true) xs ys) (hu : A.units + 64 < cLine) (h : Q (.bool false) s) : wpAny (model prog w) A (compareOp .NotEq (.ref p) (.ref q)) Q E s := by
  have hl := paired_len he
  refine (SeqAt.RcNeAt.tuples (e := fun _ => true) hp hq (by omega) fun j h1 h2 => ?_) prog w E Q ?_
  · have g1 : xs[j]? = some (xs.toArray[j]) := by simp [List.getElem?_eq_getElem (by simpa using h1)]
    obtain ⟨y, hy, hr⟩ := paired_get he g1
    have e : y = ys.toArray[j] := by
      have g2 : ys[j]? = some (ys.toArray[j]) := by simp [List.getElem?_eq_getElem (by simpa using h2)]
      rw [hy] at g2
      exact Option.some.inj g2
    rw [← e]
    exact hr
  · rw [allT (fun _ => rfl)]
    simpa [hl] using h
theorem ea_int {A : Around} {s : Shared} {x y : Int} {t u : Tok} (e : x = y) : SeqAt.EqAt A s (.int x t) (.int y u) true := by
  subst e; have := SeqAt.EqAt.int_int (A := A) (s := s) x t x u; rwa [beq_self_eq_true] at this
theorem ea_str {A : Around} {s : Shared} {x : Str} {t u : Tok} : SeqAt.EqAt A s (.str x t) (.str x u) true := by
  have := SeqAt.EqAt.str_str (A := A) (s := s) x t x u; rwa [beq_self_eq_true] at this
def goalWord (goal : Option Int) : Str := if goal.isNone then Str.ofString "create" else Str.ofString "call"
section
variable {w : World} {mean : ExcName → Option Value} {mg mb : Str → Option Value} {A₀ A : Around} {cn : Str} {cs : Scope} {L a : Addr} {ccd : Value} {cl : List (Str × Addr)} {outer : List Env} {base h₀ : Heap} {m : Str → Option Value}
  {s : Shared} {Q E : Value → Shared → Prop}

theorem messageOf_led {tx txd al : Addr} {qf : Nat → Int} {rf : Nat → Tok} {vKind vChain vNonce vPrio vCap vGoal vSig : Value} {nx : Nat} {worth : Int} {tkc : Tok} {data : Array UInt8} {tb : Tok} {rits : List Value} {an : Nat} {tl news : List (Addr × Obj)} {rs : List (Int × List Int)} {goal : Option Int} {who : Int} {tka : Tok} {limit : Int} {tkd : Tok}
    (C : Cx w mean mg mb A₀ A cn cs L a ccd cl outer base h₀ m s.heap 450 5500)
    (N : News h₀ L s.heap news) (m1 : (tx, instObj 511 txd) ∈ news) (m2 : (txd, txO qf rf vKind vChain vNonce vPrio vCap (.int limit tkd) vGoal (.int worth tkc) (.bytes data tb) al vSig nx) ∈ news) (m3 : (al, listOf rits.toArray an) ∈ news) (ht : ∀ p ∈ tl, p ∈ news) (hz : data.size ≤ 70)
    (hg : GoalIs vGoal goal) (hR : RowsIn tl rits rs) (hro : RowsOk rs)
    (hret : ∀ (h' : Heap) (tk' : Nat) (x d : Addr) (f : Nat → Int) (g : Nat → Tok) (n : Nat) (t1 t2 t3 t4 t5 t6 : Tok), Fr h₀ L h' m → News h₀ L h' ((x, instObj 70 d) :: (d, dictOf [⟨f 1, .str (Str.ofString "kind") (g 1), .str (goalWord goal) t1⟩, ⟨f 2, .str (Str.ofString "caller") (g 2), .int who tka⟩, ⟨f 3, .str (Str.ofString "target") (g 3), .int (goal.getD 0) t2⟩, ⟨f 4, .str (Str.ofString "code_address") (g 4), .int (goal.getD 0) t3⟩, ⟨f 5, .str (Str.ofString "value") (g 5), .int worth tkc⟩, ⟨f 6, .str (Str.ofString "told_value") (g 6), .int worth tkc⟩, ⟨f 7, .str (Str.ofString "data") (g 7), .bytes data tb⟩, ⟨f 8, .str (Str.ofString "gas") (g 8), .int (limit - intr data rs goal) t4⟩, ⟨f 9, .str (Str.ofString "is_static") (g 9), .bool false⟩, ⟨f 10, .str (Str.ofString "depth") (g 10), .int 0 t5⟩, ⟨f 11, .str (Str.ofString "salt") (g 11), .int 0 t6⟩] n) :: news) → (∀ p ∈ news, p.1 < d) → @LT.lt Nat _ d x → Q (.ref x) { s with heap := h', toks := tk' }) :
    wpAny (model PySem.Challenge.rw_pq0410_01.row.prog w) A (call (.ref 144) [.ref tx, .int who tka]) Q E s := by
  obtain ⟨kd, nm, ig, ic, mo⟩ := cs
  obtain rfl : kd = .function := C.hk
  have hg0 := hg
  have B := C.B
  have F := C.F
  have X := C.X
  have T := C.T
  refine lower C.hh C.hA C.hdp C.hun ?_
  repeat' ((fail_if_success (with_reducible show wpAny _ _ (call (Value.ref 109) _) _ _ _)); first | walk1 | (dsimp only; walk1))
  refine' intrinsic_led ?zC (by assumption) m1 m2 m3 ht rfl hz hg hR hro (fun h4 tk4 t4 K4 F4 N4 => ?_)
  case zC => walk_at "CX"
  dsimp only
  repeat' ((fail_if_success (with_reducible show wpAny _ _ (exec (Stmt.If _ _ _ _) _) _ _ _)); first | walk1 | (dsimp only; walk1))
  rcases hg with ⟨rfl, rfl⟩ | ⟨gi, gt, rfl, rfl⟩
  all_goals
    k_steps
    (rename News h₀ L _ _ => N9)
    (rename Fr h₀ L _ m => F9)
    (rename ∀ p ∈ news, _ => l1)
    (rename @LT.lt Nat _ _ _ => l2)
    dsimp only at N9 F9
    exact hret _ _ _ _ _ _ _ _ _ _ _ _ _ F9 N9 l1 l2
inductive ValIn (v0 : Tok → Value) (h : Heap) (s : Shared) : Value → Shared → Prop
  | mk {v : Value} {t : Tok} {tk : Nat} (e : v = v0 t) : ValIn v0 h s v { heap := h, gens := s.gens, drawn := s.drawn, toks := tk, os := s.os }
theorem ValIn.elim {v0 : Tok → Value} {h : Heap} {s s' : Shared} {v : Value} {R : Value → Shared → Prop} (i : ValIn v0 h s v s') (k : ∀ t tk, R (v0 t) { heap := h, gens := s.gens, drawn := s.drawn, toks := tk, os := s.os }) : R v s' := by
  obtain ⟨e⟩ := i
  rw [e]
  exact k _ _
theorem sends_spec {tx txd al : Addr} {qf : Nat → Int} {rf : Nat → Tok} {vKind vChain vNonce vPrio vCap vGoal vSig : Value} {nx : Nat} {data : Array UInt8} {tb : Tok} {rits : List Value} {an : Nat} {tl : List (Addr × Obj)} {rs : List (Int × List Int)} {goal : Option Int} {who : Int} {tka : Tok} {left : Int} {tkb : Tok} {worth : Int} {tkc tkd : Tok}
    (C : Cx w mean mg mb A₀ A cn cs L a ccd cl outer base h₀ m s.heap 400 5000)
    (N : News h₀ L s.heap ((tx, instObj 511 txd) :: (txd, txO qf rf vKind vChain vNonce vPrio vCap (.int (intr data rs goal + left) tkd) vGoal (.int worth tkc) (.bytes data tb) al vSig nx) :: (al, listOf rits.toArray an) :: tl)) (hz : data.size ≤ 70)
    (hg : GoalIs vGoal goal) (hR : RowsIn tl rits rs) (hro : RowsOk rs)
    (hret : ∀ h' tk', Kept s.heap h' [] → Q (.bool true) { s with heap := h', toks := tk' }) :
    wpAny (model PySem.Challenge.rw_pq0410_01.row.prog w) A (call (.ref 587) [.ref tx, .int who tka, .int left tkb]) Q E s := by
  have N0 := N
  have hg0 := hg
  walk_at "ENTER"
  rename_i g1 L1 h1' hG1 hU1 F0 N1 B1 X1 T1
  apply gen_fr F0
  clear F0
  intro M F1 eM
  have hm1 : M (Str.ofString "law_deal") = some (.ref tx) := eM _
  have hm2 : M (Str.ofString "law_giver") = some (.int who tka) := eM _
  have hm3 : M (Str.ofString "law_left") = some (.int left tkb) := eM _
  clear eM
  repeat' ((fail_if_success (with_reducible show wpAny _ _ (call (Value.ref 144) _) _ _ _)); first | walk1 | (dsimp only; walk1))
  refine' messageOf_led ?zC N1 (.head _) (.tail _ (.head _)) (.tail _ (.tail _ (.head _))) (fun p hp => .tail _ (.tail _ (.tail _ hp))) hz hg hR hro (fun h2 tk2 x d f g n t1 t2 t3 t4 t5 t6 F2 N2 l1 l2 => ?_)
  case zC => walk_at "CX"
  clear N1 F1
  dsimp only
  repeat' ((fail_if_success (with_reducible show wpAny _ _ (eval (Expr.IfExp _ _ _ _) _) _ _ _)); first | walk1 | (dsimp only; walk1))
  rename_i h3 F3 N3
  apply gen_fr F3
  clear F3
  intro M2 F4 eM
  have hn1 := (eM (Str.ofString "law_deal")).trans hm1
  have hn2 := (eM (Str.ofString "law_giver")).trans hm2
  have hn3 := (eM (Str.ofString "law_left")).trans hm3
  have hn4 : M2 (Str.ofString "law_told") = some (.ref x) := eM _
  clear eM hm1 hm2 hm3
  refine wpAny_mono (Q := ValIn (fun t => .int (goal.getD 0) t) h3 s) ?_ ?_ (fun _ _ e => e)
  · revert N3
    apply goal_at hg
    · intro eg N3
      k_steps
      exact .mk (congrArg (fun z => Value.int z _) (show (0 : Int) = goal.getD 0 by rw [eg]; rfl))
    · intro gi gt eg N3
      k_steps
      exact .mk (congrArg (fun z => Value.int z _) (show gi = goal.getD 0 by rw [eg]; rfl))
  intro v s2 X9
  apply ValIn.elim X9
  clear X9
  intro t7 tk7
  dsimp only
  repeat' ((fail_if_success (with_reducible show wpAny _ _ (eval (Expr.IfExp _ _ _ _) _) _ _ _)); first | walk1 | (dsimp only; walk1))
  rename_i h4 tk4 T4 h5 l5 h6 F5 N5
  apply gen_fr F5
  clear F5
  intro M3 F6 eM
  have hq1 := (eM (Str.ofString "law_deal")).trans hn1
  have hq2 := (eM (Str.ofString "law_giver")).trans hn2
  have hq3 := (eM (Str.ofString "law_left")).trans hn3
  have hq4 := (eM (Str.ofString "law_told")).trans hn4
  have hq5 : M3 (Str.ofString "law_goal") = some (.int (goal.getD 0) t7) := eM _
  have hq6 : M3 (Str.ofString "law_ways") = some (.ref T4) := eM _
  clear eM hn1 hn2 hn3 hn4
  refine wpAny_mono (Q := ValIn (fun t => .str (goalWord goal) t) h6 s) ?_ ?_ (fun _ _ e => e)
  · revert N5
    apply goal_at hg
    · intro eg N5
      k_steps
      exact .mk (congrArg (fun z => Value.str z _) (show Str.ofString "create" = goalWord goal by rw [eg]; rfl))
    · intro gi gt eg N5
      k_steps
      exact .mk (congrArg (fun z => Value.str z _) (show Str.ofString "call" = goalWord goal by rw [eg]; rfl))
  intro v s2 X9
  apply ValIn.elim X9
  clear X9
  intro t8 tk8
  try dsimp only
  repeat' ((fail_if_success (with_reducible show wpAny _ _ (compareOp CmpOp.NotEq _ _) _ _ _)); first | walk1 | (dsimp only; walk1))
  refine tup_sameN ⟨_, News.get (by assumption) (by k_mem), rfl, _, rfl⟩ ⟨_, News.get (by assumption) (by k_mem), rfl, _, rfl⟩ (.cons ea_str (.cons (SeqAt.EqAt.same _) (.cons (ea_int rfl) (.cons (ea_int rfl) (.cons (SeqAt.EqAt.same _) (.cons (SeqAt.EqAt.same _) .nil)))))) (by ke_room) ?_
  try dsimp only
  repeat' ((fail_if_success (with_reducible show wpAny _ _ (compareOp CmpOp.Eq _ _) _ _ _)); first | walk1 | (dsimp only; walk1))
  refine tup_same ⟨_, News.get (by assumption) (by k_mem), rfl, _, rfl⟩ ⟨_, News.get (by assumption) (by k_mem), rfl, _, rfl⟩ (.cons (SeqAt.EqAt.same _) (.cons (ea_int ?_) (.cons (SeqAt.EqAt.same _) (.cons (ea_int rfl) (.cons (ea_int rfl) .nil))))) (by ke_room) ?_
  · omega
  show Q _ _
  exact hret _ _ (kept_end N0 hG1 (by assumption) (keptN (by assumption) (by walk_at "KEPT")))
theorem sends_led {tx txd al : Addr} {qf : Nat → Int} {rf : Nat → Tok} {vKind vChain vNonce vPrio vCap vVal vLimit vData vGoal vSig : Value} {nx : Nat} {data : Array UInt8} {tb : Tok} {rits : List Value} {an : Nat} {tl news : List (Addr × Obj)} {rs : List (Int × List Int)} {goal : Option Int} {who : Int} {tka : Tok} {left : Int} {tkb : Tok} {worth : Int} {tkc tkd : Tok}
    (C : Cx w mean mg mb A₀ A cn cs L a ccd cl outer base h₀ m s.heap 400 5000)
    (N : News h₀ L s.heap news) (m1 : (tx, instObj 511 txd) ∈ news) (m2 : (txd, (txO qf rf vKind vChain vNonce vPrio vCap vLimit vGoal vVal vData al vSig nx)) ∈ news) (m3 : (al, listOf rits.toArray an) ∈ news) (ht : ∀ p ∈ tl, p ∈ news) (hd : vData = .bytes data tb) (hz : data.size ≤ 70)
    (hw : vVal = .int worth tkc) (hl : vLimit = .int (intr data rs goal + left) tkd)
    (hg : GoalIs vGoal goal) (hR : RowsIn tl rits rs) (hro : RowsOk rs)
    (hret : ∀ h' tk', Kept s.heap h' [] → Fr h₀ L h' m → News h₀ L h' news → Q (.bool true) { s with heap := h', toks := tk' }) :
    wpAny (model PySem.Challenge.rw_pq0410_01.row.prog w) A (call (.ref 587) [.ref tx, .int who tka, .int left tkb]) Q E s := by
  subst hd hw hl
  exact sends_spec C (List.forall_mem_cons.mpr ⟨N _ m1, List.forall_mem_cons.mpr ⟨N _ m2, List.forall_mem_cons.mpr ⟨N _ m3, fun p hp => N p (ht p hp)⟩⟩⟩) hz hg hR hro fun h' tk' K => hret h' tk' K (C.after K (by simp) (by simp)) (news_kept N K)
end


section
variable {prog : Program} {w : World} {A : Around} {E : Value → Shared → Prop} {s : Shared} {h₀ : Heap} {L d : Addr} {news : List (Addr × Obj)}
theorem get_ones {Q : Value → Shared → Prop} {o : Obj} {kvs : List (Int × Value)} {x : Int} {tk : Tok} {v : Value} (N : News h₀ L s.heap news) (hm : (d, o) ∈ news) (hd : o.IsDictOf (PySem.intKind PySem.Challenge.rw_pq0410_01.row.prog w) kvs)
    (hb : valueAt kvs x = some v) (h : Q v { s with toks := s.toks + 1 }) :
    wpAny (model PySem.Challenge.rw_pq0410_01.row.prog w) A (getItem (.ref d) (.int x tk)) Q E s := wpAny_getItem_of (intKind_is _ _ _ _) (kda_dict N hm hd).mapOf hb h
end
example : True := by
  k_with "getItem ref int" => (k_here; k_dflt (refine' get_ones ?zzyN ?zzym ?zzyd ?zzyb ?_; (case zzyN => k_asm); (case zzym => k_mem); (case zzyd => k_asm); (case zzyb => with_reducible assumption)))
  trivial
section
variable {w : World} {mean : ExcName → Option Value} {mg mb : Str → Option Value} {A₀ A : Around} {cn : Str} {cs : Scope} {L a : Addr} {ccd : Value} {cl : List (Str × Addr)} {outer : List Env} {base h₀ : Heap} {m : Str → Option Value}
  {s : Shared} {Q E : Value → Shared → Prop}


theorem balance_spec {st sd se ac jl td dd wd ws od lg : Addr} {zf : Nat → Int} {tf : Nat → Tok} {nd : Nat} {ai aid sto : Addr} {aco : Obj} {ahf : Nat → Int} {akf : Nat → Tok} {adn : Nat} {who : Int} {wk4 : Tok}
    (C : Cx w mean mg mb A₀ A cn cs L a ccd cl outer base h₀ m s.heap 700 8000)
    (N : News h₀ L s.heap ((st, instObj 490 sd) :: (sd, (sdO zf tf se ac jl td dd wd ws od lg nd)) :: (ac, aco) :: (ai, instObj 203 aid) :: (aid, (acO ahf akf sto adn)) :: []))
    (hac : aco.IsDictOf (PySem.intKind PySem.Challenge.rw_pq0410_01.row.prog w) [(who, .ref ai)]) (lo : (ac == sysModules) = false)
    (hret : ∀ h' tk', Kept s.heap h' [] → Q (.int 1000000000 (akf 6)) { s with heap := h', toks := tk' }) :
    wpAny (model PySem.Challenge.rw_pq0410_01.row.prog w) A (call (.ref 333) [.ref st, .int who wk4]) Q E s := by
  have N0 := N
  have hv1 : valueAt [(who, Value.ref ai)] who = some (.ref ai) := by simp [valueAt]
  have hb1 : (valueAt [(who, Value.ref ai)] who).isSome = true := by rw [hv1]; rfl
  walk_at "ENTER"
  rename_i g1 L1 h1' hG1 hU1 F1 N1 B1 X1 T1
  k_steps
  show Q _ _
  exact hret _ _ (kept_end N0 hG1 (by assumption) (keptN (by assumption) (by walk_at "KEPT")))
theorem balance_led {st sd se ac jl td dd wd ws od lg : Addr} {zf : Nat → Int} {tf : Nat → Tok} {nd : Nat} {ai aid sto : Addr} {aco : Obj} {ahf : Nat → Int} {akf : Nat → Tok} {adn : Nat} {who : Int} {wk4 : Tok} {news : List (Addr × Obj)}
    (C : Cx w mean mg mb A₀ A cn cs L a ccd cl outer base h₀ m s.heap 700 8000)
    (N : News h₀ L s.heap news) (m1 : (st, instObj 490 sd) ∈ news) (m2 : (sd, (sdO zf tf se ac jl td dd wd ws od lg nd)) ∈ news) (m3 : (ac, aco) ∈ news) (m4 : (ai, instObj 203 aid) ∈ news) (m5 : (aid, (acO ahf akf sto adn)) ∈ news)
    (hac : aco.IsDictOf (PySem.intKind PySem.Challenge.rw_pq0410_01.row.prog w) [(who, .ref ai)]) (lo : (ac == sysModules) = false)
    (hret : ∀ h' tk', Kept s.heap h' [] → Fr h₀ L h' m → News h₀ L h' news → Q (.int 1000000000 (akf 6)) { s with heap := h', toks := tk' }) :
    wpAny (model PySem.Challenge.rw_pq0410_01.row.prog w) A (call (.ref 333) [.ref st, .int who wk4]) Q E s :=
  balance_spec C (List.forall_mem_cons.mpr ⟨N _ m1, List.forall_mem_cons.mpr ⟨N _ m2, List.forall_mem_cons.mpr ⟨N _ m3, List.forall_mem_cons.mpr ⟨N _ m4, List.forall_mem_cons.mpr ⟨N _ m5, fun _ h => nomatch h⟩⟩⟩⟩⟩) hac lo fun h' tk' K => hret h' tk' K (C.after K (by simp) (by simp)) (news_kept N K)

theorem nonce_spec {st sd se ac jl td dd wd ws od lg : Addr} {zf : Nat → Int} {tf : Nat → Tok} {nd : Nat} {ai aid sto : Addr} {aco : Obj} {ahf : Nat → Int} {akf : Nat → Tok} {adn : Nat} {who : Int} {wk4 : Tok}
    (C : Cx w mean mg mb A₀ A cn cs L a ccd cl outer base h₀ m s.heap 700 8000)
    (N : News h₀ L s.heap ((st, instObj 490 sd) :: (sd, (sdO zf tf se ac jl td dd wd ws od lg nd)) :: (ac, aco) :: (ai, instObj 203 aid) :: (aid, (acO ahf akf sto adn)) :: []))
    (hac : aco.IsDictOf (PySem.intKind PySem.Challenge.rw_pq0410_01.row.prog w) [(who, .ref ai)]) (lo : (ac == sysModules) = false)
    (hret : ∀ h' tk', Kept s.heap h' [] → Q (.int 0 (akf 5)) { s with heap := h', toks := tk' }) :
    wpAny (model PySem.Challenge.rw_pq0410_01.row.prog w) A (call (.ref 354) [.ref st, .int who wk4]) Q E s := by
  have N0 := N
  have hv1 : valueAt [(who, Value.ref ai)] who = some (.ref ai) := by simp [valueAt]
  have hb1 : (valueAt [(who, Value.ref ai)] who).isSome = true := by rw [hv1]; rfl
  walk_at "ENTER"
  rename_i g1 L1 h1' hG1 hU1 F1 N1 B1 X1 T1
  k_steps
  show Q _ _
  exact hret _ _ (kept_end N0 hG1 (by assumption) (keptN (by assumption) (by walk_at "KEPT")))
theorem nonce_led {st sd se ac jl td dd wd ws od lg : Addr} {zf : Nat → Int} {tf : Nat → Tok} {nd : Nat} {ai aid sto : Addr} {aco : Obj} {ahf : Nat → Int} {akf : Nat → Tok} {adn : Nat} {who : Int} {wk4 : Tok} {news : List (Addr × Obj)}
    (C : Cx w mean mg mb A₀ A cn cs L a ccd cl outer base h₀ m s.heap 700 8000)
    (N : News h₀ L s.heap news) (m1 : (st, instObj 490 sd) ∈ news) (m2 : (sd, (sdO zf tf se ac jl td dd wd ws od lg nd)) ∈ news) (m3 : (ac, aco) ∈ news) (m4 : (ai, instObj 203 aid) ∈ news) (m5 : (aid, (acO ahf akf sto adn)) ∈ news)
    (hac : aco.IsDictOf (PySem.intKind PySem.Challenge.rw_pq0410_01.row.prog w) [(who, .ref ai)]) (lo : (ac == sysModules) = false)
    (hret : ∀ h' tk', Kept s.heap h' [] → Fr h₀ L h' m → News h₀ L h' news → Q (.int 0 (akf 5)) { s with heap := h', toks := tk' }) :
    wpAny (model PySem.Challenge.rw_pq0410_01.row.prog w) A (call (.ref 354) [.ref st, .int who wk4]) Q E s :=
  nonce_spec C (List.forall_mem_cons.mpr ⟨N _ m1, List.forall_mem_cons.mpr ⟨N _ m2, List.forall_mem_cons.mpr ⟨N _ m3, List.forall_mem_cons.mpr ⟨N _ m4, List.forall_mem_cons.mpr ⟨N _ m5, fun _ h => nomatch h⟩⟩⟩⟩⟩) hac lo fun h' tk' K => hret h' tk' K (C.after K (by simp) (by simp)) (news_kept N K)

theorem code_spec {st sd se ac jl td dd wd ws od lg : Addr} {zf : Nat → Int} {tf : Nat → Tok} {nd : Nat} {ai aid sto : Addr} {aco : Obj} {ahf : Nat → Int} {akf : Nat → Tok} {adn : Nat} {who : Int} {wk4 : Tok}
    (C : Cx w mean mg mb A₀ A cn cs L a ccd cl outer base h₀ m s.heap 700 8000)
    (N : News h₀ L s.heap ((st, instObj 490 sd) :: (sd, (sdO zf tf se ac jl td dd wd ws od lg nd)) :: (ac, aco) :: (ai, instObj 203 aid) :: (aid, (acO ahf akf sto adn)) :: []))
    (hac : aco.IsDictOf (PySem.intKind PySem.Challenge.rw_pq0410_01.row.prog w) [(who, .ref ai)]) (lo : (ac == sysModules) = false)
    (hret : ∀ h' tk', Kept s.heap h' [] → Q (.bytes #[] (akf 7)) { s with heap := h', toks := tk' }) :
    wpAny (model PySem.Challenge.rw_pq0410_01.row.prog w) A (call (.ref 368) [.ref st, .int who wk4]) Q E s := by
  have N0 := N
  have hv1 : valueAt [(who, Value.ref ai)] who = some (.ref ai) := by simp [valueAt]
  have hb1 : (valueAt [(who, Value.ref ai)] who).isSome = true := by rw [hv1]; rfl
  walk_at "ENTER"
  rename_i g1 L1 h1' hG1 hU1 F1 N1 B1 X1 T1
  k_steps
  show Q _ _
  exact hret _ _ (kept_end N0 hG1 (by assumption) (keptN (by assumption) (by walk_at "KEPT")))
theorem code_led {st sd se ac jl td dd wd ws od lg : Addr} {zf : Nat → Int} {tf : Nat → Tok} {nd : Nat} {ai aid sto : Addr} {aco : Obj} {ahf : Nat → Int} {akf : Nat → Tok} {adn : Nat} {who : Int} {wk4 : Tok} {news : List (Addr × Obj)}
    (C : Cx w mean mg mb A₀ A cn cs L a ccd cl outer base h₀ m s.heap 700 8000)
    (N : News h₀ L s.heap news) (m1 : (st, instObj 490 sd) ∈ news) (m2 : (sd, (sdO zf tf se ac jl td dd wd ws od lg nd)) ∈ news) (m3 : (ac, aco) ∈ news) (m4 : (ai, instObj 203 aid) ∈ news) (m5 : (aid, (acO ahf akf sto adn)) ∈ news)
    (hac : aco.IsDictOf (PySem.intKind PySem.Challenge.rw_pq0410_01.row.prog w) [(who, .ref ai)]) (lo : (ac == sysModules) = false)
    (hret : ∀ h' tk', Kept s.heap h' [] → Fr h₀ L h' m → News h₀ L h' news → Q (.bytes #[] (akf 7)) { s with heap := h', toks := tk' }) :
    wpAny (model PySem.Challenge.rw_pq0410_01.row.prog w) A (call (.ref 368) [.ref st, .int who wk4]) Q E s :=
  code_spec C (List.forall_mem_cons.mpr ⟨N _ m1, List.forall_mem_cons.mpr ⟨N _ m2, List.forall_mem_cons.mpr ⟨N _ m3, List.forall_mem_cons.mpr ⟨N _ m4, List.forall_mem_cons.mpr ⟨N _ m5, fun _ h => nomatch h⟩⟩⟩⟩⟩) hac lo fun h' tk' K => hret h' tk' K (C.after K (by simp) (by simp)) (news_kept N K)
end

example : True := by
  k_with "getItem ref int" => (k_here; k_dflt (refine' get_ones ?zzyN ?zzym ?zzyd ?zzyb ?_; (case zzyN => k_asm); (case zzym => k_mem); (case zzyd => k_asm); (case zzyb => with_reducible assumption)))
  k_with "call ref" => (k_here; (with_reducible show wpAny _ _ (call (Value.ref 333) _) _ _ _); k_dflt (refine' balance_led ?zzzC ?zzyN ?zzym1 ?zzym2 ?zzym3 ?zzym4 ?zzym5 ?zzya ?zzyl ?_; (case zzzC => k_extra "CX"); (case zzyN => k_asm); (case zzym1 => k_mem); (case zzym2 => k_mem); (case zzym3 => k_mem); (case zzym4 => k_mem); (case zzym5 => k_mem); (case zzya => assumption); (case zzyl => assumption)); k_extra "J6")
  k_with "call ref" => (k_here; (with_reducible show wpAny _ _ (call (Value.ref 354) _) _ _ _); k_dflt (refine' nonce_led ?zzzC ?zzyN ?zzym1 ?zzym2 ?zzym3 ?zzym4 ?zzym5 ?zzya ?zzyl ?_; (case zzzC => k_extra "CX"); (case zzyN => k_asm); (case zzym1 => k_mem); (case zzym2 => k_mem); (case zzym3 => k_mem); (case zzym4 => k_mem); (case zzym5 => k_mem); (case zzya => assumption); (case zzyl => assumption)); k_extra "J6")
  k_with "call ref" => (k_here; (with_reducible show wpAny _ _ (call (Value.ref 368) _) _ _ _); k_dflt (refine' code_led ?zzzC ?zzyN ?zzym1 ?zzym2 ?zzym3 ?zzym4 ?zzym5 ?zzya ?zzyl ?_; (case zzzC => k_extra "CX"); (case zzyN => k_asm); (case zzym1 => k_mem); (case zzym2 => k_mem); (case zzym3 => k_mem); (case zzym4 => k_mem); (case zzym5 => k_mem); (case zzya => assumption); (case zzyl => assumption)); k_extra "J6")
  trivial

example : True := by
  k_with "binaryOp Mult int int" => (k_here; (with_reducible refine mul_int ?_ (by assumption)))
  trivial
section
variable {w : World} {mean : ExcName → Option Value} {mg mb : Str → Option Value} {A₀ A : Around} {cn : Str} {cs : Scope} {L a : Addr} {ccd : Value} {cl : List (Str × Addr)} {outer : List Env} {base h₀ : Heap} {m : Str → Option Value}
  {s : Shared} {Q E : Value → Shared → Prop}

theorem str_if {c : Prop} [Decidable c] {x y z : Str} {Q : Value → Shared → Prop} {t : Tok} {s : Shared} (e : (if c then x else y) = z) (h : Q (.str (if c then x else y) t) s) : Q (.str z t) s := e ▸ h
theorem fault_led {st sd se ac jl td dd wd ws od lg : Addr} {zf : Nat → Int} {tf : Nat → Tok} {nd : Nat} {tx txd al : Addr} {qf : Nat → Int} {rf : Nat → Tok} {vKind vChain vNonce vPrio vCap vLimit vGoal vVal vData vSig : Value} {nx : Nat} {bl bd : Addr} {pf : Nat → Int} {of' : Nat → Tok} {vNum vTime vFee vLim vRand vHash : Value} {tips : Int} {ob : Tok} {nb : Nat} {sed : Addr} {shf : Nat → Int} {skf : Nat → Tok} {sn : Nat} {ai aid sto : Addr} {aco : Obj} {ahf : Nat → Int} {akf : Nat → Tok} {adn : Nat} {who : Int} {wk4 us : Tok} {data : Array UInt8} {tb : Tok} {rits : List Value} {an : Nat} {tl : List (Addr × Obj)} {rs : List (Int × List Int)} {news : List (Addr × Obj)} {word : Str} {goal : Option Int}
    {kind prio cap limit worth fee : Int} {u1 u2 u3 u4 u5 u6 u7 u8 u9 : Tok}
    (C : Cx w mean mg mb A₀ A cn cs L a ccd cl outer base h₀ m s.heap 450 5500)
    (N : News h₀ L s.heap news) (m1 : (tx, instObj 511 txd) ∈ news) (m2 : (txd, (txO qf rf vKind vChain vNonce vPrio vCap vLimit vGoal vVal vData al vSig nx)) ∈ news) (m3 : (al, listOf rits.toArray an) ∈ news) (m4 : (st, instObj 490 sd) ∈ news) (m5 : (sd, (sdO zf tf se ac jl td dd wd ws od lg nd)) ∈ news) (m6 : (se, instObj 161 sed) ∈ news) (m7 : (sed, (seO shf skf sn)) ∈ news) (m8 : (ac, aco) ∈ news) (m9 : (ai, instObj 203 aid) ∈ news) (m10 : (aid, (acO ahf akf sto adn)) ∈ news) (m11 : (bl, instObj 182 bd) ∈ news) (m12 : (bd, (bdO pf of' vNum vTime tips ob vFee vLim vRand vHash nb)) ∈ news) (ht : ∀ p ∈ tl, p ∈ news)
    (hd : vData = .bytes data tb) (hz : data.size ≤ 70)
    (hk : vKind = .int kind u1) (hc : vChain = .int 1 u2) (hn : vNonce = .int 0 u3) (hp : vPrio = .int prio u4) (hca : vCap = .int cap u5) (hl : vLimit = .int limit u6) (hw : vVal = .int worth u7)
    (hfe : vFee = .int fee u8) (hbl : vLim = .int 30000000 u9)
    (hac : aco.IsDictOf (PySem.intKind PySem.Challenge.rw_pq0410_01.row.prog w) [(who, .ref ai)]) (lo : (ac == sysModules) = false)
    (i7 : cap ≤ 5) (i1 : 0 ≤ prio) (i2 : prio ≤ cap) (i3 : fee ≤ cap) (i4 : limit ≤ 30000000) (i5 : limit * cap + worth ≤ 1000000000) (i6 : 0 ≤ worth)
    (hg : GoalIs vGoal goal) (hR : RowsIn tl rits rs) (hro : RowsOk rs)
    (hwd : (if limit < intr data rs goal then Str.ofString "gas" else Str.ofString "") = word)
    (hret : ∀ h' tk' t, Kept s.heap h' [] → Fr h₀ L h' m → News h₀ L h' news → Q (.str word t) { s with heap := h', toks := tk' }) :
    wpAny (model PySem.Challenge.rw_pq0410_01.row.prog w) A (call (.ref 123) [.ref tx, .int who wk4, .ref st, .ref bl, .int 0 us, .ref se]) Q E s := by
  subst hd hw hl hk hc hn hp hca hfe hbl
  have N0 := N
  have hmul : IntMulOk limit cap := .of_right (PySem.intBits_le_64 (by omega) (by omega))
  have hsz : data.size ≤ sizeLine := by rw [sizeLine_eq]; exact Nat.le_trans hz (Nat.le_of_ble_eq_true rfl)
  replace hR := RowsIn.mono ht hR
  walk_at "ENTER"
  rename_i g1 L1 h1' hG1 hU1 F1 N1 B1 X1 T1
  apply gen_fr F1
  clear F1
  intro M F2 eM
  have hM1 : M (Str.ofString "tx") = some (.ref tx) := eM _
  have hM2 : M (Str.ofString "sender") = some (.int who wk4) := eM _
  have hM3 : M (Str.ofString "state") = some (.ref st) := eM _
  have hM4 : M (Str.ofString "block") = some (.ref bl) := eM _
  have hM5 : M (Str.ofString "used") = some (.int 0 us) := eM _
  have hM6 : M (Str.ofString "setting") = some (.ref se) := eM _
  clear eM
  iterate 5
    repeat' ((fail_if_success (with_reducible show wpAny _ _ (exec (Stmt.If _ _ _ _) _) _ _ _)); first | walk1 | (dsimp only; walk1))
    walk1
  repeat' ((fail_if_success (with_reducible show wpAny _ _ (exec (Stmt.If _ _ _ _) _) _ _ _)); first | walk1 | (dsimp only; walk1))
  (rename Fr g1 L1 _ M => F7)
  (rename News g1 L1 _ _ => N7)
  subst hwd
  have hr2 := fun (h' : Heap) (tk' : Nat) (t : Tok) (K : Kept s.heap h' []) => hret h' tk' t K (C.after K (fun h => nomatch h) (fun _ h => nomatch h)) (news_kept N0 K)
  clear hret
  refine wpAny_mono (Q := JoinF g1 L1 M (fun ld => ∀ p ∈ news, p ∈ ld) s) ?_ ?_ (fun _ _ e => e)
  · clear hr2
    revert m2
    apply goal_at hg
    · intro e m2
      k_steps
      exact .mk F7 N7 fun _ h => h
    · intro gi gt e m2
      k_steps
      exact .mk F7 N7 fun _ h => h
  · intro f s2 X5
    clear F7 N7
    apply JoinF.elim X5
    intro h8 tk8 ld F8 N8 H8
    replace N8 : News _ _ _ news := fun p hp => N8 p (H8 p hp)
    clear H8 X5
    dsimp only
    k_steps
    · show Q _ _
      exact str_if (if_pos (by assumption)) (hr2 _ _ _ (kept_end N0 hG1 (by assumption) (keptN (by assumption) fun q hq => .inr hq)))
    · show Q _ _
      exact str_if (if_neg (by assumption)) (hr2 _ _ _ (kept_end N0 hG1 (by assumption) (keptN (by assumption) fun q hq => .inr hq)))
end

example : True := by
  k_with "call ref" => (k_here; (with_reducible show wpAny _ _ (call (Value.ref 123) _) _ _ _); k_dflt (refine' fault_led ?zzzC ?zzyN ?zzym1 ?zzym2 ?zzym3 ?zzym4 ?zzym5 ?zzym6 ?zzym7 ?zzym8 ?zzym9 ?zzym10 ?zzym11 ?zzym12 ?zzyt ?zzyd ?zzyz ?zzya1 ?zzya2 ?zzya3 ?zzya4 ?zzya5 ?zzya6 ?zzya7 ?zzya8 ?zzya9 ?zzyb1 ?zzyb2 ?zzyc7 ?zzyc1 ?zzyc2 ?zzyc3 ?zzyc4 ?zzyc5 ?zzyc6 ?zzyg ?zzyR ?zzyo ?zzyw ?_; (case zzzC => k_extra "CX"); (case zzyN => k_asm); (case zzym1 => k_mem); (case zzym2 => k_mem); (case zzym3 => k_mem); (case zzym4 => k_mem); (case zzym5 => k_mem); (case zzym6 => k_mem); (case zzym7 => k_mem); (case zzym8 => k_mem); (case zzym9 => k_mem); (case zzym10 => k_mem); (case zzym11 => k_mem); (case zzym12 => k_mem); (case zzyd => rfl); (case zzyz => assumption); (case zzya1 => rfl); (case zzya2 => rfl); (case zzya3 => rfl); (case zzya4 => rfl); (case zzya5 => rfl); (case zzya6 => rfl); (case zzya7 => rfl); (case zzya8 => rfl); (case zzya9 => rfl); (case zzyb1 => assumption); (case zzyb2 => assumption); (case zzyc7 => assumption); (case zzyc1 => assumption); (case zzyc2 => assumption); (case zzyc3 => assumption); (case zzyc4 => assumption); (case zzyc5 => assumption); (case zzyc6 => assumption); (case zzyg => assumption); (case zzyR => assumption); (case zzyt => k_extra "SUBT"); (case zzyo => assumption); (case zzyw => assumption)); k_extra "J7")
  trivial

section
variable {M : Model} {A : Around} {E : Value → Shared → Prop} {s : Shared}
/-- an exception on its way: the object e is o0 but for its fields; its newest traceback entry has the flight fl -/
def TracedX (h base : Heap) (e : Addr) (o0 : Obj) (a0 fl : Value) : Prop :=
  ∃ vs T oT ts, h.get? e = some { o0 with data := .fields vs } ∧ vs[0]? = some a0 ∧ vs[1]? = some (.ref T) ∧ base.get? T = none ∧ T ≠ e ∧ h.get? T = some oT ∧ oT.data = .fields ts ∧ ts[3]? = some fl
def FlyX (base : Heap) (l : List Env) (e : Addr) (o0 : Obj) (a0 fl : Value) (h : Heap) : Prop :=
  base.StaysIn h ∧ base.get? e = none ∧ h.FunFrames base l ∧ TracedX h base e o0 a0 fl
theorem map_fields {o : Obj} {vs : Array Value} (f : Array Value → Array Value) (hd : o.data = .fields vs) : Obj.mapFields f o = { o with data := .fields (f vs) } := by
  obtain ⟨c, d, dt, sl⟩ := o
  dsimp only at hd
  subst hd
  rfl

theorem xEntry {base : Heap} {env : Env} {outer : List Env} {L e : Addr} {oe : Obj} {vs : Array Value} {head a0 : Value} {hadNext : Bool} {Q : Unit → Shared → Prop}
    (hfr : A.frames = some (env :: outer)) (hl : s.heap.FunFrames base (env :: outer)) (hf : env.frame = some L)
    (he : s.heap.get? e = some oe) (hkb : base.StaysIn s.heap) (hen : base.get? e = none) (hd : oe.data = .fields vs) (hsz : 1 < vs.size) (h0 : vs[0]? = some a0)
    (h : ∀ h', FlyX base (env :: outer) e oe a0 (rawInt L) h' → s.heap.UpToSlots h' → Q () { s with heap := h' }) :
    wpAny M A (do let a ← frameOf env; let pl ← entryPlaceOf L hadNext; let b ← EntryCells.newEntry head a .none (rawInt L) .none pl; setField (.ref e) 1 b) Q E s := by
  have hene : e ∉ (env :: outer).filterMap (·.frame) := fun hm => by
    obtain ⟨_, o, ho, hnf⟩ := hl.mem hm
    rw [he] at ho; injection ho with ho; subst ho; exact hnf vs hd
  refine wpAny_bind (wpAny_frameOf_fun hfr hl hf fun h₁ hs₁ => ?_)
  refine wpAny_bind (wpAny_entryPlaceOf fun pl hpl => ?_)
  unfold EntryCells.newEntry newFields
  refine wpAny_bind (wpAny_newObj_type ?_ (hpl.sizeOk5 _ _ _ _ _))
  have he₁ : h₁.get? e = some oe := (hs₁.2.1 e hene).trans he
  have kb₁ : base.StaysIn h₁ := fun b o hbo => (hs₁.2.1 b fun hm => by rw [(hl.mem hm).1] at hbo; cases hbo).trans (hkb b o hbo)
  obtain ⟨tb, htb⟩ : ∃ tb, tb = ({ cls := .type "traceback", dict := none, data := .fields ([head, .ref L, .none, rawInt L, .none] ++ (if pl.isEmpty then List.replicate 6 Value.none else pl)).toArray } : Obj) := ⟨_, rfl⟩
  rw [← htb]
  have he₂ := Heap.get?_push_of_some (h := h₁) tb he₁
  have hT := Heap.get?_push_size h₁ (o := tb) (by rw [htb]; rfl)
  refine wpAny_setField he₂ hd hsz (h _ ?_ ?_)
  · have hTe : h₁.objs.size ≠ e := Nat.ne_of_gt (Heap.lt_size he₁)
    have keep : ∀ b o, b ≠ e → h₁.get? b = some o → ((h₁.push tb).update e (Obj.mapFields (·.setIfInBounds 1 (Value.ref h₁.objs.size)))).get? b = some o := fun b o hbe hb => by
      rw [Heap.get?_update_ne _ _ _ _ hbe]
      exact Heap.get?_push_of_some _ hb
    have noRecord : ∀ b o, s.heap.get? b = some o → (∀ vs, o.data ≠ .fields vs) → b ≠ e := fun b o hb hnf q => by
      rw [q, he] at hb; injection hb with hb; subst hb; exact hnf vs hd
    have hed := Heap.get?_update_self (Obj.mapFields (·.setIfInBounds 1 (Value.ref h₁.objs.size))) he₂ (Obj.isFreed_of_fields (Obj.data_mapFields hd _))
    rw [map_fields _ hd] at hed
    refine ⟨fun b o hbo => keep b o (fun q => by rw [q, hen] at hbo; cases hbo) (kb₁ b o hbo), hen, hl.of_keeps fun b o hb hnf => ?_,
      _, h₁.objs.size, tb, ([head, .ref L, .none, rawInt L, .none] ++ (if pl.isEmpty then List.replicate 6 Value.none else pl)).toArray, hed, by rw [Array.getElem?_setIfInBounds_ne (by decide)]; exact h0, by simp [hsz], kb₁.fresh, hTe, ?_, ?_, ?_⟩
    · obtain ⟨sl, hs⟩ := hs₁.2.2 b o hb
      exact ⟨_, keep b _ (noRecord b o hb hnf) hs, rfl⟩
    · exact (Heap.get?_update_ne _ _ _ _ hTe).trans hT
    · rw [htb]
    · first | (simp; done) | (rcases hpl with rfl | ⟨_, _, _, _, _, _, _, rfl⟩ <;> simp)
  · intro b o hb hnf
    obtain ⟨sl, hs⟩ := hs₁.2.2 b o hb
    have hbe : b ≠ e := fun q => by
      rw [q, he] at hb; injection hb with hb; subst hb; exact hnf vs hd
    refine ⟨sl, ?_⟩
    rw [Heap.get?_update_ne _ _ _ _ hbe]
    exact Heap.get?_push_of_some _ hs

theorem xFlight {base : Heap} {l : List Env} {e : Addr} {o0 : Obj} {a0 fl : Value} {Q : Unit → Shared → Prop} (hx : FlyX base l e o0 a0 fl s.heap)
    (h : ∀ h', FlyX base l e o0 a0 .none h' → s.heap.UpToSlots h' → Q () { s with heap := h' }) : wpAny M A (setFlight (.ref e) none) Q E s := by
  obtain ⟨hkb, hen, hl, vs, T, oT, ts, he, h0, h1, hnT, hTe, hT, hdT, h3⟩ := hx
  have hsz3 : 3 < ts.size := (Array.getElem?_eq_some_iff.mp h3).1
  have other : ∀ b, b ≠ T → (s.heap.update T (Obj.mapFields (·.setIfInBounds 3 ((none : Option Addr).elim Value.none fun f => rawInt f)))).get? b = s.heap.get? b := fun b hb => Heap.get?_update_ne _ _ _ _ hb
  have noRecord : ∀ b o, s.heap.get? b = some o → (∀ vs, o.data ≠ .fields vs) → b ≠ T := fun b o hb hnf q => by
    rw [q, hT] at hb; injection hb with hb; subst hb; exact hnf ts hdT
  unfold setFlight
  refine wpAny_bind (wpAny_field he rfl h1 ?_)
  rw [if_pos (show (Value.ref T != Value.none) = true from by simp)]
  refine wpAny_setField hT hdT hsz3 (h _ ⟨fun b o hbo => (other b fun q => by rw [q, hnT] at hbo; cases hbo).trans (hkb b o hbo), hen, hl.of_keeps fun b o hb hnf => ⟨o, (other b (noRecord b o hb hnf)).trans hb, rfl⟩, ?_⟩ fun b o hb hnf => ⟨o.slots, (other b (noRecord b o hb hnf)).trans hb⟩)
  exact ⟨vs, T, _, _, (other e (Ne.symm hTe)).trans he, h0, h1, hnT, hTe, Heap.get?_update_self _ hT (Obj.isFreed_of_fields (Obj.data_mapFields hdT _)), Obj.data_mapFields hdT _, by simp [hsz3]⟩

/-- the first frame that an exception leaves -/
theorem xNote0 {base : Heap} {env : Env} {outer : List Env} {L e : Addr} {oe : Obj} {vs : Array Value} {a0 : Value} {Q : Unit → Shared → Prop}
    (hfr : A.frames = some (env :: outer)) (hl : s.heap.FunFrames base (env :: outer)) (hf : env.frame = some L)
    (he : s.heap.get? e = some oe) (hkb : base.StaysIn s.heap) (hen : base.get? e = none) (hd : oe.data = .fields vs) (h1 : vs[1]? = some .none) (h0 : vs[0]? = some a0)
    (h : ∀ h', FlyX base (env :: outer) e oe a0 (rawInt L) h' → s.heap.UpToSlots h' → Q () { s with heap := h' }) : wpAny M A (noteFrame (.ref e) env) Q E s := by
  unfold noteFrame
  simp only [hf]
  refine wpAny_bind (wpAny_field he hd h1 ?_)
  rw [if_neg (by decide)]
  exact xEntry hfr hl hf he hkb hen hd (Array.getElem?_eq_some_iff.mp h1).1 h0 h
/-- the next frame -/
theorem xNote1 {base : Heap} {env : Env} {outer : List Env} {L e : Addr} {o0 : Obj} {a0 : Value} {Q : Unit → Shared → Prop}
    (hfr : A.frames = some (env :: outer)) (hf : env.frame = some L) (hx : FlyX base (env :: outer) e o0 a0 .none s.heap)
    (h : ∀ h', FlyX base (env :: outer) e o0 a0 (rawInt L) h' → s.heap.UpToSlots h' → Q () { s with heap := h' }) : wpAny M A (noteFrame (.ref e) env) Q E s := by
  obtain ⟨hkb, hen, hl, vs, T, oT, ts, he, h0, h1, hnT, hTe, hT, hdT, h3⟩ := hx
  unfold noteFrame
  simp only [hf]
  refine wpAny_bind (wpAny_field he rfl h1 ?_)
  rw [if_pos (show (Value.ref T != Value.none) = true from by simp)]
  refine wpAny_bind (wpAny_field hT hdT h3 ?_)
  rw [if_neg (show ¬ ((Value.none == rawInt L) = true) from by simp [rawInt])]
  refine wpAny_bind (wpAny_setField hT hdT (Array.getElem?_eq_some_iff.mp h3).1 ?_)
  have other : ∀ b, b ≠ T → (s.heap.update T (Obj.mapFields (·.setIfInBounds 3 Value.none))).get? b = s.heap.get? b := fun b hb => Heap.get?_update_ne _ _ _ _ hb
  have noRecord : ∀ b o, s.heap.get? b = some o → (∀ vs, o.data ≠ .fields vs) → b ≠ T := fun b o hb hnf q => by
    rw [q, hT] at hb; injection hb with hb; subst hb; exact hnf ts hdT
  refine xEntry hfr (hl.of_keeps fun b o hb hnf => ⟨o, (other b (noRecord b o hb hnf)).trans hb, rfl⟩) hf ((other e (Ne.symm hTe)).trans he)
    (fun b o hbo => (other b fun q => by rw [q, hnT] at hbo; cases hbo).trans (hkb b o hbo)) hen rfl (Array.getElem?_eq_some_iff.mp h1).1 h0 fun h' y u => h h' ⟨y.1, y.2.1, y.2.2.1, ?_⟩ (Heap.UpToSlots.trans (fun b o hb hnf => ⟨o.slots, (other b (noRecord b o hb hnf)).trans hb⟩) u)
  exact y.2.2.2
end


section
variable {M : Model} {A : Around} {E : Value → Shared → Prop} {s' : Shared} {base g h : Heap} {outer : List Env} {L a e : Addr} {m : Str → Option Value} {name : Str} {scope : Scope} {cd : Value} {Q : Unit → Shared → Prop} {news : List (Addr × Obj)} {eo : Obj} {vs : Array Value} {a0 : Value}
/-- an exception that has left the frames above l: what lay in G lies still -/
def RaisedX (base G : Heap) (l : List Env) (e : Addr) (eo : Obj) (a0 : Value) (news : List (Addr × Obj)) (h : Heap) : Prop :=
  ∃ B, base.StaysIn B ∧ (∀ b o, G.get? b = some o → b ∉ l.filterMap (·.frame) → B.get? b = some o) ∧ (∀ q ∈ news, B.get? q.1 = some q.2 ∧ G.get? q.1 = none ∧ base.get? q.1 = none) ∧ FlyX B l e eo a0 .none h

theorem leaveX (K : Below A base outer g) (F : Fr g L s'.heap m) (N : News g L s'.heap ((e, eo) :: news)) (hne : ∀ q ∈ news, q.1 ≠ e) (hd : eo.data = .fields vs) (h1 : vs[1]? = some .none) (h0 : vs[0]? = some a0)
    (hQ : ∀ h', RaisedX base g outer e eo a0 news h' → g.UpToSlots h' → Q () { s' with heap := h' }) (hk : scope.kind = .function := by rfl) :
    wpAny M (A.deeper (envOf name scope L a cd)) (leaving (envOf name scope L a cd) (.ref e)) Q E s' := by
  have K' := K.push (name := name) (a := a) (cd := cd) F hk
  obtain ⟨fs, hfs⟩ : ∃ fs, fs = (envOf name scope L a cd :: outer).filterMap (·.frame) := ⟨_, rfl⟩
  have hin : ∀ env ∈ (envOf name scope L a cd :: outer), ∀ b, env.frame = some b → b ∈ fs ++ [e] := fun env he b hb => List.mem_append_left _ (hfs ▸ List.mem_filterMap.mpr ⟨env, he, hb⟩)
  have Ne := N (e, eo) (.head _)
  have hframe : ∀ b ∈ fs, base.get? b = none := fun b hm => (K'.frames.mem (hfs ▸ hm)).1
  have st : base.StaysIn (hideAll s'.heap (fs ++ [e])) := fun b o q => hideAll_get _ (K'.stays b o q) fun hm => by
    rcases List.mem_append.mp hm with hm | hm
    · rw [hframe b hm] at q; cases q
    · rw [List.mem_singleton.mp hm, fresh_of_stays K.stays Ne.2.2] at q; cases q
  have sg : ∀ b o, g.get? b = some o → b ∉ outer.filterMap (·.frame) → (hideAll s'.heap (fs ++ [e])).get? b = some o := fun b o q nm => hideAll_get _ (F.keep b o q) fun hm => by
    rcases List.mem_append.mp hm with hm | hm
    · rcases kts_mem (hfs ▸ hm) with z | z
      · rw [z, kts_self F] at q; cases q
      · exact nm z
    · rw [List.mem_singleton.mp hm, Ne.2.2] at q; cases q
  have hl : ∀ q ∈ news, (hideAll s'.heap (fs ++ [e])).get? q.1 = some q.2 ∧ g.get? q.1 = none ∧ base.get? q.1 = none := fun q hq => by
    have Nq := N q (.tail _ hq)
    refine ⟨hideAll_get _ Nq.1 fun hm => ?_, Nq.2.2, fresh_of_stays K.stays Nq.2.2⟩
    rcases List.mem_append.mp hm with hm | hm
    · obtain ⟨env, he, hf⟩ := List.mem_filterMap.mp (hfs ▸ hm)
      rcases List.mem_cons.mp he with rfl | he
      · exact Nq.2.1 (Option.some.inj hf).symm
      · obtain ⟨o, ho, _⟩ := (K.frames.mem (List.mem_filterMap.mpr ⟨env, he, hf⟩)).2
        rw [Nq.2.2] at ho; cases ho
    · exact hne q hq (List.mem_singleton.mp hm)
  unfold leaving
  refine wpAny_bind (xNote0 K'.stack (funFrames_hide K'.frames hin) rfl Ne.1 (fun b o q => of_hideAll _ q) (hideAll_none _ (List.mem_append_right _ (.head _))) hd h1 h0 fun h₁ y u => ?_)
  refine xFlight y fun h₂ y₂ u₂ => ?_
  obtain ⟨k1, k2, ⟨_, _, k3⟩, k4⟩ := y₂
  exact hQ h₂ ⟨_, st, sg, hl, k1, k2, k3, k4⟩ ((Heap.UpToSlots.of_keeps F.keep).trans (u.trans u₂))
end

/-- an own class of exceptions whose tail is written -/
def dataX (C : Addr) (bm : List Value) : Data → Bool
  | .cls cd => cd.mro == .ref C :: bm && !cd.hasDel
  | _ => false
def clsXIn (K : Frag) (C : Addr) (bm : List Value) (newId : String) : Bool := match K.lookup C with
  | some o => o.cls == .type "type" && dataX C bm o.data && o.slots.size == 6 && o.slots.getD 4 none == some (.builtin newId)
  | none => false
theorem dataX_of {C : Addr} {bm : List Value} {d : Data} (h : dataX C bm d = true) : ∃ cd, d = .cls cd ∧ cd.mro = .ref C :: bm ∧ cd.hasDel = false := by
  cases d <;> first | (cases h; done) | skip
  rename_i cd
  have h : (cd.mro == .ref C :: bm && !cd.hasDel) = true := h
  rw [Bool.and_eq_true, beq_iff_eq, Bool.not_eq_true'] at h
  exact ⟨cd, rfl, h.1, h.2⟩
theorem six {α : Type} {P : List α → Prop} (k : ∀ a b c d e f, P [a, b, c, d, e, f]) : ∀ l : List α, l.length = 6 → P l := by
  intro l h
  cases l with
  | nil => cases h
  | cons a l => cases l with
    | nil => cases h
    | cons b l => cases l with
      | nil => cases h
      | cons c l => cases l with
        | nil => cases h
        | cons d l => cases l with
          | nil => cases h
          | cons e l => cases l with
            | nil => cases h
            | cons f l => cases l with
              | nil => exact k a b c d e f
              | cons g l => cases h
theorem clsX_of {K : Frag} {h : Heap} {C : Addr} {bm : List Value} {newId : String} {P : Prop} (X : K.In h) (q : clsXIn K C bm newId = true)
    (k : ∀ nm qn N bs hdct sn sub ab col dd k0 k1 k2 k3 k5, h.get? C = some (excClassObj nm qn C N bs bm hdct sn sub ab col dd k0 k1 k2 k3 k5 newId) → P) : P := by
  unfold clsXIn at q
  cases ho : K.lookup C with
  | none => rw [ho] at q; cases q
  | some o =>
    rw [ho] at q
    replace q : (o.cls == .type "type" && dataX C bm o.data && o.slots.size == 6 && o.slots.getD 4 none == some (.builtin newId)) = true := q
    rw [Bool.and_eq_true, Bool.and_eq_true, Bool.and_eq_true, beq_iff_eq, beq_iff_eq, beq_iff_eq] at q
    obtain ⟨⟨⟨hc, hd⟩, hs⟩, h4⟩ := q
    have X' := X _ _ ho
    obtain ⟨c, dd, data, ⟨l⟩⟩ := o
    obtain ⟨⟨nm, bs, mro, ns, qn, hdc, sn, sub, ab, col, del⟩, rfl, hm, hdel⟩ := dataX_of hd
    cases hc
    cases hm
    cases hdel
    clear ho hd
    revert l
    intro l X' hs h4
    replace hs : l.length = 6 := hs
    revert h4 X'
    revert hs
    revert l
    refine six fun k0 k1 k2 k3 k4 k5 h4 X' => ?_
    cases h4
    exact k nm qn ns bs hdc sn sub ab col dd k0 k1 k2 k3 k5 X'

theorem clsX_ex {K : Frag} {h : Heap} {C : Addr} {bm : List Value} {newId : String} (X : K.In h) (q : clsXIn K C bm newId = true) :
    ∃ nm qn N bs hdct sn sub ab col dd k0 k1 k2 k3 k5, h.get? C = some (excClassObj nm qn C N bs bm hdct sn sub ab col dd k0 k1 k2 k3 k5 newId) :=
  clsX_of X q fun _ _ _ _ _ _ _ _ _ _ _ _ _ _ _ hC => ⟨_, _, _, _, _, _, _, _, _, _, _, _, _, _, _, hC⟩
section
variable {prog : Program} {w : World} {A₀ : Around} {E : Value → Shared → Prop} {s' : Shared} {base g G : Heap} {outer : List Env} {L a e : Addr} {m : Str → Option Value} {name : Str} {scope : Scope} {cd : Value}
  {n : Str} {b₀ : Stmt} {suite : List Stmt} {pos np : Pos} {rest : List ExceptHandler} {Q : Flow → Shared → Prop} {news : List (Addr × Obj)} {KF : Frag} {eo : Obj} {a0 : Value} {C : Addr} {bm : List Value} {newId : String}
  {p : Program} {loose : List Str} {mean : ExcName → Option Value} {mg mb : Str → Option Value} {x : Str}

theorem catchX (R : RaisedX base G (envOf name scope L a cd :: outer) e eo a0 news s'.heap) (F : Fr g L G m) (K : Below A₀ base outer g) (hsm : G.UpToSlots s'.heap) (XB : KF.In base) (TB : Top p loose mean mg mb base)
    (ex : nsIn KF mainGlobals x = some (some (.ref C))) (q : clsXIn KF C bm newId = true) (hbase : bm.contains (.type "BaseException") = true) (hec : eo.cls = .ref C)
    (k : ∀ h' g' tk vs, KtsTurn (outer.filterMap (·.frame)) g g' → Fr g' L h' (fun y => if y = n then some (.ref e) else m y) → News g' L h' ((e, { eo with data := .fields vs }) :: news) → Below A₀ base outer g' → KF.In g' → Top p loose mean mg mb g' →
      wpAny (model prog w) ((A₀.deeper (envOf name scope L a cd)).mark (some (.ref e))) (execs (b₀ :: suite) (envOf name scope L a cd))
        (fun f s₄ => wpAny (model prog w) (A₀.deeper (envOf name scope L a cd)) (do bindName (envOf name scope L a cd) n .none; unbindBehindTheSuite (envOf name scope L a cd) n pos) (fun _ s₅ => Q f s₅) E s₄)
        (AsSuiteRaised (model prog w) ((A₀.deeper (envOf name scope L a cd)).mark (some (.ref e))) (envOf name scope L a cd) n pos (notedBy (model prog w) ((A₀.deeper (envOf name scope L a cd)).mark (some (.ref e))) (envOf name scope L a cd) (cameBackBy (model prog w) (A₀.deeper (envOf name scope L a cd)) (envOf name scope L a cd) E)))
        { s' with heap := h', toks := tk })
    (hk : scope.kind = .function := by rfl) (hlo : (envOf name scope L a cd).kindOf n = some .local := by rfl) (hx : (envOf name scope L a cd).kindOf x = some .globalImplicit := by rfl) (hd : (x == ("__debug__" : Str)) = false := by decide) :
    wpAny (model prog w) (A₀.deeper (envOf name scope L a cd)) (noteFrame (.ref e) (envOf name scope L a cd))
      (fun _ s₂ => wpAny (model prog w) (A₀.deeper (envOf name scope L a cd)) (setFlight (.ref e) none) (fun _ s₃ =>
        wpAny (model prog w) (A₀.deeper (envOf name scope L a cd)) (handleBy (.ref e) (envOf name scope L a cd) (.ExceptHandler (some (.Name x np)) (some n) (b₀ :: suite) pos :: rest)) Q E s₃) E s₂) E s' := by
  obtain ⟨B, hB, hBG, hl, hfl⟩ := R
  have hL : B.get? L = none := by
    obtain ⟨_, ⟨L', _, hf, hn', _⟩, _⟩ := hfl.2.2.1
    obtain rfl : L = L' := Option.some.inj hf
    exact hn'
  have hBe := hfl.2.1
  have hge : g.get? e = none := by
    have hGe : e ∉ (envOf name scope L a cd :: outer).filterMap (·.frame) := fun hm => by
      obtain ⟨_, o, ho, hnf⟩ := hfl.2.2.1.mem hm
      obtain ⟨vs, _, _, _, he, _⟩ := hfl.2.2.2
      rw [he] at ho
      cases ho
      exact hnf vs rfl
    cases q : g.get? e with
    | none => rfl
    | some o => have := hBG e o (F.keep e o q) hGe; rw [hBe] at this; cases this
  refine xNote1 (Around.frames_deeper K.stack) rfl hfl fun h₄ y₄ u₄ => ?_
  refine xFlight y₄ fun h₅ y₅ u₅ => ?_
  have hsm₅ := u₄.trans u₅
  obtain ⟨g₅, T₅, F₅, K₅⟩ := kts_ground K F hBG y₅.1 (hsm.trans hsm₅)
  have X₅ : KF.In g₅ := XB.keeps K₅.stays
  have P₅ : TopRead p loose mg mb g₅ := topRead_of (TB.keeps K₅.stays)
  obtain ⟨vs₅, _, _, _, he₅, _⟩ := id y₅.2.2.2
  apply clsX_of (fun b o z => F₅.keep b o (X₅ b o z)) q
  intro nm qn N bs hdct sn sub ab col dd k0 k1 k2 k3 k5 hC
  refine wpAny_handleBy_cons (codeAny_handlers_test (name_K F₅ X₅ P₅ ex ?_ hk hx hd)) (by intro q; cases q)
  refine wpAny_excMatches_sub_self hC he₅ hec hbase (codeAny_handlers_suite_as ?_)
  refine xFlight y₅ fun h₆ y₆ u₆ => ?_
  obtain ⟨g₆, T₆, F₆, K₆⟩ := kts_ground K F hBG y₆.1 ((hsm.trans hsm₅).trans u₆)
  obtain ⟨vs₆, _, _, _, he₆, _⟩ := id y₆.2.2.2
  have hLe : L ≠ e := fun z => by
    obtain ⟨o, es, ep, ho, hd, _⟩ := F₆.ns
    rw [z, he₆] at ho
    cases ho
    cases hd
  have Nl : News g₆ L h₆ ((e, { eo with data := .fields vs₆ }) :: news) := List.forall_mem_cons.mpr ⟨⟨he₆, fun z => hLe z.symm, T₆.none_ _ hge⟩, fun q hq => ⟨y₆.1 _ _ (hl q hq).1, (fun z => by have := (hl q hq).1; rw [z, hL] at this; cases this), T₆.none_ _ (kts_none F.keep (hl q hq).2.1)⟩⟩
  have X₆ : KF.In g₆ := XB.keeps K₆.stays
  have P₆ : Top p loose mean mg mb g₆ := TB.keeps K₆.stays
  refine stN F₆ Nl (fun h₇ F₇ N₇ => ?_) hk hlo
  exact k h₇ g₆ _ vs₆ T₆ F₇ N₇ K₆ X₆ P₆
end

section
variable {M : Model} {A : Around} {E : Value → Shared → Prop} {s' : Shared} {base g h : Heap} {outer : List Env} {L a e dx t : Addr} {m : Str → Option Value} {name : Str} {scope : Scope} {cd : Value} {Q : Unit → Shared → Prop} {led news : List (Addr × Obj)} {eo od : Obj} {vs : Array Value} {a0 : Value}
theorem leaveX2 (K : Below A base outer g) (F : Fr g L s'.heap m) (N : News g L s'.heap news) (m1 : (e, eo) ∈ news) (m2 : (dx, od) ∈ news) (hdx : eo.dict = some dx) (ht : ∀ p ∈ led, p ∈ news) (hde : @Ne Nat dx e) (hne : ∀ p ∈ led, p.1 ≠ e) (hd : eo.data = .fields vs) (h1 : vs[1]? = some .none) (h0 : vs[0]? = some a0)
    (hQ : ∀ h', RaisedX base g outer e eo a0 ((dx, od) :: led) h' → g.UpToSlots h' → Q () { s' with heap := h' }) (hk : scope.kind = .function := by rfl) :
    wpAny M (A.deeper (envOf name scope L a cd)) (leaving (envOf name scope L a cd) (.ref e)) Q E s' :=
  leaveX (news := (dx, od) :: led) K F (List.forall_mem_cons.mpr ⟨N _ m1, List.forall_mem_cons.mpr ⟨N _ m2, fun p hp => N p (ht p hp)⟩⟩) (List.forall_mem_cons.mpr ⟨hde, hne⟩) hd h1 h0 hQ hk
/-- what stands when an exception was caught: the frames of the callers but for their slots, all else as it was -/
def KeptS (h h' : Heap) (fs : List Addr) : Prop := (∀ b o, h.get? b = some o → b ∉ fs → h'.get? b = some o) ∧ ∀ b o, h.get? b = some o → ∃ sl, h'.get? b = some { o with slots := sl }
theorem kept_endS {h g g' h' : Heap} {fs : List Addr} {L' : Addr} {m' : Str → Option Value} (hG : ∀ b o, h.get? b = some o → b ∉ news.map (·.1) → g.get? b = some o) (hN : ∀ q ∈ news, h.get? q.1 = some q.2) (T : KtsTurn fs g g') (F : Fr g' L' h' m') (hs : ∀ q ∈ news, h'.get? q.1 = some q.2) : KeptS h h' fs := by
  have key : ∀ b o, h.get? b = some o → b ∈ news.map (·.1) → h'.get? b = some o := fun b o e hb => by
    obtain ⟨q, hq, rfl⟩ := List.mem_map.mp hb
    rw [hN q hq] at e
    cases e
    exact hs q hq
  refine ⟨fun b o e hb => ?_, fun b o e => ?_⟩
  · by_cases hn : b ∈ news.map (·.1)
    · exact key b o e hn
    · exact F.keep b o (T.other b o (hG b o e hn) hb)
  · by_cases hn : b ∈ news.map (·.1)
    · exact ⟨o.slots, key b o e hn⟩
    · obtain ⟨sl, hs⟩ := T.up (hG b o e hn)
      exact ⟨sl, F.keep _ _ hs⟩
theorem KeptS.of {h h' : Heap} {fs : List Addr} (k : Kept h h' []) : KeptS h h' fs := ⟨fun b o e _ => k b o e (by simp), fun b o e => ⟨o.slots, k b o e (by simp)⟩⟩
end


/-- an own exception with its own dict -/
abbrev excObj (C : Addr) (dx : Option Addr) (t : Addr) : Obj := { cls := .ref C, dict := dx, data := .fields #[.ref t, .none, .none, .none, .bool false, .none] }
abbrev bmX : List Value := [.ref 38, .type "Exception", .type "BaseException", .type "object"]
section
variable {M : Model} {A : Around} {E : Value → Shared → Prop} {s : Shared} {env : Env}
def RaisX (C : Addr) (bm : List Value) (newId : String) (E : Value → Shared → Prop) (v : Value) (s₁ : Shared) : Prop :=
  ∃ e dx t, v = .ref e ∧ (∃ nm qn N bs hdct sn sub ab col dd k0 k1 k2 k3 k5, s₁.heap.get? C = some (excClassObj nm qn C N bs bm hdct sn sub ab col dd k0 k1 k2 k3 k5 newId)) ∧ s₁.heap.get? e = some (excObj C dx t) ∧ E (.ref e) s₁
theorem Raise_X {C : Addr} {bm : List Value} {newId : String} {x : PySem.Expr} {pos : Pos} {Q : Flow → Shared → Prop} (hbase : bm.contains (.type "BaseException") = true) (hh : A.handled = none)
    (h : wpAny M A (eval x env) (RaisX C bm newId E) E s) : wpAny M A (exec (.Raise (some x) none pos) env) Q E s := by
  have hcB : (Value.ref C :: bm).contains (.type "BaseException") = true := by rw [List.contains_cons, hbase, Bool.or_true]
  show wpAny M A (do standAt pos; raiseStmt env (some (do let v ← eval x env; standAt pos; pure v)) none) Q E s
  refine wpAny_bind (wpAny_standAt ?_)
  unfold raiseStmt
  dsimp only
  refine wpAny_bind (wpAny_bind (wpAny_mono h (fun v s₁ h₁ => wpAny_bind (wpAny_standAt (wpAny_pure ?_))) fun _ _ x => x))
  obtain ⟨e, dx, t, rfl, ⟨nm, qn, N, bs, hdct, sn, sub, ab, col, dd, k0, k1, k2, k3, k5, hC⟩, he, hE⟩ := h₁
  obtain ⟨hp, g, d, tk, os⟩ := s₁
  repeat (first | with_reducible refine wpAny_loadPart_at he ?_ | with_reducible refine wpAny_loadPart_at hC ?_ | (with_reducible refine wpAny_isSubtype_exc hC ?_; rw [hcB]) | wp_step)
  exact wpAny_raiseNew_none hh hE
end

section
variable {prog : Program} {w : World} {A : Around} {R : Result → Shared → Prop} {h : Heap} {g : Array GenState} {d : Drawn} {t : Nat} {os : OsState}
variable {nm q : Str} {C N : Addr} {bs bm : List Value} {hdct : Bool} {sn : List Str} {sub : List Value} {ab : Bool} {col : Option Bool} {dd : Option Addr} {k0 k1 k2 k3 k5 : Option Value}

theorem newX {rest : List Value} (hb1 : bm.contains (.type "Exception") = true) (hb2 : bm.contains (.type "AttributeError") = false) (hb3 : bm.contains (.type "NameError") = false)
    (hC : h.get? C = some (excClassObj nm q C N bs bm hdct sn sub ab col dd k0 k1 k2 k3 k5 "Exception.__new__"))
    (hq : R (.ok (.ret (.ref (h.objs.size + 1)))) ⟨(h.push { cls := .type "tuple", data := .seq rest.toArray }).push (excObj C none h.objs.size), g, d, t, os⟩) (hrest : rest.length ≤ sizeLine) :
    codeAny (model prog w) A (.call (.builtin "Exception.__new__") ⟨.ref C :: rest, []⟩) R ⟨h, g, d, t, os⟩ := by
  have F := PySem.F.excBase_Exception
  have hcB : (Value.ref C :: bm).contains (.type "Exception") = true := by rw [List.contains_cons, hb1, Bool.or_true]
  have hcA : (Value.ref C :: bm).contains (.type "AttributeError") = false := by rw [List.contains_cons, hb2]; rfl
  have hcN : (Value.ref C :: bm).contains (.type "NameError") = false := by rw [List.contains_cons, hb3]; rfl
  have hstar := F.noStar
  refine codeAny_call_builtin_code (Code.quiet_builtin _ F.quiet) ?_
  simp only [checkBuiltinCall, F.newKind, F.newSplit, F.newRow]
  repeat (first | refine wpAny_loadPart_at hC ?_ | (refine wpAny_isSubtype_exc hC ?_; rw [hcB]) | refine wpAny_staticBase_exc hC ?_ | refine wpAny_madeBy_exc hC ?_ | simp only [bne_self_eq_false, Bool.false_eq_true, if_false] | wp_step)
  have hends := F.ends
  refine codeAny_builtinAt F.entry ?_
  unfold Builtin.«BaseException.__new__»
  refine PySem.wpAt_bind ?_
  show PySem.wpAt _ _ _ (stack >>= _) _ _ _
  refine PySem.wpAt_bind (PySem.wpAt_stack fun p below => PySem.wpAt_of_wpAny ?_)
  wp_walk
  refine PySem.wpAt_of_wpAny ?_
  rw [F.owner]
  repeat (first | with_reducible refine wpAny_madeHere_exc F.canon hC ?_ | with_reducible refine wpAny_loadPart_at hC ?_ | (with_reducible refine wpAny_isSubtype_exc hC ?_; first | rw [hcB] | rw [hcA] | rw [hcN]) | wp_step)
  show R _ _
  rw [Heap.size_push]
  exact hq
end

section
variable {prog : Program} {w : World} {A : Around} {K : Frag} {C : Addr} {s : Shared} {h₀ : Heap} {L : Addr} {m : Str → Option Value} {news : List (Addr × Obj)} {R : Result → Shared → Prop} {bm : List Value}

theorem makeX {rest : List Value} {fI : Addr} (F : Fr h₀ L s.heap m) (N : News h₀ L s.heap news) (X : K.In s.heap) (hm : clsXIn K C bm "Exception.__new__" = true)
    (hb1 : bm.contains (.type "Exception") = true) (hb2 : bm.contains (.type "AttributeError") = false) (hb3 : bm.contains (.type "NameError") = false)
    (hi : findIn K (.ref C) "__init__" = some (some (.ref fI))) (hf : typeIn K (.ref fI) = some (.type "function")) (hrest : rest.length ≤ sizeLine)
    (h : ∀ x t h', Fr h₀ L h' m → News h₀ L h' ((x, excObj C none t) :: (t, { cls := .type "tuple", data := .seq rest.toArray }) :: news) → (∀ p ∈ news, p.1 < t) → t < x →
      codeAny (model prog w) (A.under (.builtin "type.__call__" ⟨.ref C :: rest, []⟩)) (.call (.ref fI) ⟨.ref x :: rest, []⟩) (InitBack x R) { s with heap := h' }) :
    codeAny (model prog w) A (.call (.ref C) ⟨rest, []⟩) R s := by
  obtain ⟨hh, g, d, t, os⟩ := s
  apply clsX_of X hm
  intro nm qn N' bs hdct sn sub ab col dd k0 k1 k2 k3 k5 hC
  have f1 := tc_lookup
  have f2 := tc_bind (.ref C)
  have hT : (⟨hh, g, d, t, os⟩ : Shared).TypeIs (.ref C) "type" := ⟨_, hC, rfl⟩
  refine codeAny_of_tree ?_
  show wpAny _ _ (callAny (.ref C) _) _ _ _
  repeat (any_goals (first | assumption | with_reducible refine wpAny_loadPart_at hC ?_ | wp_step))
  refine ⟨rfl, ?_⟩
  refine codeAny_call_builtin_at (Code.quiet_builtin _ (by decide +kernel)) entry_typeCall (wpAny_check_type_call_sub hC ?_)
  repeat (first | with_reducible refine wpAny_loadPart_at hC ?_ | with_reducible refine wpAny_madeBy_exc hC ?_ | wp_step)
  refine newX (rest := rest) hb1 hb2 hb3 hC ?_ hrest
  show wpAny _ _ _ _ _ _
  have k : ∀ b o, hh.get? b = some o → ((hh.push { cls := .type "tuple", data := .seq rest.toArray }).push (excObj C none hh.objs.size)).get? b = some o := fun b o e => Heap.get?_push_of_some _ (Heap.get?_push_of_some _ e)
  have hC₁ := k _ _ hC
  have hget : ((hh.push { cls := .type "tuple", data := .seq rest.toArray }).push (excObj C none hh.objs.size)).get? (hh.objs.size + 1) = some { cls := .ref C, data := .fields #[.ref hh.objs.size, .none, .none, .none, .bool false, .none] } := by heap_get
  have hcC : (Value.ref C :: bm).contains (.ref C) = true := by simp
  have i1 := (looks_findIn (M := model prog w) X hi).keeps k
  have b1 := (bind_fn (M := model prog w) X (.ref (hh.objs.size + 1)) hf).keeps k
  unfold isInstance
  repeat (first | with_reducible refine wpAny_loadPart_at hget ?_ | (with_reducible refine wpAny_isSubtype_exc hC₁ ?_; rw [hcC]) | wp_step)
  show wpAny _ _ (typeLookup (.ref C) _) _ _ _
  refine i1.at ?_
  refine wpAny_holding (wpAny_bind (b1.at ?_))
  refine wpAny_bind (wpAny_call ?_)
  have N2 : News h₀ L ((hh.push { cls := .type "tuple", data := .seq rest.toArray }).push (excObj C none hh.objs.size)) ((hh.objs.size + 1, excObj C none hh.objs.size) :: (hh.objs.size, { cls := .type "tuple", data := .seq rest.toArray }) :: news) := by
    have := (N.push F { cls := .type "tuple", data := .seq rest.toArray }).push (F.push _) (excObj C none hh.objs.size)
    rwa [Heap.size_push] at this
  refine codeAny_mono (h _ hh.objs.size _ ((F.push _).push _) N2 (fun p hp => Heap.lt_size (N p hp).1) (Nat.lt_succ_self _)) fun r s' z => ?_
  rcases r with e | (v | _ | _ | _) <;> first | exact z | exact z.elim | skip
  obtain ⟨rfl, z⟩ := z
  exact wpAny_pure (wpAny_pure z)
end


section
variable {prog : Program} {w : World} {A : Around} {E : Value → Shared → Prop} {K : Frag} {C e t : Addr} {s : Shared} {h₀ : Heap} {L : Addr} {m : Str → Option Value} {news : List (Addr × Obj)} {g : Obj → List (Addr × Obj)} {bm : List Value} {name : Str}

theorem initX {rest : List Value} {Q : Value → Shared → Prop} (F : Fr h₀ L s.heap m) (N : News h₀ L s.heap news) (U : UpdF e (excObj C none t) news g) (X₀ : K.In h₀) (hm : clsXIn K C bm "Exception.__new__" = true)
    (hb1 : bm.contains (.type "Exception") = true) (hrest : rest.length ≤ sizeLine)
    (h : ∀ h' t', Fr h₀ L h' m → News h₀ L h' ((t', { cls := .type "tuple", data := .seq rest.toArray }) :: g (excObj C none t')) → (∀ p ∈ news, p.1 < t') → Q .none { s with heap := h' }) :
    wpAny (model prog w) A (call (.builtin "Exception.__init__") (.ref e :: rest)) Q E s := by
  have FX := PySem.F.excBase_Exception
  have he := (N _ (updF_mem U)).1
  apply clsX_of (X₀.keeps F.keep) hm
  intro nm qn N' bs hdct sn sub ab col dd k0 k1 k2 k3 k5 hC
  have hcB : (Value.ref C :: bm).contains (.type "Exception") = true := by rw [List.contains_cons, hb1, Bool.or_true]
  have N1 := N.push F { cls := .type "tuple", data := .seq rest.toArray }
  have F1 := F.push { cls := .type "tuple", data := .seq rest.toArray }
  have he₁ := Heap.get?_push_of_some (h := s.heap) { cls := .type "tuple", data := .seq rest.toArray } he
  have hlt : ∀ p ∈ news, p.1 < s.heap.objs.size := fun p hp => Heap.lt_size (N p hp).1
  have hed := Heap.get?_update_self (Obj.mapFields (·.setIfInBounds 0 (Value.ref s.heap.objs.size))) he₁ rfl
  have KK : Kept (s.heap.push { cls := .type "tuple", data := .seq rest.toArray }) ((s.heap.push { cls := .type "tuple", data := .seq rest.toArray }).update e (Obj.mapFields (·.setIfInBounds 0 (Value.ref s.heap.objs.size)))) [e] := fun b o hb hn => by
    rw [Heap.get?_update_ne _ _ _ _ (by simpa using hn)]
    exact hb
  have Ne := N _ (updF_mem U)
  have fin := h _ s.heap.objs.size (fr_kept F1 KK (by simpa using Ne.2.1.symm) (by simpa using Ne.2.2)) (List.forall_mem_cons.mpr ⟨⟨KK _ _ (N1 _ (.head _)).1 (by
    intro z
    have : s.heap.objs.size = e := by simpa using z
    exact absurd this (Nat.ne_of_gt (hlt _ (updF_mem U)))), (N1 _ (.head _)).2⟩, news_upd1 (fun p hp => N1 p (.tail _ hp)) U KK hed⟩) hlt
  clear KK N1 F1 hlt
  obtain ⟨hp, gg, d, tk, os⟩ := s
  refine wpAny_call (codeAny_call_builtin FX.init.plain FX.initEntry ?_)
  have hshort := FX.noStar
  simp only [checkBuiltinCall, FX.initKind, FX.initSplit, FX.initRow]
  repeat (first | with_reducible refine wpAny_loadPart_at he ?_ | with_reducible refine wpAny_loadPart_at hC ?_ | (with_reducible refine wpAny_isSubtype_exc hC ?_; rw [hcB]) | wp_step)
  refine wpAny_onRaise ?_
  rw [show ∀ (a b : String) (n : Nat), Bind.check ⟨.positional, "*", "Exception", .self, [⟨"args", .varPos, false⟩]⟩ a b n (List.map (fun x => x.fst) ({ pos := Value.ref e :: rest } : Args).kw) = pure () from
    fun a b n => check_star_args _ _ _ _ _ _]
  refine wpAny_pure ?_
  unfold Builtin.«BaseException.__init__»
  dsimp only
  rw [if_neg (by simp)]
  unfold newTuple Builtin.BaseException.bexcPut
  refine wpAny_bind (wpAny_newObj_type (wpAny_bind (wpAny_bind (wpAny_field he₁ rfl rfl (wpAny_bind (wpAny_setField he₁ rfl (Nat.zero_lt_succ _) ?_))))) (by show rest.toArray.size ≤ sizeLine; rw [List.size_toArray]; exact hrest))
  exact wpAny_letGo (wpAny_pure fin)

theorem refuse_exc (self : Value) {a : Addr} : refuseLoop self "__setattr__" [.ref C, .ref a, .type "Exception", .type "BaseException", .type "object"] = pure () := by
  rw [refuseLoop_ref, refuseLoop_ref]
  exact PySem.F.store_Exception.passes self

theorem setX {Q : Unit → Shared → Prop} {v : Value} {a : Addr} {cd : ClassData} (F : Fr h₀ L s.heap m) (N : News h₀ L s.heap news) (U : UpdF e (excObj C none t) news g) (X₀ : K.In h₀)
    (hs : findIn K (.ref C) "__setattr__" = some (some (.builtin "object.__setattr__"))) (ha : findIn K (.ref C) name = some none) (hc : clsIn K C = some cd) (hmro : cd.mro = [.ref C, .ref a, .type "Exception", .type "BaseException", .type "object"]) (hdd : cd.hasDict = true)
    (h : ∀ h' dx, Fr h₀ L h' m → News h₀ L h' ((dx, dictOf [⟨PyData.keyHash w.params name, .str name (s.toks + 1), v⟩] 1) :: g (excObj C (some dx) t)) → (∀ p ∈ news, p.1 < dx) → Q () { s with heap := h', toks := s.toks + 2 }) :
    wpAny (model prog w) A (setAttr (.ref e) name v) Q E s := by
  obtain ⟨hh, gg, d, tk, os⟩ := s
  dsimp only at F N h
  have X := X₀.keeps F.keep
  have Ne := N _ (updF_mem U)
  have I : InstAt hh e (excObj C none t) C none := ⟨Ne.1, rfl, rfl, trivial⟩
  have SF := PySem.F.store_object
  have hm : Looks (model prog w) hh (mroOf (.ref C)) cd.mro := (looks_clsIn X hc).andThen .now
  refine set_plain X I hs ?_
  have sub : Looks (model prog w) hh (isInstance (.ref e) (.type "object")) true := I.type.andThen (looks_mroIn X (by unfold mroIn; rw [hc, Option.bind_some, hmro]; rfl))
  refine codeAny_call_builtin SF.slot.plain SF.entry (@check_slot (model prog w) _ _ ⟨hh, gg, d, tk + 1, os⟩ "object.__setattr__" "object" "__setattr__" (.ref e) [.str name tk, v] [] _ SF.kind SF.split sub (SF.args (.ref e) (.str name tk) v) ?_)
  rw [osa_eq, refuse_eq]
  refine wpAny_bind (wpAny_bind (I.type.at (wpAny_bind (hm.at ?_))))
  rw [hmro, refuse_exc]
  refine wpAny_pure (wpAny_bind (I.type.at (wpAny_bind ((looks_findIn X ha).at (wpAny_bind (wpAny_pure (a := none) ?_))))))
  dsimp only
  have hx := Ne.1
  refine wpAny_bind (wpAny_pure (wpAny_bind (wpAny_bind (wpAny_loadPart hx (wpAny_bind ((looks_clsIn X hc).at ?_))))))
  rw [hdd]
  obtain ⟨f, hf⟩ : ∃ f : Obj → Obj, f = fun o => { cls := o.cls, dict := some hh.objs.size, data := o.data, slots := o.slots } := ⟨_, rfl⟩
  have hlt : ∀ p ∈ news, p.1 < hh.objs.size := fun p hp => Heap.lt_size (N p hp).1
  have N1 := N.push F emptyDict
  have F1 := F.push emptyDict
  have hx₁ : (hh.push emptyDict).get? e = some (excObj C none t) := Heap.get?_push_of_some _ hx
  have hed : ((hh.push emptyDict).update e f).get? e = some (excObj C (some hh.objs.size) t) := by rw [hf]; exact Heap.get?_update_self _ hx₁ rfl
  have hde : hh.objs.size ≠ e := Nat.ne_of_gt (hlt _ (updF_mem U))
  have KK : Kept (hh.push emptyDict) ((hh.push emptyDict).update e f) [e] := fun b o hb hn => by
    rw [Heap.get?_update_ne _ _ _ _ (by simpa using hn)]
    exact hb
  have F2 : Fr h₀ L ((hh.push emptyDict).update e f) m := fr_kept F1 KK (by simpa using Ne.2.1.symm) (by simpa using Ne.2.2)
  have D : ((hh.push emptyDict).update e f).get? hh.objs.size = some (dictOf [] 0) := KK _ _ (N1 _ (.head _)).1 (by simpa using hde)
  have N2 : News h₀ L ((hh.push emptyDict).update e f) ((hh.objs.size, dictOf [] 0) :: g (excObj C (some hh.objs.size) t)) := List.forall_mem_cons.mpr ⟨⟨D, (N1 _ (.head _)).2⟩, news_upd1 (fun p hp => N1 p (.tail _ hp)) U KK hed⟩
  have hg : ∀ p ∈ g (excObj C (some hh.objs.size) t), p.1 ≠ hh.objs.size := by
    obtain ⟨pre, post, e1, e2, _, _⟩ := U.split
    rw [e2]
    intro p hp
    rcases List.mem_append.mp hp with hp | hp
    · exact Nat.ne_of_lt (hlt p (by rw [e1]; simp [hp]))
    · rcases List.mem_cons.mp hp with rfl | hp
      · exact hde.symm
      · exact Nat.ne_of_lt (hlt p (by rw [e1]; simp [hp]))
  obtain ⟨U1, U2⟩ := news_upd (pre := []) (f := Obj.putName name (PyData.keyHash w.params name) (.str name (tk + 1)) v) F2 N2 (fun _ h => nomatch h) hg (o' := dictOf [⟨PyData.keyHash w.params name, .str name (tk + 1), v⟩] 1) (by rw [putName_dict]; rfl) rfl
  have D' := (U2 (_, _) (.head _)).1
  subst hf
  refine wpAny_bind (wpAny_alloc (wpAny_bind (wpAny_update' hx₁ (wpAny_pure (a := some hh.objs.size) ?_))))
  show wpAny _ _ (Builtin.ObjectAttr.storeInDict hh.objs.size (.str name tk) name v) _ _ _
  unfold Builtin.ObjectAttr.storeInDict Builtin.ObjectAttr.newKeyGuard
  refine wpAny_bind (wpAny_pure (wpAny_bind ?_))
  unfold nsSet
  refine wpAny_bind (wpAny_bind (wpAny_askSetting (wpAny_pure (wpAny_bind (wpAny_mkText (wpAny_bind (wpAny_loadPart' D ?_)))))))
  dsimp only
  rw [aRefKeyMayBeTheName_at, if_neg (by simp)]
  refine wpAny_updatePart' D ?_
  refine wpAny_bind (wpAny_lookBehind D' (pastItsLine_dict (by rw [sizeLine_eq]; exact Nat.le_of_ble_eq_true rfl)) ?_)
  exact wpAny_pure (h _ _ U1 U2 hlt)

theorem getX {Q : Value → Shared → Prop} {v : Value} {ox : Obj} {od : Option Obj} {expr : Bool} (X : K.In s.heap) (I : InstAt s.heap e ox C od) (hga : findIn K (.ref C) "__getattribute__" = some (some (.builtin "BaseException.__getattribute__"))) (hgn : findIn K (.ref C) "__getattr__" = some none)
    (hb : mroIn K C (.type "BaseException") = some true) (hf : findObj K C od name = some (.value v)) (hh : handedIn v = true) (h : Q v { s with toks := s.toks + 1 }) : wpAny (model prog w) A (getAttr (.ref e) name expr) Q E s := by
  obtain ⟨hp, gg, d, tk, os⟩ := s
  have L0 := I.type (M := model prog w)
  have L1 := looks_findIn (M := model prog w) X hga
  have L2 := looks_findIn (M := model prog w) X hgn
  have L3 := looks_find (M := model prog w) X I hf
  unfold getAttr getAttrBy
  refine wpAny_bind (wpAny_mkText (wpAny_holding (wpAny_bind (L0.at (wpAny_bind (L1.at ?_))))))
  dsimp only
  have hx2 : (Value.builtin "BaseException.__getattribute__" == Value.builtin "object.__getattribute__") = false := by decide +kernel
  rw [if_neg (by rw [hx2, Bool.and_false]; decide)]
  unfold getAttrByItsOwn
  have LH : Looks (model prog w) hp (hookBefore (.ref C)) none := looks_hook X ((if_pos (show onTheHeap (Value.ref C) = true from rfl)).trans hgn)
  refine wpAny_bind (LH.at ?_)
  have hx0 : (expr && onTheHeap (Value.builtin "BaseException.__getattribute__")) = false := by cases expr <;> rfl
  unfold callGetattribute
  rw [if_neg (by rw [hx0]; decide)]
  unfold boundAndCalled
  have GA := PySem.F.attrBase_Exception.ga
  have sub : Looks (model prog w) hp (isInstance (.ref e) (.type "BaseException")) true := L0.andThen (looks_mroIn X hb)
  refine wpAny_bind (wpAny_attempt (wpAny_holding (wpAny_bind (wpAny_of_eq (GA.bind (.ref e)) (wpAny_call (codeAny_call_builtin GA.plain PySem.F.entry_bexc_ga (@check_slot (model prog w) _ _ ⟨hp, gg, d, tk + 1, os⟩ "BaseException.__getattribute__" "BaseException" "__getattribute__" (.ref e) [.str name tk] [] _ (by decide +kernel) (by decide +kernel) sub (PySem.F.args_bexc_ga _ _) ?_)))))))
  unfold Builtin.«object.__getattribute__»
  refine wpAny_bind (wpAny_pure ?_)
  dsimp only
  refine wpAny_bind (wpAny_pure (wpAny_bind (L0.at (wpAny_bind (L3.at ?_)))))
  refine wpAny_pure ?_
  show wpAny _ _ (handedOut v) _ _ _
  rw [handedOut_of hh]
  exact wpAny_pure h
end
section
variable {w : World} {A : Around} {E : Value → Shared → Prop} {s : Shared} {h₀ : Heap} {L e t : Addr} {m : Str → Option Value} {news : List (Addr × Obj)} {g : Obj → List (Addr × Obj)}
theorem callX {v : Value} {Q : Value → Shared → Prop} (F : Fr h₀ L s.heap m) (N : News h₀ L s.heap news) (X₀ : (hd.heap_1 w.params).In h₀)
    (h : ∀ x t h', Fr h₀ L h' m → News h₀ L h' ((x, excObj 51 none t) :: (t, { cls := .type "tuple", data := .seq [v].toArray }) :: news) → (∀ p ∈ news, p.1 < t) → (∀ p ∈ (t, ({ cls := .type "tuple", data := .seq [v].toArray } : Obj)) :: news, p.1 < x) →
      codeAny (model PySem.Challenge.rw_pq0410_01.row.prog w) (A.under (.builtin "type.__call__" ⟨[.ref 51, v], []⟩)) (.call (.ref 35) ⟨[.ref x, v], []⟩) (InitBack x fun r s' => match r with | .ok (.ret v) => Q v s' | .ok _ => False | .error e => E e s') { s with heap := h' }) :
    wpAny (model PySem.Challenge.rw_pq0410_01.row.prog w) A (call (.ref 51) [v]) Q E s :=
  wpAny_call (makeX (rest := [v]) (C := 51) (bm := bmX) F N (X₀.keeps F.keep) rfl rfl rfl rfl (by k_is) (by k_is) (by rw [sizeLine_eq]; exact Nat.le_of_ble_eq_true rfl) fun x t h' a b c d => h x t h' a b c (List.forall_mem_cons.mpr ⟨d, fun p hp => Nat.lt_trans (c p hp) d⟩))
theorem initX51 {v : Value} {Q : Value → Shared → Prop} (F : Fr h₀ L s.heap m) (N : News h₀ L s.heap news) (U : UpdF e (excObj 51 none t) news g) (X₀ : (hd.heap_1 w.params).In h₀)
    (h : ∀ h' t', Fr h₀ L h' m → News h₀ L h' ((t', { cls := .type "tuple", data := .seq [v].toArray }) :: g (excObj 51 none t')) → (∀ p ∈ news, p.1 < t') → Q .none { s with heap := h' }) :
    wpAny (model PySem.Challenge.rw_pq0410_01.row.prog w) A (call (.builtin "Exception.__init__") [.ref e, v]) Q E s :=
  initX (rest := [v]) (bm := bmX) F N U X₀ rfl rfl (by rw [sizeLine_eq]; exact Nat.le_of_ble_eq_true rfl) h
theorem setX51 {Q : Unit → Shared → Prop} {v : Value} (F : Fr h₀ L s.heap m) (N : News h₀ L s.heap news) (U : UpdF e (excObj 51 none t) news g) (X₀ : (hd.heap_1 w.params).In h₀)
    (h : ∀ h' dx, Fr h₀ L h' m → News h₀ L h' ((dx, dictOf [⟨PyData.keyHash w.params (Str.ofString "word"), .str (Str.ofString "word") (s.toks + 1), v⟩] 1) :: g (excObj 51 (some dx) t)) → (∀ p ∈ news, p.1 < dx) → Q () { s with heap := h', toks := s.toks + 2 }) :
    wpAny (model PySem.Challenge.rw_pq0410_01.row.prog w) A (setAttr (.ref e) (Str.ofString "word") v) Q E s :=
  setX (a := 38) (cd := (clsIn (hd.heap_1 w.params) 51).get rfl) F N U X₀ (by k_is) (by k_is) rfl rfl rfl h
theorem getX51 {Q : Value → Shared → Prop} {v : Value} {dx : Addr} {ox od : Obj} {expr : Bool} (X₀ : (hd.heap_1 w.params).In h₀) (F : Fr h₀ L s.heap m) (N : News h₀ L s.heap news) (m1 : (e, ox) ∈ news) (h1 : ox.cls = .ref 51) (h2 : notCls ox = true) (h3 : ox.dict = some dx) (m2 : (dx, od) ∈ news)
    (hl : lookIn (Str.ofString "word") od = some (some v)) (hh : handedIn v = true) (h : Q v { s with toks := s.toks + 1 }) : wpAny (model PySem.Challenge.rw_pq0410_01.row.prog w) A (getAttr (.ref e) (Str.ofString "word") expr) Q E s := by
  have I : InstAt s.heap e ox 51 (some od) := ⟨(N _ m1).1, h1, h2, by rw [h3]; exact (N _ m2).1⟩
  exact getX (X₀.keeps F.keep) I (by k_is) (by k_is) (by k_is) (findObj_own (attr := none) (by k_is) (by k_is) rfl hl) hh h
end

example : True := by
  k_with "exec Raise some none" => (k_here; (with_reducible show wpAny _ _ (exec (Stmt.Raise (some (Expr.Call (Expr.Name _ _) [_] [] _)) none _) _) _ _ _); k_dflt (refine' Raise_X (C := 51) (bm := bmX) (newId := "Exception.__new__") ?zzyb ?zzyh ?_; (case zzyb => exact rfl); (case zzyh => first | rfl | assumption)))
  k_with "call ref" => ((k_here; (with_reducible show wpAny _ _ (call (Value.ref 51) _) _ _ _); k_dflt (refine' callX ?zzyF ?zzyN ?zzyX ?_; (case zzyF => k_asm); (case zzyN => k_asm); (case zzyX => k_asm); k_whole; intro x' t' h' F' N' l1 l2; (try k_lt l1); (try k_lt l2); (try k_sweep))); (revert x' t' h' F' N' l1 l2); intros; k_enter)
  k_with "getMethod type:Exception" => (k_here; refine' method_type ?zzF ?zzX ?zzm (by decide +kernel) ?zze ?zzh ?_; (case zzF => k_asm); (case zzX => k_asm); (case zzm => exact rfl); (case zze => k_dflt k_is); (case zzh => k_handed))
  k_with "call builtin:Exception.__init__" => ((k_here; k_dflt (refine' initX51 ?zzyF ?zzyN ?zzyU ?zzyX ?_; (case zzyF => k_asm); (case zzyN => k_asm); (case zzyU => k_updF); (case zzyX => k_asm); k_whole; intro h' t' F' N' l1; (try dsimp only at N'); (try k_lt l1))); (revert h' t' F' N' l1); intros)
  k_with "setAttr ref" => ((k_here; (with_reducible show wpAny _ _ (setAttr (Value.ref _) (PySem.Str.ofString "word") _) _ _ _); k_dflt (refine' setX51 ?zzyF ?zzyN ?zzyU ?zzyX ?_; (case zzyF => k_asm); (case zzyN => k_asm); (case zzyU => k_updF); (case zzyX => k_asm); k_whole; intro h' dx' F' N' l1; (try dsimp only at N'); (try k_lt l1))); (revert h' dx' F' N' l1); intros)
  k_with "getAttr ref" => (k_here; (with_reducible show wpAny _ _ (getAttr (Value.ref _) (PySem.Str.ofString "word") _) _ _ _); k_dflt (refine' getX51 ?zzyX ?zzyF ?zzyN ?zzym ?zzy1 ?zzy2 ?zzy3 ?zzyn ?zzyl ?zzyh ?_; (case zzyX => k_asm); (case zzyF => k_asm); (case zzyN => k_asm); (case zzym => k_mem); (case zzy1 => exact rfl); (case zzy2 => exact rfl); (case zzy3 => exact rfl); (case zzyn => k_mem); (case zzyl => exact rfl); (case zzyh => k_handed); k_whole))
  trivial

section
variable {w : World} {mean : ExcName → Option Value} {mg mb : Str → Option Value} {A₀ A : Around} {cn : Str} {cs : Scope} {L a : Addr} {ccd : Value} {cl : List (Str × Addr)} {outer : List Env} {base h₀ : Heap} {m : Str → Option Value}
  {s : Shared} {Q E : Value → Shared → Prop}

theorem word_spec {st sd se ac jl td dd wd ws od lg : Addr} {zf : Nat → Int} {tf : Nat → Tok} {nd : Nat} {tx txd al : Addr} {qf : Nat → Int} {rf : Nat → Tok} {vKind vChain vNonce vPrio vCap vLimit vGoal vVal vData vSig : Value} {nx : Nat} {bl bd : Addr} {pf : Nat → Int} {of' : Nat → Tok} {vNum vTime vFee vLim vRand vHash : Value} {tips : Int} {ob : Tok} {nb : Nat} {sed : Addr} {shf : Nat → Int} {skf : Nat → Tok} {sn : Nat} {ai aid sto : Addr} {aco : Obj} {ahf : Nat → Int} {akf : Nat → Tok} {adn : Nat} {wl : Addr} {wlo : Obj} {wk4 : Tok} {who : Int} {data : Array UInt8} {tb : Tok} {rits : List Value} {an : Nat} {tl : List (Addr × Obj)} {rs : List (Int × List Int)} {goal : Option Int}
    {kind prio cap limit worth fee : Int} {u1 u2 u3 u4 u5 u6 u7 u8 u9 : Tok}
    (C : Cx w mean mg mb A₀ A cn cs L a ccd cl outer base h₀ m s.heap 400 5000)
    (XB : (hd.heap_1 w.params).In base) (TB : Top vw (looseW vw hloose) mean mg mb base)
    (N : News h₀ L s.heap ((tx, instObj 511 txd) :: (txd, (txO qf rf vKind vChain vNonce vPrio vCap vLimit vGoal vVal vData al vSig nx)) :: (al, listOf rits.toArray an) :: (wl, wlo) :: (st, instObj 490 sd) :: (sd, (sdO zf tf se ac jl td dd wd ws od lg nd)) :: (se, instObj 161 sed) :: (sed, (seO shf skf sn)) :: (ac, aco) :: (ai, instObj 203 aid) :: (aid, (acO ahf akf sto adn)) :: (bl, instObj 182 bd) :: (bd, (bdO pf of' vNum vTime tips ob vFee vLim vRand vHash nb)) :: tl))
    (hd : vData = .bytes data tb) (hz : data.size ≤ 70)
    (hk : vKind = .int kind u1) (hc : vChain = .int 1 u2) (hn : vNonce = .int 0 u3) (hp : vPrio = .int prio u4) (hca : vCap = .int cap u5) (hl : vLimit = .int limit u6) (hw : vVal = .int worth u7)
    (hfe : vFee = .int fee u8) (hbl : vLim = .int 30000000 u9)
    (hwl : (wlo.IsDictOf (PySem.strKind PySem.Challenge.rw_pq0410_01.row.prog w) [(Str.ofString "state", .ref st), (Str.ofString "who", .int who wk4), (Str.ofString "info", .ref bl)]))
    (hac : aco.IsDictOf (PySem.intKind PySem.Challenge.rw_pq0410_01.row.prog w) [(who, .ref ai)]) (lo : (ac == sysModules) = false)
    (i7 : cap ≤ 5) (i1 : 0 ≤ prio) (i2 : prio ≤ cap) (i3 : fee ≤ cap) (i4 : limit ≤ 30000000) (i5 : limit * cap + worth ≤ 1000000000) (i6 : 0 ≤ worth)
    (hg : GoalIs vGoal goal) (hR : RowsIn tl rits rs) (hro : RowsOk rs)
    {word : Str} (hwd : (if limit < intr data rs goal then Str.ofString "gas" else Str.ofString "") = word)
    (hret : ∀ h' tk' t, KeptS s.heap h' ((envX cn cs L a ccd cl :: outer).filterMap (·.frame)) → Q (.str word t) { s with heap := h', toks := tk' }) :
    wpAny (model PySem.Challenge.rw_pq0410_01.row.prog w) A (call (.ref 575) [.ref tx, .ref wl]) Q E s := by
  subst hd hw hl hk hc hn hp hca hfe hbl
  have N0 := N
  obtain ⟨LEDX, hLEDX⟩ : ∃ l, l = ((tx, instObj 511 txd) :: (txd, (txO qf rf (.int kind u1) (.int 1 u2) (.int 0 u3) (.int prio u4) (.int cap u5) (.int limit u6) vGoal (.int worth u7) (Value.bytes data tb) al vSig nx)) :: (al, listOf rits.toArray an) :: (wl, wlo) :: (st, instObj 490 sd) :: (sd, (sdO zf tf se ac jl td dd wd ws od lg nd)) :: (se, instObj 161 sed) :: (sed, (seO shf skf sn)) :: (ac, aco) :: (ai, instObj 203 aid) :: (aid, (acO ahf akf sto adn)) :: (bl, instObj 182 bd) :: (bd, (bdO pf of' vNum vTime tips ob (.int fee u8) (.int 30000000 u9) vRand vHash nb)) :: tl) := ⟨_, rfl⟩
  have hsz : data.size ≤ sizeLine := by rw [sizeLine_eq]; omega
  by_cases hlt : limit < intr data rs goal
  · rw [if_pos hlt] at hwd
    have hwd2 : (if limit < intr data rs goal then Str.ofString "gas" else Str.ofString "") = Str.ofString "gas" := if_pos hlt
    walk_at "ENTER"
    rename_i g1 L1 h1' hG1 hU1 F1 N1 B1 X1 T1
    k_steps
    refine ⟨_, _, _, rfl, clsX_ex (K := hd.heap_1 w.params) (by k_in) rfl, News.get (by assumption) (by k_mem), ?_⟩
    show wpAny _ _ (leaving _ _) _ _ _
    refine' leaveX2 (led := LEDX) ?zK ?zF ?zN ?zm1 ?zm2 ?z1 ?zt ?zd ?zn ?z2 ?z3 ?z4 (fun h8 R8 U8 => ?_) rfl
    case zK => assumption
    case zF => assumption
    case zN => assumption
    case zm1 => k_mem
    case zm2 => k_mem
    case z1 => exact rfl
    case z2 => exact rfl
    case z3 => exact rfl
    case z4 => exact rfl
    case zt => rw [hLEDX]; walk_at "SUBT"
    case zd => k_ne
    case zn => rw [hLEDX]; (repeat' (first | exact List.forall_mem_nil _ | refine List.forall_mem_cons.mpr ⟨by k_ne, ?_⟩)); k_all
    refine catchX (KF := hd.heap_1 w.params) (C := 51) (bm := bmX) (newId := "Exception.__new__") R8 (by assumption) B1 U8 XB TB (by k_is) rfl rfl rfl (fun h9 g9 tk9 vs9 T9 F9 N9 B9 X9 P9 => ?_)
    rw [hLEDX] at N9
    k_steps
    subst hwd
    refine hret _ _ _ (kept_endS hG1 (fun q hq => (N0 q hq).1) T9 (by assumption) ?_)
    rename_i h10 v10 F10 N10
    exact fun q hq => (News.perm N10 (by walk_at "SUBT") q hq).1
  · rw [if_neg hlt] at hwd
    have hwd2 : (if limit < intr data rs goal then Str.ofString "gas" else Str.ofString "") = Str.ofString "" := if_neg hlt
    walk_at "ENTER"
    rename_i g1 L1 h1' hG1 hU1 F1 N1 B1 X1 T1
    k_steps
    subst hwd
    show Q _ _
    exact hret _ _ _ (KeptS.of (kept_end N0 hG1 (by assumption) (keptN (by assumption) (by walk_at "KEPT"))))
end


theorem ar_nx {k f n : Nat} (h : k + (f + 1) ≤ n) : k + 1 + f ≤ n := Nat.le_trans (Nat.le_of_eq (Nat.add_right_comm k 1 f)) h
theorem ar_lt {k f n : Nat} (h : k + (f + 1) ≤ n) : k < n := Nat.lt_of_lt_of_le (Nat.lt_add_of_pos_right (Nat.succ_pos f)) h
theorem ar_le {k f n : Nat} (h : k + (f + 1) ≤ n) : k ≤ n := Nat.le_of_lt (ar_lt h)
theorem ar_pos {k f n : Nat} (h : k + (f + 1) ≤ n) : 0 < n := Nat.zero_lt_of_lt (ar_lt h)
theorem ar_mid {k i : Nat} (a : k + 1 - (0 + 1) ≤ i) (b : i < k + 1) : i = k + 1 - 1 := Nat.le_antisymm (Nat.le_of_lt_succ b) a
theorem ar_pred {i j : Nat} (h : i < j) : i ≤ j - 1 ∧ j - 1 < j := ⟨Nat.le_sub_one_of_lt h, Nat.sub_one_lt_of_lt h⟩
theorem ar_sh {k m : Nat} (h : m ≠ 0) : k + 1 + (m - 1) = k + m := by rw [Nat.add_right_comm, Nat.add_assoc, Nat.sub_add_cancel (Nat.pos_of_ne_zero h)]
theorem ar_half {l r : Nat} (h : l < r) : l ≤ (l + r) / 2 ∧ (l + r) / 2 < r := by constructor <;> omega
/-- the sort's questions, answered by a number for each item -/
def okT (z : Nat → Int) (n : Nat) {α : Type} : KasT α → (α → Prop) → Prop
  | .ret a, Q => Q a
  | .ask i j k, Q => i < n ∧ j < n ∧ okT z n (k (decide (z i < z j))) Q
section
variable {z : Nat → Int} {n : Nat}
theorem okT_bind {α β : Type} {f : α → KasT β} {Q : β → Prop} : ∀ (t : KasT α), okT z n t (fun a => okT z n (f a) Q) → okT z n (t.bind f) Q
  | .ret _, h => h
  | .ask _ _ k, h => ⟨h.1, h.2.1, okT_bind (k _) h.2.2⟩
theorem okT_mono {α : Type} {Q Q' : α → Prop} (hq : ∀ a, Q a → Q' a) : ∀ (t : KasT α), okT z n t Q → okT z n t Q'
  | .ret a, h => hq a h
  | .ask _ _ k, h => ⟨h.1, h.2.1, okT_mono hq (k _) h.2.2⟩
theorem okT_run {α : Type} {cmp : Nat → Nat → (Bool → Shared → Prop) → Shared → Prop} {s : Shared} (hc : ∀ i j C, i < n → j < n → C (decide (z i < z j)) s → cmp i j C s) {Q : α → Shared → Prop} :
    ∀ (t : KasT α), okT z n t (fun a => Q a s) → t.kasWp cmp Q s
  | .ret _, h => h
  | .ask i j k, h => hc i j _ h.1 h.2.1 (okT_run hc (k _) h.2.2)

/-- an order of the first n numbers -/
def Pn (n : Nat) (p : Array Nat) : Prop := p.toList.Perm (List.range n)
theorem Pn.size {p : Array Nat} (h : Pn n p) : p.size = n := by have := h.length_eq; simpa using this
theorem Pn.at {p : Array Nat} (h : Pn n p) (hn : 0 < n) (k : Nat) : p.getD k 0 < n := by
  rw [Array.getD_eq_getD_getElem?]
  cases e : p[k]? with
  | none => exact hn
  | some v =>
    have hm : v ∈ p.toList := by rw [← Array.getElem?_toList] at e; exact List.mem_of_getElem? e
    exact List.mem_range.mp (h.mem_iff.mp hm)
theorem Pn.perm {p q : Array Nat} (h : Pn n p) (e : q.Perm p) : Pn n q := (Array.perm_iff_toList_perm.mp e).trans h
/-- the number of the item at a place -/
def Zat (z : Nat → Int) (p : Array Nat) (k : Nat) : Int := z (p.getD k 0)
theorem Zat_congr {p q : Array Nat} {i j : Nat} (h : p[i]? = q[j]?) : Zat z p i = Zat z q j := by
  unfold Zat; rw [Array.getD_eq_getD_getElem?, Array.getD_eq_getD_getElem?, h]
theorem Zat_rev {p : Array Nat} {i j : Nat} (hj : j ≤ p.size) (k : Nat) : Zat z (kas_rev p i j) k = if i ≤ k ∧ k < j then Zat z p (i + j - 1 - k) else Zat z p k := by
  have e := getElem?_mirror_all (i := i) hj k
  unfold kas_rev
  by_cases h1 : i ≤ k ∧ k < j
  · rw [if_pos h1] at e ⊢; exact Zat_congr e
  · rw [if_neg h1] at e ⊢; exact Zat_congr e
theorem ar_mir {i j k : Nat} (h : i ≤ k ∧ k < j) : i ≤ i + j - 1 - k ∧ i + j - 1 - k < j := by constructor <;> omega
theorem Zat_rev_same {p : Array Nat} {i j : Nat} (hj : j ≤ p.size) (he : ∀ k, i ≤ k → k < j → Zat z p k = Zat z p (j - 1)) (k : Nat) : Zat z (kas_rev p i j) k = Zat z p k := by
  rw [Zat_rev hj]
  split
  · rename_i h
    rw [he _ (ar_mir h).1 (ar_mir h).2, he k h.1 h.2]
  · rfl
theorem Pn.rev {p : Array Nat} (h : Pn n p) (i j : Nat) : Pn n (kas_rev p i j) := h.perm (mirror_perm _ _ _ _)
/-- rising, falling -/
def Rise (z : Nat → Int) (p : Array Nat) (k : Nat) : Prop := ∀ i j, i ≤ j → j < k → Zat z p i ≤ Zat z p j
def Fall (z : Nat → Int) (p : Array Nat) (k : Nat) : Prop := ∀ i j, i ≤ j → j < k → Zat z p j ≤ Zat z p i
theorem Rise.snoc {p : Array Nat} {k : Nat} (h : Rise z p k) (e : ¬ Zat z p k < Zat z p (k - 1)) : Rise z p (k + 1) := fun i j hij hj => by
  by_cases hjx : j < k
  · exact h i j hij hjx
  · have hj' : j = k := Nat.le_antisymm (Nat.le_of_lt_succ hj) (Nat.not_lt.mp hjx)
    subst hj'
    by_cases hi' : i = j
    · subst hi'; exact Int.le_refl _
    · have q := ar_pred (Nat.lt_of_le_of_ne hij hi')
      exact Int.le_trans (h i (j - 1) q.1 q.2) (Int.not_lt.mp e)
theorem Fall.snoc {p : Array Nat} {k : Nat} (h : Fall z p k) (e : Zat z p k ≤ Zat z p (k - 1)) : Fall z p (k + 1) := fun i j hij hj => by
  by_cases hjx : j < k
  · exact h i j hij hjx
  · have hj' : j = k := Nat.le_antisymm (Nat.le_of_lt_succ hj) (Nat.not_lt.mp hjx)
    subst hj'
    by_cases hi' : i = j
    · subst hi'; exact Int.le_refl _
    · have q := ar_pred (Nat.lt_of_le_of_ne hij hi')
      exact Int.le_trans e (h i (j - 1) q.1 q.2)

theorem ok_asc {p : Array Nat} {Q : Nat → Prop} (hp : Pn n p) : ∀ (f k : Nat), 1 ≤ k → k + f ≤ n → Rise z p k →
    (∀ m, k ≤ m → m ≤ k + f → Rise z p m → (m = k + f ∨ Zat z p m < Zat z p (m - 1)) → Q m) → okT z n (kas_asc p f k) Q
  | 0, k, h1, hz, hs, h => h k (Nat.le_refl _) (Nat.le_refl _) hs (.inl rfl)
  | f + 1, k, h1, hz, hs, h => by
    have hn := ar_pos hz
    refine ⟨hp.at hn _, hp.at hn _, ?_⟩
    by_cases hl : z (p.getD k 0) < z (p.getD (k - 1) 0)
    · rw [decide_eq_true hl]; dsimp only; rw [if_pos rfl]
      exact h k (Nat.le_refl _) (Nat.le_add_right _ _) hs (.inr hl)
    · rw [decide_eq_false hl]; dsimp only; rw [if_neg Bool.false_ne_true]
      have e := Nat.add_right_comm k 1 f
      refine ok_asc hp f (k + 1) (Nat.le_add_left 1 k) (ar_nx hz) (hs.snoc hl) fun m a b c d => h m (Nat.le_of_succ_le a) (Nat.le_trans b (Nat.le_of_eq e)) c (d.elim (fun q => .inl (q.trans e)) .inr)

/-- what a counted run is -/
def RunOk (z : Nat → Int) (n : Nat) (r : Nat × Array Nat) : Prop := Pn n r.2 ∧ 1 ≤ r.1 ∧ r.1 ≤ n ∧ Rise z r.2 r.1

theorem ok_tail3 {p : Array Nat} {k : Nat} (hp : Pn n p) (h1 : 1 ≤ k) (hk : k ≤ n) (hs : Fall z p k) : okT z n (kas_tail3 k n p) (RunOk z n) := by
  unfold kas_tail3
  have hz : k ≤ p.size := by rw [hp.size]; exact hk
  have e := Nat.le_of_eq (Nat.add_sub_cancel' hk)
  refine okT_bind _ (ok_asc (hp.rev 0 k) (n - k) k h1 e (fun i j hij hj => ?_) fun m a b c _ => ⟨hp.rev 0 k, Nat.le_trans h1 a, Nat.le_trans b e, c⟩)
  rw [Zat_rev hz, Zat_rev hz, if_pos ⟨Nat.zero_le _, Nat.lt_of_le_of_lt hij hj⟩, if_pos ⟨Nat.zero_le _, hj⟩, Nat.zero_add]
  exact hs _ _ (Nat.sub_le_sub_left hij _) (Nat.lt_of_le_of_lt (Nat.sub_le _ _) (Nat.sub_one_lt_of_lt hj))

theorem ok_desc {Q : Array Nat × Nat × Nat → Prop} (h : ∀ p m q, Pn n p → 1 ≤ m → m ≤ n → Fall z p m → q + 1 ≤ m → (∀ i, m - (q + 1) ≤ i → i < m → Zat z p i = Zat z p (m - 1)) → Q (p, m, q)) :
    ∀ (f : Nat) (p : Array Nat) (k q : Nat), Pn n p → 1 ≤ k → k + f ≤ n → Fall z p k → q + 1 ≤ k → (∀ i, k - (q + 1) ≤ i → i < k → Zat z p i = Zat z p (k - 1)) → okT z n (kas_desc f p k q) Q
  | 0, p, k, q, hp, h1, hz, hs, hq, he => h p k q hp h1 hz hs hq he
  | f + 1, p, k, q, hp, h1, hz, hs, hq, he => by
    have hn := ar_pos hz
    refine ⟨hp.at hn _, hp.at hn _, ?_⟩
    have hsz : k ≤ p.size := by rw [hp.size]; exact ar_le hz
    by_cases hl : z (p.getD k 0) < z (p.getD (k - 1) 0)
    · rw [decide_eq_true hl]; dsimp only; rw [if_pos rfl]
      by_cases hq0 : q > 0
      · rw [if_pos hq0]
        have hr : ∀ i, Zat z (kas_rev p (k - (q + 1)) k) i = Zat z p i := Zat_rev_same hsz he
        refine ok_desc h f _ (k + 1) 0 (hp.rev _ _) (Nat.le_add_left 1 k) (ar_nx hz) ?_ (Nat.le_add_left 1 k) (fun i a b => congrArg _ (ar_mid a b))
        have : Fall z (kas_rev p (k - (q + 1)) k) k := fun i j hij hj => by rw [hr, hr]; exact hs i j hij hj
        exact this.snoc (by rw [hr, hr]; exact Int.le_of_lt hl)
      · rw [if_neg hq0]
        exact ok_desc h f _ (k + 1) 0 hp (Nat.le_add_left 1 k) (ar_nx hz) (hs.snoc (Int.le_of_lt hl)) (Nat.le_add_left 1 k) (fun i a b => congrArg _ (ar_mid a b))
    · rw [decide_eq_false hl]; dsimp only; rw [if_neg Bool.false_ne_true]
      refine ⟨hp.at hn _, hp.at hn _, ?_⟩
      by_cases hg : z (p.getD (k - 1) 0) < z (p.getD k 0)
      · rw [decide_eq_true hg]; dsimp only; rw [if_pos rfl]
        exact h p k q hp h1 (ar_le hz) hs hq he
      · rw [decide_eq_false hg]; dsimp only; rw [if_neg Bool.false_ne_true]
        have ex : Zat z p k = Zat z p (k - 1) := Int.le_antisymm (Int.not_lt.mp hg) (Int.not_lt.mp hl)
        refine ok_desc h f p (k + 1) (q + 1) hp (Nat.le_add_left 1 k) (ar_nx hz) (hs.snoc (Int.le_of_eq ex)) (Nat.succ_le_succ hq) fun i a b => ?_
        rw [Nat.add_sub_cancel]
        by_cases hik : i = k
        · rw [hik]
        · rw [ex]; exact he i (Nat.le_trans (Nat.le_of_eq (Nat.add_sub_add_right k 1 (q + 1)).symm) a) (Nat.lt_of_le_of_ne (Nat.le_of_lt_succ b) hik)

theorem ok_descPart {p : Array Nat} {k : Nat} (hp : Pn n p) (hk : k + 1 ≤ n) (hs : Fall z p (k + 1)) : okT z n (kas_descPart k n p) (RunOk z n) := by
  unfold kas_descPart
  refine okT_bind _ (ok_desc (fun p' m q hp' h1 hm hs' hq he => ?_) (n - (k + 1)) p (k + 1) 0 hp (Nat.le_add_left 1 k) (Nat.le_of_eq (Nat.add_sub_cancel' hk)) hs (Nat.le_add_left 1 k) (fun i a b => congrArg _ (ar_mid a b)))
  dsimp only
  have hsz : m ≤ p'.size := by rw [hp'.size]; exact hm
  by_cases hq0 : q > 0
  · rw [if_pos hq0]
    refine ok_tail3 (hp'.rev _ _) h1 hm fun i j hij hj => ?_
    rw [Zat_rev_same hsz he, Zat_rev_same hsz he]
    exact hs' i j hij hj
  · rw [if_neg hq0]
    exact ok_tail3 hp' h1 hm hs'

theorem rise_one (p : Array Nat) : Rise z p 1 := fun i j hij hj => by cases Nat.lt_one_iff.mp hj; cases Nat.le_zero.mp hij; exact Int.le_refl _
theorem ok_count {p : Array Nat} (hp : Pn n p) (hn : 1 ≤ n) : okT z n (kas_count n p) (RunOk z n) := by
  unfold kas_count
  have e1 := Nat.add_sub_cancel' hn
  refine okT_bind _ (ok_asc hp (n - 1) 1 (Nat.le_refl _) (Nat.le_of_eq e1) (rise_one p) fun m a b c d => ?_)
  rw [e1] at b d
  by_cases hm : m = n
  · rw [if_pos (beq_iff_eq.mpr hm)]
    exact ⟨hp, a, b, c⟩
  · rw [if_neg (fun q => hm (beq_iff_eq.mp q))]
    have hlt : Zat z p m < Zat z p (m - 1) := d.resolve_left hm
    have hsz : m ≤ p.size := by rw [hp.size]; exact b
    by_cases hg : m > 1
    · rw [if_pos hg]
      refine ⟨hp.at hn _, hp.at hn _, ?_⟩
      by_cases hr : z (p.getD 0 0) < z (p.getD (m - 1) 0)
      · rw [decide_eq_true hr]; dsimp only; rw [if_pos rfl]
        exact ⟨hp, a, b, c⟩
      · rw [decide_eq_false hr]; dsimp only; rw [if_neg Bool.false_ne_true]
        have hall : ∀ k, 0 ≤ k → k < m → Zat z p k = Zat z p (m - 1) := by
          intro k _ hk
          exact Int.le_antisymm (c k (m - 1) (Nat.le_sub_one_of_lt hk) (Nat.sub_one_lt_of_lt hg)) (Int.le_trans (Int.not_lt.mp hr) (c 0 k (Nat.zero_le _) hk))
        have hsame : ∀ i, Zat z (kas_rev p 0 m) i = Zat z p i := Zat_rev_same hsz hall
        refine ok_descPart (hp.rev _ _) (Nat.lt_of_le_of_ne b hm) ?_
        have : Fall z (kas_rev p 0 m) m := fun i j hij hj => by rw [hsame, hsame, hall i (Nat.zero_le _) (Nat.lt_of_le_of_lt hij hj), hall j (Nat.zero_le _) hj]; exact Int.le_refl _
        exact this.snoc (by rw [hsame, hsame]; exact Int.le_of_lt hlt)
    · rw [if_neg hg]
      have h1 : m = 1 := Nat.le_antisymm (Nat.not_lt.mp hg) a
      subst h1
      refine ok_descPart hp (Nat.lt_of_le_of_ne b hm) ?_
      have : Fall z p 1 := fun i j hij hj => by cases Nat.lt_one_iff.mp hj; cases Nat.le_zero.mp hij; exact Int.le_refl _
      exact this.snoc (Int.le_of_lt hlt)

theorem ok_place {p : Array Nat} {k : Nat} {Q : Nat → Prop} (hp : Pn n p) (hk : k < n) (hs : Rise z p k) : ∀ (f l r : Nat), r ≤ l + f → l ≤ r → r ≤ k → (∀ i, i < l → Zat z p i ≤ Zat z p k) → (∀ i, r ≤ i → i < k → Zat z p k < Zat z p i) →
    (∀ l, l ≤ k → (∀ i, i < l → Zat z p i ≤ Zat z p k) → (∀ i, l ≤ i → i < k → Zat z p k < Zat z p i) → Q l) → okT z n (kas_place p k f l r) Q
  | 0, l, r, hf, hlr, hr, a, b, h => h l (Nat.le_trans hlr hr) a (fun i c d => b i (Nat.le_trans hf c) d)
  | f + 1, l, r, hf, hlr, hr, a, b, h => by
    unfold kas_place
    by_cases hge : l ≥ r
    · rw [if_pos hge]
      exact h l (Nat.le_trans hlr hr) a (fun i c d => b i (Nat.le_trans hge c) d)
    · rw [if_neg hge]
      have hn := Nat.zero_lt_of_lt hk
      have m := ar_half (Nat.not_le.mp hge)
      have mk := Nat.lt_of_lt_of_le m.2 hr
      refine ⟨hp.at hn _, hp.at hn _, ?_⟩
      by_cases hl : z (p.getD k 0) < z (p.getD ((l + r) / 2) 0)
      · rw [decide_eq_true hl]; dsimp only; rw [if_pos rfl]
        refine ok_place hp hk hs f l ((l + r) / 2) (Nat.le_of_lt_succ (Nat.lt_of_lt_of_le m.2 hf)) m.1 (Nat.le_of_lt mk) a (fun i c d => ?_) h
        exact Int.lt_of_lt_of_le hl (hs _ i c d)
      · rw [decide_eq_false hl]; dsimp only; rw [if_neg Bool.false_ne_true]
        refine ok_place hp hk hs f ((l + r) / 2 + 1) r (Nat.le_trans hf (Nat.le_trans (Nat.add_le_add_right m.1 (f + 1)) (Nat.le_of_eq (Nat.add_right_comm _ 1 f).symm))) m.2 hr (fun i c => ?_) b h
        exact Int.le_trans (hs i ((l + r) / 2) (Nat.le_of_lt_succ c) mk) (Int.not_lt.mp hl)

theorem ok_bin {Q : Array Nat → Prop} : ∀ (f : Nat) (p : Array Nat) (k : Nat), Pn n p → k + f ≤ n → Rise z p k → (∀ p', Pn n p' → Rise z p' (k + f) → Q p') → okT z n (kas_bin f p k) Q
  | 0, p, k, hp, hz, hs, h => h p hp hs
  | f + 1, p, k, hp, hz, hs, h => by
    unfold kas_bin
    refine okT_bind _ (ok_place hp (ar_lt hz) hs k 0 k (Nat.le_of_eq (Nat.zero_add k).symm) (Nat.zero_le k) (Nat.le_refl _) (fun i c => absurd c (Nat.not_lt_zero _)) (fun i c d => absurd (Nat.lt_of_lt_of_le d c) (Nat.lt_irrefl _)) fun l hl a b => ?_)
    refine ok_bin f _ (k + 1) (hp.perm (bubble_perm _ _ _)) (ar_nx hz) (fun i j hij hj => ?_) (fun p' x y => h p' x (by rw [Nat.add_right_comm k 1 f] at y; exact y))
    have hb : ∀ i, Zat z (bubble p k (k - l)) i = if i = l then Zat z p k else if l < i ∧ i ≤ k then Zat z p (i - 1) else Zat z p i := fun i => by
      have e := getElem?_bubble (xs := p) (src := k) (by rw [hp.size]; exact ar_lt hz) (k - l) (Nat.sub_le k l) i
      rw [Nat.sub_sub_self hl] at e
      by_cases h1 : i = l
      · rw [if_pos h1] at e ⊢; exact Zat_congr e
      · by_cases h2 : l < i ∧ i ≤ k
        · rw [if_neg h1, if_pos h2] at e ⊢; exact Zat_congr e
        · rw [if_neg h1, if_neg h2] at e ⊢; exact Zat_congr e
    rw [hb, hb]
    have jk := Nat.le_of_lt_succ hj
    by_cases e1 : i = l
    · rw [if_pos e1]
      by_cases e2 : j = l
      · rw [if_pos e2]; exact Int.le_refl _
      · have hlj : l < j := Nat.lt_of_le_of_ne (e1 ▸ hij) (Ne.symm e2)
        rw [if_neg e2, if_pos ⟨hlj, jk⟩]
        exact Int.le_of_lt (b (j - 1) (ar_pred hlj).1 (Nat.lt_of_lt_of_le (ar_pred hlj).2 jk))
    · rw [if_neg e1]
      by_cases e2 : j = l
      · rw [if_neg (fun q => Nat.not_lt.mpr (e2 ▸ hij) q.1), if_pos e2]
        exact a i (Nat.lt_of_le_of_ne (e2 ▸ hij) e1)
      · rw [if_neg e2]
        by_cases e3 : l < i ∧ i ≤ k
        · have hlj := Nat.lt_of_lt_of_le e3.1 hij
          rw [if_pos e3, if_pos ⟨hlj, jk⟩]
          exact hs _ _ (Nat.sub_le_sub_right hij 1) (Nat.lt_of_lt_of_le (ar_pred hlj).2 jk)
        · rw [if_neg e3]
          by_cases e4 : l < j ∧ j ≤ k
          · rw [if_pos e4]; exact hs _ _ (ar_pred (Nat.lt_of_le_of_lt (Nat.not_lt.mp fun q => e3 ⟨q, Nat.le_trans hij e4.2⟩) e4.1)).1 (Nat.lt_of_lt_of_le (ar_pred e4.1).2 jk)
          · rw [if_neg e4]; exact hs _ _ hij (Nat.lt_of_lt_of_le (Nat.lt_of_le_of_ne (Nat.not_lt.mp fun q => e4 ⟨q, jk⟩) e2) hl)

theorem ok_sort (hn : 1 ≤ n) : okT z n (kas_sort n) (fun p => Pn n p ∧ Rise z p n) := by
  unfold kas_sort
  refine okT_bind _ (okT_mono (fun r hr => ?_) _ (ok_count (p := (List.range n).toArray) (by show (List.range n).toArray.toList.Perm _; exact List.Perm.refl _) hn))
  obtain ⟨a, b, c, d⟩ := hr
  by_cases h : r.1 < n
  · rw [if_pos h]
    have e2 := Nat.add_sub_cancel' c
    rw [Nat.max_eq_left b]
    exact ok_bin (n - r.1) r.2 r.1 a (Nat.le_of_eq e2) d fun p' x y => ⟨x, by rw [e2] at y; exact y⟩
  · rw [if_neg h]
    have e : r.1 = n := Nat.le_antisymm c (Nat.not_lt.mp h)
    rw [e] at d
    exact ⟨a, d⟩

/-- what the sort gives: the same items, rising -/
theorem sort_out {α : Type} {f : Nat → α} {g : α → Int} {p : Array Nat} (hg : ∀ i, i < n → g (f i) = z i) (hp : Pn n p) (hs : Rise z p n) :
    (p.toList.map f).Perm ((List.range n).map f) ∧ ((p.toList.map f).map g).Pairwise (· ≤ ·) := by
  refine ⟨hp.map f, ?_⟩
  rw [List.pairwise_iff_getElem]
  intro i j hi hj hij
  have hz := hp.size
  have hi' : i < p.size := by simpa using hi
  have hj' : j < p.size := by simpa using hj
  have e := hs i j (Nat.le_of_lt hij) (hz ▸ hj')
  have at1 : ∀ k (hk : k < p.size), Zat z p k = g (f (p.toList[k]'(by simpa using hk))) := fun k hk => by
    have e1 : p.getD k 0 = p.toList[k]'(by simpa using hk) := by simp [Array.getD, hk]
    have e2 : p.toList[k]'(by simpa using hk) < n := List.mem_range.mp (hp.mem_iff.mp (List.getElem_mem _))
    unfold Zat
    rw [hg _ e2, e1]
  rw [at1 i hi', at1 j hj'] at e
  simpa using e
end


section
/-- how many lie below -/
theorem below_go {xs : Array Nat} {j : Nat} (hr : xs.toList.Pairwise (· < ·)) : ∀ (fuel lo hi : Nat), lo ≤ hi → hi ≤ xs.size → hi - lo ≤ fuel → (∀ a, a < lo → xs.getD a 0 < j) → (∀ a, hi ≤ a → a < xs.size → j ≤ xs.getD a 0) →
    SetTable.below.go xs j fuel lo hi ≤ xs.size ∧ (∀ a, a < SetTable.below.go xs j fuel lo hi → xs.getD a 0 < j) ∧ (∀ a, SetTable.below.go xs j fuel lo hi ≤ a → a < xs.size → j ≤ xs.getD a 0) := by
  have mono : ∀ a b, a ≤ b → b < xs.size → xs.getD a 0 ≤ xs.getD b 0 := fun a b hab hb => by
    rcases Nat.lt_or_ge a b with h | h
    · have := List.pairwise_iff_getElem.mp hr a b (by simpa using Nat.lt_trans h hb) (by simpa using hb) h
      have ha : a < xs.size := Nat.lt_trans h hb
      simp only [Array.getElem_toList] at this
      simp [Array.getD, ha, hb]
      exact Nat.le_of_lt this
    · have : a = b := Nat.le_antisymm hab h
      rw [this]; exact Nat.le_refl _
  intro fuel
  induction fuel with
  | zero =>
    intro lo hi h1 h2 h3 a b
    unfold SetTable.below.go
    have : lo = hi := Nat.le_antisymm h1 (Nat.le_of_sub_eq_zero (Nat.le_zero.mp h3))
    exact ⟨Nat.le_trans h1 h2, a, by rw [this]; exact b⟩
  | succ fuel ih =>
    intro lo hi h1 h2 h3 a b
    unfold SetTable.below.go
    by_cases h : lo < hi
    · rw [if_pos h]
      dsimp only
      have m := ar_half h
      have ms := Nat.lt_of_lt_of_le m.2 h2
      have hmid : xs.getD ((lo + hi) / 2) j = xs.getD ((lo + hi) / 2) 0 := by
        simp [Array.getD, ms]
      rw [hmid]
      by_cases hm : xs.getD ((lo + hi) / 2) 0 < j
      · rw [if_pos hm]
        exact ih _ _ m.2 h2 (Nat.le_of_lt_succ (Nat.lt_of_lt_of_le (Nat.sub_lt_sub_left h (Nat.lt_succ_of_le m.1)) h3)) (fun c hc => Nat.lt_of_le_of_lt (mono c ((lo + hi) / 2) (Nat.le_of_lt_succ hc) ms) hm) b
      · rw [if_neg hm]
        exact ih _ _ m.1 (Nat.le_of_lt ms) (Nat.le_of_lt_succ (Nat.lt_of_lt_of_le (Nat.sub_lt_sub_right m.1 m.2) h3)) a (fun c hc hc' => Nat.le_trans (Nat.le_of_not_lt hm) (mono ((lo + hi) / 2) c hc hc'))
    · rw [if_neg h]
      have : lo = hi := Nat.le_antisymm h1 (Nat.not_lt.mp h)
      exact ⟨Nat.le_trans h1 h2, a, by rw [this]; exact b⟩
theorem below_spec {xs : Array Nat} (hr : xs.toList.Pairwise (· < ·)) (j : Nat) :
    SetTable.below xs j ≤ xs.size ∧ (∀ a, a < SetTable.below xs j → xs.getD a 0 < j) ∧ (∀ a, SetTable.below xs j ≤ a → a < xs.size → j ≤ xs.getD a 0) :=
  below_go hr _ _ _ (Nat.zero_le _) (Nat.le_refl _) (Nat.sub_le _ _) (fun a h => absurd h (Nat.not_lt_zero _)) fun a h h' => absurd h (Nat.not_le_of_lt h')
theorem below_at {xs : Array Nat} (hr : xs.toList.Pairwise (· < ·)) {i j : Nat} (h : xs[i]? = some j) : SetTable.below xs j = i := by
  obtain ⟨a, b, c⟩ := below_spec hr j
  obtain ⟨hi, he⟩ := Array.getElem?_eq_some_iff.mp h
  have hd : xs.getD i 0 = j := by simp [Array.getD, hi, he]
  rcases Nat.lt_trichotomy (SetTable.below xs j) i with q | q | q
  · have h1 := c _ (Nat.le_refl _) (Nat.lt_trans q hi)
    have h2 := List.pairwise_iff_getElem.mp hr _ _ (by simpa using Nat.lt_trans q hi) (by simpa using hi) q
    simp only [Array.getElem_toList] at h2
    have h3 : xs.getD (SetTable.below xs j) 0 = xs[SetTable.below xs j]'(Nat.lt_trans q hi) := by simp [Array.getD, Nat.lt_trans q hi]
    rw [h3] at h1
    exact absurd (Nat.lt_of_lt_of_eq h2 he) (Nat.not_lt.mpr h1)
  · exact q
  · exact absurd hd (Nat.ne_of_lt (b i q))
theorem slot_live {t : SetTable} (hr : t.place.toList.Pairwise (· < ·)) {i j : Nat} (h : t.place[i]? = some j) : t.slot j = .live i := by
  unfold SetTable.slot
  dsimp only
  rw [below_at hr h, h, if_pos (by simp)]
theorem slot_empty {t : SetTable} {j : Nat} (hd : t.dummies = #[]) (h : j ∉ t.place.toList) : t.slot j = .empty := by
  unfold SetTable.slot
  dsimp only
  rw [if_neg, if_neg]
  · rw [hd]; simp [SetTable.has]
  · intro q
    have q := beq_iff_eq.mp q
    rw [← Array.getElem?_toList] at q
    exact h (List.mem_of_getElem? q)

/-- the way of a search -/
def advM (M : Nat) (p : SetTable.Probe) : SetTable.Probe :=
  if p.more > 0 then { p with j := p.j + 1, more := p.more - 1 } else
  let (i, perturb) := SetTable.leap M p.i p.perturb
  { p with j := i, more := SetTable.runEnd M i - i, i, perturb }
theorem advance_eq (t : SetTable) (p : SetTable.Probe) : t.advance p = advM t.mask p := rfl
def startM (M : Nat) (h : Int) : SetTable.Probe := { j := SetTable.bits h % (M + 1), more := SetTable.runEnd M (SetTable.bits h % (M + 1)) - SetTable.bits h % (M + 1), i := SetTable.bits h % (M + 1), perturb := SetTable.bits h, dummy := none }
def stM (M : Nat) (h : Int) : Nat → SetTable.Probe
  | 0 => startM M h
  | k + 1 => advM M (stM M h k)
def posM (M : Nat) (h : Int) (k : Nat) : Nat := (stM M h k).j
def advN (M : Nat) : Nat → SetTable.Probe → SetTable.Probe
  | 0, p => p
  | k + 1, p => advN M k (advM M p)
theorem advN_add (M : Nat) : ∀ (a b : Nat) (p : SetTable.Probe), advN M (a + b) p = advN M b (advN M a p)
  | 0, b, p => by rw [Nat.zero_add]; rfl
  | a + 1, b, p => by rw [Nat.add_right_comm a 1 b]; exact advN_add M a b _
theorem stM_add (M : Nat) (h : Int) (k : Nat) : ∀ m, stM M h (k + m) = advN M m (stM M h k)
  | 0 => rfl
  | m + 1 => by
    have e : stM M h (k + (m + 1)) = advM M (stM M h (k + m)) := rfl
    rw [e, stM_add M h k m]
    have := advN_add M m 1 (stM M h k)
    exact this.symm
/-- a state within a run -/
structure PW (M : Nat) (p : SetTable.Probe) : Prop where
  i : p.i ≤ M
  run : p.j + p.more = SetTable.runEnd M p.i
  le : p.i ≤ p.j
theorem runEnd_le (M i : Nat) (h : i ≤ M) : i ≤ SetTable.runEnd M i ∧ SetTable.runEnd M i ≤ i + 9 ∧ SetTable.runEnd M i ≤ M := by
  unfold SetTable.runEnd
  split
  · rename_i q; exact ⟨Nat.le_add_right _ _, Nat.le_refl _, q⟩
  · exact ⟨Nat.le_refl _, Nat.le_add_right _ _, h⟩
def freshP (M i pert : Nat) (d : Option Nat) : SetTable.Probe := { j := i, more := SetTable.runEnd M i - i, i, perturb := pert, dummy := d }
theorem PW.fresh {M i pert : Nat} {d : Option Nat} (h : i ≤ M) : PW M (freshP M i pert d) := ⟨h, Nat.add_sub_cancel' (runEnd_le M i h).1, Nat.le_refl _⟩
theorem startM_fresh (M : Nat) (h : Int) : startM M h = freshP M (SetTable.bits h % (M + 1)) (SetTable.bits h) none := rfl
theorem leap_le (M i p : Nat) : (SetTable.leap M i p).1 ≤ M := Nat.le_of_lt_succ (Nat.mod_lt _ (Nat.succ_pos _))
/-- the run's other places, and the leap -/
theorem run_walk {M : Nat} : ∀ (n : Nat) (p : SetTable.Probe), p.more = n → ∀ k, k ≤ n → (advN M k p).j = p.j + k ∧ (advN M k p).more = n - k ∧ (advN M k p).i = p.i ∧ (advN M k p).perturb = p.perturb ∧ (advN M k p).dummy = p.dummy
  | n, p, hn, 0, _ => ⟨rfl, by simpa [advN] using hn, rfl, rfl, rfl⟩
  | 0, p, hn, k + 1, hk => absurd hk (Nat.not_succ_le_zero k)
  | n + 1, p, hn, k + 1, hk => by
    have e : advM M p = { p with j := p.j + 1, more := n } := by
      unfold advM
      rw [if_pos (show p.more > 0 from hn ▸ Nat.succ_pos n), hn]
      rfl
    have := run_walk (M := M) n (advM M p) (by rw [e]) k (Nat.le_of_succ_le_succ hk)
    show (advN M k (advM M p)).j = _ ∧ _
    obtain ⟨a, b, c, d, f⟩ := this
    refine ⟨by rw [a, e]; exact Nat.add_right_comm _ _ _, by rw [show advN M (k + 1) p = advN M k (advM M p) from rfl, b]; exact (Nat.add_sub_add_right n 1 k).symm, c.trans (by rw [e]), d.trans (by rw [e]), f.trans (by rw [e])⟩
theorem to_leap {M : Nat} {p : SetTable.Probe} (_ : PW M p) : advN M (p.more + 1) p = freshP M (SetTable.leap M p.i p.perturb).1 (SetTable.leap M p.i p.perturb).2 p.dummy := by
  obtain ⟨a, b, c, d, f⟩ := run_walk (M := M) p.more p rfl p.more (Nat.le_refl _)
  have e : advN M (p.more + 1) p = advM M (advN M p.more p) := advN_add M p.more 1 p
  rw [e]
  unfold advM
  rw [if_neg (by rw [b, Nat.sub_self]; exact Nat.lt_irrefl 0)]
  dsimp only
  rw [c, d, f]
  rfl
def leaps (M : Nat) : Nat → Nat × Nat → Nat × Nat
  | 0, x => x
  | n + 1, x => leaps M n (SetTable.leap M x.1 x.2)
theorem leaps_add (M : Nat) : ∀ (a b : Nat) (x : Nat × Nat), leaps M (a + b) x = leaps M b (leaps M a x)
  | 0, b, x => by rw [Nat.zero_add]; rfl
  | a + 1, b, x => by rw [Nat.add_right_comm a 1 b]; exact leaps_add M a b _
theorem to_leaps {M : Nat} : ∀ (n i pert : Nat) (d : Option Nat), i ≤ M → ∃ m, m ≤ 10 * n ∧ advN M m (freshP M i pert d) = freshP M (leaps M n (i, pert)).1 (leaps M n (i, pert)).2 d ∧ (leaps M n (i, pert)).1 ≤ M
  | 0, i, pert, d, h => ⟨0, Nat.le_refl _, rfl, h⟩
  | n + 1, i, pert, d, h => by
    have hr := runEnd_le M i h
    have e := to_leap (PW.fresh (M := M) (pert := pert) (d := d) h)
    obtain ⟨m, hm, hm', hl⟩ := to_leaps n (SetTable.leap M i pert).1 (SetTable.leap M i pert).2 d (leap_le M i pert)
    refine ⟨(freshP M i pert d).more + 1 + m, ?_, ?_, hl⟩
    · exact Nat.le_trans (Nat.add_le_add (Nat.succ_le_succ (Nat.sub_le_iff_le_add'.mpr hr.2.1)) hm) (Nat.le_of_eq (Nat.add_comm 10 (10 * n)))
    · rw [advN_add, e]
      exact hm'
theorem leaps_perturb (M : Nat) : ∀ (n i pert : Nat), (leaps M n (i, pert)).2 = pert / 32 ^ n
  | 0, i, pert => by simp [leaps]
  | n + 1, i, pert => by
    show (leaps M n (SetTable.leap M i pert)).2 = _
    have := leaps_perturb M n (SetTable.leap M i pert).1 (SetTable.leap M i pert).2
    rw [show (SetTable.leap M i pert) = ((SetTable.leap M i pert).1, (SetTable.leap M i pert).2) from rfl, this]
    show pert / 32 / 32 ^ n = _
    rw [Nat.div_div_eq_div_mul, Nat.pow_succ, Nat.mul_comm]
theorem cycle7 : ∀ i, i ≤ 7 → ∀ T, T ≤ 7 → ∃ c, c ≤ 7 ∧ (leaps 7 c (i, 0)).1 = T := by decide +kernel
theorem cycle31 : ∀ i, i ≤ 31 → ∀ T, T ≤ 31 → ∃ c, c ≤ 31 ∧ (leaps 31 c (i, 0)).1 = T := by decide +kernel
theorem bits_lt (h : Int) : SetTable.bits h < 2 ^ 64 := by
  unfold SetTable.bits
  have h1 := Int.emod_nonneg h (show (2 ^ 64 : Int) ≠ 0 by decide)
  have h2 := Int.emod_lt_of_pos h (show (0 : Int) < 2 ^ 64 by decide)
  omega
def goodMask (M : Nat) : Prop := M = 7 ∨ M = 31
theorem cycle {M : Nat} (hM : goodMask M) {i T : Nat} (hi : i ≤ M) (hT : T ≤ M) : ∃ c, c ≤ M ∧ (leaps M c (i, 0)).1 = T := by
  rcases hM with rfl | rfl
  · exact cycle7 i hi T hT
  · exact cycle31 i hi T hT
/-- from a run's begin every place is reached -/
theorem leap_any {M : Nat} (hM : goodMask M) {i pert T : Nat} (hi : i ≤ M) (hp : pert < 2 ^ 64) (hT : T ≤ M) : ∃ c, c ≤ 13 + M ∧ (leaps M c (i, pert)).1 = T := by
  have h0 : (leaps M 13 (i, pert)).2 = 0 := by
    rw [leaps_perturb]
    exact Nat.div_eq_of_lt (Nat.lt_of_lt_of_le hp (by decide))
  obtain ⟨m, _, _, hl⟩ := to_leaps 13 i pert none hi
  obtain ⟨c, hc, e⟩ := cycle hM hl hT
  refine ⟨13 + c, Nat.add_le_add_left hc 13, ?_⟩
  rw [leaps_add]
  have : leaps M 13 (i, pert) = ((leaps M 13 (i, pert)).1, 0) := by rw [← h0]
  rw [this]
  exact e

theorem PW.adv {M : Nat} {p : SetTable.Probe} (w : PW M p) : PW M (advM M p) := by
  unfold advM
  by_cases h : p.more > 0
  · rw [if_pos h]
    refine ⟨w.i, ?_, ?_⟩
    · exact (ar_sh (Nat.ne_of_gt h)).trans w.run
    · exact Nat.le_succ_of_le w.le
  · rw [if_neg h]
    exact PW.fresh (d := p.dummy) (pert := (SetTable.leap M p.i p.perturb).2) (leap_le M _ _)
structure PS (M : Nat) (p : SetTable.Probe) : Prop where
  w : PW M p
  pert : p.perturb < 2 ^ 64
  d : p.dummy = none
theorem PS.adv {M : Nat} {p : SetTable.Probe} (w : PS M p) : PS M (advM M p) := by
  refine ⟨w.w.adv, ?_, ?_⟩
  · unfold advM
    by_cases h : p.more > 0
    · rw [if_pos h]; exact w.pert
    · rw [if_neg h]
      exact Nat.lt_of_le_of_lt (Nat.div_le_self _ _) w.pert
  · unfold advM
    by_cases h : p.more > 0
    · rw [if_pos h]; exact w.d
    · rw [if_neg h]; exact w.d
theorem stM_ok (M : Nat) (h : Int) : ∀ k, PS M (stM M h k)
  | 0 => ⟨PW.fresh (d := none) (pert := SetTable.bits h) (Nat.le_of_lt_succ (Nat.mod_lt _ (Nat.succ_pos _))), bits_lt h, rfl⟩
  | k + 1 => (stM_ok M h k).adv
theorem posM_le (M : Nat) (h : Int) (k : Nat) : posM M h k ≤ M := by
  have w := (stM_ok M h k).w
  exact Nat.le_trans (Nat.le_trans (Nat.le_add_right _ _) (Nat.le_of_eq w.run)) (runEnd_le M _ w.i).2.2
theorem path_hits {M : Nat} (hM : goodMask M) (h : Int) (k : Nat) {T : Nat} (hT : T ≤ M) : ∃ m, m < 10 * (M + 15) ∧ posM M h (k + m) = T := by
  have s := stM_ok M h k
  obtain ⟨c, hc, e⟩ := leap_any hM (leap_le M (stM M h k).i (stM M h k).perturb) (pert := (SetTable.leap M (stM M h k).i (stM M h k).perturb).2) (Nat.lt_of_le_of_lt (Nat.div_le_self _ _) s.pert) hT
  obtain ⟨m, hm, em, _⟩ := to_leaps c (SetTable.leap M (stM M h k).i (stM M h k).perturb).1 (SetTable.leap M (stM M h k).i (stM M h k).perturb).2 (stM M h k).dummy (leap_le M _ _)
  have hr := (runEnd_le M _ s.w.i).2.1
  have hrun := s.w.run
  have hle := s.w.le
  refine ⟨(stM M h k).more + 1 + m, by omega, ?_⟩
  unfold posM
  rw [stM_add, advN_add, to_leap s.w, em]
  exact e

theorem probe_go {t : SetTable} {hashAt : Nat → Int} {h : Int} (hr : t.place.toList.Pairwise (· < ·)) (hd : t.dummies = #[]) : ∀ (fuel k m : Nat), m < fuel → posM t.mask h (k + m) ∉ t.place.toList →
    ∃ n, (∀ n', n' < n → ∃ i, t.place[i]? = some (posM t.mask h (k + n')) ∧ hashAt i ≠ h) ∧
      ((posM t.mask h (k + n) ∉ t.place.toList ∧ SetTable.probe.go t hashAt h fuel (stM t.mask h k) = some (.empty (posM t.mask h (k + n)) none)) ∨
       (∃ i, t.place[i]? = some (posM t.mask h (k + n)) ∧ hashAt i = h ∧ SetTable.probe.go t hashAt h fuel (stM t.mask h k) = some (.candidate (posM t.mask h (k + n)) i (stM t.mask h (k + n + 1))))) := by
  intro fuel
  induction fuel with
  | zero => intro k m hm; exact absurd hm (Nat.not_lt_zero _)
  | succ fuel ih =>
    intro k m hm he
    by_cases hk : posM t.mask h k ∈ t.place.toList
    · obtain ⟨i, hi, hi'⟩ := List.getElem_of_mem hk
      have hp : t.place[i]? = some (posM t.mask h k) := by rw [← Array.getElem?_toList, List.getElem?_eq_getElem hi, hi']
      have hs : t.slot (stM t.mask h k).j = .live i := slot_live hr hp
      by_cases hh : hashAt i = h
      · refine ⟨0, fun n' hn => absurd hn (Nat.not_lt_zero _), .inr ⟨i, hp, hh, ?_⟩⟩
        unfold SetTable.probe.go
        rw [hs]
        dsimp only
        rw [if_pos (beq_iff_eq.mpr hh)]
        rfl
      · have hm0 : m ≠ 0 := fun z => by rw [z] at he; exact he hk
        obtain ⟨n, a, b⟩ := ih (k + 1) (m - 1) (Nat.lt_of_lt_of_le (Nat.sub_one_lt hm0) (Nat.le_of_lt_succ hm)) (by rw [ar_sh hm0]; exact he)
        have e : SetTable.probe.go t hashAt h (fuel + 1) (stM t.mask h k) = SetTable.probe.go t hashAt h fuel (stM t.mask h (k + 1)) := by
          rw [SetTable.probe.go]
          rw [hs]
          dsimp only
          rw [if_neg (by simpa using hh)]
          rfl
        refine ⟨n + 1, fun n' hn => ?_, ?_⟩
        · rcases Nat.eq_zero_or_pos n' with rfl | hp'
          · exact ⟨i, hp, hh⟩
          · have := a (n' - 1) (Nat.lt_of_lt_of_le (Nat.sub_one_lt_of_lt hp') (Nat.le_of_lt_succ hn))
            rw [ar_sh (Nat.ne_of_gt hp')] at this
            exact this
        · rw [e, ← Nat.add_assoc, Nat.add_right_comm k n 1]
          exact b
    · refine ⟨0, fun n' hn => absurd hn (Nat.not_lt_zero _), .inl ⟨hk, ?_⟩⟩
      unfold SetTable.probe.go
      rw [show t.slot (stM t.mask h k).j = .empty from slot_empty hd hk]
      dsimp only
      rw [(stM_ok t.mask h k).d]
      rfl

/-- the path to a place goes through what is taken -/
def Reach (M : Nat) (occ : List Nat) (h : Int) (j : Nat) : Prop := ∃ k, posM M h k = j ∧ ∀ k', k' < k → posM M h k' ∈ occ
theorem Reach.mono {M : Nat} {occ occ' : List Nat} {h : Int} {j : Nat} (r : Reach M occ h j) (hs : ∀ x ∈ occ, x ∈ occ') : Reach M occ' h j := by
  obtain ⟨k, a, b⟩ := r
  exact ⟨k, a, fun k' hk => hs _ (b k' hk)⟩
end


section
/-- a set's table with what it holds: place, hash, element -/
structure TOk (t : SetTable) (es : Array (Int × Value)) (Z : List (Nat × Int × Value)) : Prop where
  mask : goodMask t.mask
  place : t.place.toList = Z.map (·.1)
  ents : es.toList = Z.map (·.2)
  rise : (Z.map (·.1)).Pairwise (· < ·)
  dum : t.dummies = #[]
  le : ∀ z ∈ Z, z.1 ≤ t.mask
  reach : ∀ z ∈ Z, Reach t.mask (Z.map (·.1)) z.2.1 z.1
  len : Z.length ≤ t.mask
theorem TOk.fits {t : SetTable} {es : Array (Int × Value)} {Z : List (Nat × Int × Value)} (T : TOk t es Z) : t.fits es.size = true := by
  have h1 : t.place.size = Z.length := by rw [← Array.length_toList, T.place, List.length_map]
  have h2 : es.size = Z.length := by rw [← Array.length_toList, T.ents, List.length_map]
  have h3 := T.len
  simp [SetTable.fits, SetTable.fill, h1, h2, T.dum]
  exact h3
theorem TOk.gave {t : SetTable} {es : Array (Int × Value)} {Z : List (Nat × Int × Value)} (T : TOk t es Z) : t.gaveWay = false := by
  unfold SetTable.gaveWay
  rcases T.mask with h | h <;> rw [h] <;> rfl
theorem TOk.at {t : SetTable} {es : Array (Int × Value)} {Z : List (Nat × Int × Value)} (T : TOk t es Z) {i j : Nat} (h : t.place[i]? = some j) : ∃ e, es[i]? = some e ∧ (j, e) ∈ Z := by
  rw [← Array.getElem?_toList, T.place, List.getElem?_map] at h
  obtain ⟨z, hz, rfl⟩ := Option.map_eq_some_iff.mp h
  refine ⟨z.2, ?_, List.mem_of_getElem? hz⟩
  rw [← Array.getElem?_toList, T.ents, List.getElem?_map, hz]
  rfl

theorem insertAt_map {α β : Type} (f : α → β) (xs : Array β) (Z : List α) (p : Nat) (z : α) (h : xs.toList = Z.map f) : (SetTable.insertAt xs p (f z)).toList = (Z.take p ++ z :: Z.drop p).map f := by
  rw [SetTable.toList_insertAt, h]
  simp [List.map_take, List.map_drop]
theorem TOk.put {t : SetTable} {es : Array (Int × Value)} {Z : List (Nat × Int × Value)} (T : TOk t es Z) {j : Nat} {h : Int} {x : Value} (hj : j ≤ t.mask) (hn : j ∉ Z.map (·.1)) (hr : Reach t.mask (Z.map (·.1)) h j) (hl : Z.length + 1 ≤ t.mask) :
    ∃ Z', TOk (t.put j).1 (SetTable.insertAt es (t.put j).2 (h, x)) Z' ∧ Z'.Perm ((j, h, x) :: Z) ∧ (t.put j).1.mask = t.mask ∧ (t.put j).1.led = t.led ∧ (t.put j).1.plain = t.plain := by
  have hrs : t.place.toList.Pairwise (· < ·) := by rw [T.place]; exact T.rise
  obtain ⟨hp, b1, b2⟩ := below_spec hrs j
  obtain ⟨p, hpp⟩ : ∃ p, p = SetTable.below t.place j := ⟨_, rfl⟩
  have hput : t.put j = ({ t with place := SetTable.insertAt t.place p j, dummies := #[] }, p) := by
    unfold SetTable.put
    dsimp only
    rw [T.dum, ← hpp]
    simp [SetTable.has]
  rw [hput]
  have hZ : p ≤ Z.length := by
    have : t.place.size = Z.length := by rw [← Array.length_toList, T.place, List.length_map]
    rw [hpp]; exact Nat.le_trans hp (Nat.le_of_eq this)
  have perm : (Z.take p ++ (j, h, x) :: Z.drop p).Perm ((j, h, x) :: Z) := by
    have e := List.perm_middle (a := (j, h, x)) (l₁ := Z.take p) (l₂ := Z.drop p)
    rwa [List.take_append_drop] at e
  have hsub : ∀ y ∈ Z.map (·.1), y ∈ (Z.take p ++ (j, h, x) :: Z.drop p).map (·.1) := fun y hy => by
    obtain ⟨z, hz, rfl⟩ := List.mem_map.mp hy
    exact List.mem_map_of_mem (perm.mem_iff.mpr (List.mem_cons_of_mem _ hz))
  have hat : ∀ a (ha : a < Z.length), t.place.getD a 0 = (Z[a]).1 := fun a ha => by
    have hs : a < t.place.size := by rw [← Array.length_toList, T.place, List.length_map]; exact ha
    have e : t.place[a]? = some (Z[a]).1 := by rw [← Array.getElem?_toList, T.place, List.getElem?_map, List.getElem?_eq_getElem ha]; rfl
    rw [Array.getD_eq_getD_getElem?, e]
    rfl
  refine ⟨Z.take p ++ (j, h, x) :: Z.drop p, ⟨T.mask, ?_, ?_, ?_, rfl, fun z hz => ?_, fun z hz => ?_, ?_⟩, perm, rfl, rfl, rfl⟩
  · exact insertAt_map (·.1) t.place Z p (j, h, x) T.place
  · exact insertAt_map (·.2) es Z p (j, h, x) T.ents
  · rw [List.map_append, List.map_cons, List.pairwise_append, List.pairwise_cons]
    have hr := T.rise
    rw [← List.take_append_drop p Z, List.map_append, List.pairwise_append] at hr
    obtain ⟨r1, r2, r3⟩ := hr
    refine ⟨r1, ⟨fun y hy => ?_, r2⟩, fun a ha b hb => ?_⟩
    · obtain ⟨z, hz, rfl⟩ := List.mem_map.mp hy
      obtain ⟨i, hi, rfl⟩ := List.getElem_of_mem hz
      rw [List.getElem_drop]
      have hi' : p + i < Z.length := by rw [List.length_drop] at hi; exact Nat.add_lt_of_lt_sub' hi
      have := b2 (p + i) (Nat.le_trans (Nat.le_of_eq hpp.symm) (Nat.le_add_right p i)) (by rw [← Array.length_toList, T.place, List.length_map]; exact hi')
      rw [hat _ hi'] at this
      have hne : (Z[p + i]).1 ≠ j := fun q => hn (q ▸ List.mem_map_of_mem (List.getElem_mem hi'))
      exact Nat.lt_of_le_of_ne this (Ne.symm hne)
    · have hlt : a < j := by
        obtain ⟨z, hz, rfl⟩ := List.mem_map.mp ha
        obtain ⟨i, hi, rfl⟩ := List.getElem_of_mem hz
        rw [List.getElem_take]
        have hi' : i < p ∧ i < Z.length := by rw [List.length_take] at hi; exact Nat.lt_min.mp hi
        have := b1 i (Nat.lt_of_lt_of_eq hi'.1 hpp)
        rw [hat _ hi'.2] at this
        exact this
      rcases List.mem_cons.mp hb with rfl | hb
      · exact hlt
      · exact r3 a ha b hb
  · rcases List.mem_cons.mp (perm.mem_iff.mp hz) with rfl | hz
    · exact hj
    · exact T.le z hz
  · rcases List.mem_cons.mp (perm.mem_iff.mp hz) with rfl | hz
    · exact hr.mono hsub
    · exact (T.reach z hz).mono hsub
  · rw [perm.length_eq]
    exact hl

/-- the places that an owner's array names -/
def liveL (M : Nat) (owner : Array (Option Nat)) : List (Nat × Nat) := (List.range (M + 1)).filterMap fun j => (owner.getD j none).map (j, ·)
theorem liveL_mem {M : Nat} {owner : Array (Option Nat)} {j k : Nat} : (j, k) ∈ liveL M owner ↔ j ≤ M ∧ owner.getD j none = some k := by
  unfold liveL
  rw [List.mem_filterMap]
  constructor
  · rintro ⟨a, ha, e⟩
    obtain ⟨b, hb, hp⟩ := Option.map_eq_some_iff.mp e
    cases hp
    exact ⟨Nat.le_of_lt_succ (List.mem_range.mp ha), hb⟩
  · rintro ⟨a, b⟩
    exact ⟨j, List.mem_range.mpr (Nat.lt_succ_of_le a), by rw [b]; rfl⟩
theorem filterMap_same {α : Type} {f f' : Nat → Option α} : ∀ (l : List Nat), (∀ b ∈ l, f' b = f b) → l.filterMap f' = l.filterMap f
  | [], _ => rfl
  | a :: l, h => by
    rw [List.filterMap_cons, List.filterMap_cons, h a (List.mem_cons_self ..), filterMap_same l fun b hb => h b (List.mem_cons_of_mem _ hb)]
theorem filterMap_one {α : Type} {f f' : Nat → Option α} {j : Nat} {y : α} (hj : f j = none) (hj' : f' j = some y) (he : ∀ a, a ≠ j → f' a = f a) : ∀ (l : List Nat), l.Nodup → j ∈ l → (l.filterMap f').Perm (y :: l.filterMap f)
  | [], _, h => nomatch h
  | a :: l, hn, h => by
    rw [List.nodup_cons] at hn
    by_cases ha : a = j
    · subst ha
      have e : l.filterMap f' = l.filterMap f := filterMap_same l fun b hb => he b fun q => hn.1 (q ▸ hb)
      rw [List.filterMap_cons, List.filterMap_cons, hj, hj', e]
    · have hl : j ∈ l := (List.mem_cons.mp h).resolve_left (Ne.symm ha)
      have ih := filterMap_one hj hj' he l hn.2 hl
      rw [List.filterMap_cons, List.filterMap_cons, he a ha]
      cases f a with
      | none => exact ih
      | some z => exact (ih.cons z).trans (List.Perm.swap y z _)
theorem liveL_set {M : Nat} {owner : Array (Option Nat)} {j k : Nat} (hs : owner.size = M + 1) (hj : j ≤ M) (hf : owner.getD j none = none) : (liveL M (owner.setIfInBounds j (some k))).Perm ((j, k) :: liveL M owner) := by
  unfold liveL
  refine filterMap_one (f := fun j => (owner.getD j none).map (j, ·)) (f' := fun a => ((owner.setIfInBounds j (some k)).getD a none).map (a, ·)) (j := j) (by rw [hf]; rfl) ?_ (fun a ha => ?_) _ List.nodup_range (List.mem_range.mpr (Nat.lt_succ_of_le hj))
  · rw [Array.getD_eq_getD_getElem?, Array.getElem?_setIfInBounds_self_of_lt (by rw [hs]; exact Nat.lt_succ_of_le hj)]
    rfl
  · rw [Array.getD_eq_getD_getElem?, Array.getElem?_setIfInBounds_ne (Ne.symm ha), ← Array.getD_eq_getD_getElem?]

theorem free_spec {M : Nat} {owner : Array (Option Nat)} (hs : owner.size = M + 1) (h : Int) : ∀ (fuel q i pert c : Nat), stM M h q = freshP M i pert none → i ≤ M → c < fuel → owner.getD (leaps M c (i, pert)).1 none = none →
    ∃ q', q ≤ q' ∧ SetTable.layClean.free M owner fuel i pert = some (posM M h q') ∧ owner.getD (posM M h q') none = none ∧ ∀ q'', q ≤ q'' → q'' < q' → owner.getD (posM M h q'') none ≠ none := by
  intro fuel
  induction fuel with
  | zero => intro q i pert c _ _ hc; exact absurd hc (Nat.not_lt_zero _)
  | succ fuel ih =>
    intro q i pert c hq hi hc he
    have hre := runEnd_le M i hi
    have hat : ∀ k, k ≤ SetTable.runEnd M i - i → posM M h (q + k) = i + k := fun k hk => by
      have := (run_walk (M := M) (SetTable.runEnd M i - i) (freshP M i pert none) rfl k hk).1
      unfold posM
      rw [stM_add, hq]
      exact this
    have e1 := Nat.add_sub_cancel' hre.1
    have e2 := Nat.succ_sub hre.1
    have hr1 : i + (SetTable.runEnd M i - i) < owner.size := by rw [e1, hs]; exact Nat.lt_succ_of_le hre.2.2
    have hgd : ∀ k, k ≤ SetTable.runEnd M i - i → owner.getD (i + k) (some 0) = owner.getD (i + k) none := fun k hk => by
      have : i + k < owner.size := Nat.lt_of_le_of_lt (Nat.add_le_add_left hk i) hr1
      simp [Array.getD, this]
    unfold SetTable.layClean.free
    cases hf : (List.range (SetTable.runEnd M i + 1 - i)).find? fun k => (owner.getD (i + k) (some 0)).isNone with
    | some k =>
      obtain ⟨hp, hm, hn⟩ := List.find?_range_eq_some.mp hf
      have hk : k ≤ SetTable.runEnd M i - i := Nat.le_of_lt_succ (Nat.lt_of_lt_of_eq (List.mem_range.mp hm) e2)
      refine ⟨q + k, Nat.le_add_right _ _, by rw [hat k hk], ?_, fun q'' h1 h2 => ?_⟩
      · rw [hat k hk, ← hgd k hk]
        exact Option.isNone_iff_eq_none.mp hp
      · have hk'' : q'' - q < k := Nat.sub_lt_left_of_lt_add h1 h2
        have hk3 := Nat.le_of_lt (Nat.lt_of_lt_of_le hk'' hk)
        have := hn (q'' - q) hk''
        rw [show q'' = q + (q'' - q) from (Nat.add_sub_cancel' h1).symm, hat (q'' - q) hk3, ← hgd (q'' - q) hk3]
        intro z
        rw [z] at this
        simp at this
    | none =>
      have hall := List.find?_range_eq_none.mp hf
      have hocc : ∀ k, k ≤ SetTable.runEnd M i - i → owner.getD (posM M h (q + k)) none ≠ none := fun k hk z => by
        have := hall k (Nat.lt_of_lt_of_eq (Nat.lt_succ_of_le hk) e2.symm)
        rw [hat k hk, ← hgd k hk] at z
        rw [z] at this
        simp at this
      have hc0 : c ≠ 0 := fun z => by
        have := hocc 0 (Nat.zero_le _)
        rw [hat 0 (Nat.zero_le _)] at this
        rw [z] at he
        exact this he
      dsimp only
      have hnext : stM M h (q + (SetTable.runEnd M i - i + 1)) = freshP M (SetTable.leap M i pert).1 (SetTable.leap M i pert).2 none := by
        rw [stM_add, hq]
        exact to_leap (PW.fresh hi)
      obtain ⟨q', a, b, c', d⟩ := ih (q + (SetTable.runEnd M i - i + 1)) _ _ (c - 1) hnext (leap_le M i pert) (Nat.lt_of_lt_of_le (Nat.sub_one_lt hc0) (Nat.le_of_lt_succ hc)) (by
        have e : leaps M c (i, pert) = leaps M (c - 1) (SetTable.leap M i pert) := by
          obtain ⟨c1, rfl⟩ : ∃ c1, c = c1 + 1 := ⟨c - 1, (Nat.sub_add_cancel (Nat.pos_of_ne_zero hc0)).symm⟩
          rfl
        rw [e] at he
        exact he)
      refine ⟨q', Nat.le_trans (Nat.le_add_right _ _) a, b, c', fun q'' h1 h2 => ?_⟩
      by_cases hlt : q'' < q + (SetTable.runEnd M i - i + 1)
      · have := hocc (q'' - q) (Nat.le_of_lt_succ (Nat.sub_lt_left_of_lt_add h1 hlt))
        rw [Nat.add_sub_cancel' h1] at this
        exact this
      · exact d q'' (Nat.not_lt.mp hlt) h2

theorem nodup_len : ∀ (l l' : List Nat), l.Nodup → (∀ a, a ∈ l → a ∈ l') → l.length ≤ l'.length
  | [], _, _, _ => Nat.zero_le _
  | a :: l, l', hn, h => by
    rw [List.nodup_cons] at hn
    obtain ⟨s, t, rfl⟩ := List.append_of_mem (h a (List.mem_cons_self ..))
    have := nodup_len l (s ++ t) hn.2 fun b hb => by
      have hb' := h b (List.mem_cons_of_mem _ hb)
      rcases List.mem_append.mp hb' with q | q
      · exact List.mem_append_left _ q
      · rcases List.mem_cons.mp q with rfl | q
        · exact absurd hb hn.1
        · exact List.mem_append_right _ q
    simp only [List.length_append, List.length_cons] at this ⊢
    exact Nat.succ_le_succ this
/-- how the array stands after the first hashes -/
structure OwnOk (M : Nat) (owner : Array (Option Nat)) (hs : List Int) : Prop where
  size : owner.size = M + 1
  perm : ((liveL M owner).map (·.2)).Perm (List.range hs.length)
  reach : ∀ p ∈ liveL M owner, ∃ h, hs[p.2]? = some h ∧ Reach M ((liveL M owner).map (·.1)) h p.1
theorem lay_step {M : Nat} (hM : goodMask M) {owner : Array (Option Nat)} {hs : List Int} (O : OwnOk M owner hs) (h : Int) (hl : hs.length ≤ M) :
    ∃ j, SetTable.layClean.free M owner (SetTable.turns M) (SetTable.bits h % (M + 1)) (SetTable.bits h) = some j ∧ OwnOk M (owner.setIfInBounds j (some hs.length)) (hs ++ [h]) := by
  have hocc : ∀ j, j ≤ M → (owner.getD j none ≠ none ↔ j ∈ (liveL M owner).map (·.1)) := fun j hj => by
    constructor
    · intro hne
      obtain ⟨k, hk⟩ := Option.ne_none_iff_exists'.mp hne
      exact List.mem_map.mpr ⟨(j, k), liveL_mem.mpr ⟨hj, hk⟩, rfl⟩
    · intro hm z
      obtain ⟨p, hp, rfl⟩ := List.mem_map.mp hm
      rw [(liveL_mem.mp hp).2] at z
      cases z
  obtain ⟨T, hT, hTf⟩ : ∃ T, T ≤ M ∧ owner.getD T none = none := by
    refine Classical.byContradiction fun hno => ?_
    have hall : ∀ j, j ∈ List.range (M + 1) → j ∈ (liveL M owner).map (·.1) := fun j hj => by
      have hj' := Nat.le_of_lt_succ (List.mem_range.mp hj)
      exact (hocc j hj').mp fun z => hno ⟨j, hj', z⟩
    have hlen : (liveL M owner).length = hs.length := by have := O.perm.length_eq; simpa using this
    have hle : (List.range (M + 1)).length ≤ ((liveL M owner).map (·.1)).length := nodup_len _ _ List.nodup_range hall
    simp at hle
    exact absurd (Nat.le_trans hle (Nat.le_of_eq hlen)) (Nat.not_le.mpr (Nat.lt_succ_of_le hl))
  have hi : SetTable.bits h % (M + 1) ≤ M := Nat.le_of_lt_succ (Nat.mod_lt _ (Nat.succ_pos _))
  obtain ⟨c, hc, ec⟩ := leap_any hM hi (bits_lt h) hT
  obtain ⟨q, _, e1, e2, e3⟩ := free_spec O.size h (SetTable.turns M) 0 _ _ c rfl hi (Nat.lt_of_le_of_lt hc (Nat.lt_of_lt_of_eq (Nat.add_lt_add_right (show 13 < 15 by decide) M) (Nat.add_comm 15 M))) (by rw [ec]; exact hTf)
  refine ⟨posM M h q, e1, by rw [Array.size_setIfInBounds]; exact O.size, ?_, ?_⟩
  · have p1 := liveL_set (k := hs.length) O.size (posM_le M h q) e2
    have p2 := p1.map (·.2)
    refine p2.trans ?_
    rw [List.map_cons, List.length_append, List.length_singleton, List.range_succ]
    exact (O.perm.cons _).trans (List.perm_append_singleton _ _).symm
  · intro p hp
    have p1 := liveL_set (k := hs.length) O.size (posM_le M h q) e2
    have hsub : ∀ y ∈ (liveL M owner).map (·.1), y ∈ (liveL M (owner.setIfInBounds (posM M h q) (some hs.length))).map (·.1) := fun y hy => (p1.map (·.1)).mem_iff.mpr (List.mem_cons_of_mem _ hy)
    rcases List.mem_cons.mp (p1.mem_iff.mp hp) with rfl | hp
    · refine ⟨h, by simp, q, rfl, fun k' hk => hsub _ ((hocc _ (posM_le M h k')).mp (e3 k' (Nat.zero_le _) hk))⟩
    · obtain ⟨h', a, b⟩ := O.reach p hp
      refine ⟨h', ?_, b.mono hsub⟩
      have : p.2 < hs.length := by
        rcases Nat.lt_or_ge p.2 hs.length with z | z
        · exact z
        · rw [List.getElem?_eq_none z] at a; cases a
      rw [List.getElem?_append_left this]
      exact a

def layF (M : Nat) (acc : Option (Array (Option Nat) × Nat)) (h : Int) : Option (Array (Option Nat) × Nat) := do
  let (owner, k) ← acc
  let j ← SetTable.layClean.free M owner (SetTable.turns M) (SetTable.bits h % (M + 1)) (SetTable.bits h)
  pure (owner.setIfInBounds j (some k), k + 1)
theorem lay_fold {M : Nat} (hM : goodMask M) : ∀ (l hs : List Int) (owner : Array (Option Nat)), OwnOk M owner hs → hs.length + l.length ≤ M → ∃ owner', l.foldl (layF M) (some (owner, hs.length)) = some (owner', (hs ++ l).length) ∧ OwnOk M owner' (hs ++ l)
  | [], hs, owner, O, _ => ⟨owner, by simp, by simpa using O⟩
  | h :: l, hs, owner, O, hl => by
    rw [List.length_cons] at hl
    obtain ⟨j, e, O'⟩ := lay_step hM O h (ar_le hl)
    obtain ⟨owner', a, b⟩ := lay_fold hM l (hs ++ [h]) _ O' (by rw [List.length_append, List.length_singleton]; exact ar_nx hl)
    have e2 : layF M (some (owner, hs.length)) h = some (owner.setIfInBounds j (some hs.length), hs.length + 1) := by
      show (SetTable.layClean.free M owner (SetTable.turns M) (SetTable.bits h % (M + 1)) (SetTable.bits h)).bind _ = _
      rw [e]
      rfl
    refine ⟨owner', ?_, by rw [List.append_assoc] at b; exact b⟩
    rw [List.foldl_cons, e2]
    rw [List.length_append, List.length_singleton] at a
    rw [a, List.append_assoc]
    rfl
theorem lay_clean {M : Nat} (hM : goodMask M) (hs : Array Int) (hl : hs.size ≤ M) : ∃ owner, SetTable.layClean M hs = some owner ∧ OwnOk M owner hs.toList := by
  have O0 : OwnOk M (Array.replicate (M + 1) none) [] := by
    have e : liveL M (Array.replicate (M + 1) none) = [] := by
      unfold liveL
      rw [List.filterMap_eq_nil_iff]
      intro a _
      have : (Array.replicate (M + 1) (none : Option Nat)).getD a none = none := by
        rw [Array.getD_eq_getD_getElem?, Array.getElem?_replicate]
        split <;> rfl
      rw [this]
      rfl
    exact ⟨by simp, by rw [e]; exact List.Perm.refl _, by rw [e]; exact fun p hp => nomatch hp⟩
  obtain ⟨owner, a, b⟩ := lay_fold hM hs.toList [] _ O0 (by simpa using hl)
  refine ⟨owner, ?_, by simpa using b⟩
  unfold SetTable.layClean
  have e : (hs.foldl (init := some (Array.replicate (M + 1) none, 0)) (layF M)) = some (owner, hs.size) := by
    rw [← Array.foldl_toList]
    rw [show (([] : List Int) ++ hs.toList).length = hs.size by simp] at a
    exact a
  show (hs.foldl (layF M) (some (Array.replicate (M + 1) none, 0))).map (·.1) = _
  rw [e]
  rfl

theorem liveL_rise (M : Nat) (owner : Array (Option Nat)) : ((liveL M owner).map (·.1)).Pairwise (· < ·) := by
  unfold liveL
  rw [List.map_filterMap]
  have key : ∀ (l : List Nat), l.Pairwise (· < ·) → (l.filterMap fun x => Option.map (fun p : Nat × Nat => p.1) ((owner.getD x none).map (x, ·))).Pairwise (· < ·) ∧ ∀ y ∈ (l.filterMap fun x => Option.map (fun p : Nat × Nat => p.1) ((owner.getD x none).map (x, ·))), y ∈ l := by
    intro l
    induction l with
    | nil => intro _; exact ⟨List.Pairwise.nil, fun y hy => nomatch hy⟩
    | cons a l ih =>
      intro hp
      rw [List.pairwise_cons] at hp
      obtain ⟨i1, i2⟩ := ih hp.2
      rw [List.filterMap_cons]
      cases owner.getD a none with
      | none => exact ⟨i1, fun y hy => List.mem_cons_of_mem _ (i2 y hy)⟩
      | some z =>
        refine ⟨List.pairwise_cons.mpr ⟨fun y hy => hp.1 y (i2 y hy), i1⟩, fun y hy => ?_⟩
        rcases List.mem_cons.mp hy with rfl | hy
        · exact List.mem_cons_self ..
        · exact List.mem_cons_of_mem _ (i2 y hy)
  exact (key _ (List.pairwise_lt_range)).1

/-- a table laid anew holds the same -/
theorem laid_ok {M finger moves : Nat} {led plain : Bool} (hM : goodMask M) (es : Array (Int × Value)) (hl : es.size ≤ M) :
    ∃ t order Z, SetTable.laid M finger moves led plain (es.map (·.1)) = some (t, order) ∧ TOk t (order.filterMap (es[·]?)) Z ∧ (order.filterMap (es[·]?)).toList.Perm es.toList ∧ (order.filterMap (es[·]?)).size = es.size ∧ order.toList.Perm (List.range es.size) ∧ t.mask = M ∧ t.led = led ∧ t.plain = plain := by
  obtain ⟨owner, e1, O⟩ := lay_clean hM (es.map (·.1)) (by simpa using hl)
  have hn : (es.map (·.1)).toList.length = es.size := by simp
  have hperm := O.perm
  rw [hn] at hperm
  have hin : ∀ p ∈ liveL M owner, p.2 < es.size := fun p hp => List.mem_range.mp (hperm.mem_iff.mp (List.mem_map_of_mem hp))
  obtain ⟨Z, hZ⟩ : ∃ Z, Z = (liveL M owner).map fun p => (p.1, es.getD p.2 (0, .none)) := ⟨_, rfl⟩
  have hord : (((liveL M owner).map (·.2)).toArray.filterMap (es[·]?)).toList = Z.map (·.2) := by
    rw [hZ, Array.toList_filterMap, List.map_map]
    show ((liveL M owner).map (·.2)).filterMap _ = _
    rw [List.filterMap_map]
    have : ∀ (l : List (Nat × Nat)), (∀ p ∈ l, p.2 < es.size) → l.filterMap ((fun x => es[x]?) ∘ fun x => x.2) = l.map ((fun x : Nat × Int × Value => x.2) ∘ fun p => (p.1, es.getD p.2 (0, .none))) := by
      intro l
      induction l with
      | nil => intro _; rfl
      | cons p l ih =>
        intro h
        have hp := h p (List.mem_cons_self ..)
        rw [List.filterMap_cons, List.map_cons, ih fun q hq => h q (List.mem_cons_of_mem _ hq)]
        have : ((fun x => es[x]?) ∘ fun x : Nat × Nat => x.2) p = some (es.getD p.2 (0, .none)) := by simp [Array.getD, hp]
        rw [this]
        rfl
    exact this _ hin
  have hfst : Z.map (·.1) = (liveL M owner).map (·.1) := by rw [hZ, List.map_map]; rfl
  have hpe : (((liveL M owner).map (·.2)).toArray.filterMap (es[·]?)).toList.Perm es.toList := by
    rw [Array.toList_filterMap]
    show (((liveL M owner).map (·.2)).filterMap _).Perm _
    refine (hperm.filterMap _).trans ?_
    rw [filterMap_getElem?_range]
  have hsz : (((liveL M owner).map (·.2)).toArray.filterMap (es[·]?)).size = es.size := by rw [← Array.length_toList, hpe.length_eq, Array.length_toList]
  refine ⟨{ mask := M, place := ((liveL M owner).map (·.1)).toArray, dummies := #[], finger, led, moves, plain }, ((liveL M owner).map (·.2)).toArray, Z, ?_, ⟨hM, ?_, hord, ?_, rfl, ?_, ?_, ?_⟩, hpe, hsz, hperm, rfl, rfl, rfl⟩
  · unfold SetTable.laid
    rw [e1]
    rfl
  · rw [hfst]
  · rw [hfst]; exact liveL_rise M owner
  · intro z hz
    rw [hZ] at hz
    obtain ⟨p, hp, rfl⟩ := List.mem_map.mp hz
    exact (liveL_mem.mp hp).1
  · intro z hz
    rw [hfst]
    rw [hZ] at hz
    obtain ⟨p, hp, rfl⟩ := List.mem_map.mp hz
    obtain ⟨h, a, b⟩ := O.reach p hp
    have hlt := hin p hp
    have : (es.getD p.2 (0, .none)).1 = h := by
      rw [Array.toList_map, List.getElem?_map, Array.getElem?_toList] at a
      have e : es[p.2]? = some (es.getD p.2 (0, .none)) := by simp [Array.getD, hlt]
      rw [e] at a
      exact Option.some.inj a
    rw [this]
    exact b
  · have : Z.length = es.size := by
      have := congrArg List.length hord
      rw [Array.length_toList, hsz, List.length_map] at this
      exact this.symm
    rw [this]; exact hl
end


section
variable {prog : Program} {w : World} {A : Around} {E : Value → Shared → Prop} {s : Shared}
/-- a dict with its entries, of whatever keys -/
def EsAt (h : Heap) (d : Addr) (es : Array DictEntry) (ep : Nat) : Prop := ∃ o, h.get? d = some o ∧ o.ExactDict ∧ o.data = .dict es ep
theorem EsAt.typeIs {d : Addr} {es : Array DictEntry} {ep : Nat} (x : EsAt s.heap d es ep) : s.TypeIs (.ref d) "dict" := let ⟨o, ho, hc, _⟩ := x; ⟨o, ho, hc.1⟩
theorem EsAt.at' {h h' : Heap} {d : Addr} {es : Array DictEntry} {ep : Nat} (x : EsAt h d es ep) (k : ∀ o, h.get? d = some o → h'.get? d = some o) : EsAt h' d es ep := let ⟨o, ho, r⟩ := x; ⟨o, k _ ho, r⟩
theorem es_iter {d : Addr} {es : Array DictEntry} {ep : Nat} {Q : Value → Shared → Prop} (lo : (d == sysModules) = false) (hm : EsAt s.heap d es ep)
    (hQ : Q (.ref s.heap.objs.size) { s with heap := s.heap.push { cls := .type "dict_keyiterator", data := .fields #[.ref d, .int 0 0, .int es.size 0, .int ep 0] } }) :
    wpAny (model prog w) A (pyIter (.ref d)) Q E s := by
  obtain ⟨o, ho, hc, hdat⟩ := id hm
  have hT := hm.typeIs
  refine wpAny_pyIter_slot hT PySem.F.slot_dict_iter (wpAny_call_entry PySem.F.slot_dict_iter hT PySem.F.entry_dict_iter ?_ (PySem.F.args_dict_iter_1 _))
  unfold Builtin.«dict.__iter__»
  refine wpAny_bind ?_
  unfold Builtin.Dict.dictSlotNone
  refine wpAny_bind (wpAny_notOrdered_dict hT ?_)
  show wpAny _ _ (pure (Value.ref d)) _ _ s
  refine wpAny_pure ?_
  show wpAny _ _ (Builtin.Dict.showsAll d >>= _) _ _ s
  unfold Builtin.Dict.showsAll
  rw [if_neg (by rw [lo]; exact Bool.false_ne_true)]
  refine wpAny_bind (wpAny_pure ?_)
  refine wpAny_bind (wpAny_dictEntries ho hdat ?_)
  refine wpAny_bind (wpAny_dictEpoch ho hdat ?_)
  refine wpAny_bind (wpAny_newObj_type (wpAny_pure ⟨_, rfl, "dict_keyiterator", _, ⟨_, Heap.get?_push_size _ rfl, rfl⟩, PySem.F.slot_dict_keyiterator_next.lookup, ?_⟩))
  simpa [rawInt] using hQ
theorem es_item {it d : Addr} {i ep : Nat} {es : Array DictEntry} {Q : Option Value → Shared → Prop} (hit : s.heap.IsKeyIter it d i es.size ep) (hm : EsAt s.heap d es ep) (hlt' : i < es.size)
    (hQ : ∀ h', h'.IsKeyIter it d (i + 1) es.size ep → Heap.SameBut it s.heap h' → Q (some es[i].key) { s with heap := h' }) : wpAny (model prog w) A (pyNext (.ref it)) Q E s := by
  obtain ⟨o, ho, hc, hd⟩ := id hit
  obtain ⟨od, hod, hcd, hdd⟩ := id hm
  unfold pyNext
  refine wpAny_bind (wpAny_attempt (wpAny_callSpecial?_slot (name := Str.ofString "__next__") hit.typeIs PySem.F.slot_dict_keyiterator_next
    (wpAny_call_entry PySem.F.slot_dict_keyiterator_next hit.typeIs PySem.F.entry_dict_keyiterator_next ?_ (PySem.F.args_dict_keyiterator_next_1 _))))
  refine wpAny_bind (wpAny_pure ?_)
  refine wpAny_bind ?_
  refine wpAny_bind ?_
  refine wpAny_bind (wpAny_typeNameOfWhole_keyiter hit.typeIs (wpAny_pure ?_))
  refine wpAny_bind (wpAny_fieldsOf ho hd ?_)
  have hown : Builtin.Dict_items.ownsTuple "dict_keyiterator" = false := by decide
  simp only [hown, Bool.false_eq_true, if_false]
  show wpAny _ _ (if (Value.ref d == Value.none) = true then _ else _) _ _ s
  rw [if_neg (show ¬ ((Value.ref d == Value.none) = true) from Bool.false_ne_true)]
  refine wpAny_bind (wpAny_pure ?_)
  refine wpAny_bind (wpAny_dictEntries hod hdd ?_)
  rw [if_neg (by simp)]
  refine wpAny_bind (wpAny_pure ?_)
  refine wpAny_bind (wpAny_dictEpoch hod hdd ?_)
  rw [if_neg (by simp)]
  refine wpAny_pure ?_
  simp only [show ¬ ((i : Int) < 0) from by omega, if_false, Int.toNat_natCast, Array.getElem?_eq_getElem hlt']
  refine wpAny_bind ?_
  refine wpAny_bind (wpAny_typeNameOfWhole_keyiter hit.typeIs (wpAny_pure ?_))
  refine wpAny_bind (wpAny_isOneOf_keyiter hit.typeIs ?_)
  show wpAny _ _ (setField (.ref it) 1 (rawInt ((i : Int) + 1)) >>= _) _ _ s
  refine wpAny_bind (wpAny_setField ho hd (by simp) ?_)
  have hit' : (s.heap.update it (Obj.mapFields (·.setIfInBounds 1 (rawInt ((i : Int) + 1))))).IsKeyIter it d (i + 1) es.size ep :=
    ⟨_, Heap.get?_update_self _ ho (Obj.isFreed_of_fields (Obj.data_mapFields hd _)), (Obj.cls_mapFields ..).trans hc, by rw [Obj.data_mapFields hd]; simp [rawInt]⟩
  refine wpAny_bind (wpAny_holding ?_)
  refine wpAny_bind (wpAny_isOneOf_keyiter (s := { s with heap := s.heap.update it (Obj.mapFields (·.setIfInBounds 1 (rawInt ((i : Int) + 1)))) }) hit'.typeIs ?_)
  show wpAny _ _ (pure es[i].key) _ _ _
  exact wpAny_pure (wpAny_pure ⟨_, rfl, wpAny_pure (hQ _ hit' (Heap.SameBut.update ..))⟩)
theorem es_end {it d : Addr} {ep : Nat} {es : Array DictEntry} {Q : Option Value → Shared → Prop} (hh : A.handled = none) (hit : s.heap.IsKeyIter it d es.size es.size ep) (hm : EsAt s.heap d es ep)
    (hQ : ∀ h', Heap.ExtBut it s.heap h' → Q none { s with heap := h' }) : wpAny (model prog w) A (pyNext (.ref it)) Q E s := by
  obtain ⟨o, ho, hc, hd⟩ := id hit
  obtain ⟨od, hod, hcd, hdd⟩ := id hm
  unfold pyNext
  refine wpAny_bind (wpAny_attempt (wpAny_callSpecial?_slot (name := Str.ofString "__next__") hit.typeIs PySem.F.slot_dict_keyiterator_next
    (wpAny_call_entry PySem.F.slot_dict_keyiterator_next hit.typeIs PySem.F.entry_dict_keyiterator_next ?_ (PySem.F.args_dict_keyiterator_next_1 _))))
  refine wpAny_bind (wpAny_pure ?_)
  refine wpAny_bind ?_
  refine wpAny_bind ?_
  refine wpAny_bind (wpAny_typeNameOfWhole_keyiter hit.typeIs (wpAny_pure ?_))
  refine wpAny_bind (wpAny_fieldsOf ho hd ?_)
  have hown : Builtin.Dict_items.ownsTuple "dict_keyiterator" = false := by decide
  simp only [hown, Bool.false_eq_true, if_false]
  show wpAny _ _ (if (Value.ref d == Value.none) = true then _ else _) _ _ s
  rw [if_neg (show ¬ ((Value.ref d == Value.none) = true) from Bool.false_ne_true)]
  refine wpAny_bind (wpAny_pure ?_)
  refine wpAny_bind (wpAny_dictEntries hod hdd ?_)
  rw [if_neg (by simp)]
  refine wpAny_bind (wpAny_pure ?_)
  refine wpAny_bind (wpAny_dictEpoch hod hdd ?_)
  rw [if_neg (by simp)]
  refine wpAny_pure ?_
  simp only [show ¬ (((es.size : Nat) : Int) < 0) from by omega, if_false, Int.toNat_natCast, Array.getElem?_eq_none (Nat.le_refl _)]
  refine wpAny_bind ?_
  refine wpAny_bind (wpAny_typeNameOfWhole_keyiter hit.typeIs (wpAny_pure ?_))
  show wpAny _ _ (setField (.ref it) 0 .none >>= _) _ _ s
  refine wpAny_bind (wpAny_setField ho hd (by simp) ?_)
  show wpAny _ _ (newExc (.type "StopIteration") [] >>= _) _ _ _
  refine wpAny_bind ?_
  simp only [newExc, newTuple]
  refine wpAny_bind (wpAny_newObj_type ?_ (Nat.zero_le _))
  refine wpAny_bind (m := firstArgMember _ _) (wpAny_of_eq (a := Value.none) (by first | rfl | (simp only [firstArgMember]; rfl)) ?_)
  refine wpAny_newObj_type ?_ (by first | exact trivial | rfl | decide | exact Nat.le_of_ble_eq_true rfl)
  simp only [raiseNew]
  refine wpAny_bind (wpAny_handled ?_)
  rw [show A.in1.handled = none from hh]
  refine wpAny_bind (wpAny_pure (wpAny_throw ?_))
  refine wpAny_bind (wpAny_isInstance (T := "StopIteration") (b := true) ⟨_, Heap.get?_push_size _ rfl, rfl⟩ isSubtype_stop ?_)
  exact wpAny_pure (hQ _ (((Heap.SameBut.update ..).extBut.push _).push _))
theorem es_walks (hh : A.handled = none) (I d : Addr) (hne : d ≠ I) (es : Array DictEntry) (ep : Nat) :
    Walks prog w A I [I, d] [I] es.size (fun i v => ∃ e, es[i]? = some e ∧ v = e.key) (fun i h => h.IsKeyIter I d i es.size ep ∧ EsAt h d es ep) where
  sub := fun b hb => by simp at hb; simp [hb]
  frame := fun _ _ _ st hk => ⟨st.1.at fun o e => hk I (by simp) o e, st.2.at' fun o e => hk d (by simp) o e⟩
  item := fun i s Q E hi st hQ => by
    refine es_item st.1 st.2 hi fun h' hit' hs' => ?_
    exact hQ _ h' s.toks ⟨es[i], by simp [hi], rfl⟩ ⟨hit', st.2.at' fun o e => (hs'.2 d hne).trans e⟩ fun b o hb e => hs'.extBut b o (fun h => hb (by simp [h])) e
  done := fun s Q E st hQ => es_end hh st.1 st.2 fun h' he' => hQ h' s.toks fun b o hb e => he' b o (fun h => hb (by simp [h])) e
  self := fun _ _ _ _ st hQ => wpAny_pyIter_keyiter st.1 hQ
theorem es_src {d : Addr} {es : Array DictEntry} {ep : Nat} (lo : (d == sysModules) = false) : KdlSrc prog w "dict" d d es.size (fun i v => ∃ e, es[i]? = some e ∧ v = e.key) (fun h => EsAt h d es ep) where
  type := fun _ hm => hm.typeIs
  there := fun _ hm => let ⟨_, ho, _⟩ := hm; ⟨Heap.lt_size ho, Heap.lt_size ho⟩
  keep := fun _ _ hm hk => hm.at' fun o e => hk d (.inl rfl) o e
  notList := by decide
  notTuple := by decide
  hint := fun _ _ _ _ hm hq => kdl_hint_dict hm.typeIs hq
  iter := fun _ s hh hm => ⟨_, _, (fun _ _ hq => es_iter lo hm hq), es_walks hh _ d (let ⟨_, ho, _⟩ := hm; Nat.ne_of_lt (Heap.lt_size ho)) es ep, ⟨⟨_, Heap.get?_push_size _ rfl, rfl, rfl⟩, hm.at' fun o e => Heap.get?_push_of_some _ e⟩⟩

theorem iaddK {T : String} {r d : Addr} {n : Nat} {P : Nat → Value → Prop} {OK : Heap → Prop} {R : Result → Shared → Prop} (K : KdlSrc prog w T r d n P OK) (hh : A.handled = none) (hok : OK s.heap) (S : Addr) (hSr : S ≠ r) (hSd : S ≠ d) (hS : s.heap.get? S = some { cls := .type "list", data := .seq #[] 0 }) (hn : n ≤ sizeLine)
    (hR : ∀ h' tk acc' c', (∀ b o, b ≠ S → s.heap.get? b = some o → h'.get? b = some o) → h'.get? S = some { cls := .type "list", dict := none, data := .seq acc' c', slots := #[] } → ItemsOf P acc' n → R (.ok (.ret (.ref S))) { s with heap := h', toks := tk }) :
    codeAny (model prog w) A (.builtin "list.__iadd__" ⟨[.ref S, .ref r], []⟩) R s := by
  refine codeAny_builtin PySem.F.entry_list_iadd ?_
  rw [Around.under_plainId PySem.F.plain_list_iadd _]
  exact kdl_extend K hh hok S hSr hSd _ 0 hS hR hn
/-- all that a source yields, in one list -/
theorem collectK {T : String} {r d : Addr} {n : Nat} {P : Nat → Value → Prop} {OK : Heap → Prop} {Q : List Value → Shared → Prop} (K : KdlSrc prog w T r d n P OK) (hh : A.handled = none) (hok : OK s.heap) (hn : n ≤ sizeLine)
    (hQ : ∀ h' tk (acc : Array Value), (∀ b o, s.heap.get? b = some o → h'.get? b = some o) → s.heap.objs.size < h'.objs.size → acc.size = n → (∀ j v, acc[j]? = some v → P j v) → Q acc.toList { s with heap := h', toks := tk }) :
    wpAny (model prog w) A (collect (.ref r)) Q E s := by
  have hlt := K.there _ hok
  unfold collect
  refine wpAny_bind (wpAny_runValue (codeAny_builtin PySem.F.entry_proto_collect ?_))
  rw [Around.under_plainId PySem.F.plain_proto_collect _]
  show wpAny _ A.in1 (newList [] >>= fun l => again (.builtin "list.__iadd__" ⟨[l, .ref r], []⟩)) _ _ s
  refine wpAny_bind (wpAny_newObj_type ?_ (Nat.zero_le _))
  refine wpAny_pure ⟨plainId_quiet PySem.F.plain_list_iadd _, ?_⟩
  have hS : (s.heap.push { cls := .type "list", data := .seq ([] : List Value).toArray }).get? s.heap.objs.size = some { cls := .type "list", data := .seq #[] } := Heap.get?_push_size _ rfl
  refine iaddK K hh (K.keep _ _ hok fun b _ o e => Heap.get?_push_of_some _ e) s.heap.objs.size (Nat.ne_of_gt hlt.1) (Nat.ne_of_gt hlt.2) hS hn fun h' tk acc' c' hk hS' hacc => ?_
  show wpAny _ A (load s.heap.objs.size >>= _) _ _ _
  refine wpAny_bind (wpAny_load hS' (wpAny_pure ?_))
  exact hQ h' tk acc' (fun b o e => hk b o (Nat.ne_of_lt (Heap.lt_size e)) (Heap.get?_push_of_some _ e)) (Heap.lt_size hS') hacc.1 hacc.2
end


/-- does the world follow the text for a set's order -/
def byTx (w : World) : Bool := w.params.followText "set-order"
def SetAt (w : World) (h : Heap) (S : Addr) (es : Array (Int × Value)) (ep : Nat) (t : SetTable) (Z : List (Nat × Int × Value)) : Prop :=
  ∃ o, h.get? S = some o ∧ o.ExactSet ∧ o.data = .set es ep t ∧ TOk t es Z ∧ t.plain = true ∧ t.led = !byTx w
section
variable {w : World} {h h' : Heap} {S : Addr} {es : Array (Int × Value)} {ep : Nat} {t : SetTable} {Z : List (Nat × Int × Value)}
theorem SetAt.at' (x : SetAt w h S es ep t Z) (k : ∀ o, h.get? S = some o → h'.get? S = some o) : SetAt w h' S es ep t Z := let ⟨o, ho, r⟩ := x; ⟨o, k _ ho, r⟩
theorem SetAt.lt (x : SetAt w h S es ep t Z) : S < h.objs.size := let ⟨_, ho, _⟩ := x; Heap.lt_size ho
theorem SetAt.typeIs {s : Shared} (x : SetAt w s.heap S es ep t Z) : s.TypeIs (.ref S) "set" := let ⟨o, ho, hc, _⟩ := x; ⟨o, ho, hc.1⟩
theorem erase_perm {α : Type} {l : List α} {i : Nat} (hi : i < l.length) : l.Perm (l[i] :: l.eraseIdx i) := by
  have e : l = l.take i ++ l[i] :: l.drop (i + 1) := by rw [List.getElem_cons_drop]; exact (List.take_append_drop i l).symm
  rw [List.eraseIdx_eq_take_drop_succ]
  exact (List.Perm.of_eq e).trans List.perm_middle
theorem pickOrder_perm {α : Type} (next : Nat → Nat) : ∀ (fuel k : Nat) (l : List α) (out : Array α), l.length ≤ fuel → (pickOrder.go next fuel k l out).toList.Perm (out.toList ++ l)
  | 0, k, l, out, hl => by
    have : l = [] := List.length_eq_zero_iff.mp (Nat.le_zero.mp hl)
    subst this
    unfold pickOrder.go
    simp
  | fuel + 1, k, l, out, hl => by
    unfold pickOrder.go
    cases hx : l[next k % l.length]? with
    | none =>
      dsimp only
      have : l = [] := by
        refine Classical.byContradiction fun hne => ?_
        have hpos : 0 < l.length := List.length_pos_iff.mpr hne
        have := List.getElem?_eq_none_iff.mp hx
        have := Nat.mod_lt (next k) hpos
        omega
      subst this
      simp
    | some x =>
      dsimp only
      obtain ⟨hi, he⟩ := List.getElem?_eq_some_iff.mp hx
      have hp : l.Perm (x :: l.eraseIdx (next k % l.length)) := by
        have := erase_perm hi
        rwa [he] at this
      refine (pickOrder_perm next fuel (k + 1) (l.eraseIdx (next k % l.length)) (out.push x) (by rw [List.length_eraseIdx_of_lt hi]; omega)).trans ?_
      rw [Array.toList_push, List.append_assoc]
      exact List.Perm.append_left _ hp.symm
/-- the order in which a set is walked -/
def ordL (w : World) (S ep : Nat) (es : Array (Int × Value)) : Array (Int × Value) := if byTx w = true then pickOrder (w.params.setOrder S ep) es else es
theorem ordL_perm : (ordL w S ep es).toList.Perm es.toList := by
  unfold ordL
  split
  · have := pickOrder_perm (w.params.setOrder S ep) es.size 0 es.toList #[] (by simp)
    simpa [pickOrder] using this
  · exact List.Perm.refl _
theorem ordL_size : (ordL w S ep es).size = es.size := by rw [← Array.length_toList, ordL_perm.length_eq, Array.length_toList]
theorem below_succ {xs : Array Nat} (hr : xs.toList.Pairwise (· < ·)) {i j : Nat} (hi : xs[i]? = some j) : SetTable.below xs (j + 1) = i + 1 := by
  obtain ⟨a, b, c⟩ := below_spec hr (j + 1)
  obtain ⟨hlt, he⟩ := Array.getElem?_eq_some_iff.mp hi
  have hd : xs.getD i 0 = j := by simp [Array.getD, hlt, he]
  rcases Nat.lt_trichotomy (SetTable.below xs (j + 1)) (i + 1) with q | q | q
  · have := c i (by omega) hlt
    omega
  · exact q
  · have h1 := b (i + 1) q
    have hlt2 : i + 1 < xs.size := by omega
    have h2 := List.pairwise_iff_getElem.mp hr i (i + 1) (by simpa using hlt) (by simpa using hlt2) (Nat.lt_succ_self _)
    simp only [Array.getElem_toList] at h2
    have h3 : xs.getD (i + 1) 0 = xs[i + 1]'hlt2 := by simp [Array.getD, hlt2]
    rw [h3] at h1
    omega
theorem below_zero {xs : Array Nat} (hr : xs.toList.Pairwise (· < ·)) : SetTable.below xs 0 = 0 := by
  obtain ⟨a, b, c⟩ := below_spec hr 0
  rcases Nat.eq_zero_or_pos (SetTable.below xs 0) with q | q
  · exact q
  · exact absurd (b 0 q) (Nat.not_lt_zero _)
end

section
variable {prog : Program} {w : World} {A : Around} {E : Value → Shared → Prop} {s : Shared} {S : Addr} {es : Array (Int × Value)} {ep : Nat} {t : SetTable} {Z : List (Nat × Int × Value)}
theorem byText_is {Q : Bool → Shared → Prop} (hq : Q (byTx w) s) : wpAny (model prog w) A setsByText Q E s := by
  unfold setsByText
  exact wpAny_bind (wpAny_askSetting (wpAny_pure hq))
theorem set_iter_ok {Q : Value → Shared → Prop} (hm : SetAt w s.heap S es ep t Z)
    (hQ : Q (.ref s.heap.objs.size) { s with heap := s.heap.push { cls := .type "set_iterator", data := .fields #[.int 0 0, .int 0 0, .ref S, .int es.size 0, .int ep 0] } }) :
    wpAny (model prog w) A (pyIter (.ref S)) Q E s := by
  obtain ⟨o, ho, hc, hd, hT, hp, hl⟩ := id hm
  have hTy := hm.typeIs
  have hent : entryFor table "set.__iter__" = some Builtin.«frozenset.__iter__» := entryFor_alias (id' := "frozenset.__iter__") (by kernel_rfl) rfl (by decide +kernel) (by kernel_rfl)
  refine wpAny_pyIter_slot hTy PySem.F.slot_set_iter (wpAny_call_entry PySem.F.slot_set_iter hTy hent ?_ (PySem.F.args_set_iter_1 _))
  unfold Builtin.«frozenset.__iter__»
  refine wpAny_bind (m := Builtin.Frozenset.slot0 "__iter__" ⟨[.ref S], []⟩) (wpAny_pure ?_)
  refine wpAny_bind ?_
  unfold Builtin.Frozenset.sizeOf
  refine wpAny_bind (wpAny_setEntries_of ho hd hT.fits (wpAny_pure ?_))
  refine wpAny_bind ?_
  unfold setDrawn
  refine wpAny_bind (wpAny_setState_of ho hd hT.fits (wpAny_bind (byText_is (wpAny_pure ?_))))
  rw [if_neg (by
    show ¬ ((!byTx w && (!t.plain && decide (es.size > 1))) = true)
    rw [hp]
    simp)]
  refine wpAny_bind (wpAny_pure ?_)
  refine wpAny_bind (wpAny_setEpoch_of ho hd hT.fits ?_)
  refine wpAny_bind (wpAny_newObj_type (wpAny_pure ?_))
  have hnext : typeLookup (.type "set_iterator") "__next__" = pure (some (.builtin "set_iterator.__next__")) := by rw [typeLookup_type, builtinLookup_eq_fast]; kernel_rfl
  exact ⟨_, rfl, "set_iterator", _, ⟨_, Heap.get?_push_size _ rfl, rfl⟩, hnext, hQ⟩

def SetIt (w : World) (h : Heap) (it S : Addr) (es : Array (Int × Value)) (ep : Nat) (t : SetTable) (i : Nat) : Prop :=
  ∃ o sl, h.get? it = some o ∧ o.cls = .type "set_iterator" ∧ o.data = .fields #[.int (sl : Nat) 0, .int i 0, .ref S, .int es.size 0, .int ep 0] ∧ (byTx w = false → SetTable.below t.place sl = i)
theorem SetIt.typeIs {it : Addr} {i : Nat} (x : SetIt w s.heap it S es ep t i) : s.TypeIs (.ref it) "set_iterator" := let ⟨o, _, ho, hc, _⟩ := x; ⟨o, ho, hc⟩
theorem SetIt.at' {h h' : Heap} {it : Addr} {i : Nat} (x : SetIt w h it S es ep t i) (k : ∀ o, h.get? it = some o → h'.get? it = some o) : SetIt w h' it S es ep t i := let ⟨o, sl, ho, r⟩ := x; ⟨o, sl, k _ ho, r⟩
theorem slot_si_next : Slot "set_iterator" "__next__" "set_iterator.__next__" :=
  .of (owner := "set_iterator") (n := "__next__") (by rw [typeLookup_type, builtinLookup_eq_fast]; kernel_rfl) (by decide +kernel) (by decide +kernel) (by decide +kernel)
    (by first | exact .inl (by decide +kernel) | exact .inr (by decide +kernel)) (by rw [isSubtype_type]; kernel_rfl)
theorem slot_si_iter : Slot "set_iterator" "__iter__" "set_iterator.__iter__" :=
  .of (owner := "set_iterator") (n := "__iter__") (by rw [typeLookup_type, builtinLookup_eq_fast]; kernel_rfl) (by decide +kernel) (by decide +kernel) (by decide +kernel)
    (by first | exact .inl (by decide +kernel) | exact .inr (by decide +kernel)) (by rw [isSubtype_type]; kernel_rfl)
theorem entry_si_next : entryFor table "set_iterator.__next__" = some Builtin.«set_iterator.__next__» := entryFor_of_tree (by kernel_rfl)
theorem entry_si_iter : entryFor table "set_iterator.__iter__" = some Builtin.«dict_keyiterator.__iter__» := entryFor_alias (id' := "dict_keyiterator.__iter__") (by kernel_rfl) rfl (by decide +kernel) (by kernel_rfl)
theorem args_si_next (a : Value) : argsOk "set_iterator.__next__" ⟨[a], []⟩ := by unfold argsOk; kernel_rfl
theorem args_si_iter (a : Value) : argsOk "set_iterator.__iter__" ⟨[a], []⟩ := by unfold argsOk; kernel_rfl

/-- a step of the walk over a set's table -/
theorem next_of {Q : Option (Value × Nat) → Shared → Prop} {i sl : Nat} (hm : SetAt w s.heap S es ep t Z) (hb : byTx w = false → SetTable.below t.place sl = i)
    (hq : ∀ sl', (byTx w = false → SetTable.below t.place sl' = i + 1 ∨ es.size ≤ i) → Q (((ordL w S ep es)[i]?).map fun e => (e.2, sl')) s) : wpAny (model prog w) A (setNext S sl i ep) Q E s := by
  obtain ⟨o, ho, hc, hd, hT, hp, hl⟩ := id hm
  have hr : t.place.toList.Pairwise (· < ·) := by rw [hT.place]; exact hT.rise
  unfold setNext
  refine wpAny_bind (wpAny_setState_of ho hd hT.fits (wpAny_bind (byText_is ?_)))
  cases hx : byTx w with
  | true =>
    have hord : ordL w S ep es = pickOrder (w.params.setOrder S ep) es := by unfold ordL; rw [if_pos hx]
    rw [if_pos rfl, if_neg (by simp)]
    refine wpAny_bind ?_
    unfold setWalk
    refine wpAny_bind (wpAny_setState_of ho hd hT.fits (wpAny_bind (byText_is ?_)))
    rw [hx, if_pos rfl]
    refine wpAny_bind (wpAny_askSetting (wpAny_pure (wpAny_pure ?_)))
    have := hq sl (fun z => by rw [hx] at z; cases z)
    rw [hord] at this
    exact this
  | false =>
    have hord : ordL w S ep es = es := by unfold ordL; rw [if_neg (by rw [hx]; decide)]
    have hb' := hb hx
    rw [if_neg (by decide), if_neg (by
      show ¬ ((!t.plain && decide (es.size > 1)) = true)
      rw [hp]; simp)]
    refine wpAny_bind ?_
    show wpAny _ _ (if (!t.led && !es.isEmpty) = true then _ else pure ()) _ _ _
    rw [if_neg (by rw [hl, hx]; simp)]
    refine wpAny_pure ?_
    dsimp only
    rw [hb']
    refine wpAny_pure ?_
    have hps : t.place.size = es.size := by
      rw [← Array.length_toList, hT.place, List.length_map, ← Array.length_toList, hT.ents, List.length_map]
    by_cases hi : i < es.size
    · have hpi : t.place[i]? = some (t.place[i]'(by omega)) := by simp [hps, hi]
      have := hq (t.place[i]'(by omega) + 1) (fun _ => .inl (below_succ hr hpi))
      rw [hord] at this
      have he : es[i]? = some es[i] := by simp [hi]
      rw [he] at this ⊢
      rw [hpi]
      exact this
    · have := hq 0 (fun _ => .inr (by omega))
      rw [hord] at this
      have he : es[i]? = none := Array.getElem?_eq_none (by omega)
      rw [he] at this ⊢
      exact this

theorem set_item {it : Addr} {i : Nat} {Q : Option Value → Shared → Prop} (hit : SetIt w s.heap it S es ep t i) (hm : SetAt w s.heap S es ep t Z) (hlt : i < es.size)
    (hQ : ∀ h' e, (ordL w S ep es)[i]? = some e → SetIt w h' it S es ep t (i + 1) → Heap.SameBut it s.heap h' → Q (some e.2) { s with heap := h' }) : wpAny (model prog w) A (pyNext (.ref it)) Q E s := by
  obtain ⟨o, ho, hc, hd, hT, hp, hl⟩ := id hm
  obtain ⟨oi, sl, hoi, hci, hdi, hb⟩ := id hit
  have hlt' : i < (ordL w S ep es).size := by rw [ordL_size]; exact hlt
  unfold pyNext
  refine wpAny_bind (wpAny_attempt (wpAny_callSpecial?_slot (name := Str.ofString "__next__") hit.typeIs slot_si_next
    (wpAny_call_entry slot_si_next hit.typeIs entry_si_next ?_ (args_si_next _))))
  unfold Builtin.«set_iterator.__next__»
  refine wpAny_bind (wpAny_pure ?_)
  dsimp only
  refine wpAny_bind (wpAny_fieldsOf hoi hdi ?_)
  dsimp only
  refine wpAny_bind (wpAny_setEntries_of ho hd hT.fits ?_)
  rw [if_neg (by simp)]
  refine wpAny_bind (next_of hm (i := i) (sl := sl) hb fun sl' hb' => ?_)
  rw [Int.toNat_natCast, show (ordL w S ep es)[i]? = some (ordL w S ep es)[i] by simp [hlt']]
  dsimp only [Option.map]
  refine wpAny_bind (wpAny_setField hoi hdi (by simp) ?_)
  have hd1 := Obj.data_mapFields hdi (·.setIfInBounds 0 (rawInt (sl' : Nat)))
  have ho1 := Heap.get?_update_self (Obj.mapFields (·.setIfInBounds 0 (rawInt (sl' : Nat)))) hoi (Obj.isFreed_of_fields hd1)
  refine wpAny_bind (wpAny_setField ho1 hd1 (by simp) ?_)
  have hd2 := Obj.data_mapFields hd1 (·.setIfInBounds 1 (rawInt ((i : Int) + 1)))
  have ho2 := Heap.get?_update_self (Obj.mapFields (·.setIfInBounds 1 (rawInt ((i : Int) + 1)))) ho1 (Obj.isFreed_of_fields hd2)
  refine wpAny_pure ⟨_, rfl, wpAny_pure ?_⟩
  refine hQ _ _ (by simp [hlt']) ⟨_, sl', ho2, ((Obj.cls_mapFields ..).trans (Obj.cls_mapFields ..)).trans hci, by rw [hd2]; simp [rawInt], fun z => ?_⟩ ((Heap.SameBut.update ..).trans (Heap.SameBut.update ..))
  rcases hb' z with q | q
  · exact q
  · omega
theorem set_end {it : Addr} {Q : Option Value → Shared → Prop} (hh : A.handled = none) (hit : SetIt w s.heap it S es ep t es.size) (hm : SetAt w s.heap S es ep t Z)
    (hQ : ∀ h', Heap.ExtBut it s.heap h' → Q none { s with heap := h' }) : wpAny (model prog w) A (pyNext (.ref it)) Q E s := by
  obtain ⟨o, ho, hc, hd, hT, hp, hl⟩ := id hm
  obtain ⟨oi, sl, hoi, hci, hdi, hb⟩ := id hit
  unfold pyNext
  refine wpAny_bind (wpAny_attempt (wpAny_callSpecial?_slot (name := Str.ofString "__next__") hit.typeIs slot_si_next
    (wpAny_call_entry slot_si_next hit.typeIs entry_si_next ?_ (args_si_next _))))
  unfold Builtin.«set_iterator.__next__»
  refine wpAny_bind (wpAny_pure ?_)
  dsimp only
  refine wpAny_bind (wpAny_fieldsOf hoi hdi ?_)
  dsimp only
  refine wpAny_bind (wpAny_setEntries_of ho hd hT.fits ?_)
  rw [if_neg (by simp)]
  refine wpAny_bind (next_of hm (i := es.size) (sl := sl) hb fun sl' hb' => ?_)
  rw [Int.toNat_natCast, Array.getElem?_eq_none (by rw [ordL_size]; exact Nat.le_refl _)]
  dsimp only [Option.map]
  refine wpAny_bind (wpAny_setField hoi hdi (by simp) ?_)
  refine wpAny_bind ?_
  simp only [newExc, newTuple]
  refine wpAny_bind (wpAny_newObj_type ?_ (Nat.zero_le _))
  refine wpAny_bind (m := firstArgMember _ _) (wpAny_of_eq (a := Value.none) (by first | rfl | (simp only [firstArgMember]; rfl)) ?_)
  refine wpAny_newObj_type ?_ (by first | exact trivial | rfl | decide | exact Nat.le_of_ble_eq_true rfl)
  simp only [raiseNew]
  refine wpAny_bind (wpAny_handled ?_)
  rw [show A.in1.handled = none from hh]
  refine wpAny_bind (wpAny_pure (wpAny_throw ?_))
  refine wpAny_bind (wpAny_isInstance (T := "StopIteration") (b := true) ⟨_, Heap.get?_push_size _ rfl, rfl⟩ isSubtype_stop ?_)
  exact wpAny_pure (hQ _ (((Heap.SameBut.update ..).extBut.push _).push _))

theorem set_self {it : Addr} {i : Nat} {Q : Value → Shared → Prop} (hit : SetIt w s.heap it S es ep t i) (h : Q (.ref it) s) : wpAny (model prog w) A (pyIter (.ref it)) Q E s := by
  refine wpAny_pyIter_slot hit.typeIs slot_si_iter (wpAny_call_entry slot_si_iter hit.typeIs entry_si_iter ?_ (args_si_iter _))
  show wpAny _ _ (ret (.ref it)) _ _ s
  exact wpAny_pure ⟨_, rfl, "set_iterator", _, hit.typeIs, slot_si_next.lookup, h⟩
theorem set_walks (hh : A.handled = none) (I : Addr) (hne : S ≠ I) :
    Walks prog w A I [I, S] [I] es.size (fun i v => ∃ e, (ordL w S ep es)[i]? = some e ∧ v = e.2) (fun i h => SetIt w h I S es ep t i ∧ SetAt w h S es ep t Z) where
  sub := fun b hb => by simp at hb; simp [hb]
  frame := fun _ _ _ st hk => ⟨st.1.at' fun o e => hk I (by simp) o e, st.2.at' fun o e => hk S (by simp) o e⟩
  item := fun i s Q E hi st hQ => by
    refine set_item st.1 st.2 hi fun h' e he hit' hs' => ?_
    exact hQ _ h' s.toks ⟨e, he, rfl⟩ ⟨hit', st.2.at' fun o e => (hs'.2 S hne).trans e⟩ fun b o hb e => hs'.extBut b o (fun h => hb (by simp [h])) e
  done := fun s Q E st hQ => set_end hh st.1 st.2 fun h' he' => hQ h' s.toks fun b o hb e => he' b o (fun h => hb (by simp [h])) e
  self := fun _ _ _ _ st hQ => set_self st.1 hQ
theorem hint_set (hT : s.TypeIs (.ref S) "set") {Q : Bool → Shared → Prop} (h : Q false s) : wpAny (model prog w) A (Builtin.List.listLengthHint (.ref S)) Q E s := by
  unfold Builtin.List.listLengthHint
  refine wpAny_bind (wpAny_specialOf hT PySem.F.slot_set_len.lookup ?_)
  generalize hid : ("set.__len__" : String) = id0
  wp_delta
  rw [show splitId id0 = some ("set", "__len__") from by subst hid; decide +kernel]
  subst hid
  refine wpAny_bind (wpAny_isInstance (T := "set") (b := true) hT (by rw [isSubtype_type]; kernel_rfl) ?_)
  refine wpAny_ite_split (fun hab => absurd hab (by decide)) (fun _ => ?_)
  refine wpAny_ite_split (fun _ => ?_) (fun hab => absurd (by decide +kernel) hab)
  refine wpAny_bind (wpAny_typeOf hT ?_)
  exact wpAny_pure h
theorem set_src : KdlSrc prog w "set" S S es.size (fun i v => ∃ e, (ordL w S ep es)[i]? = some e ∧ v = e.2) (fun h => SetAt w h S es ep t Z) where
  type := fun _ hm => hm.typeIs
  there := fun _ hm => ⟨hm.lt, hm.lt⟩
  keep := fun _ _ hm hk => hm.at' fun o e => hk S (.inl rfl) o e
  notList := by decide
  notTuple := by decide
  hint := fun _ _ _ _ hm hq => hint_set hm.typeIs hq
  iter := fun _ s hh hm => ⟨_, _, (fun _ _ hq => set_iter_ok hm hq), set_walks (t := t) (Z := Z) hh _ (Nat.ne_of_lt hm.lt), ⟨⟨_, 0, Heap.get?_push_size _ rfl, rfl, rfl, fun _ => by
    obtain ⟨o, ho, hc, hd, hT, _⟩ := hm
    exact below_zero (by rw [hT.place]; exact hT.rise)⟩, hm.at' fun o e => Heap.get?_push_of_some _ e⟩⟩
end


section
variable {t : SetTable} {es : Array (Int × Value)} {Z : List (Nat × Int × Value)}
theorem TOk.uniq (T : TOk t es Z) {z z' : Nat × Int × Value} (hz : z ∈ Z) (hz' : z' ∈ Z) (e : z.1 = z'.1) : z = z' := by
  obtain ⟨i, hi, rfl⟩ := List.getElem_of_mem hz
  obtain ⟨j, hj, rfl⟩ := List.getElem_of_mem hz'
  have hp := List.pairwise_iff_getElem.mp T.rise
  rcases Nat.lt_trichotomy i j with q | q | q
  · have := hp i j (by simpa using hi) (by simpa using hj) q
    simp only [List.getElem_map] at this
    exact absurd e (Nat.ne_of_lt this)
  · subst q; rfl
  · have := hp j i (by simpa using hj) (by simpa using hi) q
    simp only [List.getElem_map] at this
    exact absurd e (Nat.ne_of_gt this)
theorem TOk.some_free (T : TOk t es Z) : ∃ P, P ≤ t.mask ∧ P ∉ t.place.toList := by
  refine Classical.byContradiction fun hno => ?_
  have hall : ∀ j, j ∈ List.range (t.mask + 1) → j ∈ t.place.toList := fun j hj => by
    refine Classical.byContradiction fun q => hno ⟨j, Nat.le_of_lt_succ (List.mem_range.mp hj), q⟩
  have := nodup_len _ _ List.nodup_range hall
  have h2 := T.len
  rw [T.place] at this
  simp at this
  exact absurd this (Nat.not_le.mpr (Nat.lt_succ_of_le h2))
/-- the first free place on the way of a hash -/
theorem TOk.free (T : TOk t es Z) (h : Int) : ∃ n0, n0 < 10 * (t.mask + 15) ∧ posM t.mask h n0 ∉ t.place.toList ∧ ∀ k, k < n0 → posM t.mask h k ∈ t.place.toList := by
  obtain ⟨P, hP, hn⟩ := T.some_free
  obtain ⟨m, hmc, hm⟩ := path_hits T.mask h 0 hP
  rw [Nat.zero_add] at hm
  have : ∀ m, m < 10 * (t.mask + 15) → posM t.mask h m ∉ t.place.toList → ∃ n0, n0 < 10 * (t.mask + 15) ∧ posM t.mask h n0 ∉ t.place.toList ∧ ∀ k, k < n0 → posM t.mask h k ∈ t.place.toList := by
    intro m
    induction m using Nat.strongRecOn with
    | ind m ih =>
      intro hmc hm
      by_cases hall : ∀ k, k < m → posM t.mask h k ∈ t.place.toList
      · exact ⟨m, hmc, hm, hall⟩
      · obtain ⟨k, hk⟩ := Classical.not_forall.mp hall
        obtain ⟨hk1, hk2⟩ := Classical.not_imp.mp hk
        exact ih k hk1 (Nat.lt_trans hk1 hmc) hk2
  exact this m hmc (by rw [hm]; exact hn)
theorem TOk.first (T : TOk t es Z) (h : Int) : ∃ j, j ≤ t.mask ∧ j ∉ Z.map (·.1) ∧ Reach t.mask (Z.map (·.1)) h j ∧ t.freeSlot h = some (j, false) := by
  obtain ⟨P, hP, hn⟩ := T.some_free
  obtain ⟨m, hm, hm'⟩ := path_hits T.mask h 0 hP
  have hr : t.place.toList.Pairwise (· < ·) := by rw [T.place]; exact T.rise
  obtain ⟨n, a, b⟩ := probe_go (hashAt := fun _ => h + 1) (h := h) hr T.dum (10 * (t.mask + 15)) 0 m hm (by rw [hm']; exact hn)
  rcases b with ⟨b1, b2⟩ | ⟨i, _, b2, _⟩
  · rw [Nat.zero_add] at b1 b2
    refine ⟨posM t.mask h n, posM_le _ _ _, by rw [← T.place]; exact b1, ⟨n, rfl, fun k' hk => ?_⟩, ?_⟩
    · obtain ⟨i, hi, _⟩ := a k' hk
      rw [Nat.zero_add, ← Array.getElem?_toList] at hi
      rw [← T.place]
      exact List.mem_of_getElem? hi
    · unfold SetTable.freeSlot
      have e : t.probe (fun _ => h + 1) h (t.probeStart h) = some (.empty (posM t.mask h n) none) := b2
      rw [e]
      rfl
  · exact absurd b2 (by omega)

theorem sizeAbove_20 : SetTable.sizeAbove (SetTable.grown 5) - 1 = 31 := by decide
theorem ar_four {n : Nat} (a : n * 5 < 7 * 3) (b : ¬ (n + 1) * 5 < 7 * 3) : n = 4 := by omega
/-- an element laid into the table, and the table laid anew where it is too full -/
theorem TOk.add (T : TOk t es Z) (hroom : Z.length * 5 < t.mask * 3) (hz : Z.length ≤ 12) {j : Nat} {h : Int} {x : Value} (hj : j ≤ t.mask) (hn : j ∉ Z.map (·.1)) (hr : Reach t.mask (Z.map (·.1)) h j) :
    ∃ Z1, TOk (t.put j).1 (SetTable.insertAt es (t.put j).2 (h, x)) Z1 ∧ Z1.Perm ((j, h, x) :: Z) ∧ (t.put j).1.led = t.led ∧ (t.put j).1.plain = t.plain ∧ (SetTable.insertAt es (t.put j).2 (h, x)).size = es.size + 1 ∧
      (((t.put j).1.tooFull = false ∧ Z1.length * 5 < (t.put j).1.mask * 3) ∨ ((t.put j).1.tooFull = true ∧ es.size = 4 ∧ (t.put j).1.mask = 7)) := by
  have hmask : Z.length + 1 ≤ t.mask := by
    rcases T.mask with q | q
    · rw [q] at hroom ⊢; exact Nat.lt_of_mul_lt_mul_right (Nat.lt_trans hroom (show 7 * 3 < 7 * 5 by decide))
    · rw [q]; exact Nat.le_trans (Nat.succ_le_succ hz) (by decide)
  obtain ⟨Z1, T1, p1, e1, e2, e3⟩ := T.put (x := x) hj hn hr hmask
  have hl : Z1.length = Z.length + 1 := by rw [p1.length_eq]; rfl
  have hes : es.size = Z.length := by rw [← Array.length_toList, T.ents, List.length_map]
  have hes1 : (SetTable.insertAt es (t.put j).2 (h, x)).size = Z1.length := by rw [← Array.length_toList, T1.ents, List.length_map]
  have hps : (t.put j).1.place.size = Z1.length := by rw [← Array.length_toList, T1.place, List.length_map]
  have hfill : (t.put j).1.fill = Z1.length := by unfold SetTable.fill; rw [hps, T1.dum]; rfl
  refine ⟨Z1, T1, p1, e2, e3, by rw [hes1, hl, hes], ?_⟩
  by_cases hf : Z1.length * 5 < (t.put j).1.mask * 3
  · refine .inl ⟨?_, hf⟩
    unfold SetTable.tooFull
    rw [hfill]
    exact decide_eq_false (Nat.not_le.mpr hf)
  · refine .inr ⟨?_, ?_, ?_⟩
    · unfold SetTable.tooFull
      rw [hfill]
      exact decide_eq_true (Nat.not_lt.mp hf)
    · rw [e1, hl] at hf
      rw [hes]
      rcases T.mask with q | q
      · rw [q] at hf hroom; exact ar_four hroom hf
      · rw [q] at hf; exact absurd (Nat.lt_of_le_of_lt (Nat.mul_le_mul_right 5 (Nat.succ_le_succ hz)) (show 13 * 5 < 31 * 3 by decide)) hf
    · rw [e1, hl] at hf
      rw [e1]
      rcases T.mask with q | q
      · exact q
      · rw [q] at hf; exact absurd (Nat.lt_of_le_of_lt (Nat.mul_le_mul_right 5 (Nat.succ_le_succ hz)) (show 13 * 5 < 31 * 3 by decide)) hf
end

section
variable {prog : Program} {w : World} {A : Around} {E : Value → Shared → Prop} {s : Shared} {S : Addr} {es : Array (Int × Value)} {ep : Nat} {t : SetTable} {Z : List (Nat × Int × Value)} {x : Value} {h : Int}

theorem ite_seen {α : Type} {c : Prop} [Decidable c] {m : Sem Bool} {X Y : Sem α} {Q : α → Shared → Prop} (h1 : c → ∀ Q' : Bool → Shared → Prop, Q' false s → wpAny (model prog w) A m Q' E s) (h2 : wpAny (model prog w) A Y Q E s) :
    wpAny (model prog w) A (if c then (m >>= fun b => if b = true then X else Y) else Y) Q E s :=
  wpAny_ite_split (fun hc => wpAny_bind (h1 hc _ (by rw [if_neg Bool.false_ne_true]; exact h2))) (fun _ => h2)
theorem search_ok {o : Obj} {eqv : Nat × Int × Value → Bool} {Q : SetFound → Shared → Prop} (ho : s.heap.get? S = some o) (hd : o.data = .set es ep t) (T : TOk t es Z)
    (href : ∀ z ∈ Z, ∃ a, z.2.2 = .ref a) (heq : ∀ z ∈ Z, SeqAt.EqAt A s z.2.2 x (eqv z)) (hseen : t.led = false → ∀ (l : List Value) (Q' : Bool → Shared → Prop), (∀ y ∈ l, ∃ z ∈ Z, z.2.2 = y) → Q' false s → wpAny (model prog w) A (searchCouldBeSeen x l) Q' E s)
    (hthere : (∃ z ∈ Z, eqv z = true) → Q (.there none) s)
    (hfree : ∀ j, j ≤ t.mask → j ∉ Z.map (·.1) → Reach t.mask (Z.map (·.1)) h j → (∀ z ∈ Z, z.2.1 = h → eqv z = false) → Q (.free j false) s)
    {n0 : Nat} (hn0 : posM t.mask h n0 ∉ t.place.toList) (hbef : ∀ k, k < n0 → posM t.mask h k ∈ t.place.toList) (hcap : n0 < 10 * (t.mask + 15)) :
    ∀ (fuel k : Nat) (stand : Option SetTable.Probe), n0 - k < fuel → k ≤ n0 → stand.getD (t.probeStart h) = stM t.mask h k → (∀ z ∈ Z, z.2.1 = h → (∃ k', k' < k ∧ posM t.mask h k' = z.1) → eqv z = false) →
      wpAny (model prog w) A (setSearchFrom S x h true fuel stand) Q E s := by
  have hr : t.place.toList.Pairwise (· < ·) := by rw [T.place]; exact T.rise
  intro fuel
  induction fuel with
  | zero => intro k stand hf; exact absurd hf (Nat.not_lt_zero _)
  | succ fuel ih =>
    intro k stand hf hk hst htest
    refine wpAny_bind (wpAny_setState_of ho hd T.fits ?_)
    dsimp only
    rw [T.gave, if_neg (by decide), hst]
    obtain ⟨hAt, hhAt⟩ : ∃ f : Nat → Int, f = fun i => (es[i]?.map (·.1)).getD 0 := ⟨_, rfl⟩
    obtain ⟨n, a, b⟩ := probe_go (hashAt := hAt) (h := h) hr T.dum (10 * (t.mask + 15)) k (n0 - k) (Nat.lt_of_le_of_lt (Nat.sub_le _ _) hcap) (by rw [Nat.add_sub_cancel' hk]; exact hn0)
    have hnle : k + n ≤ n0 := by
      refine Nat.le_of_not_lt fun q => ?_
      obtain ⟨i, hi, _⟩ := a (n0 - k) (Nat.sub_lt_left_of_lt_add hk q)
      rw [Nat.add_sub_cancel' hk, ← Array.getElem?_toList] at hi
      exact hn0 (List.mem_of_getElem? hi)
    have htest' : ∀ z ∈ Z, z.2.1 = h → ∀ q, q < k + n → posM t.mask h q = z.1 → eqv z = false := fun z hz hzh q hq hqz => by
      by_cases hqk : q < k
      · exact htest z hz hzh ⟨q, hqk, hqz⟩
      · obtain ⟨i, hi, hne⟩ := a (q - k) (Nat.sub_lt_left_of_lt_add (Nat.not_lt.mp hqk) hq)
        rw [Nat.add_sub_cancel' (Nat.not_lt.mp hqk)] at hi
        obtain ⟨e, he, hZ⟩ := T.at hi
        have hze := T.uniq hZ hz hqz
        rw [hhAt] at hne
        refine absurd ?_ hne
        dsimp only
        rw [he, ← hzh, ← hze]
        rfl
    rcases b with ⟨b1, b2⟩ | ⟨i, b1, b2, b3⟩
    · have hkn : k + n = n0 := by
        refine Nat.le_antisymm hnle (Nat.le_of_not_lt fun q => b1 (hbef _ q))
      have e : t.probe hAt h (stM t.mask h k) = some (.empty (posM t.mask h (k + n)) none) := b2
      rw [hhAt] at e
      show wpAny _ _ (match t.probe (fun i => (es[i]?.map (·.1)).getD 0) h (stM t.mask h k) with | some met => _ | _ => _) _ _ _
      rw [e]
      dsimp only
      refine wpAny_pure (hfree _ (posM_le _ _ _) (by rw [← T.place]; exact b1) ⟨k + n, rfl, fun k' hk' => by rw [← T.place]; exact hbef _ (Nat.lt_of_lt_of_eq hk' hkn)⟩ fun z hz hzh => ?_)
      obtain ⟨q, hq1, hq2⟩ := T.reach z hz
      rw [hzh] at hq1 hq2
      refine htest' z hz hzh q ?_ hq1
      rw [hkn]
      refine Nat.lt_of_not_le fun hge => hn0 ?_
      rw [T.place]
      rcases Nat.eq_or_lt_of_le hge with e | e
      · rw [e, hq1]
        exact List.mem_map_of_mem hz
      · exact hq2 n0 e
    · obtain ⟨e0, he0, hZ⟩ := T.at b1
      have e : t.probe hAt h (stM t.mask h k) = some (.candidate (posM t.mask h (k + n)) i (stM t.mask h (k + n + 1))) := b3
      have hnlt : k + n < n0 := by
        refine Nat.lt_of_le_of_ne hnle fun q => ?_
        rw [q, ← Array.getElem?_toList] at b1
        exact hn0 (List.mem_of_getElem? b1)
      rw [hhAt] at e b2
      dsimp only at b2
      rw [he0] at b2
      have hh0 : e0.1 = h := b2
      show wpAny _ _ (match t.probe (fun i => (es[i]?.map (·.1)).getD 0) h (stM t.mask h k) with | some met => _ | _ => _) _ _ _
      rw [e]
      dsimp only
      refine ite_seen (fun hl Q' q => hseen (by simpa using hl) _ _ ?_ q) ?_
      · intro y hy
        obtain ⟨e1, he1, rfl⟩ := List.mem_map.mp hy
        have he2 : e1 ∈ es.toList := by
          have := Array.mem_filter.mp (Array.mem_toList_iff.mp he1)
          exact Array.mem_toList_iff.mpr this.1
        rw [T.ents] at he2
        obtain ⟨z, hz, rfl⟩ := List.mem_map.mp he2
        exact ⟨z, hz, rfl⟩
      · rw [he0]
        dsimp only
        refine wpAny_bind (wpAny_holding (heq _ hZ prog w E _ ?_))
        refine wpAny_bind (wpAny_setState_of ho hd T.fits ?_)
        dsimp only
        cases heqv : eqv (posM t.mask h (k + n), e0) with
        | true =>
          rw [if_pos (show (true && true) = true from rfl)]
          exact wpAny_pure (hthere ⟨_, hZ, heqv⟩)
        | false =>
          rw [if_neg (by decide)]
          have sm : t.sameMemory t.moves t.mask = some true := by unfold SetTable.sameMemory; rw [if_pos (by simp)]
          rw [sm]
          dsimp only
          rw [if_pos rfl, slot_live hr b1]
          dsimp only
          rw [he0]
          dsimp only
          refine wpAny_bind (m := isSame e0.2 e0.2) ?_
          obtain ⟨ra, hra⟩ := href _ hZ
          dsimp only at hra
          rw [hra]
          unfold isSame
          dsimp only
          rw [if_pos (beq_self_eq_true ra)]
          refine wpAny_pure (wpAny_bind (wpAny_pure ?_))
          rw [if_pos rfl]
          dsimp only
          rw [if_neg (by decide)]
          refine ih (k + n + 1) _ (Nat.lt_of_lt_of_le (Nat.sub_lt_sub_left (Nat.lt_of_le_of_lt (Nat.le_add_right k n) hnlt) (Nat.lt_succ_of_le (Nat.le_add_right k n))) (Nat.le_of_lt_succ hf)) hnlt rfl fun z hz hzh hex => ?_
          obtain ⟨k', hk1, hk2⟩ := hex
          by_cases hlt : k' < k + n
          · exact htest' z hz hzh k' hlt hk2
          · have : k' = k + n := Nat.le_antisymm (Nat.le_of_lt_succ hk1) (Nat.not_lt.mp hlt)
            rw [this] at hk2
            rw [← T.uniq hZ hz hk2]
            exact heqv

theorem store_ok {o : Obj} {es' : Array (Int × Value)} {t' : SetTable} {Q : Unit → Shared → Prop} (ho : s.heap.get? S = some o) (hex : o.ExactSet) (hd : o.data = .set es ep t) (hz : es'.size ≤ sizeLine)
    (h : ∀ h', Heap.SameBut S s.heap h' → h'.get? S = some { o with data := .set es' (ep + 1) t' } → Q () { s with heap := h' }) : wpAny (model prog w) A (storeSet S es' t') Q E s := by
  refine wpAny_storeSet_of ho hd (h _ (Heap.SameBut.update ..) ?_) hz
  have := Heap.get?_update_self (Obj.putSet es' t') ho (by rw [putSet_of es' t' hd]; rfl)
  rw [putSet_of es' t' hd] at this
  exact this

/-- the relaid table of five -/
theorem relaid_ok {M : Nat} (T : TOk t es Z) (hM : M = 31) (he : es.size = 5) : ∃ t' order Z', t.relaid (es.map (·.1)) (SetTable.grown 5) = some (t', order) ∧ TOk t' (order.filterMap (es[·]?)) Z' ∧ (Z'.map (·.2)).Perm (Z.map (·.2)) ∧ (order.filterMap (es[·]?)).size = es.size ∧ order.toList.Perm (List.range es.size) ∧ t'.led = t.led ∧ t'.plain = t.plain ∧ Z'.length * 5 < t'.mask * 3 ∧ Z'.length = 5 := by
  subst hM
  obtain ⟨t', order, Z', a, b, c, d, e, f, g, i⟩ := laid_ok (M := 31) (finger := t.finger) (moves := t.movedTo (SetTable.sizeAbove (SetTable.grown 5) - 1)) (led := t.led) (plain := t.plain) (.inr rfl) es (by rw [he]; decide)
  have hl : Z'.length = 5 := by
    have := congrArg List.length b.ents
    rw [Array.length_toList, d, List.length_map] at this
    exact this.symm.trans he
  refine ⟨t', order, Z', ?_, b, ?_, d, e, g, i, by rw [hl, f]; decide, hl⟩
  · unfold SetTable.relaid
    rw [sizeAbove_20]
    rw [sizeAbove_20] at a
    exact a
  · rw [← b.ents, ← T.ents]
    exact c

theorem addT {eqv : Nat × Int × Value → Bool} {Q : Bool → Shared → Prop} (hm : SetAt w s.heap S es ep t Z) (hroom : Z.length * 5 < t.mask * 3) (hlen : Z.length ≤ 12) (hns : x.scannable = false)
    (href : ∀ z ∈ Z, ∃ a, z.2.2 = .ref a) (heq : ∀ z ∈ Z, SeqAt.EqAt A s z.2.2 x (eqv z)) (hseen : t.led = false → ∀ (l : List Value) (Q' : Bool → Shared → Prop), (∀ y ∈ l, ∃ z ∈ Z, z.2.2 = y) → Q' false s → wpAny (model prog w) A (searchCouldBeSeen x l) Q' E s)
    (hbv : ∀ Q' : Bool → Shared → Prop, Q' true s → wpAny (model prog w) A (hashByValue 8 x) Q' E s)
    (hold : (∃ z ∈ Z, eqv z = true) → Q false s)
    (hnew : ∀ h' es' ep' t' Z', Heap.SameBut S s.heap h' → SetAt w h' S es' ep' t' Z' → Z'.length * 5 < t'.mask * 3 → (Z'.map (·.2)).Perm ((h, x) :: Z.map (·.2)) → (∀ z ∈ Z, z.2.1 = h → eqv z = false) → Q true { s with heap := h' }) :
    wpAny (model prog w) A (setAddHashed S x h) Q E s := by
  obtain ⟨o, ho, hex, hd, T, hpl, hled⟩ := id hm
  obtain ⟨n0, hcap, hn0, hbef⟩ := T.free h
  have hsz : es.size = Z.length := by rw [← Array.length_toList, T.ents, List.length_map]
  unfold setAddHashed setAddHashedIn
  refine wpAny_holding (wpAny_bind (wpAny_setState_of ho hd T.fits ?_))
  dsimp only
  have hby : byScan x es = false := by unfold byScan; rw [hns]; rfl
  rw [hby, if_neg (by decide)]
  have hcap2 : n0 < 100000 := by rcases T.mask with q | q <;> rw [q] at hcap <;> exact Nat.lt_trans hcap (by decide)
  refine wpAny_bind (m := setSearch S x h true) ?_
  unfold setSearch
  refine search_ok (h := h) (eqv := eqv) ho hd T href heq hseen (fun hex => ?_) (fun j hj hjn hr hne => ?_) hn0 hbef hcap 100000 0 none hcap2 (Nat.zero_le _) rfl (fun z _ _ hk => by obtain ⟨k', hk', _⟩ := hk; exact absurd hk' (Nat.not_lt_zero _))
  · exact wpAny_pure (hold hex)
  · dsimp only
    obtain ⟨Z1, T1, p1, e2, e3, es1, hcase⟩ := T.add hroom hlen (x := x) hj hjn hr
    have p2 : (Z1.map (·.2)).Perm ((h, x) :: Z.map (·.2)) := p1.map (·.2)
    refine wpAny_bind (wpAny_setState_of ho hd T.fits ?_)
    dsimp only
    rw [e3, hpl, if_pos rfl]
    refine wpAny_bind (hbv _ ?_)
    rw [if_pos rfl]
    refine wpAny_bind (store_ok ho hex hd (by rw [es1, sizeLine_eq, hsz]; exact Nat.le_trans (Nat.succ_le_succ hlen) (by decide)) fun h' hs' hg' => ?_)
    rcases hcase with ⟨htf, hr1⟩ | ⟨htf, h4, h7⟩
    · rw [htf, if_neg (by decide)]
      exact wpAny_pure (hnew h' _ _ _ Z1 hs' ⟨_, hg', hex, rfl, T1, e3.trans hpl, e2.trans hled⟩ hr1 p2 hne)
    · rw [htf, if_pos (by decide)]
      refine wpAny_bind ?_
      obtain ⟨t', order, Z', a, b, c, dd, ee, f, gg, i, l5⟩ := relaid_ok T1 rfl (by rw [es1, h4])
      unfold setRelay
      refine wpAny_bind (wpAny_setState_of (s := { s with heap := h' }) hg' rfl T1.fits ?_)
      dsimp only
      rw [h4, if_neg (by rw [sizeLine_eq]; decide)]
      rw [a]
      show wpAny _ _ ((if ((order.filterMap ((SetTable.insertAt es (t.put j).2 (h, x))[·]?)).size != (SetTable.insertAt es (t.put j).2 (h, x)).size) = true then _ else pure (order.filterMap ((SetTable.insertAt es (t.put j).2 (h, x))[·]?), t')) >>= _) _ _ _
      rw [if_neg (by rw [dd]; simp)]
      refine wpAny_bind (wpAny_pure ?_)
      dsimp only
      refine store_ok (s := { s with heap := h' }) hg' hex rfl (by rw [dd, es1, sizeLine_eq, h4]; decide) fun h'' hs'' hg'' => ?_
      exact wpAny_pure (hnew h'' _ _ _ Z' (hs'.trans hs'') ⟨_, hg'', hex, rfl, b, (gg.trans e3).trans hpl, (f.trans e2).trans hled⟩ i (c.trans p2) hne)
end


section
variable {prog : Program} {w : World} {A : Around} {E : Value → Shared → Prop} {s : Shared} {S : Addr} {es : Array (Int × Value)} {ep : Nat} {t : SetTable} {Z : List (Nat × Int × Value)}
theorem addI {k : Int} {tk : Tok} {Q : Bool → Shared → Prop} (hm : SetAt w s.heap S es ep t Z) (hroom : Z.length * 5 < t.mask * 3) (hlen : Z.length ≤ 12)
    (hel : ElemsOf (PySem.intKind prog w) (Z.map (·.2)))
    (hold : (∃ e ∈ Z.map (·.2), (PySem.intKind prog w).is k e.2 = true) → Q false s)
    (hnew : ∀ h' es' ep' t' Z', Heap.SameBut S s.heap h' → SetAt w h' S es' ep' t' Z' → Z'.length * 5 < t'.mask * 3 → (Z'.map (·.2)).Perm (((PySem.intKind prog w).hash k, .int k tk) :: Z.map (·.2)) → (∀ e ∈ Z.map (·.2), (PySem.intKind prog w).is k e.2 = false) → Q true { s with heap := h' }) :
    wpAny (model prog w) A (setAddHashed S (.int k tk) ((PySem.intKind prog w).hash k)) Q E s := by
  obtain ⟨o, ho, hex, hd, T, hpl, hled⟩ := id hm
  have hsz : es.size = Z.length := by rw [← Array.length_toList, T.ents, List.length_map]
  have hel' : ElemsOf (PySem.intKind prog w) es.toList := by rw [T.ents]; exact hel
  have hkey := intKind_is prog w k tk
  unfold setAddHashed setAddHashedIn
  refine wpAny_holding (wpAny_bind (wpAny_setState_of ho hd T.fits ?_))
  dsimp only
  rw [byScan_of (x := .int k tk) rfl (by rw [hsz]; show Z.length < 4096; omega) hel', if_pos rfl]
  refine wpAny_bind ?_
  unfold setAddByScan
  refine wpAny_bind (wpAny_rule ?_)
  refine wpAny_bind (wpAny_setScan_of hkey ho hd T.fits hel' ?_)
  cases hr : List.findIdx? (fun e => (PySem.intKind prog w).is k e.2) es.toList with
  | some j =>
    dsimp only
    obtain ⟨hj, hpj, _⟩ := List.findIdx?_eq_some_iff_getElem.mp hr
    exact wpAny_pure (wpAny_pure (hold ⟨es.toList[j], by rw [← T.ents]; exact List.getElem_mem hj, hpj⟩))
  | none =>
    dsimp only
    have hne : ∀ e ∈ Z.map (·.2), (PySem.intKind prog w).is k e.2 = false := fun e he => by
      rw [← T.ents] at he
      exact List.findIdx?_eq_none_iff.mp hr e he
    obtain ⟨j, hj, hjn, hrr, hfree⟩ := T.first ((PySem.intKind prog w).hash k)
    obtain ⟨Z1, T1, p1, e2, e3, es1, hcase⟩ := T.add hroom hlen (x := .int k tk) hj hjn hrr
    have p2 : (Z1.map (·.2)).Perm (((PySem.intKind prog w).hash k, .int k tk) :: Z.map (·.2)) := p1.map (·.2)
    have hlay : layNew t es ((PySem.intKind prog w).hash k) (.int k tk) = (SetTable.insertAt es (t.put j).2 ((PySem.intKind prog w).hash k, .int k tk), (t.put j).1, false, false) := by
      unfold layNew
      rw [hfree]
      dsimp only
      unfold SetTable.orStandIn
      have hf := T1.fits
      rw [hf, if_pos rfl]
      rfl
    rw [hlay]
    dsimp only
    refine wpAny_bind (wpAny_pure ?_)
    rw [e3, hpl, if_pos rfl]
    refine wpAny_bind (wpAny_of_eq (hashByValue_scannable 8 (x := .int k tk) rfl) ?_)
    rw [if_pos (show plainKind (.int k tk) = true from rfl)]
    refine wpAny_bind (store_ok ho hex hd (by rw [es1, sizeLine_eq]; omega) fun h' hs' hg' => ?_)
    rcases hcase with ⟨htf, hr1⟩ | ⟨htf, h4, h7⟩
    · rw [htf, if_neg (by decide)]
      exact wpAny_pure (wpAny_pure (hnew h' _ _ _ Z1 hs' ⟨_, hg', hex, rfl, T1, e3.trans hpl, e2.trans hled⟩ hr1 p2 hne))
    · rw [htf, if_pos (by decide)]
      obtain ⟨t', order, Z', a, b, c, dd, ee, f, gg, i, l5⟩ := relaid_ok T1 rfl (by rw [es1, h4])
      have hre : relayAll (t.put j).1 (SetTable.insertAt es (t.put j).2 ((PySem.intKind prog w).hash k, .int k tk)) (SetTable.grown (SetTable.insertAt es (t.put j).2 ((PySem.intKind prog w).hash k, .int k tk)).size) = (order.filterMap ((SetTable.insertAt es (t.put j).2 ((PySem.intKind prog w).hash k, .int k tk))[·]?), t', false) := by
        unfold relayAll
        have h5 : (SetTable.insertAt es (t.put j).2 ((PySem.intKind prog w).hash k, .int k tk)).size = 5 := by rw [es1, h4]
        rw [show SetTable.grown (SetTable.insertAt es (t.put j).2 ((PySem.intKind prog w).hash k, .int k tk)).size = SetTable.grown 5 by rw [h5], a]
        dsimp only
        have hcov : coversAll order (SetTable.insertAt es (t.put j).2 ((PySem.intKind prog w).hash k, .int k tk)).size = true := by
          unfold coversAll
          exact List.isPerm_iff.mpr ee
        rw [hcov, b.fits, if_pos (by decide)]
      rw [hre]
      dsimp only
      refine wpAny_bind (wpAny_pure ?_)
      refine wpAny_bind (store_ok (s := { s with heap := h' }) hg' hex rfl (by rw [dd, es1, sizeLine_eq]; omega) fun h'' hs'' hg'' => ?_)
      exact wpAny_pure (wpAny_pure (hnew h'' _ _ _ Z' (hs'.trans hs'') ⟨_, hg'', hex, rfl, b, (gg.trans e3).trans hpl, (f.trans e2).trans hled⟩ i (c.trans p2) hne))
end


section
variable {prog : Program} {w : World} {A : Around} {E : Value → Shared → Prop} {s : Shared}
theorem set_new (a : Value) {Q₁ : Value → Shared → Prop}
    (h : Q₁ (.ref s.heap.objs.size) { s with heap := s.heap.push { cls := .type "set", dict := none, data := .set #[] 0 (.fresh 0 0 (!byTx w)) } }) :
    codeAny (model prog w) A (.call (.builtin "set.__new__") ⟨[.type "set", a], []⟩) (wants Q₁ E) s := by
  refine codeAny_of_tree ?_
  show wpAny _ A.in1 (do checkBuiltinCall "set.__new__" ⟨[.type "set", a], []⟩; again (.builtin "set.__new__" ⟨[.type "set", a], []⟩)) _ _ s
  refine wpAny_bind (wpAny_of_eq (PySem.F.newCall_set_1 a) (wpAny_pure ⟨plainId_quiet PySem.F.plain_set_new _, codeAny_builtin PySem.F.entry_set_new ?_⟩))
  rw [Around.under_plainId PySem.F.plain_set_new _]
  unfold Builtin.«set.__new__» Builtin.Frozenset.newClass
  have hsub := sub_set_self
  obtain ⟨hp, g, d, tk, os⟩ := s
  dsimp only
  wp_walk
  refine wpAny_askSetting (wpAny_pure ?_)
  dsimp only
  simp only [newObj]
  refine wpAny_bind (wpAny_alloc (wpAny_pure ?_))
  exact wpAny_pure h

theorem upd_list {R : Result → Shared → Prop} {I l S : Addr} {items : Array Value} {J : Nat → Heap → Prop} (hh : A.handled = none) (hne : l ≠ I) (hSI : S ≠ I) (hSl : S ≠ l)
    (hJ : ∀ i h h', J i h → (∀ b o, b ≠ I → h.get? b = some o → h'.get? b = some o) → J i h')
    (step : ∀ i v (s : Shared) (Q : Bool → Shared → Prop) (E : Value → Shared → Prop), items[i]? = some v → J i s.heap → (∀ h' tk b, Heap.SameBut S s.heap h' → J (i + 1) h' → s.toks ≤ tk → Q b { s with heap := h', toks := tk }) → wpAny (model prog w) A.in1 (setAdd S v) Q E s) :
    ∀ (k i : Nat) (s : Shared), items.size - i = k → i ≤ items.size → s.heap.IsListIter I l i → s.heap.IsList l items → J i s.heap →
      (∀ h' tk, (∀ b o, b ≠ S → b ≠ I → s.heap.get? b = some o → h'.get? b = some o) → J items.size h' → R (.ok (.ret .none)) { s with heap := h', toks := tk }) →
      codeAny (model prog w) A (.builtin "set.update.loop" ⟨[.ref S, .ref I], []⟩) R s := by
  have W := Walks.list (prog := prog) (w := w) (A := A.in1) hh I l hne items
  intro k
  induction k with
  | zero =>
    intro i s hk hi hit hl hj hR
    have hin : i = items.size := by omega
    subst hin
    refine codeAny_builtin PyProof.Rows.F.entry_set_update_loop ?_
    rw [Around.under_plainId PyProof.Rows.F.plain_set_update_loop _]
    show wpAny _ A.in1 (pyNext (.ref I) >>= _) _ _ s
    refine wpAny_bind (W.done s _ _ ⟨hit, hl⟩ fun h' tk hk => ?_)
    show wpAny _ A.in1 (ret Value.none) _ _ _
    exact wpAny_pure (hR h' tk (fun b o _ hb e => hk b o (by simpa using hb) e) (hJ _ _ _ hj fun b o hb e => hk b o (by simpa using hb) e))
  | succ k ih =>
    intro i s hk hi hit hl hj hR
    have hlt : i < items.size := by omega
    refine codeAny_builtin PyProof.Rows.F.entry_set_update_loop ?_
    rw [Around.under_plainId PyProof.Rows.F.plain_set_update_loop _]
    show wpAny _ A.in1 (pyNext (.ref I) >>= _) _ _ s
    refine wpAny_bind (W.item i s _ _ hlt ⟨hit, hl⟩ fun v h' tk hv hst hk' => ?_)
    have hj' := hJ _ _ _ hj fun b o hb e => hk' b o (by simpa using hb) e
    show wpAny _ A.in1 (holding [v] (setAdd S v) >>= _) _ _ _
    refine wpAny_bind (wpAny_holding (step i v { s with heap := h', toks := tk } _ _ hv hj' fun h'' tk'' b hs hj'' htk => ?_))
    refine wpAny_pure ⟨plainId_quiet PyProof.Rows.F.plain_set_update_loop _, ih (i + 1) { s with heap := h'', toks := tk'' } (by omega) hlt (hst.1.at fun o e => (hs.2 I hSI.symm).trans e) (hst.2.at fun o e => (hs.2 l hSl.symm).trans e) hj'' fun h3 tk3 hk3 hj3 => ?_⟩
    exact hR h3 tk3 (fun b o hb hbI e => hk3 b o hb hbI ((hs.2 b hb).trans (hk' b o (by simpa using hbI) e))) hj3
end


section
open PySem.F
variable {prog : Program} {w : World} {A : Around} {E : Value → Shared → Prop} {s : Shared}
theorem hideP {P : Prop} (k : Addr) (h : P) : (fun _ : Addr => P) k := h
theorem call_set {l : Addr} {items : Array Value} {Q : Value → Shared → Prop} {J : Nat → Heap → Prop}
    (hh : A.handled = none) (hl : s.heap.IsList l items)
    (J0 : ∀ h, h.get? s.heap.objs.size = some { cls := .type "set", dict := none, data := .set #[] 0 (.fresh 0 0 (!byTx w)) } → (∀ b o, s.heap.get? b = some o → h.get? b = some o) → J 0 h)
    (hJ : ∀ i h h', J i h → (∀ b o, b ≠ s.heap.objs.size + 1 → h.get? b = some o → h'.get? b = some o) → J i h')
    (step : ∀ (A' : Around) i v (s' : Shared) (Q : Bool → Shared → Prop) (E : Value → Shared → Prop), A'.handled = none → A'.units ≤ A.units + 10 → items[i]? = some v → J i s'.heap → (∀ h' tk b, Heap.SameBut s.heap.objs.size s'.heap h' → J (i + 1) h' → s'.toks ≤ tk → Q b { s' with heap := h', toks := tk }) → wpAny (model prog w) A' (setAdd s.heap.objs.size v) Q E s')
    (h : ∀ (h' : Heap) (tk : Nat), (∀ b o, b < s.heap.objs.size → s.heap.get? b = some o → h'.get? b = some o) → J items.size h' → Q (.ref s.heap.objs.size) { s with heap := h', toks := tk }) :
    wpAny (model prog w) A (call (.type "set") [.ref l]) Q E s := by
  obtain ⟨c, tl, hmro⟩ := F.called_set.mro
  have hmade := hideP l F.called_set.made
  have hsub := hideP l F.called_set.sub
  refine wpAny_call (codeAny_of_tree ?_)
  show wpAny _ _ (callAny (.type "set") _) _ _ _
  refine wpAny_pure ⟨Code.quiet_builtin _ (by decide +kernel), codeAny_builtin F.entry_type_call ?_⟩
  rw [Around.under_plain (weight_type_call_type "set" [.ref l] []) rfl]
  have h1 := hideP l F.called_set.notType
  have h2 := hideP l F.called_set.canCreate
  have hct := F.typeCall_set_1 (.ref l)
  repeat (any_goals (first | assumption | wp_step))
  refine codeAny_mono (set_new (.ref l) (E := E) (Q₁ := fun obj s₁ => obj = .ref s.heap.objs.size ∧ s₁ = { s with heap := s.heap.push { cls := .type "set", dict := none, data := .set #[] 0 (.fresh 0 0 (!byTx w)) } }) ⟨rfl, rfl⟩) fun r s₁ hr => ?_
  cases r with
  | error e => exact hr
  | ok fl =>
    cases fl with
    | ret obj =>
      obtain ⟨rfl, rfl⟩ := hr
      have hS : (s.heap.push { cls := .type "set", dict := none, data := .set #[] 0 (.fresh 0 0 (!byTx w)) }).get? s.heap.objs.size = some { cls := .type "set", dict := none, data := .set #[] 0 (.fresh 0 0 (!byTx w)) } := Heap.get?_push_size _ rfl
      have hT : Shared.TypeIs { s with heap := s.heap.push { cls := .type "set", dict := none, data := .set #[] 0 (.fresh 0 0 (!byTx w)) } } (.ref s.heap.objs.size) "set" := ⟨_, hS, rfl⟩
      have hli := hideP l F.called_set.init.lookup
      have hbi := F.called_set.init.bind (.ref s.heap.objs.size)
      repeat (any_goals (first | assumption | wp_step))
      refine codeAny_mono (codeAny_call_builtin (R := wants (fun r s₂ => r = .none ∧ ∃ h' tk, s₂ = { s with heap := h', toks := tk } ∧
          J items.size h' ∧
          (∀ b o, b < s.heap.objs.size → s.heap.get? b = some o → h'.get? b = some o)) E) F.called_set.init.plain F.entry_set_init (check_set_init_1 hT ?_)) fun r₂ s₂ hr₂ => ?_
      · obtain ⟨ol, hol, hcl, nl, hdl⟩ := hl
        obtain ⟨ocls, odict, odata, oslots⟩ := ol
        simp only at hcl hdl
        subst hcl; subst hdl
        have hol' : (s.heap.push { cls := .type "set", dict := none, data := .set #[] 0 (.fresh 0 0 (!byTx w)) }).get? l = some { cls := .type "list", dict := odict, data := .seq items nl, slots := oslots } := Heap.get?_push_of_some _ hol
        have hsls := hideP l F.sub_list_set
        have hslf := hideP l F.sub_list_frozenset
        have hne : (Value.type "list" == Value.type "dict") = false := by decide
        have hl1 : (s.heap.push { cls := .type "set", dict := none, data := .set #[] 0 (.fresh 0 0 (!byTx w)) }).IsList l items := ⟨_, hol', rfl, nl, rfl⟩
        unfold Builtin.«set.__init__» noKeywords Builtin.Frozenset.updateFrom
        generalize hPI : pyIter = PI
        wp_walk
        subst hPI
        refine wpAny_pyIter_list hl1 ?_
        refine wpAny_bind (wpAny_runValue ?_)
        have hlS : l < s.heap.objs.size := Heap.lt_size hol
        have hIs : (s.heap.push { cls := .type "set", dict := none, data := .set #[] 0 (.fresh 0 0 (!byTx w)) }).objs.size = s.heap.objs.size + 1 := Heap.size_push ..
        refine upd_list (I := (s.heap.push { cls := .type "set", dict := none, data := .set #[] 0 (.fresh 0 0 (!byTx w)) }).objs.size) (l := l) (items := items) (J := J) (by simp [hh]) (by rw [hIs]; exact Nat.ne_of_lt (Nat.lt_succ_of_lt hlS))
          (by rw [hIs]; exact Nat.ne_of_lt (Nat.lt_succ_self _)) (Nat.ne_of_gt hlS) (by rw [hIs]; exact hJ) (fun i v s' Q E a b c => step _ i v s' Q E (by simp [hh]) (by simp [Nat.add_assoc]) a b c) (items.size - 0) 0 _ (by omega) (Nat.zero_le _)
          ⟨_, Heap.get?_push_size _ rfl, rfl, rfl⟩ (hl1.push _) (J0 _ (Heap.get?_push_of_some _ hS) fun b o e => Heap.get?_push_of_some _ (Heap.get?_push_of_some _ e)) ?_
        intro h' tk hk' hj
        show wpAny _ _ _ _ _ _
        refine wpAny_pure ?_
        show wpAny _ _ (ret Value.none) _ _ _
        refine wpAny_pure ⟨rfl, h', tk, rfl, hj, fun b o hb e => ?_⟩
        exact hk' b o (Nat.ne_of_lt hb) (by rw [hIs]; exact Nat.ne_of_lt (Nat.lt_succ_of_lt hb)) (Heap.get?_push_of_some _ (Heap.get?_push_of_some _ e))
      · cases r₂ with
        | error e => exact hr₂
        | ok fl₂ =>
          cases fl₂ with
          | ret r =>
            obtain ⟨rfl, h', tk, rfl, hS', hk'⟩ := hr₂
            repeat (any_goals (first | assumption | wp_step))
            exact h _ _ hk' hS'
          | _ => exact hr₂.elim
    | _ => exact hr.elim
end


def cd (p : Int × Int) : Int := p.1 * 2 ^ 256 + p.2
def TupAt (h : Heap) (v : Value) (p : Int × Int) : Prop := ∃ ad t u, v = .ref ad ∧ h.IsTuple ad #[.int p.1 t, .int p.2 u]
def Low (p : Int × Int) : Prop := 0 ≤ p.2 ∧ p.2 < 2 ^ 256
theorem TupAt.keeps {h h' : Heap} {v : Value} {p : Int × Int} (k : ∀ b o, h.get? b = some o → h'.get? b = some o) (x : TupAt h v p) : TupAt h' v p := by
  obtain ⟨ad, t, u, e, o, ho, r⟩ := x
  exact ⟨ad, t, u, e, o, k _ _ ho, r⟩
theorem cd_lt {p q : Int × Int} (hp : Low p) (hq : Low q) : cd p < cd q ↔ p.1 < q.1 ∨ (p.1 = q.1 ∧ p.2 < q.2) := by
  unfold cd Low at *
  omega
theorem cd_inj {p q : Int × Int} (hp : Low p) (hq : Low q) (e : cd p = cd q) : p = q := by
  unfold cd Low at *
  refine Prod.ext ?_ ?_ <;> omega
section
variable {prog : Program} {w : World} {A : Around} {E : Value → Shared → Prop} {s : Shared}
theorem sortedHeap_keeps {h : Heap} {a : Addr} {vs : List Value} {out : Array Value} (ha : a < h.objs.size) (b : Addr) (o : Obj) (hb : @Ne Nat b a) (e : h.get? b = some o) : (sortedHeap h a vs out).get? b = some o := by
  unfold sortedHeap
  rw [(Heap.SameBut.update _ a _).2 b hb]
  exact Heap.get?_push_of_some _ (Heap.get?_push_of_some _ (((Heap.SameBut.update h a _).2 b hb).trans e))
theorem sortedHeap_list {h : Heap} {a : Addr} {vs : List Value} {n : Nat} {out : Array Value} (ho : h.get? a = some (seqObj "list" vs.toArray n)) : (sortedHeap h a vs out).IsList a out := by
  have ho1 := get?_update_seq ho (fun _ => (#[] : Array Value))
  unfold sortedHeap
  exact ⟨_, get?_update_seq (Heap.get?_push_of_some (seqObj "list" #[] 0) (Heap.get?_push_of_some (seqObj "tuple" vs.toArray 0) ho1)) fun _ => out, rfl, _, rfl⟩
theorem kt_of {h : Heap} {f : Nat → Int × Int} : ∀ (vs : List Value) (k : Nat), (∀ i v, vs[i]? = some v → TupAt h v (f (k + i))) → ∃ fs, KatTups h vs fs ∧ fs.length = vs.length ∧ ∀ v ∈ fs, ∃ i t, v = .int i t
  | [], _, _ => ⟨[], trivial, rfl, fun _ h => nomatch h⟩
  | v :: vs, k, H => by
    obtain ⟨fs, a, b, c⟩ := kt_of vs (k + 1) fun i v e => by
      have := H (i + 1) v (by simpa using e)
      rwa [show k + (i + 1) = k + 1 + i by omega] at this
    obtain ⟨ad, t, u, rfl, o, ho, hc, n, hd⟩ := H 0 v rfl
    exact ⟨_ :: fs, KatTups.cons ho hc hd (by rfl) a, by simp [b], fun v hv => by
      rcases List.mem_cons.mp hv with rfl | hv
      · exact ⟨_, _, rfl⟩
      · exact c v hv⟩
theorem lt_tups {v v' : Value} {p q : Int × Int} {Q : Bool → Shared → Prop} (hv : TupAt s.heap v p) (hv' : TupAt s.heap v' q) (hp : Low p) (hq : Low q) (h : Q (decide (cd p < cd q)) s) : wpAny (model prog w) A (keyLt' (tuples' true) v v') Q E s := by
  obtain ⟨ad, t, u, rfl, o, ho, hc, n, hd⟩ := hv
  obtain ⟨ad', t', u', rfl, o', ho', hc', n', hd'⟩ := hv'
  refine kat_lt ho hd ho' hd' ?_
  show KatLex prog w A true (decide (2 < 2)) Q [(.int p.1 t, .int q.1 t'), (.int p.2 u, .int q.2 u')] 0 s
  have eqi : ∀ (a b : Int) (t u : Tok) (Q : Bool → Shared → Prop) (E : Value → Shared → Prop), Q (a == b) s → wpAny (model prog w) A (eqBool (.int a t) (.int b u)) Q E s := fun a b t u Q E hQ => SeqAt.EqAt.int_int (A := A) (s := s) a t b u prog w E Q hQ
  refine kat_cons (eqi _ _ _ _ _ _ ?_)
  by_cases e1 : p.1 = q.1
  · rw [show (p.1 == q.1) = true by simpa using e1]
    refine kat_yes (kat_cons (eqi _ _ _ _ _ _ ?_))
    by_cases e2 : p.2 = q.2
    · rw [show (p.2 == q.2) = true by simpa using e2]
      refine kat_yes (kat_nil ?_)
      have : p = q := Prod.ext e1 e2
      subst this
      simpa using h
    · rw [show (p.2 == q.2) = false by simpa using e2]
      refine kat_no ?_
      refine kat_one _ _ (wpAny_lt_int ?_)
      show Q _ s
      have : (cd p < cd q) ↔ (p.2 < q.2) := by rw [cd_lt hp hq]; constructor
                                               · rintro (a | a)
                                                 · omega
                                                 · exact a.2
                                               · exact fun a => .inr ⟨e1, a⟩
      rwa [decide_eq_decide.mpr this] at h
  · rw [show (p.1 == q.1) = false by simpa using e1]
    refine kat_no ?_
    refine oneLt_int ?_
    have : (cd p < cd q) ↔ (p.1 < q.1) := by rw [cd_lt hp hq]; constructor
                                             · rintro (a | a)
                                               · exact a
                                               · exact absurd a.1 e1
                                             · exact fun a => .inl a
    rwa [decide_eq_decide.mpr this] at h
theorem list_sort_tups {a : Addr} {vs : List Value} {f : Nat → Int × Int} {n : Nat} {P : PySem.Fin → Shared → Prop} (ho : s.heap.get? a = some (seqObj "list" vs.toArray n))
    (hT : ∀ i v, vs[i]? = some v → TupAt s.heap v (f i)) (hr : ∀ i, i < vs.length → Low (f i)) (h64 : vs.length < 64)
    (h : ∀ (idx : List Nat), idx.Perm (List.range vs.length) → (idx.map fun i => cd (f i)).Pairwise (· ≤ ·) → P (.done (.ret .none)) { s with heap := sortedHeap s.heap a vs (idx.map fun i => vs.getD i Value.none).toArray }) :
    wpAny (model prog w) A (Builtin.«list.sort» ⟨[.ref a], []⟩) P E s := by
  rw [list_sort_plain]
  have ha : a < s.heap.objs.size := Heap.lt_size ho
  refine wpAny_bind (listItems_at ho rfl ?_)
  refine wpAny_bind (listUpdate_at ho rfl ?_ (by rw [List.size_toArray, sizeLine_eq]; omega) (Nat.zero_le _))
  obtain ⟨e1, ho1⟩ : ∃ e1, (s.heap.update a (Obj.mapSeq fun _ => (#[] : Array Value))).get? a = some (seqObj "list" #[] e1) := ⟨_, get?_update_seq ho (fun _ => #[])⟩
  refine wpAny_bind (seqEpoch_at ho1 rfl ?_)
  refine wpAny_bind (wpAny_newTuple ?_ (by show vs.length ≤ _; rw [sizeLine_eq]; omega))
  refine wpAny_bind (wpAny_newList ?_ (Nat.zero_le _))
  refine wpAny_holding ?_
  have ho6 : (((s.heap.update a (Obj.mapSeq fun _ => (#[] : Array Value))).push (seqObj "tuple" vs.toArray 0)).push (seqObj "list" #[] 0)).get? a = some (seqObj "list" #[] e1) := Heap.get?_push_of_some _ (Heap.get?_push_of_some _ ho1)
  show wpAny (model prog w) A _ P E { s with heap := ((s.heap.update a (Obj.mapSeq fun _ => #[])).push (seqObj "tuple" vs.toArray 0)).push (seqObj "list" #[] 0) }
  dsimp only
  have hsz : vs.toArray.size = vs.length := by simp
  have hrng : (List.range vs.length).toArray.map (kas_item (vs.toArray.zip vs.toArray)) = vs.toArray.zip vs.toArray := by
    have e := kas_range (vs.toArray.zip vs.toArray)
    rwa [show (vs.toArray.zip vs.toArray).size = vs.length by simp] at e
  have fin : ∀ (st' : SortSt) (idx : Array Nat), arrOf st' = idx.map (kas_item (vs.toArray.zip vs.toArray)) → idx.toList.Perm (List.range vs.length) → (idx.toList.map fun i => cd (f i)).Pairwise (· ≤ ·) →
      P (.done (.ret .none)) { s with heap := sortedHeap s.heap a vs ((arrOf st').map (·.2)) } := fun st' idx e1 e2 e3 => by
    rw [kat_snds rfl e1]
    exact h idx.toList e2 e3
  by_cases h2 : vs.toArray.size < 2
  · rw [if_pos h2, if_pos h2]
    refine wpAny_bind (wpAny_pure ?_)
    rw [StateT.run_pure]
    refine wpAny_bind (wpAny_pure ?_)
    dsimp only
    refine wpAny_bind (seqEpoch_at ho6 rfl ?_)
    have ear : arrOf (SortSt.mk' general' (vs.toArray.zip vs.toArray) #[] 7 none) = (List.range vs.length).toArray.map (kas_item (vs.toArray.zip vs.toArray)) := by rw [hrng]
    refine wpAny_bind (listUpdate_at ho6 rfl ?_ (Nat.zero_le _) (hsz2 := by rw [Array.size_map, ear, Array.size_map, List.size_toArray, List.length_range, sizeLine_eq]; omega))
    simp only [bne_self_eq_false, Bool.false_eq_true, if_false]
    refine wpAny_pure (fin _ _ ear (List.Perm.refl _) ?_)
    have h3 : vs.length ≤ 1 := by omega
    show ((List.range vs.length).map fun i => cd (f i)).Pairwise (· ≤ ·)
    rcases (show vs.length = 0 ∨ vs.length = 1 by omega) with e | e <;> rw [e] <;> simp
  · rw [if_neg h2, if_neg h2]
    have h2' : 2 ≤ vs.length := by omega
    have hk6 : ∀ b o, @Ne Nat b a → s.heap.get? b = some o → (((s.heap.update a (Obj.mapSeq fun _ => (#[] : Array Value))).push (seqObj "tuple" vs.toArray 0)).push (seqObj "list" #[] 0)).get? b = some o := fun b o hb e =>
      Heap.get?_push_of_some _ (Heap.get?_push_of_some _ (((Heap.SameBut.update s.heap a _).2 b hb).trans e))
    have hT6 : ∀ i v, vs[i]? = some v → TupAt (((s.heap.update a (Obj.mapSeq fun _ => (#[] : Array Value))).push (seqObj "tuple" vs.toArray 0)).push (seqObj "list" #[] 0)) v (f i) := fun i v e => by
      obtain ⟨ad, t, u, rfl, o, hoa, hc, r⟩ := hT i v e
      refine ⟨ad, t, u, rfl, o, hk6 _ _ (fun e' => ?_) hoa, hc, r⟩
      rw [e'] at hoa
      rw [ho] at hoa
      cases Option.some.inj hoa
      exact absurd hc (by simp [seqObj])
    obtain ⟨fs, kt, hfl, hfi⟩ := kt_of (f := f) vs 0 fun i v e => by rw [Nat.zero_add]; exact hT6 i v e
    refine wpAny_bind (kat_kind (T := .type "int") kt (by omega) (fun v hv => by obtain ⟨i, t, rfl⟩ := hfi v hv; exact .now) (by decide) ?_)
    rw [show ((Value.type "int" != Value.type "tuple") = true) by decide]
    have hn : 1 ≤ vs.length := by omega
    refine wpAny_bind (wpAny_mono (kat_run (κ := tuples' true) (ks := vs) (vs := vs) (Q := fun st' s' => s' = { s with heap := ((s.heap.update a (Obj.mapSeq fun _ => (#[] : Array Value))).push (seqObj "tuple" vs.toArray 0)).push (seqObj "list" #[] 0) } ∧
        ∃ p : Array Nat, arrOf st' = p.map (kas_item (vs.toArray.zip vs.toArray)) ∧ failedOf st' = none ∧ Pn vs.length p ∧ Rise (fun i => cd (f i)) p vs.length)
      (G := fun p s' => s' = { s with heap := ((s.heap.update a (Obj.mapSeq fun _ => (#[] : Array Value))).push (seqObj "tuple" vs.toArray 0)).push (seqObj "list" #[] 0) } ∧ Pn vs.length p ∧ Rise (fun i => cd (f i)) p vs.length)
      rfl h2' h64 (fun p st' s' a1 a2 a3 a4 => ⟨a4.1, p, a2, a3, a4.2⟩)
      (okT_run (z := fun i => cd (f i)) (n := vs.length) (fun i j C hi hj hC => ?_) _ (okT_mono (fun p hp => ⟨rfl, hp⟩) _ (ok_sort hn)))) ?_ fun _ _ e => e)
    · have g : ∀ k, k < vs.length → vs[k]? = some (vs.getD k Value.none) := fun k hk => by simp [List.getD, List.getElem?_eq_getElem hk]
      show wpAny _ _ (keyLt' (tuples' true) _ _) _ _ _
      exact lt_tups (hT6 i _ (g i hi)) (hT6 j _ (g j hj)) (hr i hi) (hr j hj) hC
    · rintro ⟨⟨⟩, st'⟩ s' ⟨rfl, p, har, hf, hp, hs⟩
      dsimp only
      refine wpAny_bind (seqEpoch_at ho6 rfl ?_)
      refine wpAny_bind (listUpdate_at ho6 rfl ?_ (Nat.zero_le _) (hsz2 := by rw [Array.size_map, har, Array.size_map, hp.size, sizeLine_eq]; omega))
      rw [hf]
      simp only [bne_self_eq_false, Bool.false_eq_true, if_false]
      have so := sort_out (f := f) (g := cd) (z := fun i => cd (f i)) (fun _ _ => rfl) hp hs
      exact wpAny_pure (fin st' p har hp (by simpa [List.map_map, Function.comp_def] using so.2))
end


section
variable {prog : Program} {w : World} {A : Around} {E : Value → Shared → Prop} {s : Shared}
theorem sortedK {T : String} {r d : Addr} {n : Nat} {P : Nat → Value → Prop} {OK : Heap → Prop} {Q : Value → Shared → Prop} (K : KdlSrc prog w T r d n P OK) (hh : A.handled = none) (hok : OK s.heap) (hn : n ≤ sizeLine)
    (h : ∀ D h' tk (vs : List Value), (∀ b o, s.heap.get? b = some o → h'.get? b = some o) → s.heap.objs.size ≤ D → h'.get? D = some (seqObj "list" vs.toArray 0) → vs.length = n → (∀ j v, vs[j]? = some v → P j v) →
      wpAny (model prog w) A.in1 (call (.builtin "list.sort") [.ref D]) (fun _ s' => Q (.ref D) s') E { s with heap := h', toks := tk }) :
    wpAny (model prog w) A (call (.builtin "sorted") [.ref r]) Q E s := by
  refine Calls.call_function_entry kind_sorted plain_sorted entry_sorted (args_sorted1 _) ?_
  unfold Builtin.«sorted»
  refine wpAny_bind (m := checkCount "sorted" 1 1 _) (wpAny_pure ?_)
  refine wpAny_bind (collectK (A := A.in1) K (by simp [hh]) hok hn fun h' tk acc hk hlt hsz hacc => ?_)
  have hl : acc.toList.length = n := by rw [Array.length_toList]; exact hsz
  refine wpAny_bind (wpAny_newList ?_ (by rw [hl]; exact hn))
  have hg := h h'.objs.size (h'.push (seqObj "list" acc.toList.toArray 0)) tk acc.toList (fun b o e => Heap.get?_push_of_some _ (hk b o e)) (Nat.le_of_lt hlt) (Heap.get?_push_size _ rfl) hl (fun j v e => hacc j v (by rw [← Array.getElem?_toList]; exact e))
  refine wpAny_bind (wpAny_holding (wpAny_mono hg (fun _ s' x => ?_) fun _ _ e => e))
  exact wpAny_pure ⟨_, rfl, x⟩
theorem sortedI {T : String} {r d : Addr} {n : Nat} {P : Nat → Value → Prop} {OK : Heap → Prop} {Q : Value → Shared → Prop} (K : KdlSrc prog w T r d n P OK) (hh : A.handled = none) (hok : OK s.heap) (h64 : n < 64)
    {z : Nat → Int} (hv : ∀ i v, P i v → ∃ t, v = .int (z i) t)
    (h : ∀ D h' tk (out : Array Value) (q : List Int), (∀ b o, s.heap.get? b = some o → h'.get? b = some o) → s.heap.objs.size ≤ D → h'.IsList D out → IntsAre out.toList q → q.Perm ((List.range n).map z) → q.Pairwise (· ≤ ·) → Q (.ref D) { s with heap := h', toks := tk }) :
    wpAny (model prog w) A (call (.builtin "sorted") [.ref r]) Q E s := by
  refine sortedK K hh hok (by rw [sizeLine_eq]; omega) fun D h' tk vs hk hD ho hl hp => ?_
  have hI : ∀ (vs : List Value) (k : Nat), (∀ j v, vs[j]? = some v → P (k + j) v) → IntsAre vs ((List.range vs.length).map fun i => z (k + i)) := by
    intro vs
    induction vs with
    | nil => intro k _; exact .nil
    | cons v vs ih =>
      intro k hp
      obtain ⟨t, rfl⟩ := hv _ _ (hp 0 v rfl)
      have e := ih (k + 1) fun j v e => by
        have := hp (j + 1) v (by simpa using e)
        rwa [show k + (j + 1) = k + 1 + j by omega] at this
      rw [List.length_cons, List.range_succ_eq_map, List.map_cons, List.map_map]
      have e2 : ((fun i => z (k + i)) ∘ Nat.succ) = fun i => z (k + 1 + i) := by funext i; show z (k + (i + 1)) = _; rw [show k + (i + 1) = k + 1 + i by omega]
      rw [e2]
      exact .cons _ t e
  have hI0 : IntsAre vs ((List.range n).map z) := by
    have := hI vs 0 fun j v e => by rw [Nat.zero_add]; exact hp j v e
    rw [hl] at this
    simpa using this
  have hDs : D < h'.objs.size := Heap.lt_size ho
  refine wpAny_call_entry slot_list_sort ⟨_, ho, rfl⟩ entry_list_sort (list_sort_tree (n := 0) (vs := vs) (s := { s with heap := h', toks := tk }) ho hI0 (by omega) fun out ns' hO hpm hpw => ⟨.none, rfl, ?_⟩) (args_list_sort _)
  exact h D _ tk out ns' (fun b o e => sortedHeap_keeps hDs b o (Nat.ne_of_lt (Nat.lt_of_lt_of_le (Heap.lt_size e) hD)) (hk b o e)) hD (sortedHeap_list ho) hO hpm hpw
theorem sortedT {T : String} {r d : Addr} {n : Nat} {P : Nat → Value → Prop} {OK : Heap → Prop} {Q : Value → Shared → Prop} (K : KdlSrc prog w T r d n P OK) (hh : A.handled = none) (hok : OK s.heap) (h64 : n < 64)
    {f : Nat → Int × Int} (hr : ∀ i, i < n → Low (f i)) (hv : ∀ i v, P i v → TupAt s.heap v (f i))
    (h : ∀ D h' tk (out : Array Value) (idx : List Nat), (∀ b o, s.heap.get? b = some o → h'.get? b = some o) → s.heap.objs.size ≤ D → h'.IsList D out → Paired (TupAt s.heap) out.toList (idx.map f) → idx.Perm (List.range n) → (idx.map fun i => cd (f i)).Pairwise (· ≤ ·) → Q (.ref D) { s with heap := h', toks := tk }) :
    wpAny (model prog w) A (call (.builtin "sorted") [.ref r]) Q E s := by
  refine sortedK K hh hok (by rw [sizeLine_eq]; omega) fun D h' tk vs hk hD ho hl hp => ?_
  have hDs : D < h'.objs.size := Heap.lt_size ho
  refine wpAny_call_entry slot_list_sort ⟨_, ho, rfl⟩ entry_list_sort (list_sort_tups (n := 0) (vs := vs) (f := f) (s := { s with heap := h', toks := tk }) ho (fun i v e => (hv i v (hp i v e)).keeps hk) (fun i hi => hr i (by omega)) (by omega) fun idx hpm hpw => ⟨.none, rfl, ?_⟩) (args_list_sort _)
  refine h D _ tk _ idx (fun b o e => sortedHeap_keeps hDs b o (Nat.ne_of_lt (Nat.lt_of_lt_of_le (Heap.lt_size e) hD)) (hk b o e)) hD (sortedHeap_list ho) ?_ (by rw [← hl]; exact hpm) hpw
  have hm : ∀ i, i ∈ idx → i < vs.length := fun i hi => List.mem_range.mp (hpm.mem_iff.mp hi)
  have key : ∀ l : List Nat, (∀ i, i ∈ l → i < vs.length) → Paired (TupAt s.heap) (l.map fun i => vs.getD i Value.none) (l.map f) := by
    intro l
    induction l with
    | nil => intro _; exact .nil
    | cons i l ih =>
      intro hm
      have hi := hm i (.head _)
      exact .cons (hv i _ (hp i _ (by simp [List.getD, List.getElem?_eq_getElem hi]))) (ih fun j hj => hm j (.tail _ hj))
  exact key idx hm
end


/-- the set's elements are just those of L -/
structure Elems {α : Type} (El : Value → α → Prop) (hs : α → Int) (Z : List (Nat × Int × Value)) (L : List α) : Prop where
  from_ : ∀ e ∈ Z.map (·.2), ∃ a ∈ L, e.1 = hs a ∧ El e.2 a
  has : ∀ a ∈ L, ∃ e ∈ Z.map (·.2), El e.2 a
  one : (Z.map (·.2)).Pairwise fun e e' => ∀ a, El e.2 a → ¬ El e'.2 a
theorem elems_old {α : Type} {El : Value → α → Prop} {hs : α → Int} {Z : List (Nat × Int × Value)} {L : List α} {a : α} (X : Elems El hs Z L) (h : ∃ e ∈ Z.map (·.2), El e.2 a) : Elems El hs Z (L ++ [a]) :=
  ⟨fun e he => let ⟨b, hb, r⟩ := X.from_ e he; ⟨b, List.mem_append_left _ hb, r⟩, fun b hb => by
    rcases List.mem_append.mp hb with hb | hb
    · exact X.has b hb
    · rw [List.mem_singleton.mp hb]; exact h, X.one⟩
theorem elems_new {α : Type} {El : Value → α → Prop} {hs : α → Int} {Z Z' : List (Nat × Int × Value)} {L : List α} {a : α} {v : Value} (X : Elems El hs Z L) (uniq : ∀ v a b, El v a → El v b → a = b) (hv : El v a)
    (hp : (Z'.map (·.2)).Perm ((hs a, v) :: Z.map (·.2))) (h : ∀ e ∈ Z.map (·.2), ¬ El e.2 a) : Elems El hs Z' (L ++ [a]) where
  from_ := fun e he => by
    rcases List.mem_cons.mp (hp.mem_iff.mp he) with rfl | he
    · exact ⟨a, by simp, rfl, hv⟩
    · obtain ⟨b, hb, r⟩ := X.from_ e he
      exact ⟨b, List.mem_append_left _ hb, r⟩
  has := fun b hb => by
    rcases List.mem_append.mp hb with hb | hb
    · obtain ⟨e, he, r⟩ := X.has b hb
      exact ⟨e, hp.mem_iff.mpr (.tail _ he), r⟩
    · rw [List.mem_singleton.mp hb]
      exact ⟨_, hp.mem_iff.mpr (.head _), hv⟩
  one := by
    refine (hp.pairwise_iff (fun {x y} hxy a ha hb => hxy a hb ha)).mpr (List.pairwise_cons.mpr ⟨fun e he b hb hb' => ?_, X.one⟩)
    rw [uniq v b a hb hv] at hb'
    exact h e he hb'
/-- the list that a set's order gives, by what it stands for -/
theorem elems_list {α : Type} [Inhabited α] {El : Value → α → Prop} {hs : α → Int} {Z : List (Nat × Int × Value)} {L : List α} (X : Elems El hs Z L) (uniq : ∀ v a b, El v a → El v b → a = b) {es : Array (Int × Value)} (hes : es.toList.Perm (Z.map (·.2))) :
    ∃ f : Nat → α, (∀ j e, es[j]? = some e → El e.2 (f j)) ∧ (∀ a, a ∈ (List.range es.size).map f ↔ a ∈ L) ∧ ((List.range es.size).map f).Nodup := by
  have hh : ∀ j : Nat, ∃ a, ∀ e : Int × Value, es[j]? = some e → El e.2 a ∧ a ∈ L := fun j => by
    cases h : es[j]? with
    | none => exact ⟨default, fun e h => nomatch h⟩
    | some e =>
      have he : e ∈ es.toList := List.mem_of_getElem? (by rw [Array.getElem?_toList]; exact h)
      obtain ⟨a, ha, _, r⟩ := X.from_ e (hes.mem_iff.mp he)
      exact ⟨a, fun e' h' => by cases h'; exact ⟨r, ha⟩⟩
  refine ⟨fun j => Classical.choose (hh j), fun j e h => (Classical.choose_spec (hh j) e h).1, fun a => ?_, ?_⟩
  · constructor
    · intro h
      obtain ⟨j, hj, rfl⟩ := List.mem_map.mp h
      have hj' := List.mem_range.mp hj
      exact (Classical.choose_spec (hh j) _ (Array.getElem?_eq_getElem hj')).2
    · intro h
      obtain ⟨e, he, r⟩ := X.has a h
      obtain ⟨j, hj⟩ := List.mem_iff_getElem?.mp (hes.mem_iff.mpr he)
      rw [Array.getElem?_toList] at hj
      have hjs : j < es.size := (Array.getElem?_eq_some_iff.mp hj).1
      exact List.mem_map.mpr ⟨j, List.mem_range.mpr hjs, uniq _ _ _ (Classical.choose_spec (hh j) _ hj).1 r⟩
  · have one : es.toList.Pairwise fun e e' => ∀ a, El e.2 a → ¬ El e'.2 a := (hes.pairwise_iff (fun {x y} hxy a ha hb => hxy a hb ha)).mpr X.one
    rw [List.pairwise_iff_getElem] at one
    unfold List.Nodup
    rw [List.pairwise_map, List.pairwise_iff_getElem]
    intro i j hi hj hij
    simp only [List.length_range] at hi hj
    simp only [List.getElem_range]
    intro e
    have g : ∀ k (hk : k < es.size), es[k]? = some (es.toList[k]'(by simpa using hk)) := fun k hk => by simp [Array.getElem?_eq_getElem hk]
    have h1 := (Classical.choose_spec (hh i) _ (g i hi)).1
    have h2 := (Classical.choose_spec (hh j) _ (g j hj)).1
    rw [e] at h1
    exact one i j (by simpa using hi) (by simpa using hj) hij _ h1 h2
section
variable {w : World} {A : Around} {E : Value → Shared → Prop} {s : Shared} {prog : Program}
theorem set_of {α : Type} {El : Value → α → Prop} {hs : α → Int} {l : Addr} {items : Array Value} {L : List α} {Q : Value → Shared → Prop} (uniq : ∀ v a b, El v a → El v b → a = b)
    (hh : A.handled = none) (hl : s.heap.IsList l items) (hL : Paired El items.toList L) (h12 : items.size ≤ 12)
    (add : ∀ (A' : Around) (v : Value) (a : α) (s' : Shared) (es : Array (Int × Value)) (ep : Nat) (t : SetTable) (Z : List (Nat × Int × Value)) (Q : Bool → Shared → Prop) (E : Value → Shared → Prop), A'.handled = none → A'.units ≤ A.units + 10 → El v a →
      (∀ b o, b < s.heap.objs.size → s.heap.get? b = some o → s'.heap.get? b = some o) → SetAt w s'.heap s.heap.objs.size es ep t Z → Z.length * 5 < t.mask * 3 → Z.length ≤ 12 → (∀ e ∈ Z.map (·.2), ∃ b, e.1 = hs b ∧ El e.2 b) →
      (∀ tk, s'.toks ≤ tk → (∃ e ∈ Z.map (·.2), El e.2 a) → Q false { s' with toks := tk }) →
      (∀ tk h' es' ep' t' Z', s'.toks ≤ tk → Heap.SameBut s.heap.objs.size s'.heap h' → SetAt w h' s.heap.objs.size es' ep' t' Z' → Z'.length * 5 < t'.mask * 3 → (Z'.map (·.2)).Perm ((hs a, v) :: Z.map (·.2)) → (∀ e ∈ Z.map (·.2), ¬ El e.2 a) → Q true { s' with heap := h', toks := tk }) →
      wpAny (model prog w) A' (setAdd s.heap.objs.size v) Q E s')
    (h : ∀ (h' : Heap) (tk : Nat) es ep t Z, (∀ b o, b < s.heap.objs.size → s.heap.get? b = some o → h'.get? b = some o) → SetAt w h' s.heap.objs.size es ep t Z → Elems El hs Z L → Z.length ≤ items.size → Q (.ref s.heap.objs.size) { s with heap := h', toks := tk }) :
    wpAny (model prog w) A (call (.type "set") [.ref l]) Q E s := by
  refine call_set (J := fun i h => (∀ b o, b < s.heap.objs.size → s.heap.get? b = some o → h.get? b = some o) ∧ ∃ es ep t Z, SetAt w h s.heap.objs.size es ep t Z ∧ Z.length * 5 < t.mask * 3 ∧ Z.length ≤ i ∧ Elems El hs Z (L.take i)) hh hl
    (fun h hS hk => ⟨fun b o _ e => hk b o e, #[], 0, .fresh 0 0 (!byTx w), [], ⟨_, hS, ⟨rfl, rfl, rfl⟩, rfl, ?T0, rfl, rfl⟩, (by show 0 * 5 < 7 * 3; decide), Nat.le_refl _, ⟨fun e he => (nomatch he), fun a ha => by simp at ha, .nil⟩⟩)
    (fun i h h' hj hk => ?_) (fun A' i v s' Q' E' hA hu hv hj hq => ?_) fun h' tk hk hj => ?_
  case T0 => exact ⟨.inl rfl, rfl, rfl, .nil, rfl, fun z hz => (nomatch hz), fun z hz => (nomatch hz), Nat.zero_le _⟩
  · obtain ⟨k0, es, ep, t, Z, x, r⟩ := hj
    exact ⟨fun b o hb e => hk b o (Nat.ne_of_lt (Nat.lt_succ_of_lt hb)) (k0 b o hb e), es, ep, t, Z, x.at' fun o e => hk _ o (Nat.ne_of_lt (Nat.lt_succ_self _)) e, r⟩
  · obtain ⟨k0, es, ep, t, Z, x, hroom, hlen, X⟩ := hj
    have hi : i < items.size := (Array.getElem?_eq_some_iff.mp hv).1
    obtain ⟨a, ha, hEl⟩ := paired_get hL (by rw [Array.getElem?_toList]; exact hv)
    have htake : L.take (i + 1) = L.take i ++ [a] := by
      have hiL : i < L.length := by rw [← paired_len hL, Array.length_toList]; exact hi
      rw [List.take_add_one, ha]; rfl
    refine add A' v a s' es ep t Z Q' E' hA hu hEl k0 x hroom (by omega) (fun e he => let ⟨b, _, r⟩ := X.from_ e he; ⟨b, r⟩) (fun tk htk ho => ?_) fun tk h' es' ep' t' Z' htk hs' x' hroom' hp hn => ?_
    · have := hq s'.heap tk false ⟨rfl, fun b _ => rfl⟩ ⟨k0, es, ep, t, Z, x, hroom, by omega, by rw [htake]; exact elems_old X ho⟩ htk
      exact this
    · refine hq h' tk true hs' ⟨fun b o hb e => (hs'.2 b (Nat.ne_of_lt hb)).trans (k0 b o hb e), es', ep', t', Z', x', hroom', ?_, by rw [htake]; exact elems_new X uniq hEl hp hn⟩ htk
      have := hp.length_eq
      simp only [List.length_map, List.length_cons] at this
      omega
  · obtain ⟨k0, es, ep, t, Z, x, _, hlen, X⟩ := hj
    have e : L.take items.size = L := List.take_of_length_le (by rw [← paired_len hL, Array.length_toList]; exact Nat.le_refl _)
    rw [e] at X
    exact h h' tk es ep t Z k0 x X hlen
end


section
variable {prog : Program} {w : World} {A : Around} {E : Value → Shared → Prop} {s : Shared}
def ElI (v : Value) (k : Int) : Prop := ∃ t, v = .int k t
theorem elI_uniq : ∀ (v : Value) (a b : Int), ElI v a → ElI v b → a = b := fun _ _ _ ⟨_, e⟩ ⟨_, e'⟩ => by rw [e] at e'; injection e'
theorem ints_paired : ∀ {vs : List Value} {ns : List Int}, IntsAre vs ns → Paired ElI vs ns := by
  intro vs ns h
  induction h with
  | nil => exact .nil
  | cons _ t _ ih => exact .cons ⟨t, rfl⟩ ih
theorem set_ints {l : Addr} {items : Array Value} {ns : List Int} {Q : Value → Shared → Prop} (hh : A.handled = none) (hl : s.heap.IsList l items) (hi : IntsAre items.toList ns) (h12 : items.size ≤ 12)
    (h : ∀ (h' : Heap) (tk : Nat) es ep t Z, (∀ b o, b < s.heap.objs.size → s.heap.get? b = some o → h'.get? b = some o) → SetAt w h' s.heap.objs.size es ep t Z → Elems ElI hashInt Z ns → Z.length ≤ items.size → Q (.ref s.heap.objs.size) { s with heap := h', toks := tk }) :
    wpAny (model prog w) A (call (.type "set") [.ref l]) Q E s := by
  refine set_of (hs := hashInt) elI_uniq hh hl (ints_paired hi) h12 (fun A' v a s' es ep t Z Q E hA hu hv hk x hroom hlen hel hold hnew => ?_) h
  obtain ⟨tv, rfl⟩ := hv
  unfold setAdd
  refine wpAny_holding (wpAny_bind (wpAny_pyHash_int ?_))
  refine addI (s := { s' with toks := s'.toks + 1 }) (k := a) x hroom hlen ?el (fun ho => ?_) fun h' es' ep' t' Z' a1 a2 a3 a4 a5 => ?_
  case el =>
    intro e he
    obtain ⟨b, e1, tb, e2⟩ := hel e he
    exact ⟨⟨b, by rw [e2]; exact intKind_is _ _ _ _, e1⟩, by rw [e2]; rfl⟩
  · refine hold _ (Nat.le_succ _) ?_
    obtain ⟨e, he, hi⟩ := ho
    exact ⟨e, he, Value.isInt_shape hi⟩
  · refine hnew (s'.toks + 1) h' es' ep' t' Z' (Nat.le_succ _) a1 a2 a3 a4 fun e he hb => ?_
    have := a5 e he
    obtain ⟨tb, hb⟩ := hb
    rw [hb] at this
    exact absurd ((intKind_is prog w a tb).symm.trans this) (by decide)
/-- a place's tuple, as a key -/
theorem TupAt.key {h : Heap} {ad : Addr} {p : Int × Int} (x : TupAt h (.ref ad) p) : IsTupleKey (PySem.intKind prog w) h [p.1, p.2] ad := by
  obtain ⟨ad', t, u, e, o, ho, hc, n, hd⟩ := x
  cases e
  exact ⟨o, _, n, ho, hc, hd, .cons (intKind_is _ _ _ _) (.cons (intKind_is _ _ _ _) .nil)⟩
theorem TupAt.eq {x y : Value} {p q : Int × Int} (hx : TupAt s.heap x p) (hy : TupAt s.heap y q) (hu : A.units < cLine) : SeqAt.EqAt A s x y (decide (p = q)) := fun prog w E Q hQ => by
  obtain ⟨a, _, _, rfl, _⟩ := id hx
  obtain ⟨b, _, _, rfl, _⟩ := id hy
  refine wpAny_eqBool_tuple (knd := PySem.intKind prog w) hu (hx.key) (hy.key) ?_
  have e : decide ([p.1, p.2] = [q.1, q.2]) = decide (p = q) := by
    obtain ⟨p1, p2⟩ := p
    obtain ⟨q1, q2⟩ := q
    simp
  rw [e]; exact hQ
theorem hbv_tup {v : Value} {p : Int × Int} {Q : Bool → Shared → Prop} (hx : TupAt s.heap v p) (h : Q true s) : wpAny (model prog w) A (hashByValue 8 v) Q E s := by
  obtain ⟨a, t, u, rfl, o, ho, hc, n, hd⟩ := hx
  unfold hashByValue
  refine wpAny_bind (wpAny_specialOf ⟨o, ho, hc⟩ F.slot_tuple_hash.lookup ?_)
  refine wpAny_bind (wpAny_seqItems ho hd ?_)
  refine wpAny_bind ?_
  show wpAny _ _ (forIn #[Value.int p.1 t, .int p.2 u] _ _) _ _ s
  rw [← Array.forIn_toList]
  refine wpAny_forIn_list _ (fun rest r s' => r.1 = none ∧ s' = s ∧ ∀ v ∈ rest, ∃ k t, v = Value.int k t) _ ?_ ?_ _ _ ⟨rfl, rfl, fun v hv => ?_⟩
  · rintro v rest r s' ⟨hr, rfl, hall⟩
    obtain ⟨k, t, rfl⟩ := hall v List.mem_cons_self
    refine wpAny_bind (wpAny_of_eq (hashByValue_scannable 7 (x := .int k t) rfl) ?_)
    rw [show plainKind (.int k t) = true from rfl]
    simp only [Bool.not_true, Bool.false_eq_true, if_false]
    exact wpAny_pure ⟨rfl, rfl, fun u hu' => hall u (List.mem_cons_of_mem _ hu')⟩
  · rintro ⟨r1, r2⟩ s' ⟨hr, rfl, _⟩
    simp only at hr
    subst hr
    exact wpAny_pure h
  · simp only [List.mem_cons, List.not_mem_nil, or_false] at hv
    rcases hv with rfl | rfl
    · exact ⟨_, _, rfl⟩
    · exact ⟨_, _, rfl⟩
theorem class_tup {v : Value} {p : Int × Int} {Q : Bool → Shared → Prop} (hx : TupAt s.heap v p) (h : Q false s) : wpAny (model prog w) A (ofAClassStatement 8 v) Q E s := by
  obtain ⟨a, t, u, rfl, o, ho, hc, n, hd⟩ := hx
  unfold ofAClassStatement
  refine wpAny_bind (wpAny_typeOf ⟨o, ho, hc⟩ ?_)
  show wpAny _ _ ((pure true : Sem Bool) >>= _) _ _ _
  refine wpAny_bind (wpAny_pure ?_)
  simp only [Bool.not_true, Bool.false_eq_true, if_false]
  refine wpAny_bind (wpAny_seqItems ho hd ?_)
  dsimp only
  refine wpAny_bind ?_
  show wpAny _ _ (forIn #[Value.int p.1 t, .int p.2 u] _ _) _ _ s
  rw [← Array.forIn_toList]
  refine wpAny_forIn_list _ (fun rest r s' => r.1 = none ∧ s' = s ∧ ∀ v ∈ rest, ∃ k t, v = Value.int k t) _ ?_ ?_ _ _ ⟨rfl, rfl, fun v hv => ?_⟩
  · rintro v rest r s' ⟨hr, rfl, hall⟩
    obtain ⟨k, t, rfl⟩ := hall v List.mem_cons_self
    unfold ofAClassStatement
    refine wpAny_bind (wpAny_pure ?_)
    simp only [Bool.false_eq_true, if_false]
    exact wpAny_pure ⟨rfl, rfl, fun u hu' => hall u (List.mem_cons_of_mem _ hu')⟩
  · rintro ⟨r1, r2⟩ s' ⟨hr, rfl, _⟩
    simp only at hr
    subst hr
    exact wpAny_pure h
  · simp only [List.mem_cons, List.not_mem_nil, or_false] at hv
    rcases hv with rfl | rfl
    · exact ⟨_, _, rfl⟩
    · exact ⟨_, _, rfl⟩
theorem seen_tups {v : Value} {p : Int × Int} {l : List Value} {Q : Bool → Shared → Prop} (hx : TupAt s.heap v p) (hl : ∀ y ∈ l, ∃ q, TupAt s.heap y q) (h : Q false s) : wpAny (model prog w) A (searchCouldBeSeen v l) Q E s := by
  unfold searchCouldBeSeen
  refine wpAny_bind ?_
  refine wpAny_forIn_list _ (fun rest r s' => r.1 = none ∧ s' = s ∧ ∀ y ∈ rest, ∃ q, TupAt s.heap y q) _ ?_ ?_ _ _ ⟨rfl, rfl, hl⟩
  · rintro y rest r s' ⟨hr, rfl, hall⟩
    obtain ⟨q, hy⟩ := hall y List.mem_cons_self
    obtain ⟨a, _, _, rfl, _⟩ := id hx
    obtain ⟨b, _, _, rfl, _⟩ := id hy
    dsimp only
    by_cases hab : (a == b || carriedByValue (.ref a) && carriedByValue (.ref b)) = true
    · rw [if_pos hab]
      exact wpAny_pure ⟨rfl, rfl, fun u hu' => hall u (List.mem_cons_of_mem _ hu')⟩
    · rw [if_neg hab]
      refine wpAny_bind (wpAny_eqIsQuiet_tuple (knd := PySem.intKind prog w) hx.key ?_)
      simp only [Bool.not_true, Bool.false_eq_true, if_false]
      refine wpAny_bind (wpAny_eqIsQuiet_tuple (knd := PySem.intKind prog w) hy.key ?_)
      simp only [Bool.not_true, Bool.false_eq_true, if_false]
      refine wpAny_bind (class_tup hx ?_)
      simp only [Bool.false_eq_true, if_false]
      refine wpAny_bind (class_tup hy ?_)
      simp only [Bool.false_eq_true, if_false]
      exact wpAny_pure ⟨rfl, rfl, fun u hu' => hall u (List.mem_cons_of_mem _ hu')⟩
  · rintro ⟨r1, r2⟩ s' ⟨hr, rfl, _⟩
    simp only at hr
    subst hr
    exact wpAny_pure h
def hashP (prog : Program) (w : World) (p : Int × Int) : Int := tupleKeyHash (PySem.intKind prog w) [p.1, p.2]
theorem tupAt_uniq {h : Heap} : ∀ (v : Value) (a b : Int × Int), TupAt h v a → TupAt h v b → a = b := fun v a b ha hb => by
  obtain ⟨x, t, u, rfl, o, ho, hc, n, hd⟩ := ha
  obtain ⟨x', t', u', e, o', ho', hc', n', hd'⟩ := hb
  cases e
  rw [ho] at ho'
  cases ho'
  rw [hd] at hd'
  obtain ⟨a1, a2⟩ := a
  obtain ⟨b1, b2⟩ := b
  simp at hd'
  simp [hd'.1.1.1, hd'.1.2.1]
theorem set_tups {l : Addr} {items : Array Value} {ps : List (Int × Int)} {Q : Value → Shared → Prop} (hh : A.handled = none) (hu : A.units + 20 < cLine) (hl : s.heap.IsList l items) (hi : Paired (TupAt s.heap) items.toList ps) (h12 : items.size ≤ 12)
    (h : ∀ (h' : Heap) (tk : Nat) es ep t Z, (∀ b o, b < s.heap.objs.size → s.heap.get? b = some o → h'.get? b = some o) → SetAt w h' s.heap.objs.size es ep t Z → Elems (TupAt s.heap) (hashP prog w) Z ps → Z.length ≤ items.size → Q (.ref s.heap.objs.size) { s with heap := h', toks := tk }) :
    wpAny (model prog w) A (call (.type "set") [.ref l]) Q E s := by
  refine set_of (hs := hashP prog w) tupAt_uniq hh hl hi h12 (fun A' v a s' es ep t Z Q E hA hu' hv hk x hroom hlen hel hold hnew => ?_) h
  have up : ∀ y q, TupAt s.heap y q → TupAt s'.heap y q := fun y q hy => by
    obtain ⟨ad, t, u, e, o, ho, r⟩ := hy
    exact ⟨ad, t, u, e, o, hk _ _ (Heap.lt_size ho) ho, r⟩
  obtain ⟨ad, _, _, rfl, _⟩ := id hv
  have hv' := up _ _ hv
  unfold setAdd
  refine wpAny_holding (wpAny_bind (wpAny_pyHash_tuple (knd := PySem.intKind prog w) (by omega) hv'.key ?_))
  have hq : ∀ z ∈ Z, ∃ q, z.2.1 = hashP prog w q ∧ TupAt s.heap z.2.2 q := fun z hz => hel _ (List.mem_map_of_mem hz)
  classical
  refine addT (s := { s' with toks := s'.toks + 3 }) (h := hashP prog w a) (eqv := fun z => decide (TupAt s.heap z.2.2 a)) x hroom hlen rfl (fun z hz => ?_) (fun z hz => ?_) (fun _ l Q' hl hQ => ?_) (fun Q' hQ => hbv_tup hv' hQ) (fun ho => ?_) fun h' es' ep' t' Z' a1 a2 a3 a4 a5 => ?_
  · obtain ⟨q, _, b, _, _, e, _⟩ := hq z hz
    exact ⟨b, e⟩
  · obtain ⟨q, _, hq'⟩ := hq z hz
    have := TupAt.eq (A := A') (s := { s' with toks := s'.toks + 3 }) (up _ _ hq') hv' (by omega)
    have e : decide (q = a) = decide (TupAt s.heap z.2.2 a) := by
      by_cases hqa : q = a
      · rw [decide_eq_true hqa, decide_eq_true (hqa ▸ hq')]
      · rw [decide_eq_false hqa, decide_eq_false fun hb => hqa (tupAt_uniq _ _ _ hq' hb)]
    rw [e] at this
    exact this
  · refine seen_tups hv' (fun y hy => ?_) hQ
    obtain ⟨z, hz, rfl⟩ := hl y hy
    obtain ⟨q, _, hq'⟩ := hq z hz
    exact ⟨q, up _ _ hq'⟩
  · refine hold _ (Nat.le_add_right _ _) ?_
    obtain ⟨z, hz, hb⟩ := ho
    exact ⟨_, List.mem_map_of_mem hz, of_decide_eq_true hb⟩
  · refine hnew (s'.toks + 3) h' es' ep' t' Z' (Nat.le_add_right _ _) a1 a2 a3 a4 fun e he hb => ?_
    obtain ⟨z, hz, rfl⟩ := List.mem_map.mp he
    obtain ⟨q, hz1, hq'⟩ := hq z hz
    have hqa := tupAt_uniq _ _ _ hq' hb
    rw [hqa] at hz1
    exact of_decide_eq_false (a5 z hz hz1) hb
end


theorem same_sorted {α : Type} {g : α → Int} : ∀ {l r : List α}, (l.map g).Pairwise (· ≤ ·) → (r.map g).Pairwise (· ≤ ·) → l.Nodup → r.Nodup → (∀ a, a ∈ l ↔ a ∈ r) → (∀ a b, a ∈ l → b ∈ l → g a = g b → a = b) → l = r
  | [], r, _, _, _, _, h, _ => by
    cases r with
    | nil => rfl
    | cons b r => exact absurd ((h b).mpr (List.mem_cons_self ..)) (List.not_mem_nil)
  | a :: l, [], _, _, _, _, h, _ => absurd ((h a).mp (List.mem_cons_self ..)) (List.not_mem_nil)
  | a :: l, b :: r, h1, h2, n1, n2, h, inj => by
    rw [List.map_cons, List.pairwise_cons] at h1 h2
    rw [List.nodup_cons] at n1 n2
    have hab : a = b := by
      rcases List.mem_cons.mp ((h a).mp (List.mem_cons_self ..)) with q | q
      · exact q
      rcases List.mem_cons.mp ((h b).mpr (List.mem_cons_self ..)) with p | p
      · exact p.symm
      exact inj a b (List.mem_cons_self ..) (List.mem_cons_of_mem _ p) (Int.le_antisymm (h1.1 _ (List.mem_map_of_mem p)) (h2.1 _ (List.mem_map_of_mem q)))
    subst hab
    refine congrArg _ (same_sorted h1.2 h2.2 n1.2 n2.2 (fun x => ⟨fun hx => ?_, fun hx => ?_⟩) fun x y hx hy => inj x y (List.mem_cons_of_mem _ hx) (List.mem_cons_of_mem _ hy))
    · rcases List.mem_cons.mp ((h x).mp (List.mem_cons_of_mem _ hx)) with rfl | q
      · exact absurd hx n1.1
      · exact q
    · rcases List.mem_cons.mp ((h x).mpr (List.mem_cons_of_mem _ hx)) with rfl | q
      · exact absurd hx n2.1
      · exact q
theorem nodup_of_map {α β : Type} (f : α → β) : ∀ {l : List α}, (l.map f).Nodup → l.Nodup
  | [], _ => .nil
  | a :: l, h => by
    rw [List.map_cons, List.nodup_cons] at h
    exact List.nodup_cons.mpr ⟨fun q => h.1 (List.mem_map_of_mem q), nodup_of_map f h.2⟩
theorem nodup_map_inj {α β : Type} {f : α → β} : ∀ {l : List α}, l.Nodup → (∀ a b, a ∈ l → b ∈ l → f a = f b → a = b) → (l.map f).Nodup
  | [], _, _ => .nil
  | a :: l, h, inj => by
    rw [List.nodup_cons] at h
    rw [List.map_cons, List.nodup_cons]
    refine ⟨fun q => ?_, nodup_map_inj h.2 fun x y hx hy => inj x y (List.mem_cons_of_mem _ hx) (List.mem_cons_of_mem _ hy)⟩
    obtain ⟨b, hb, e⟩ := List.mem_map.mp q
    exact h.1 (inj b a (List.mem_cons_of_mem _ hb) (List.mem_cons_self ..) e ▸ hb)
theorem range_map_get {α : Type} (d : α) : ∀ (l : List α), (List.range l.length).map (fun i => l.getD i d) = l := fun l => by
  refine List.ext_getElem (by simp) fun i h1 h2 => ?_
  simp [List.getD, List.getElem?_eq_getElem h2]
section
variable {prog : Program} {w : World} {A : Around} {E : Value → Shared → Prop} {s : Shared}
theorem sorted_set_ints {S : Addr} {es : Array (Int × Value)} {ep : Nat} {t : SetTable} {Z : List (Nat × Int × Value)} {ns : List Int} {Q : Value → Shared → Prop} (hh : A.handled = none) (hm : SetAt w s.heap S es ep t Z) (X : Elems ElI hashInt Z ns) (hz : Z.length ≤ 12)
    (h : ∀ D h' tk (out : Array Value) (q : List Int), (∀ b o, s.heap.get? b = some o → h'.get? b = some o) → s.heap.objs.size ≤ D → h'.IsList D out → IntsAre out.toList q → q.Nodup → (∀ a, a ∈ q ↔ a ∈ ns) → q.Pairwise (· ≤ ·) → Q (.ref D) { s with heap := h', toks := tk }) :
    wpAny (model prog w) A (call (.builtin "sorted") [.ref S]) Q E s := by
  obtain ⟨o, ho, hex, hd, T, hpl, hled⟩ := id hm
  have hsz : es.size = Z.length := by rw [← Array.length_toList, T.ents, List.length_map]
  obtain ⟨f, hf, hmem, hnd⟩ := elems_list (es := ordL w S ep es) X elI_uniq (by rw [← T.ents]; exact ordL_perm)
  refine sortedI (set_src (es := es) (ep := ep) (t := t) (Z := Z)) hh hm (by omega) (z := f) (fun i v ⟨e, he, hv⟩ => hv ▸ hf i e he) fun D h' tk out q hk hD hl hi hp hs => ?_
  rw [ordL_size] at hmem hnd
  exact h D h' tk out q hk hD hl hi (hp.nodup_iff.mpr hnd) (fun a => hp.mem_iff.trans (hmem a)) hs
theorem sorted_set_tups {S : Addr} {es : Array (Int × Value)} {ep : Nat} {t : SetTable} {Z : List (Nat × Int × Value)} {ps : List (Int × Int)} {g : Heap} {Q : Value → Shared → Prop} (hh : A.handled = none) (hm : SetAt w s.heap S es ep t Z) (X : Elems (TupAt g) (hashP prog w) Z ps) (hz : Z.length ≤ 12)
    (hg : ∀ b o, b < g.objs.size → g.get? b = some o → s.heap.get? b = some o) (hlow : ∀ p ∈ ps, Low p)
    (h : ∀ D h' tk (out : Array Value) (q : List (Int × Int)), (∀ b o, s.heap.get? b = some o → h'.get? b = some o) → s.heap.objs.size ≤ D → h'.IsList D out → Paired (TupAt s.heap) out.toList q → q.Nodup → (∀ a, a ∈ q ↔ a ∈ ps) → (q.map cd).Pairwise (· ≤ ·) → Q (.ref D) { s with heap := h', toks := tk }) :
    wpAny (model prog w) A (call (.builtin "sorted") [.ref S]) Q E s := by
  obtain ⟨o, ho, hex, hd, T, hpl, hled⟩ := id hm
  have hsz : es.size = Z.length := by rw [← Array.length_toList, T.ents, List.length_map]
  obtain ⟨f, hf, hmem, hnd⟩ := elems_list (es := ordL w S ep es) X tupAt_uniq (by rw [← T.ents]; exact ordL_perm)
  rw [ordL_size] at hmem hnd
  have up : ∀ y q, TupAt g y q → TupAt s.heap y q := fun y q hy => by
    obtain ⟨ad, t, u, e, o, ho, r⟩ := hy
    exact ⟨ad, t, u, e, o, hg _ _ (Heap.lt_size ho) ho, r⟩
  refine sortedT (set_src (es := es) (ep := ep) (t := t) (Z := Z)) hh hm (by omega) (f := f) (fun i hi => hlow _ ((hmem _).mp (List.mem_map_of_mem (List.mem_range.mpr hi)))) (fun i v ⟨e, he, hv⟩ => hv ▸ up _ _ (hf i e he)) fun D h' tk out idx hk hD hl hi hp hs => ?_
  have hpm : (idx.map f).Perm ((List.range es.size).map f) := hp.map f
  exact h D h' tk out (idx.map f) hk hD hl hi (hpm.nodup_iff.mpr hnd) (fun a => hpm.mem_iff.trans (hmem a)) (by rw [List.map_map]; exact hs)
theorem pairs_get {K : Type} [DecidableEq K] {knd : PySem.KeyKind prog w K} {kvs : List (K × Value)} : ∀ {es : List DictEntry} {i : Nat} {e : DictEntry}, Pairs knd es kvs → es[i]? = some e → ∃ x, kvs[i]? = some x ∧ knd.is x.1 e.key = true := by
  induction kvs with
  | nil => intro es i e hp he; cases hp; simp at he
  | cons x kvs ih =>
    intro es i e hp he
    cases hp with
    | cons h1 h2 h3 =>
      cases i with
      | zero => simp at he; subst he; exact ⟨x, rfl, h1⟩
      | succ i => simpa using ih h3 (by simpa using he)
theorem sorted_dict_ints {d : Addr} {o : Obj} {kvs : List (Int × Value)} {Q : Value → Shared → Prop} (hh : A.handled = none) (ho : s.heap.get? d = some o) (hd : o.IsDictOf (PySem.intKind prog w) kvs) (lo : (d == sysModules) = false) (hz : kvs.length < 64)
    (h : ∀ D h' tk (out : Array Value) (q : List Int), (∀ b o, s.heap.get? b = some o → h'.get? b = some o) → s.heap.objs.size ≤ D → h'.IsList D out → IntsAre out.toList q → q.Nodup → (∀ a, a ∈ q ↔ a ∈ kvs.map (·.1)) → q.Pairwise (· ≤ ·) → Q (.ref D) { s with heap := h', toks := tk }) :
    wpAny (model prog w) A (call (.builtin "sorted") [.ref d]) Q E s := by
  obtain ⟨es, ep, hex, hdd, _, hp, hnd⟩ := hd
  have hsz : es.size = kvs.length := by rw [← Array.length_toList, hp.length]
  refine sortedI (es_src (es := es) (ep := ep) lo) hh ⟨o, ho, hex, hdd⟩ (by omega) (z := fun i => (kvs.map (·.1)).getD i 0) (fun i v ⟨e, he, hv⟩ => ?_) fun D h' tk out q hk hD hl hi hp hs => ?_
  · obtain ⟨x, hx, hi⟩ := pairs_get hp (by rw [Array.getElem?_toList]; exact he)
    obtain ⟨t, e2⟩ := Value.isInt_shape hi
    exact ⟨t, by rw [hv, e2]; simp [List.getD, hx]⟩
  · have e : (List.range es.size).map (fun i => (kvs.map (·.1)).getD i 0) = kvs.map (·.1) := by
      rw [hsz, ← List.length_map (f := (·.1))]
      exact range_map_get _ _
    rw [e] at hp
    exact h D h' tk out q hk hD hl hi (hp.nodup_iff.mpr hnd) (fun a => hp.mem_iff) hs
def pairK (l : List Int) : Int × Int := (l.getD 0 0, l.getD 1 0)
theorem items_two {p q : Int} {l : List Value} (h : ItemsAre (PySem.intKind prog w) [p, q] l) : ∃ t u, l = [Value.int p t, .int q u] := by
  cases h with
  | cons h1 h2 =>
    cases h2 with
    | cons h3 h4 =>
      cases h4
      obtain ⟨t, rfl⟩ := Value.isInt_shape h1
      obtain ⟨u, rfl⟩ := Value.isInt_shape h3
      exact ⟨t, u, rfl⟩
theorem sorted_dict_tups {d : Addr} {so : Obj} {own : List (Addr × Obj)} {xs : List (List Int × Addr × Value)} {σ : List Ent} {Q : Value → Shared → Prop} (hh : A.handled = none) (ho : s.heap.get? d = some so) (P : PairsObj w so own xs) (hx : xs.map (·.1) = prs σ) (hown : ∀ p ∈ own, s.heap.get? p.1 = some p.2) (lo : (d == sysModules) = false) (hz : xs.length < 64)
    (hlow : ∀ a b, Ent.inr (a, b) ∈ σ → Low (a, b))
    (h : ∀ D h' tk (out : Array Value) (q : List (Int × Int)), (∀ b o, s.heap.get? b = some o → h'.get? b = some o) → s.heap.objs.size ≤ D → h'.IsList D out → Paired (TupAt s.heap) out.toList q → q.Nodup → (∀ a, a ∈ q ↔ Ent.inr a ∈ σ) → (q.map cd).Pairwise (· ≤ ·) → Q (.ref D) { s with heap := h', toks := tk }) :
    wpAny (model PySem.Challenge.rw_pq0410_01.row.prog w) A (call (.builtin "sorted") [.ref d]) Q E s := by
  obtain ⟨hex, es, ep, hdd, hes, hnd, hk⟩ := P
  have hsz : es.size = xs.length := by rw [← Array.length_toList, hes, List.length_map]
  have hmem : ∀ x ∈ xs, ∃ a b, x.1 = [a, b] ∧ Ent.inr (a, b) ∈ σ := fun x hxm => by
    have h1 : x.1 ∈ prs σ := hx ▸ List.mem_map_of_mem hxm
    unfold prs at h1
    obtain ⟨e, he, h2⟩ := List.mem_filterMap.mp h1
    cases e with
    | inl a => simp [pairOf] at h2
    | inr p =>
      obtain ⟨a, b⟩ := p
      simp only [pairOf, Option.some.injEq] at h2
      exact ⟨a, b, h2.symm, he⟩
  have hmap : (xs.map (·.1)).map pairK = σ.filterMap fun e => match e with | .inl _ => none | .inr p => some p := by
    rw [hx]
    unfold prs
    rw [List.map_filterMap]
    congr 1
    funext e
    cases e <;> rfl
  refine sortedT (es_src (es := es) (ep := ep) lo) hh ⟨so, ho, hex, hdd⟩ (by omega) (f := fun i => ((xs.map (·.1)).map pairK).getD i (0, 0)) (fun i hi => ?_) (fun i v ⟨e, he, hv⟩ => ?_) fun D h' tk out idx hk' hD hl hi hp hs => ?_
  · have hi' : i < xs.length := by omega
    obtain ⟨a, b, h1, h2⟩ := hmem _ (List.getElem_mem hi')
    have : ((xs.map (·.1)).map pairK).getD i (0, 0) = (a, b) := by
      simp [List.getD, hi', h1, pairK]
    rw [this]
    exact hlow a b h2
  · rw [← Array.getElem?_toList, hes, List.getElem?_map] at he
    cases hxi : xs[i]? with
    | none => rw [hxi] at he; cases he
    | some x =>
      rw [hxi] at he
      obtain ⟨rfl⟩ : entryOfKey (tupleKind (ik w)) x = e := by simpa using he
      obtain ⟨a, b, h1, h2⟩ := hmem x (List.mem_of_getElem? hxi)
      obtain ⟨o, ho2, hc, items, n, hd2, hit⟩ := hk x (List.mem_of_getElem? hxi)
      rw [h1] at hit
      obtain ⟨t, u, e3⟩ := items_two hit
      have : ((xs.map (·.1)).map pairK).getD i (0, 0) = (a, b) := by
        simp [List.getD, hxi, h1, pairK]
      rw [this, hv]
      have e4 : items = #[.int a t, .int b u] := by rw [← e3]
      exact ⟨x.2.1, t, u, rfl, o, hown _ ho2, hc, n, e4 ▸ hd2⟩
  · have e : (List.range es.size).map (fun i => ((xs.map (·.1)).map pairK).getD i (0, 0)) = (xs.map (·.1)).map pairK := by
      rw [hsz, ← List.length_map (f := (·.1)) (as := xs), ← List.length_map (f := pairK)]
      exact range_map_get _ _
    have hpm := hp.map (fun i => ((xs.map (·.1)).map pairK).getD i (0, 0))
    rw [e] at hpm
    have nd : ((xs.map (·.1)).map pairK).Nodup := by
      refine nodup_map_inj hnd fun x y hx hy e => ?_
      obtain ⟨x', hx', rfl⟩ := List.mem_map.mp hx
      obtain ⟨y', hy', rfl⟩ := List.mem_map.mp hy
      obtain ⟨a, b, h1, _⟩ := hmem _ hx'
      obtain ⟨c, d, h2, _⟩ := hmem _ hy'
      rw [h1, h2] at e ⊢
      simp only [pairK, List.getD_cons_zero, List.getD_cons_succ, Prod.mk.injEq] at e
      rw [e.1, e.2]
    refine h D h' tk out _ hk' hD hl hi (hpm.nodup_iff.mpr nd) (fun a => hpm.mem_iff.trans ?_) (by rw [List.map_map]; exact hs)
    rw [hmap, List.mem_filterMap]
    constructor
    · rintro ⟨e, he, h2⟩
      cases e with
      | inl a => cases h2
      | inr p => cases h2; exact he
    · exact fun h2 => ⟨_, h2, rfl⟩
/-- two lists of the same ints, or tuples, are equal -/
theorem lists_same {p q : Addr} {xs ys : Array Value} {Q : Value → Shared → Prop} (hp : s.heap.IsList p xs) (hq : s.heap.IsList q ys)
    (he : Paired (fun x y => SeqAt.EqAt A.in1 s x y true) xs.toList ys.toList) (hu : A.units < cLine) (h : Q (.bool true) s) : wpAny (model prog w) A (compareOp .Eq (.ref p) (.ref q)) Q E s := by
  have hl := paired_len he
  simp only [Array.length_toList] at hl
  refine (SeqAt.RcAt.lists (e := fun _ => true) hp hq hl hu fun j h1 h2 => ?_) prog w E Q ?_
  · obtain ⟨y, hy, hr⟩ := paired_get he (i := j) (v := xs[j]) (by rw [Array.getElem?_toList]; exact Array.getElem?_eq_getElem h1)
    have e : y = ys[j] := by
      rw [Array.getElem?_toList, Array.getElem?_eq_getElem h2] at hy
      exact (Option.some.inj hy).symm
    rw [← e]
    exact hr
  · rw [allT (fun _ => rfl)]
    exact h
theorem paired_join {α β γ : Type} {F : α → γ → Prop} {G : β → γ → Prop} {R : α → β → Prop} (hr : ∀ a b c, F a c → G b c → R a b) : ∀ {l : List α} {r : List β} {q : List γ}, Paired F l q → Paired G r q → Paired R l r := by
  intro l r q h
  induction h generalizing r with
  | nil => intro h'; cases h'; exact .nil
  | cons h t ih =>
    intro h'
    cases h' with
    | cons h2 t2 => exact .cons (hr _ _ _ h h2) (ih t2)
end


/-- a list of ints, of tuples, a set: as objects -/
def IntsObj (o : Obj) (q : List Int) : Prop := o.cls = .type "list" ∧ ∃ out n, o.data = .seq out n ∧ IntsAre out.toList q
def TupsObj (h : Heap) (o : Obj) (q : List (Int × Int)) : Prop := o.cls = .type "list" ∧ ∃ out n, o.data = .seq out n ∧ Paired (TupAt h) out.toList q
def SetIs {α : Type} (w : World) (o : Obj) (El : Value → α → Prop) (hs : α → Int) (L : List α) : Prop := ∃ es ep t Z, o.ExactSet ∧ o.data = .set es ep t ∧ TOk t es Z ∧ t.plain = true ∧ t.led = (!byTx w) ∧ Elems El hs Z L ∧ Z.length ≤ 12
theorem TupsObj.kept {h h' : Heap} {o : Obj} {q : List (Int × Int)} (x : TupsObj h o q) (K : Kept h h' []) : TupsObj h' o q :=
  let ⟨a, out, n, b, c⟩ := x
  ⟨a, out, n, b, paired_mono (fun _ _ y => y.keeps fun b o e => K b o e (by simp)) c⟩
section
variable {prog : Program} {w : World} {A : Around} {E : Value → Shared → Prop} {s : Shared} {h₀ h : Heap} {L d : Addr} {m : Str → Option Value} {news own : List (Addr × Obj)} {σ : List Ent} {wo so : Obj} {its : List Value}
/-- a new object goes onto the ledger -/
theorem new_led {h' : Heap} {D : Addr} {o : Obj} (F : Fr h₀ L h m) (N : News h₀ L h news) (K : Kept h h' []) (hD : h.objs.size ≤ D) (e : h'.get? D = some o) : Fr h₀ L h' m ∧ News h₀ L h' ((D, o) :: news) := by
  have hn : h.get? D = none := by
    cases q : h.get? D with
    | none => rfl
    | some x => exact absurd (Heap.lt_size q) (Nat.not_lt.mpr hD)
  exact ⟨fr_kept F K (by simp) (by simp), news_new F N K (by simp) hn e⟩
theorem kept_of {h h' : Heap} (k : ∀ b o, h.get? b = some o → h'.get? b = some o) : Kept h h' [] := fun b o e _ => k b o e
theorem kept_lt {h h' : Heap} (k : ∀ b o, b < h.objs.size → h.get? b = some o → h'.get? b = some o) : Kept h h' [] := fun b o e _ => k b o (Heap.lt_size e) e
theorem sortedOnes_led {Q : Value → Shared → Prop} (hh : A.handled = none) (F : Fr h₀ L s.heap m) (N : News h₀ L s.heap news) (hm : (d, wo) ∈ news) (S : StOk w wo so its own σ) (lo : (d == sysModules) = false) (hz : σ.length < 64)
    (h : ∀ h' tk D oD q, Kept s.heap h' [] → Fr h₀ L h' m → News h₀ L h' ((D, oD) :: news) → IntsObj oD q → q.Nodup → (∀ a, a ∈ q ↔ Ent.inl a ∈ σ) → q.Pairwise (· ≤ ·) → Q (.ref D) { s with heap := h', toks := tk }) :
    wpAny (model PySem.Challenge.rw_pq0410_01.row.prog w) A (call (.builtin "sorted") [.ref d]) Q E s := by
  refine sorted_dict_ints hh (N _ hm).1 S.one lo (Nat.lt_of_le_of_lt (ones_len σ) hz) fun D h' tk out q k hD ⟨oD, e, hc, n, hd⟩ hi hnd hmem hs => ?_
  obtain ⟨F', N'⟩ := new_led F N (kept_of k) hD e
  refine h h' tk D oD q (kept_of k) F' N' ⟨hc, out, n, hd, hi⟩ hnd (fun a => (hmem a).trans ?_) hs
  rw [← ones_mem, List.mem_map]
  exact ⟨fun ⟨x, hx, e⟩ => ⟨x.2, e ▸ hx⟩, fun ⟨v, hv⟩ => ⟨_, hv, rfl⟩⟩
theorem sortedPairs_led {Q : Value → Shared → Prop} (hh : A.handled = none) (F : Fr h₀ L s.heap m) (N : News h₀ L s.heap news) (hm : (d, so) ∈ news) (S : StOk w wo so its own σ) (ho : ∀ p ∈ own, p ∈ news) (lo : (d == sysModules) = false) (hz : σ.length < 64) (hlow : ∀ p, Ent.inr p ∈ σ → Low p)
    (h : ∀ h' tk D oD q, Kept s.heap h' [] → Fr h₀ L h' m → News h₀ L h' ((D, oD) :: news) → TupsObj h' oD q → q.Nodup → (∀ a, a ∈ q ↔ Ent.inr a ∈ σ) → (q.map cd).Pairwise (· ≤ ·) → Q (.ref D) { s with heap := h', toks := tk }) :
    wpAny (model PySem.Challenge.rw_pq0410_01.row.prog w) A (call (.builtin "sorted") [.ref d]) Q E s := by
  obtain ⟨xs, P, hx⟩ := S.prs
  have hxl : xs.length < 64 := by
    have : (xs.map (·.1)).length = (prs σ).length := by rw [hx]
    rw [List.length_map] at this
    rw [this]
    exact Nat.lt_of_le_of_lt (prs_len σ) hz
  refine sorted_dict_tups hh (N _ hm).1 P hx (fun p hp => (N p (ho p hp)).1) lo hxl (fun a b hab => hlow _ hab) fun D h' tk out q k hD ⟨oD, e, hc, n, hd⟩ hi hnd hmem hs => ?_
  obtain ⟨F', N'⟩ := new_led F N (kept_of k) hD e
  exact h h' tk D oD q (kept_of k) F' N' ⟨hc, out, n, hd, paired_mono (fun _ _ y => y.keeps k) hi⟩ hnd hmem hs
theorem setInts_led {Q : Value → Shared → Prop} {us : List Value} {ns : List Int} {n : Nat} (hh : A.handled = none) (F : Fr h₀ L s.heap m) (N : News h₀ L s.heap news) (hm : (d, listOf us.toArray n) ∈ news) (hi : IntsAre us ns) (hz : us.length ≤ 12)
    (h : ∀ h' tk D oD, Kept s.heap h' [] → Fr h₀ L h' m → News h₀ L h' ((D, oD) :: news) → SetIs w oD ElI hashInt ns → Q (.ref D) { s with heap := h', toks := tk }) :
    wpAny (model prog w) A (call (.type "set") [.ref d]) Q E s := by
  refine set_ints hh ⟨_, (N _ hm).1, rfl, _, rfl⟩ hi hz fun h' tk es ep t Z k ⟨oD, e, a, b, c, dd, ee⟩ X hl => ?_
  obtain ⟨F', N'⟩ := new_led F N (kept_lt k) (Nat.le_refl _) e
  exact h h' tk _ oD (kept_lt k) F' N' ⟨es, ep, t, Z, a, b, c, dd, ee, X, Nat.le_trans hl hz⟩
theorem setTups_led {Q : Value → Shared → Prop} {us : List Value} {ps : List (Int × Int)} {n : Nat} (hh : A.handled = none) (hu : A.units + 20 < cLine) (F : Fr h₀ L s.heap m) (N : News h₀ L s.heap news) (hm : (d, listOf us.toArray n) ∈ news) (hi : Paired (TupAt s.heap) us ps) (hz : us.length ≤ 12)
    (h : ∀ h' tk D oD, Kept s.heap h' [] → Fr h₀ L h' m → News h₀ L h' ((D, oD) :: news) → SetIs w oD (TupAt s.heap) (hashP prog w) ps → Q (.ref D) { s with heap := h', toks := tk }) :
    wpAny (model prog w) A (call (.type "set") [.ref d]) Q E s := by
  refine set_tups hh hu ⟨_, (N _ hm).1, rfl, _, rfl⟩ hi hz fun h' tk es ep t Z k ⟨oD, e, a, b, c, dd, ee⟩ X hl => ?_
  obtain ⟨F', N'⟩ := new_led F N (kept_lt k) (Nat.le_refl _) e
  exact h h' tk _ oD (kept_lt k) F' N' ⟨es, ep, t, Z, a, b, c, dd, ee, X, Nat.le_trans hl hz⟩
theorem sortedSetI_led {Q : Value → Shared → Prop} {oS : Obj} {ns : List Int} (hh : A.handled = none) (F : Fr h₀ L s.heap m) (N : News h₀ L s.heap news) (hm : (d, oS) ∈ news) (X : SetIs w oS ElI hashInt ns)
    (h : ∀ h' tk D oD q, Kept s.heap h' [] → Fr h₀ L h' m → News h₀ L h' ((D, oD) :: news) → IntsObj oD q → q.Nodup → (∀ a, a ∈ q ↔ a ∈ ns) → q.Pairwise (· ≤ ·) → Q (.ref D) { s with heap := h', toks := tk }) :
    wpAny (model prog w) A (call (.builtin "sorted") [.ref d]) Q E s := by
  obtain ⟨es, ep, t, Z, a, b, c, dd, ee, X, hz⟩ := X
  refine sorted_set_ints (es := es) (ep := ep) (t := t) (Z := Z) hh ⟨oS, (N _ hm).1, a, b, c, dd, ee⟩ X hz fun D h' tk out q k hD ⟨oD, e, hc, n, hd⟩ hi hnd hmem hs => ?_
  obtain ⟨F', N'⟩ := new_led F N (kept_of k) hD e
  exact h h' tk D oD q (kept_of k) F' N' ⟨hc, out, n, hd, hi⟩ hnd hmem hs
theorem sortedSetT_led {Q : Value → Shared → Prop} {oS : Obj} {g : Heap} {ps : List (Int × Int)} (hh : A.handled = none) (F : Fr h₀ L s.heap m) (N : News h₀ L s.heap news) (hm : (d, oS) ∈ news) (X : SetIs w oS (TupAt g) (hashP prog w) ps) (hg : Kept g s.heap []) (hlow : ∀ p ∈ ps, Low p)
    (h : ∀ h' tk D oD q, Kept s.heap h' [] → Fr h₀ L h' m → News h₀ L h' ((D, oD) :: news) → TupsObj h' oD q → q.Nodup → (∀ a, a ∈ q ↔ a ∈ ps) → (q.map cd).Pairwise (· ≤ ·) → Q (.ref D) { s with heap := h', toks := tk }) :
    wpAny (model prog w) A (call (.builtin "sorted") [.ref d]) Q E s := by
  obtain ⟨es, ep, t, Z, a, b, c, dd, ee, X, hz⟩ := X
  refine sorted_set_tups (es := es) (ep := ep) (t := t) (Z := Z) hh ⟨oS, (N _ hm).1, a, b, c, dd, ee⟩ X hz (fun b o _ e => hg b o e (by simp)) hlow fun D h' tk out q k hD ⟨oD, e, hc, n, hd⟩ hi hnd hmem hs => ?_
  obtain ⟨F', N'⟩ := new_led F N (kept_of k) hD e
  exact h h' tk D oD q (kept_of k) F' N' ⟨hc, out, n, hd, paired_mono (fun _ _ y => y.keeps k) hi⟩ hnd hmem hs
theorem eqInts_led {Q : Value → Shared → Prop} {a b : Addr} {oa ob : Obj} {q r : List Int} (N : News h₀ L s.heap news) (ha : (a, oa) ∈ news) (hb : (b, ob) ∈ news) (xa : IntsObj oa q) (xb : IntsObj ob r) (e : q = r) (hu : A.units < cLine) (h : Q (.bool true) s) :
    wpAny (model prog w) A (compareOp .Eq (.ref a) (.ref b)) Q E s := by
  subst e
  obtain ⟨ca, x, n, da, ia⟩ := xa
  obtain ⟨cb, y, n', db, ib⟩ := xb
  refine lists_same ⟨oa, (N _ ha).1, ca, n, da⟩ ⟨ob, (N _ hb).1, cb, n', db⟩ (paired_join (fun v v' k hv hv' => ?_) (ints_paired ia) (ints_paired ib)) hu h
  obtain ⟨t, rfl⟩ := hv
  obtain ⟨t', rfl⟩ := hv'
  have := SeqAt.EqAt.int_int (A := A.in1) (s := s) k t k t'
  simpa using this
theorem eqTups_led {Q : Value → Shared → Prop} {a b : Addr} {oa ob : Obj} {q r : List (Int × Int)} (N : News h₀ L s.heap news) (ha : (a, oa) ∈ news) (hb : (b, ob) ∈ news) (xa : TupsObj s.heap oa q) (xb : TupsObj s.heap ob r) (e : q = r) (hu : A.units < cLine) (hu' : A.in1.units < cLine) (h : Q (.bool true) s) :
    wpAny (model prog w) A (compareOp .Eq (.ref a) (.ref b)) Q E s := by
  subst e
  obtain ⟨ca, x, n, da, ia⟩ := xa
  obtain ⟨cb, y, n', db, ib⟩ := xb
  refine lists_same ⟨oa, (N _ ha).1, ca, n, da⟩ ⟨ob, (N _ hb).1, cb, n', db⟩ (paired_join (fun v v' k hv hv' => ?_) ia ib) hu h
  have := hv.eq (s := s) hv' hu'
  simpa using this
end


theorem memI {p : Addr × Obj} {l : List (Addr × Obj)} (h : p ∈ l) : List.Mem p l := h
section
variable {w : World} {mean : ExcName → Option Value} {mg mb : Str → Option Value} {A₀ A : Around} {cn : Str} {cs : Scope} {L a : Addr} {ccd : Value} {cl : List (Str × Addr)} {outer : List Env} {base h₀ : Heap} {m : Str → Option Value}
  {s : Shared} {Q E : Value → Shared → Prop}
theorem places_led {news : List (Addr × Obj)} (C : Cx w mean mg mb A₀ A cn cs L a ccd cl outer base h₀ m s.heap 600 7000) (N : News h₀ L s.heap news)
    (hret : ∀ h' tk' T t1 t2 t3 t4 t5, Kept s.heap h' [] → Fr h₀ L h' m → News h₀ L h' ((T, { cls := .type "tuple", data := .seq [Value.int 1001 t1, .int 1002 t2, .int 4 t3, .int 2 t4, .int (2 ^ 160 - 1) t5].toArray }) :: news) → (∀ p ∈ news, p.1 ≠ T) → Q (.ref T) { s with heap := h', toks := tk' }) :
    wpAny (model PySem.Challenge.rw_pq0410_01.row.prog w) A (call (.ref 522) []) Q E s :=
  places_lt C N fun h' tk' T t1 t2 t3 t4 t5 K F N l => hret h' tk' T t1 t2 t3 t4 t5 K F N fun p hp => Nat.ne_of_lt (l p hp)
theorem slots_led {news : List (Addr × Obj)} (C : Cx w mean mg mb A₀ A cn cs L a ccd cl outer base h₀ m s.heap 600 7000) (N : News h₀ L s.heap news)
    (hret : ∀ h' tk' T t1 t2 t3, Kept s.heap h' [] → Fr h₀ L h' m → News h₀ L h' ((T, { cls := .type "tuple", data := .seq [Value.int 0 t1, .int 9 t2, .int (2 ^ 256 - 1) t3].toArray }) :: news) → (∀ p ∈ news, p.1 ≠ T) → Q (.ref T) { s with heap := h', toks := tk' }) :
    wpAny (model PySem.Challenge.rw_pq0410_01.row.prog w) A (call (.ref 529) []) Q E s :=
  slots_lt C N fun h' tk' T t1 t2 t3 K F N l => hret h' tk' T t1 t2 t3 K F N fun p hp => Nat.ne_of_lt (l p hp)
end

example : True := by
  k_with "k_mem" => (refine memI ?_; first | with_reducible assumption | (refine List.mem_append_right _ ?_; with_reducible assumption))
  k_with "k_all" => (refine List.forall_mem_append.mpr ⟨?_, ?_⟩ <;> with_reducible assumption)
  k_with "subscriptTail" => (k_here; (with_reducible show wpAny _ _ (subscriptTail _ _ (Value.ref _) (Value.str _ _)) _ _ _); k_dflt (refine kda_item (knd := PySem.strKind _ _) (by k_asm) (by k_mem) (by k_asm) (strKind_is _ _ _ _) (by rfl) ?_))
  k_with "call ref" => (k_here; k_dflt ((with_reducible show wpAny _ _ (call (Value.ref 424) _) _ _ _); refine' isWarmSlot_led ?zzzC ?zzzN ?zzz1 ?zzz2 ?zzz3 ?zzzt ?zzzS ?zzzl ?zzzD ?_; (case zzzC => k_extra "CX"); (case zzzN => k_asm); (case zzz1 => k_mem); (case zzz2 => k_mem); (case zzz3 => k_mem); (case zzzS => k_asm); (case zzzt => k_extra "SUBT"); (case zzzl => k_asm); (case zzzD => assumption)); (intro _ _ _ _ _; (try dsimp only); (try k_fold)))
  k_with "call ref" => (k_here; k_dflt ((with_reducible show wpAny _ _ (call (Value.ref 522) _) _ _ _); refine' places_led ?zzzC ?zzzN ?_; (case zzzC => k_extra "CX"); (case zzzN => k_asm)); (intro _ _ _ _ _ _ _ _ _ _ _ _; (try dsimp only); (try k_fold)))
  k_with "compareOp In int ref" => (k_here; k_dflt (refine' in_intsB ?zzzN ?zzzm ?zzzi ?zzzb ?_; (case zzzN => k_asm); (case zzzm => k_mem); (case zzzi => k_asm); (case zzzb => with_reducible assumption)))
  k_with "SUBH" => (first | exact hp | exact List.mem_append_right _ hp | exact List.mem_append_left _ hp | (refine List.mem_cons_of_mem _ ?_; k_extra "SUBH"))
  k_with "SUBT" => (intro p hp; k_extra "SUBH")
  k_with "compareOp NotEq bool bool" => (refine ne_same ?_)
  k_with "call ref" => (k_here; k_dflt ((with_reducible show wpAny _ _ (call (Value.ref 529) _) _ _ _); refine' slots_led ?zzzC ?zzzN ?_; (case zzzC => k_extra "CX"); (case zzzN => k_asm)); (intro _ _ _ _ _ _ _ _ _ _; (try dsimp only); (try k_fold)))
  trivial

/-- a place and a slot, as a tuple of the ledger -/
inductive TupIn (own : List (Addr × Obj)) : Value → Int × Int → Prop where
  | mk {T : Addr} {a b : Int} {t u : Tok} : (T, ({ cls := .type "tuple", data := .seq [Value.int a t, Value.int b u].toArray } : Obj)) ∈ own → TupIn own (.ref T) (a, b)
theorem TupIn.mono {own own' : List (Addr × Obj)} (hs : ∀ p ∈ own, p ∈ own') {v : Value} {p : Int × Int} (h : TupIn own v p) : TupIn own' v p := by
  cases h with
  | mk h => exact .mk (hs _ h)
theorem TupIn.at {own : List (Addr × Obj)} {h : Heap} (hs : ∀ p ∈ own, h.get? p.1 = some p.2) {v : Value} {p : Int × Int} (x : TupIn own v p) : TupAt h v p := by
  cases x with
  | mk x => exact ⟨_, _, _, rfl, _, hs _ x, rfl, _, rfl⟩
theorem ext_list {prog : Program} {w : World} {A : Around} {E : Value → Shared → Prop} {s : Shared} {h₀ : Heap} {L D b : Addr} {m : Str → Option Value} {news : List (Addr × Obj)} {gg : Obj → List (Addr × Obj)} {xs ys : List Value} {n n2 : Nat} {Q : Value → Shared → Prop}
    (F : Fr h₀ L s.heap m) (N : News h₀ L s.heap news) (hb : (b, listOf ys.toArray n2) ∈ news) (U : UpdF D (listOf xs.toArray n) news gg) (hz : xs.length + ys.length ≤ sizeLine)
    (h : ∀ h' n', Fr h₀ L h' m → News h₀ L h' (gg (listOf (xs ++ ys).toArray n')) → Q .none { s with heap := h' }) : wpAny (model prog w) A (call (.builtin "list.extend") [.ref D, .ref b]) Q E s := by
  obtain ⟨pre, post, rfl, hg, a, c⟩ := U.split
  have z := N (D, listOf xs.toArray n) (List.mem_append.mpr (.inr (.head _)))
  refine call_meets PySem.F.slot_list_extend ⟨_, z.1, rfl⟩ PySem.F.entry_list_extend (PySem.F.args_list_extend_2 _ _) (PySem.AutoSeq1.list_extend_list_list_0 D xs.toArray n b ys.toArray n2 ?_ (by rw [List.size_toArray]; omega) (by rw [List.size_toArray, List.size_toArray]; omega)) ⟨z.1, (N _ hb).1, ?_⟩
  · have : ¬ xs.toArray.size + ys.toArray.size > sizeLine := by rw [List.size_toArray, List.size_toArray]; omega
    unfold Builtin.List.listTooLong
    rw [decide_eq_false this, Bool.and_false]
    decide
  · by_cases hy : ys = []
    · subst hy
      refine h _ n (F.change (Heap.SameBut.update ..) z.2.1 z.2.2) ?_
      rw [hg, List.append_nil]
      exact kl_turn0 (fun x => x ++ #[]) N a c (by simp) rfl
    · refine h _ (n + 1) (F.change (Heap.SameBut.update ..) z.2.1 z.2.2) ?_
      rw [hg]
      refine kl_turn _ N a c ?_ ?_
      · apply Array.toList_inj.mp
        simp
      · simpa using hy
theorem paired_app {α β : Type} {F : α → β → Prop} : ∀ {l l' : List α} {r r' : List β}, Paired F l r → Paired F l' r' → Paired F (l ++ l') (r ++ r') := by
  intro l l' r r' h h'
  induction h with
  | nil => exact h'
  | cons x _ ih => exact .cons x ih
def rowPairs (r : Int × List Int) : List (Int × Int) := r.2.map fun b => (r.1, b)
theorem flat_le : ∀ rs : List (Int × List Int), (∀ r ∈ rs, r.2.length ≤ 3) → (rs.flatMap rowPairs).length ≤ 3 * rs.length
  | [], _ => by simp
  | r :: rs, h => by
    have := flat_le rs fun q hq => h q (List.mem_cons_of_mem _ hq)
    have h2 := h r (List.mem_cons_self ..)
    rw [List.flatMap_cons, List.length_append, List.length_cons]
    simp only [rowPairs, List.length_map] at *
    omega
theorem pairs_le (rs : List (Int × List Int)) (i : Nat) (h3 : rs.length ≤ 3) (hr : ∀ r ∈ rs, r.2.length ≤ 3) : ((rs.take i).flatMap rowPairs).length ≤ 9 :=
  Nat.le_trans (flat_le _ fun r h => hr r (List.mem_of_mem_take h)) (Nat.mul_le_mul_left 3 (Nat.le_trans (List.length_take_le' i rs) h3))
inductive WS (news : List (Addr × Obj)) (lo1 lp1 cA : Addr) (ns0 : List Int) (rs : List (Int × List Int)) : List (Addr × Obj) → Prop
  | mk {vs : List Value} {nv : Nat} {pvs : List Value} {np : Nat} {oc : Obj} {c : Option Value} {nw : List (Addr × Obj)} (hoc : oc.data = .cell c) (O : Off3 lo1 lp1 cA nw) (H : ∀ p ∈ news, p ∈ nw) (hvs : IntsAre vs (ns0 ++ rs.map (·.1))) (hpv : Paired (TupIn nw) pvs (rs.flatMap rowPairs)) :
    WS news lo1 lp1 cA ns0 rs ((lo1, listOf vs.toArray nv) :: (lp1, listOf pvs.toArray np) :: (cA, oc) :: nw)
theorem WS.elim {news ld : List (Addr × Obj)} {lo1 lp1 cA : Addr} {ns0 : List Int} {rs : List (Int × List Int)} {P : List (Addr × Obj) → Prop} (h : WS news lo1 lp1 cA ns0 rs ld)
    (k : ∀ vs nv pvs np oc c nw, oc.data = .cell c → Off3 lo1 lp1 cA nw → (∀ p ∈ news, p ∈ nw) → IntsAre vs (ns0 ++ rs.map (·.1)) → Paired (TupIn nw) pvs (rs.flatMap rowPairs) → P ((lo1, listOf vs.toArray nv) :: (lp1, listOf pvs.toArray np) :: (cA, oc) :: nw)) : P ld := by
  obtain ⟨a, b, c, d, e⟩ := h
  exact k _ _ _ _ _ _ _ a b c d e
inductive WT (nw : List (Addr × Obj)) (lo1 lp1 cA I : Addr) (o1 o2 o3 oI : Obj) (pa : Int) (ss : List Int) (ys : List Value) : List (Addr × Obj) → Prop
  | mk {n2 : List (Addr × Obj)} (O : Off3 lo1 lp1 cA n2) (H : ∀ p ∈ nw, p ∈ n2) (hI : ∀ p ∈ n2, p.1 ≠ I) (hys : Paired (TupIn n2) ys (ss.map fun b => (pa, b))) : WT nw lo1 lp1 cA I o1 o2 o3 oI pa ss ys ((I, oI) :: (lo1, o1) :: (lp1, o2) :: (cA, o3) :: n2)
theorem WT.elim {nw ld : List (Addr × Obj)} {lo1 lp1 cA I : Addr} {o1 o2 o3 oI : Obj} {pa : Int} {ss : List Int} {ys : List Value} {P : List (Addr × Obj) → Prop} (h : WT nw lo1 lp1 cA I o1 o2 o3 oI pa ss ys ld)
    (k : ∀ n2, Off3 lo1 lp1 cA n2 → (∀ p ∈ nw, p ∈ n2) → (∀ p ∈ n2, p.1 ≠ I) → Paired (TupIn n2) ys (ss.map fun b => (pa, b)) → P ((I, oI) :: (lo1, o1) :: (lp1, o2) :: (cA, o3) :: n2)) : P ld := by
  obtain ⟨a, b, c, d⟩ := h
  exact k _ a b c d
section
variable {w : World} {mean : ExcName → Option Value} {mg mb : Str → Option Value} {A₀ A : Around} {cn : Str} {cs : Scope} {L a : Addr} {ccd : Value} {cl : List (Str × Addr)} {outer : List Env} {base h₀ : Heap} {m : Str → Option Value}
  {s : Shared} {Q E : Value → Shared → Prop}
theorem in_intsB {prog : Program} {l : Addr} {us : List Value} {ns : List Int} {n : Nat} {x : Int} {t : Tok} {b : Bool} {news : List (Addr × Obj)} (N : News h₀ L s.heap news) (hm : (l, listOf us.toArray n) ∈ news) (hi : IntsAre us ns) (hb : decide (x ∈ ns) = b) (h : Q (.bool b) s) :
    wpAny (model prog w) A (compareOp .In (.int x t) (.ref l)) Q E s := by
  refine SeqAt.in_listAt (fun y => match y with | .int i _ => decide (i = x) | _ => false) ⟨_, (N _ hm).1, rfl, _, rfl⟩ (fun y hy => ?_) ?_
  · obtain ⟨i, hi'⟩ := List.mem_iff_getElem?.mp (Array.mem_toList_iff.mpr hy)
    obtain ⟨k, t', rfl, _⟩ := ints_get hi hi'
    exact SeqAt.EqAt.int_int _ _ _ _
  · have e : ∀ {us : List Value} {ns : List Int}, IntsAre us ns → us.any (fun y => match y with | .int i _ => decide (i = x) | _ => false) = decide (x ∈ ns) := by
      intro us ns hi
      induction hi with
      | nil => simp
      | cons k t r ih => rw [List.any_cons, ih]; simp [eq_comm]
    rw [← Array.any_toList, e hi, hb]
    exact h
theorem in_tupsB {prog : Program} {l T : Addr} {us : List Value} {ps : List (Int × Int)} {n : Nat} {p : Int × Int} {t u : Tok} {b : Bool} {own news : List (Addr × Obj)} (N : News h₀ L s.heap news) (hT : (T, ({ cls := .type "tuple", data := .seq [Value.int p.1 t, Value.int p.2 u].toArray } : Obj)) ∈ news) (hm : (l, listOf us.toArray n) ∈ news) (ho : ∀ q ∈ own, q ∈ news)
    (hi : Paired (TupIn own) us ps) (hb : decide (p ∈ ps) = b) (hu : A.in1.units < cLine) (h : Q (.bool b) s) :
    wpAny (model prog w) A (compareOp .In (.ref T) (.ref l)) Q E s := by
  have hTA : TupAt s.heap (.ref T) p := ⟨_, _, _, rfl, _, (N _ hT).1, rfl, _, rfl⟩
  have hat : ∀ q ∈ own, s.heap.get? q.1 = some q.2 := fun q hq => (N q (ho q hq)).1
  classical
  refine SeqAt.in_listAt (fun y => decide (TupAt s.heap y p)) ⟨_, (N _ hm).1, rfl, _, rfl⟩ (fun y hy => ?_) ?_
  · obtain ⟨i, hi'⟩ := List.mem_iff_getElem?.mp (Array.mem_toList_iff.mpr hy)
    obtain ⟨q, _, hq⟩ := paired_get hi hi'
    have hq' := hq.at hat
    have := TupAt.eq (A := A.in1) hq' hTA hu
    have e : decide (q = p) = decide (TupAt s.heap y p) := by
      by_cases hqa : q = p
      · rw [decide_eq_true hqa, decide_eq_true (hqa ▸ hq')]
      · rw [decide_eq_false hqa, decide_eq_false fun hb => hqa (tupAt_uniq _ _ _ hq' hb)]
    rw [← e]; exact this
  · have e : ∀ {us : List Value} {ps : List (Int × Int)}, Paired (TupIn own) us ps → us.any (fun y => decide (TupAt s.heap y p)) = decide (p ∈ ps) := by
      intro us ps hi
      induction hi with
      | nil => simp
      | @cons v q _ _ x r ih =>
        have hq' := x.at hat
        rw [List.any_cons, ih]
        have e : decide (TupAt s.heap v p) = decide (p = q) := by
          by_cases hqa : p = q
          · rw [decide_eq_true hqa, decide_eq_true (hqa ▸ hq')]
          · rw [decide_eq_false hqa, decide_eq_false fun hb => hqa (tupAt_uniq _ _ _ hb hq')]
        rw [e]; simp
    rw [← Array.any_toList, e hi, hb]
    exact h
theorem ne_same {prog : Program} {b : Bool} (h : Q (.bool false) s) : wpAny (model prog w) A (compareOp .NotEq (.bool b) (.bool b)) Q E s :=
  ne_bool (by simpa using h)
theorem ents_ones {who tips x : Int} {goal : Option Int} {rs : List (Int × List Int)} : Ent.inl x ∈ puts [] (ents who tips goal rs) ↔ x ∈ ([who, tips, 1, 4, 5] ++ goal.toList) ++ rs.map (·.1) := by
  have h1 : Ent.inl x ∈ rs.flatMap rowEnts ↔ x ∈ rs.map (·.1) := by
    rw [List.mem_flatMap, List.mem_map]
    constructor
    · rintro ⟨r, hr, h⟩
      rcases List.mem_cons.mp h with h | h
      · injection h with h; exact ⟨r, hr, h.symm⟩
      · obtain ⟨_, _, h⟩ := List.mem_map.mp h; cases h
    · rintro ⟨r, hr, rfl⟩
      exact ⟨r, hr, List.mem_cons_self ..⟩
  have h2 : Ent.inl x ∈ goal.toList.map Ent.inl ↔ x ∈ goal.toList := by
    rw [List.mem_map]
    exact ⟨fun ⟨_, h, e⟩ => by injection e with e; exact e ▸ h, fun h => ⟨x, h, rfl⟩⟩
  rw [puts_mem, List.mem_append, List.mem_append]
  simp only [ents, List.mem_append, h1, h2, List.mem_cons, List.not_mem_nil, or_false, false_or, Ent.inl.injEq, or_assoc]
theorem ents_pairs {who tips : Int} {p : Int × Int} {goal : Option Int} {rs : List (Int × List Int)} : Ent.inr p ∈ puts [] (ents who tips goal rs) ↔ p ∈ rs.flatMap rowPairs := by
  have h1 : Ent.inr p ∈ rs.flatMap rowEnts ↔ p ∈ rs.flatMap rowPairs := by
    rw [List.mem_flatMap, List.mem_flatMap]
    constructor
    · rintro ⟨r, hr, h⟩
      rcases List.mem_cons.mp h with h | h
      · cases h
      · obtain ⟨b, hb, h⟩ := List.mem_map.mp h
        injection h with h
        exact ⟨r, hr, List.mem_map.mpr ⟨b, hb, h⟩⟩
    · rintro ⟨r, hr, h⟩
      obtain ⟨b, hb, rfl⟩ := List.mem_map.mp h
      exact ⟨r, hr, List.mem_cons_of_mem _ (List.mem_map.mpr ⟨b, hb, rfl⟩)⟩
  have h2 : ¬ Ent.inr p ∈ goal.toList.map Ent.inl := fun h => by
    obtain ⟨_, _, e⟩ := List.mem_map.mp h; cases e
  rw [puts_mem]
  simp only [ents, List.mem_append, h1, h2, List.mem_cons, List.not_mem_nil, or_false, false_or, reduceCtorEq]
theorem ents_len {who tips : Int} {goal : Option Int} {rs : List (Int × List Int)} (h3 : rs.length ≤ 3) (hr : ∀ r ∈ rs, r.2.length ≤ 3) : (puts [] (ents who tips goal rs)).length < 64 := by
  have h1 := puts_len (ents who tips goal rs) []
  have h2 := flat_len rs hr
  have h4 : goal.toList.length ≤ 1 := by cases goal <;> simp
  have h5 : (ents who tips goal rs).length = 5 + (goal.toList.length + (rs.flatMap rowEnts).length) := by
    simp only [ents, List.length_append, List.length_map, List.length_cons, List.length_nil]
  have h6 : ([] : List Ent).length = 0 := rfl
  omega
theorem pairs_low {rs : List (Int × List Int)} (h : ∀ r ∈ rs, ∀ x ∈ r.2, x ∈ slots3) : ∀ p ∈ rs.flatMap rowPairs, Low p := fun p hp => by
  obtain ⟨r, hr, h1⟩ := List.mem_flatMap.mp hp
  obtain ⟨b, hb, rfl⟩ := List.mem_map.mp h1
  have := h r hr b hb
  simp only [slots3, List.mem_cons, List.not_mem_nil, or_false] at this
  rcases this with h | h | h <;> subst h <;> refine ⟨?_, ?_⟩ <;> dsimp only <;> decide
theorem isWarmSo_led {st sd se ac jl td dd wd ws od lg : Addr} {zf : Nat → Int} {tf : Nat → Tok} {nd : Nat} {tx txd al : Addr} {qf : Nat → Int} {rf : Nat → Tok} {vKind vChain vNonce vPrio vCap vLimit vGoal vVal vData vSig : Value} {nx : Nat} {bl bd : Addr} {pf : Nat → Int} {of' : Nat → Tok} {vNum vTime vFee vLim vRand vHash : Value} {tips : Int} {ob : Tok} {nb : Nat} {wl : Addr} {wlo : Obj} {wk4 : Tok} {who : Int} {wo so : Obj} {its rits : List Value} {an : Nat} {news : List (Addr × Obj)} {rs : List (Int × List Int)} {goal : Option Int}
    (C : Cx w mean mg mb A₀ A cn cs L a ccd cl outer base h₀ m s.heap 400 5000)
    (N : News h₀ L s.heap news) (m1 : (tx, instObj 511 txd) ∈ news) (m2 : (txd, (txO qf rf vKind vChain vNonce vPrio vCap vLimit vGoal vVal vData al vSig nx)) ∈ news) (m3 : (al, listOf rits.toArray an) ∈ news) (m4 : (wl, wlo) ∈ news) (m5 : (st, instObj 490 sd) ∈ news) (m6 : (sd, (sdO zf tf se ac jl td dd wd ws od lg nd)) ∈ news) (m7 : (wd, wo) ∈ news) (m8 : (ws, so) ∈ news) (m9 : (bl, instObj 182 bd) ∈ news) (m10 : (bd, (bdO pf of' vNum vTime tips ob vFee vLim vRand vHash nb)) ∈ news)
    (hwl : (wlo.IsDictOf (PySem.strKind PySem.Challenge.rw_pq0410_01.row.prog w) [(Str.ofString "state", .ref st), (Str.ofString "who", .int who wk4), (Str.ofString "info", .ref bl)]))
    (S : StOk w wo so its news (puts [] (ents who tips goal rs))) (lo : (wd == sysModules) = false) (lo2 : (ws == sysModules) = false) (D : SN st sd wd ws jl)
    (hg : GoalIs vGoal goal) (hR : RowsIn news rits rs) (hro : RowsOk rs)
    (hret : ∀ h' tk', Kept s.heap h' [] → Fr h₀ L h' m → News h₀ L h' news → Q (.bool true) { s with heap := h', toks := tk' }) :
    wpAny (model PySem.Challenge.rw_pq0410_01.row.prog w) A (call (.ref 580) [.ref tx, .ref wl]) Q E s := by
  have N0 := N
  walk_at "ENTERC"
  repeat' ((fail_if_success (with_reducible show wpAny _ _ (exec (Stmt.If _ _ _ _) _) _ _ _)); first | walk1 | (dsimp only; walk1))
  rename_i g1 L1 h1' tk1 hG1 hU1 B1 X1 T1 ll0 oF dF lo1 h2' ll1 lp1 h3' ll2 D1 h4' ll3 h5' h6' h7' h8' F3 N3
  have eF : oF.data = .cell none := by with_unfolding_all exact dF
  clear dF
  obtain ⟨M, F4, hM1, hM2, hM3, hM4⟩ : ∃ M, Fr g1 L1 h8' M ∧ M (Str.ofString "law_state") = some (.ref st) ∧ M (Str.ofString "law_ones") = some (.ref lo1) ∧ M (Str.ofString "law_pairs") = some (.ref lp1) ∧ M (Str.ofString "law_deal") = some (.ref tx) := ⟨_, F3, rfl, rfl, rfl, rfl⟩
  clear F3
  obtain ⟨vs0, nv0, hvs0, N4⟩ : ∃ vs nv, IntsAre vs [who, tips, 1, 4, 5] ∧ News g1 L1 h8' ((lo1, listOf vs.toArray nv) :: (lp1, listOf #[] 0) :: (L1 + 1, oF) :: news) := ⟨[_, _, _, _, _], _, .cons _ _ (.cons _ _ (.cons _ _ (.cons _ _ (.cons _ _ .nil)))), News.perm N3 (by walk_at "SUBT")⟩
  clear N3
  have ht1 : ∀ p ∈ news, p.1 ≠ lo1 := tail_ne ll1.2
  have ht2 : ∀ p ∈ news, p.1 ≠ lp1 := tail_ne ll2.2.2
  have ht3 : ∀ p ∈ news, p.1 ≠ L1 + 1 := fun p hp => Nat.ne_of_lt (Nat.lt_succ_of_lt (ll0 p hp))
  have O0 : Off3 lo1 lp1 (L1 + 1) news := fun p hp => ⟨ht1 p hp, ht2 p hp, ht3 p hp⟩
  have q01 : lp1 ≠ lo1 := Nat.ne_of_gt ll2.1
  have q02 : L1 + 1 ≠ lo1 := Nat.ne_of_lt ll1.1
  have q03 : L1 + 1 ≠ lp1 := Nat.ne_of_lt ll2.2.1
  clear ll0 ll1 ll2 ll3
  have hl0 : vs0.length = 5 := hvs0.length
  have hz0 : vs0.toArray.size ≤ sizeLine := by rw [List.size_toArray, sizeLine_eq, hl0]; exact Nat.le_of_ble_eq_true rfl
  obtain ⟨ns0, hns0⟩ : ∃ n, n = [who, tips, 1, 4, 5] ++ goal.toList := ⟨_, rfl⟩
  have hn0 : ns0.length ≤ 6 := by
    rw [hns0, List.length_append]
    cases goal <;> exact Nat.le_of_ble_eq_true rfl
  refine wpAny_mono (Q := JoinF g1 L1 M (WS news lo1 lp1 (L1 + 1) ns0 []) s) ?_ ?_ (fun _ _ e => e)
  · clear hret S hR hro m3 m4 m5 m6 m7 m8 m9 m10 N0 N
    revert m2
    apply goal_at hg
    · intro e m2
      k_steps
      exact .mk F4 N4 (.mk eF O0 (fun _ h => h) (by rw [List.map_nil, List.append_nil, hns0, e]; exact hvs0) .nil)
    · intro gi gt e m2
      k_steps
      simp only [List.cons_append, List.nil_append]
      walk_at "call builtin:list.append"
      k_steps
      rename_i h9' F9 N9
      rw [List.push_toArray] at N9
      exact .mk F9 N9 (.mk eF O0 (fun _ h => h) (by rw [List.map_nil, List.append_nil, hns0, e]; exact hvs0.append (.cons _ _ .nil)) .nil)
  · intro f s2 X5
    clear N4 F4 hvs0 hl0 hz0 ht1 ht2 ht3 O0 eF N
    apply JoinF.elim X5
    intro h2 tk2 ld2 F2 N2 X2
    dsimp only
    revert N2
    apply WS.elim X2
    intro vs nv pvs np oc c nw hoc O H hvs hpv N2
    have k1 := H _ m1
    have k2 := H _ m2
    have k3 := H _ m3
    clear X5 X2
    repeat' ((fail_if_success (with_reducible show wpAny _ _ (exec (Stmt.For _ _ _ _ _) _) _ _ _)); first | walk1 | (dsimp only; walk1))
    refine wpAny_For ?_ (fun _ => rfl)
    try k_fold
    repeat' ((fail_if_success (with_reducible show wpAny _ _ (pyIter _) _ _ _)); first | walk1 | (dsimp only; walk1))
    show wpAny _ _ (pyIter _) _ _ _
    try dsimp only
    refine' for_list (J := fun i m ld _ => (∀ y, m y = M y) ∧ WS news lo1 lp1 (L1 + 1) ns0 (rs.take i) ld) rfl (News.get N2 (.tail _ (.tail _ (.tail _ k3)))) rfl rfl F2 N2 ?ij ?iJ ?igo ?iturn ?idone ?iE
    case iE => passes_own
    case igo => exact fun s' v Q' h _ q => wpAny_pure q
    case iJ => exact fun i m news h h' x _ => x
    case ij => exact ⟨fun _ => rfl, .mk hoc O H hvs hpv⟩
    case iturn =>
      clear k1 k2 k3 hoc O H hvs hpv N2 F2
      intro i v m₂ news₁ h tk oI hi X hn hol F N
      have hm := X.1
      revert hn N
      apply WS.elim X.2
      intro vs nv pvs np oc c nw hoc O H hvs hpv hn N
      try dsimp only at hn N ⊢
      apply row_at hR hi
      intro T l pa t us ss kk hT1 hT2 hus hri
      have hM2' := (hm _).trans hM2
      have hM3' := (hm _).trans hM3
      have k1 := H _ hT1
      have k2 := H _ hT2
      have f7 : lo1 ≠ h2.objs.size := hn (lo1, _) (.head _)
      have f8 : lp1 ≠ h2.objs.size := hn (lp1, _) (.tail _ (.head _))
      have f9 : L1 + 1 ≠ h2.objs.size := hn (L1 + 1, _) (.tail _ (.tail _ (.head _)))
      have fo : ∀ p ∈ nw, p.1 ≠ h2.objs.size := fun p hp => hn p (.tail _ (.tail _ (.tail _ hp)))
      have e1 : ∀ p ∈ nw, p.1 ≠ lo1 := fun p hp => (O p hp).1
      have e2 : ∀ p ∈ nw, p.1 ≠ lp1 := fun p hp => (O p hp).2.1
      have e3 : ∀ p ∈ nw, p.1 ≠ L1 + 1 := fun p hp => (O p hp).2.2
      have h3 : us.length ≤ 3 := by rw [hus.length]; exact (hro.2 _ (List.mem_of_getElem? hri)).2.1
      have hpl : pvs.length ≤ 9 := by
        rw [paired_len hpv]
        exact pairs_le rs i hro.1 fun r hr => (hro.2 r hr).2.1
      have hz : vs.toArray.size ≤ sizeLine := by
        have h7 := hvs.length
        rw [List.length_append, List.length_map] at h7
        rw [List.size_toArray, sizeLine_eq, h7]
        exact Nat.le_trans (Nat.add_le_add hn0 (Nat.le_trans (List.length_take_le' i rs) hro.1)) (Nat.le_of_ble_eq_true rfl)
      have hzp : pvs.length + us.length ≤ sizeLine := by
        rw [sizeLine_eq]
        exact Nat.le_trans (Nat.add_le_add hpl h3) (Nat.le_of_ble_eq_true rfl)
      clear hn hro hR
      repeat' ((fail_if_success (with_reducible show wpAny _ _ (eval (Expr.ListComp _ _ _ _) _) _ _ _)); first | walk1 | (dsimp only; walk1))
      simp only [List.cons_append, List.nil_append]
      walk_at "call builtin:list.append"
      repeat' ((fail_if_success (with_reducible show wpAny _ _ (eval (Expr.ListComp _ _ _ _) _) _ _ _)); first | walk1 | (dsimp only; walk1))
      refine comp_eval rfl rfl (by decide) (fun _ => rfl) ?_
      try k_fold
      repeat' ((fail_if_success (with_reducible show wpAny _ _ (pyIter _) _ _ _)); first | walk1 | (dsimp only; walk1))
      show wpAny _ _ (pyIter _) _ _ _
      try dsimp only
      rename_i hA oA dA tkA hB FB NB
      refine' comp_list (J := fun j ys ld _ => WT nw lo1 lp1 (L1 + 1) h2.objs.size (listOf (vs ++ [Value.int pa t]).toArray (nv + 1)) (listOf pvs.toArray np) oA oI pa (ss.take j) ys ld) rfl (News.get NB (.tail _ (.tail _ (.tail _ (.tail _ k2))))) rfl rfl ?csz ?ccell ?ckind ?cx FB NB ?cj ?cJ ?cturn ?cdone
      case csz => exact Nat.le_trans h3 (by rw [sizeLine_eq]; exact Nat.le_of_ble_eq_true rfl)
      case ckind => rfl
      case cx => rfl
      case ccell => decide
      case cj => exact .mk O (fun _ h => h) fo .nil
      case cJ => exact fun i ys news h h' x _ => x
      case cturn =>
        clear NB FB k1 F
        intro j v7 ys news₁ h7 tk7 oI2 oD oC D C m₁ E' hj X hD hC hn7 hl7 F7 N7 hns hm7
        revert hn7 N7 hm7
        apply WT.elim X
        intro n2 O2 H2 hI2 hys
        apply ints_at hus hj
        intro b tb hb hn7 N7 hm7
        simp only [List.cons_append, List.nil_append] at N7
        dsimp only at N7 hD hC hn7
        have kT : (T, ({ cls := .type "tuple", data := .seq [Value.int pa t, Value.ref l].toArray } : Obj)) ∈ n2 := H2 _ (H _ hT1)
        k_steps
        rename_i T9 h6 F6 N6 l6
        refine elt_end (news := (h2.objs.size, oI) :: (lo1, listOf (vs ++ [Value.int pa t]).toArray (nv + 1)) :: (lp1, listOf pvs.toArray np) :: (L1 + 1, oA) :: (T9, ({ cls := .type "tuple", data := .seq [Value.int pa t, Value.int b tb].toArray } : Obj)) :: n2) F6 (News.perm N6 (by simp only [List.cons_append, List.nil_append]; walk_at "SUBT")) ?_ (News.get N6 (.tail _ (.tail _ (.tail _ (.tail _ (.tail _ (.tail _ (.tail _ (.tail _ (H2 _ k2)))))))))) (.mk
          (List.forall_mem_cons.mpr ⟨⟨Nat.ne_of_gt l6.2.2.2.2.1, Nat.ne_of_gt l6.2.2.2.2.2.1, Nat.ne_of_gt l6.2.2.2.2.2.2.1⟩, O2⟩) (fun p hp => .tail _ (H2 p hp)) (List.forall_mem_cons.mpr ⟨Nat.ne_of_gt l6.2.2.2.1, hI2⟩) ?_)
        · exact List.forall_mem_cons.mpr ⟨hn7 _ (.head _), List.forall_mem_cons.mpr ⟨hn7 _ (.tail _ (.head _)), List.forall_mem_cons.mpr ⟨hn7 _ (.tail _ (.tail _ (.head _))), List.forall_mem_cons.mpr ⟨hn7 _ (.tail _ (.tail _ (.tail _ (.head _)))), List.forall_mem_cons.mpr ⟨off3 (Nat.ne_of_gt l6.1) (Nat.ne_of_gt l6.2.1) (Nat.ne_of_gt l6.2.2.1), fun p hp => hn7 p (.tail _ (.tail _ (.tail _ (.tail _ hp))))⟩⟩⟩⟩⟩
        · rw [take_snoc hb, List.map_append]
          exact PySem.Paired.snoc (paired_mono (fun _ _ x => x.mono fun p hp => .tail _ hp) hys) (.mk (.head _))
      case cdone =>
        clear NB FB k1 F
        intro ys news₁ h6 tk6 D6 nD6 X hlen6 hD6 hl6 F6 N6 hn6
        revert N6 hn6
        apply WT.elim X
        intro n2 O2 H2 hI2 hys N6 hn6
        try dsimp only at N6 hn6 ⊢
        have n1 : lp1 ≠ D6 := hn6 (lp1, _) (.tail _ (.tail _ (.head _)))
        have n2' : lo1 ≠ D6 := hn6 (lo1, _) (.tail _ (.head _))
        have e2' : ∀ p ∈ n2, p.1 ≠ lp1 := fun p hp => (O2 p hp).2.1
        have hzy : pvs.length + ys.length ≤ sizeLine := by rw [hlen6]; exact hzp
        k_steps
        simp only [List.cons_append, List.nil_append]
        refine ext_list F6 N6 (by k_mem) (by k_updF) hzy fun h9 n9 F9 N9 => ?_
        k_steps
        refine turn_end (news := (lo1, listOf (vs ++ [Value.int pa t]).toArray (nv + 1)) :: (lp1, listOf (pvs ++ ys).toArray n9) :: (L1 + 1, oA) :: n2) F9 (News.perm N9 (by walk_at "SUBT")) (List.forall_mem_cons.mpr ⟨f7, List.forall_mem_cons.mpr ⟨f8, List.forall_mem_cons.mpr ⟨f9, hI2⟩⟩⟩) (News.get N9 (.tail _ (.tail _ (.tail _ (.tail _ (.tail _ (H2 _ (H _ m3)))))))) ⟨hm, .mk dA O2 (fun p hp => H2 p (H p hp)) ?_ ?_⟩
        · rw [take_snoc hri, List.map_append, ← List.append_assoc]
          exact hvs.append (.cons _ _ .nil)
        · rw [take_snoc hri, List.flatMap_append]
          rw [hus.length, List.take_length] at hys
          refine paired_app (paired_mono (fun _ _ x => x.mono H2) hpv) ?_
          rw [List.flatMap_cons, List.flatMap_nil, List.append_nil]
          exact hys
    case idone =>
      clear k1 k2 k3 hoc O H hvs hpv N2 F2
      intro m₁ ld3 h3 tk3 X hol F N
      have hm := X.1
      have X2 := X.2
      rw [paired_len hR, List.take_length] at X2
      have hM1' := (hm _).trans hM1
      have hM2' := (hm _).trans hM2
      have hM3' := (hm _).trans hM3
      clear X hM1 hM2 hM3 hM4
      revert N
      apply WS.elim X2
      intro vs nv pvs np oc c nw hoc O H hvs hpv N
      try dsimp only at N ⊢
      repeat' ((fail_if_success (with_reducible show wpAny _ _ (exec (Stmt.For _ _ _ _ _) _) _ _ _)); first | walk1 | (dsimp only; walk1))
      refine wpAny_For ?_ (fun _ => rfl)
      try k_fold
      repeat' ((fail_if_success (with_reducible show wpAny _ _ (binaryOp _ _ _) _ _ _)); first | walk1 | (dsimp only; walk1))
      dsimp only
      rename_i h4 tk4 T4 t1 t2 t3 t4 t5 K4 n4 D4 h5 F5 N5 l5
      obtain ⟨u5, v5, hus5, hu5, hv5, hl5, N7⟩ : ∃ u v, IntsAre (u ++ v) ([1001, 1002, 4, 2, 2 ^ 160 - 1] ++ [0, 1, 3, 5, 6, 9, 1000]) ∧ u ≠ [] ∧ v ≠ [] ∧ u.length + v.length = 12 ∧ News g1 L1 h5 ((T4, { cls := .type "tuple", data := .seq u.toArray }) :: (D4, { cls := .type "tuple", data := .seq v.toArray }) :: (lo1, listOf vs.toArray nv) :: (lp1, listOf pvs.toArray np) :: (L1 + 1, oc) :: nw) :=
        ⟨[_, _, _, _, _], [_, _, _, _, _, _, _], (IntsAre.cons _ _ (.cons _ _ (.cons _ _ (.cons _ _ (.cons _ _ .nil))))).append (.cons _ _ (.cons _ _ (.cons _ _ (.cons _ _ (.cons _ _ (.cons _ _ (.cons _ _ .nil))))))), List.cons_ne_nil _ _, List.cons_ne_nil _ _, rfl, News.perm N5 (by walk_at "SUBT")⟩
      clear N5 n4 l5 K4
      refine add_tuples F5 N7 (News.isTup N7 (.head _)) (News.isTup N7 (.tail _ (.head _))) (fun e => absurd e hu5) (fun _ e => absurd e hv5) (fun _ _ h6 F6 N6 => ?_) (by rw [hl5, sizeLine_eq]; exact Nat.le_of_ble_eq_true rfl)
      k_unfold
      dsimp only at N6 ⊢
      obtain ⟨nT, hnT⟩ : ∃ n, n = (h5.objs.size, ({ cls := .type "tuple", data := .seq (u5 ++ v5).toArray } : Obj)) :: (lo1, listOf vs.toArray nv) :: (lp1, listOf pvs.toArray np) :: nw := ⟨_, rfl⟩
      have N8 : News g1 L1 h6 nT := News.perm N6 (by rw [hnT]; walk_at "SUBT")
      have inT : ∀ p ∈ nw, p ∈ nT := fun p hp => hnT ▸ .tail _ (.tail _ (.tail _ hp))
      have mT5 : (h5.objs.size, ({ cls := .type "tuple", data := .seq (u5 ++ v5).toArray } : Obj)) ∈ nT := hnT ▸ .head _
      have mlo : (lo1, listOf vs.toArray nv) ∈ nT := hnT ▸ .tail _ (.head _)
      have mlp : (lp1, listOf pvs.toArray np) ∈ nT := hnT ▸ .tail _ (.tail _ (.head _))
      have HT : ∀ p ∈ news, p ∈ nT := fun p hp => inT p (H p hp)
      have hpT : Paired (TupIn nT) pvs (rs.flatMap rowPairs) := paired_mono (fun _ _ x => x.mono inT) hpv
      have mst := HT _ m5
      have msd := HT _ m6
      have mwd := HT _ m7
      have mws := HT _ m8
      have ST := S.mono HT
      have hb0 : ∀ x, decide (x ∈ ns0 ++ rs.map (·.1)) = decide (Ent.inl x ∈ puts [] (ents who tips goal rs)) := fun x => by rw [hns0]; exact decide_eq_decide.mpr ents_ones.symm
      clear N6 N7 F5 hnT hpv H inT O hoc m1 m2 m3 m4 m5 m6 m7 m8 m9 m10 S hu5 hv5 hl5 X2
      refine' for_tuple (J := fun i m ld _ => (∀ y, y ≠ Str.ofString "law_place" → y ≠ Str.ofString "law_slot" → m y = m₁ y) ∧ ∀ p ∈ nT, p ∈ ld) rfl (News.get N8 mT5) rfl rfl F6 N8 ?aj ?aJ ?ago ?aturn ?adone ?aE
      case aE => passes_own
      case ago => exact fun s' v Q' _ q => wpAny_pure q
      case aJ => exact fun i m news h h' x _ => x
      case aj => exact ⟨fun _ _ _ => rfl, fun _ h => h⟩
      case aturn =>
        clear F6 N8
        intro i v m₂ ld h7 tk7 oI hi X hn hol7 F7 N7
        have hm := X.1
        have hn' := fun p hp => hn p (X.2 p hp)
        replace N7 : News _ _ _ ((h6.objs.size, oI) :: nT) := List.forall_mem_cons.mpr ⟨N7 _ (.head _), fun p hp => N7 p (.tail _ (X.2 p hp))⟩
        clear hn X
        apply ints_at hus5 hi
        intro pl tp hpl
        have hM1' := (hm _ (by decide) (by decide)).trans hM1'
        have hM2' := (hm _ (by decide) (by decide)).trans hM2'
        have hM3' := (hm _ (by decide) (by decide)).trans hM3'
        have hb1 := hb0 pl
        try dsimp only at N7 hn' ⊢
        refine wpAny_assign_Name ?_
        repeat' ((fail_if_success (with_reducible show wpAny _ _ (exec (Stmt.For _ _ _ _ _) _) _ _ _)); first | walk1 | (dsimp only; walk1))
        rename_i h8 F8 N8 h9 tk9 K9 F9 N9
        obtain ⟨M9, F9', hp9, hst9, hpr9, hm9⟩ : ∃ M9, Fr g1 L1 h9 M9 ∧ M9 (Str.ofString "law_place") = some (.int pl tp) ∧ M9 (Str.ofString "law_state") = some (.ref st) ∧ M9 (Str.ofString "law_pairs") = some (.ref lp1) ∧ ∀ y, y ≠ Str.ofString "law_place" → y ≠ Str.ofString "law_slot" → M9 y = m₁ y :=
          ⟨_, F9, rfl, hM1', hM3', fun y q1 q2 => (if_neg q1).trans (hm y q1 q2)⟩
        clear F9 F8 N8 K9 hm hM1' hM2' hM3' hb1
        refine wpAny_For ?_ (fun _ => rfl)
        try k_fold
        repeat' ((fail_if_success (with_reducible show wpAny _ _ (pyIter _) _ _ _)); first | walk1 | (dsimp only; walk1))
        show wpAny _ _ (pyIter _) _ _ _
        try dsimp only
        rename_i h10 tk10 T10 t1 t2 t3 K10 F10 N10 n10
        obtain ⟨vs10, hvs10, N11⟩ : ∃ zs, IntsAre zs [0, 9, 2 ^ 256 - 1] ∧ News g1 L1 h10 ((T10, { cls := .type "tuple", data := .seq zs.toArray }) :: (h6.objs.size, oI) :: nT) := ⟨[_, _, _], .cons _ _ (.cons _ _ (.cons _ _ .nil)), N10⟩
        obtain ⟨nU, hnU⟩ : ∃ n, n = (T10, ({ cls := .type "tuple", data := .seq vs10.toArray } : Obj)) :: (h6.objs.size, oI) :: nT := ⟨_, rfl⟩
        have mT10 : (T10, ({ cls := .type "tuple", data := .seq vs10.toArray } : Obj)) ∈ nU := hnU ▸ .head _
        have inU : ∀ p ∈ nT, p ∈ nU := fun p hp => hnU ▸ .tail _ (.tail _ hp)
        have mIU : (h6.objs.size, oI) ∈ nU := hnU ▸ .tail _ (.head _)
        rw [← hnU] at N11
        have ust := inU _ mst
        have usd := inU _ msd
        have uwd := inU _ mwd
        have uws := inU _ mws
        have ulp := inU _ mlp
        have SU := ST.mono inU
        have hpU : Paired (TupIn nU) pvs (rs.flatMap rowPairs) := paired_mono (fun _ _ x => x.mono inU) hpT
        clear N10 hnU K10 n10
        refine' for_tuple (J := fun j m ld _ => (∀ y, y ≠ Str.ofString "law_slot" → m y = M9 y) ∧ ∀ p ∈ nU, p ∈ ld) rfl (News.get N11 mT10) rfl rfl F10 N11 ?bj ?bJ ?bgo ?bturn ?bdone ?bE
        case bE => passes_own
        case bgo => exact fun s' v Q' _ q => wpAny_pure q
        case bJ => exact fun i m news h h' x _ => x
        case bj => exact ⟨fun _ _ => rfl, fun _ h => h⟩
        case bturn =>
          clear F10 N11 N7 ST
          intro j v m₃ ld h11 tk11 oI2 hj X hn3 hol3 F11 N11
          have hm3 := X.1
          have hn4 := fun p hp => hn3 p (X.2 p hp)
          replace N11 : News _ _ _ ((h10.objs.size, oI2) :: nU) := List.forall_mem_cons.mpr ⟨N11 _ (.head _), fun p hp => N11 p (.tail _ (X.2 p hp))⟩
          clear hn3 X
          apply ints_at hvs10 hj
          intro sl ts hsl
          have hp3 := (hm3 _ (by decide)).trans hp9
          have hst3 := (hm3 _ (by decide)).trans hst9
          have hpr3 := (hm3 _ (by decide)).trans hpr9
          have hb2 : decide ((pl, sl) ∈ rs.flatMap rowPairs) = decide (Ent.inr (pl, sl) ∈ puts [] (ents who tips goal rs)) := decide_eq_decide.mpr ents_pairs.symm
          try dsimp only at N11 hn4 ⊢
          refine wpAny_assign_Name ?_
          k_steps
          dsimp only
          rename_i hA hB tkB KB D9 h9' F9 N9 l9
          refine in_tupsB (p := (pl, sl)) N9 (.head _) (.tail _ (.tail _ ulp)) (own := nU) (fun p hp => .tail _ (.tail _ hp)) hpU hb2 (Nat.le_of_ble_eq_true rfl) ?_
          k_steps
          exact turn_end (news := nU) F9 (fun p hp => N9 p (.tail _ hp)) hn4 (News.get N9 (.tail _ (.tail _ mT10))) ⟨fun y q => (if_neg q).trans (hm3 y q), fun _ h => h⟩
        case bdone =>
          clear F10 N11 N7 ST
          intro m₃ ld h11 tk11 X hol3 F11 N11
          replace N11 : News _ _ _ nU := fun p hp => N11 p (X.2 p hp)
          try dsimp only at N11 ⊢
          k_steps
          exact turn_end (news := nT) F11 (List.forall_mem_cons.mpr ⟨N11 _ mIU, fun p hp => N11 p (inU p hp)⟩) hn' (News.get N11 (inU _ mT5)) ⟨fun y q1 q2 => (X.1 y q2).trans (hm9 y q1 q2), fun _ h => h⟩
      case adone =>
        clear F6 N8
        intro m₂ ld h7 tk7 X hol7 F7 N7
        replace N7 : News _ _ _ nT := fun p hp => N7 p (X.2 p hp)
        have hM1' := (X.1 _ (by decide) (by decide)).trans hM1'
        have hM2' := (X.1 _ (by decide) (by decide)).trans hM2'
        have hM3' := (X.1 _ (by decide) (by decide)).trans hM3'
        try dsimp only at N7 ⊢
        clear X
        have hz9 := ents_len (who := who) (tips := tips) (goal := goal) hro.1 fun r hr => (hro.2 r hr).2.1
        have hpl9 : pvs.length ≤ 12 := by
          have := pairs_le rs rs.length hro.1 fun r hr => (hro.2 r hr).2.1
          rw [List.take_length, ← paired_len hpT] at this
          exact Nat.le_trans this (Nat.le_of_ble_eq_true rfl)
        have hvl9 : vs.length ≤ 12 := by
          rw [hvs.length, List.length_append, List.length_map]
          exact Nat.le_trans (Nat.add_le_add hn0 hro.1) (Nat.le_of_ble_eq_true rfl)
        have hlow9 := pairs_low fun r hr => (hro.2 r hr).2.2
        k_steps
        refine sortedOnes_led rfl F7 N7 mwd ST lo hz9 fun h8 tk8 Da oa qa Ka Fa Na ia nda mea soa => ?_
        dsimp only
        k_steps
        refine setInts_led rfl Fa Na (by k_mem) hvs hvl9 fun h8 tk8 Sb ob Kb Fb Nb ib => ?_
        dsimp only
        k_steps
        refine sortedSetI_led rfl Fb Nb (by k_mem) ib fun h8 tk8 Dc oc qc Kc Fc Nc ic ndc mec soc => ?_
        dsimp only
        k_steps
        have eqac : qa = qc := same_sorted (g := id) (by rw [List.map_id]; exact soa) (by rw [List.map_id]; exact soc) nda ndc (fun x => (mea x).trans (ents_ones.trans (by rw [← hns0]; exact (mec x).symm))) (fun _ _ _ _ e => e)
        refine eqInts_led Nc (by k_mem) (by k_mem) ia ic eqac (Nat.le_of_ble_eq_true rfl) ?_
        k_steps
        refine sortedPairs_led rfl Fc Nc (by k_mem) ST (fun p hp => .tail _ (.tail _ (.tail _ hp))) lo2 hz9 (fun p hp => hlow9 p (ents_pairs.mp hp)) fun h8 tk8 Dd od qd Kd Fd Nd id ndd med sod => ?_
        dsimp only
        k_steps
        have hpt : Paired (TupAt h8) pvs (rs.flatMap rowPairs) := paired_mono (fun _ _ x => x.at fun p hp => (Nd p (.tail _ (.tail _ (.tail _ (.tail _ hp))))).1) hpT
        refine setTups_led rfl (Nat.le_of_ble_eq_true rfl) Fd Nd (by k_mem) hpt hpl9 fun h9 tk9 Se oe Ke Fe Ne ie => ?_
        dsimp only
        k_steps
        refine sortedSetT_led rfl Fe Ne (by k_mem) ie Ke hlow9 fun h10 tk10 Df of qf Kf Ff Nf if' ndf mef sof => ?_
        dsimp only
        k_steps
        have eqdf : qd = qf := same_sorted (g := cd) sod sof ndd ndf (fun x => (med x).trans (ents_pairs.trans (mef x).symm)) fun a b ha hb e => cd_inj (hlow9 a (ents_pairs.mp ((med a).mp ha))) (hlow9 b (ents_pairs.mp ((med b).mp hb))) e
        refine eqTups_led Nf (by k_mem) (by k_mem) ((id.kept Ke).kept Kf) if' eqdf (Nat.le_of_ble_eq_true rfl) (Nat.le_of_ble_eq_true rfl) ?_
        k_steps
        have KE : Kept s.heap h10 [] := kept_end N0 hG1 Ff fun q hq _ => (Nf q (by (repeat' (first | exact HT q hq | refine List.mem_cons_of_mem _ ?_)))).1
        exact hret _ _ KE (C.after KE (fun h => nomatch h) (fun _ h => nomatch h)) (news_kept N0 KE)
end


section
variable {h₀ h : Heap} {L d : Addr} {news : List (Addr × Obj)}
def pk {α : Type} (x1 x2 x3 x4 x5 x6 x7 x8 x9 x10 x11 : α) : Nat → α
  | 1 => x1
  | 2 => x2
  | 3 => x3
  | 4 => x4
  | 5 => x5
  | 6 => x6
  | 7 => x7
  | 8 => x8
  | 9 => x9
  | 10 => x10
  | _ => x11
theorem se_news {y1 y2 y3 y4 y5 : Int} {k1 k2 k3 k4 k5 k6 k7 k8 : Tok} {n : Nat} (N : News h₀ L h ((d, dictOf [⟨y1, .str (Str.ofString "digest") k1, .none⟩, ⟨y2, .str (Str.ofString "curve") k2, .none⟩, ⟨y3, .str (Str.ofString "chain") k3, .int 1 k6⟩, ⟨y4, .str (Str.ofString "most_depth") k4, .int 64 k7⟩, ⟨y5, .str (Str.ofString "most_code") k5, .int 24576 k8⟩] n) :: news)) :
    ∃ f g, News h₀ L h ((d, seO f g n) :: news) := ⟨pk y1 y2 y3 y4 y5 0 0 0 0 0 0, pk k1 k2 k3 k4 k5 k6 k7 k8 0 0 0, N⟩
theorem sd_news {y1 y2 y3 y4 y5 y6 y7 y8 y9 y10 : Int} {k1 k2 k3 k4 k5 k6 k7 k8 k9 k10 k11 : Tok} {se ac jl td dd wd ws od lg : Addr} {n : Nat}
    (N : News h₀ L h ((d, dictOf [⟨y1, .str (Str.ofString "setting") k1, .ref se⟩, ⟨y2, .str (Str.ofString "accounts") k2, .ref ac⟩, ⟨y3, .str (Str.ofString "journal") k3, .ref jl⟩, ⟨y4, .str (Str.ofString "touched") k4, .ref td⟩, ⟨y5, .str (Str.ofString "destroyed") k5, .ref dd⟩, ⟨y6, .str (Str.ofString "warm_ones") k6, .ref wd⟩, ⟨y7, .str (Str.ofString "warm_slots") k7, .ref ws⟩, ⟨y8, .str (Str.ofString "originals") k8, .ref od⟩, ⟨y9, .str (Str.ofString "refund") k9, .int 0 k11⟩, ⟨y10, .str (Str.ofString "logs") k10, .ref lg⟩] n) :: news)) :
    ∃ f g, News h₀ L h ((d, sdO f g se ac jl td dd wd ws od lg n) :: news) := ⟨pk y1 y2 y3 y4 y5 y6 y7 y8 y9 y10 0, pk k1 k2 k3 k4 k5 k6 k7 k8 k9 k10 k11, N⟩
theorem tx_news {y1 y2 y3 y4 y5 y6 y7 y8 y9 y10 y11 : Int} {k1 k2 k3 k4 k5 k6 k7 k8 k9 k10 k11 : Tok} {v1 v2 v3 v4 v5 v6 v7 v8 v9 v11 : Value} {al : Addr} {n : Nat}
    (N : News h₀ L h ((d, dictOf [⟨y1, .str (Str.ofString "kind") k1, v1⟩, ⟨y2, .str (Str.ofString "chain") k2, v2⟩, ⟨y3, .str (Str.ofString "nonce") k3, v3⟩, ⟨y4, .str (Str.ofString "priority") k4, v4⟩, ⟨y5, .str (Str.ofString "cap") k5, v5⟩, ⟨y6, .str (Str.ofString "limit") k6, v6⟩, ⟨y7, .str (Str.ofString "target") k7, v7⟩, ⟨y8, .str (Str.ofString "value") k8, v8⟩, ⟨y9, .str (Str.ofString "data") k9, v9⟩, ⟨y10, .str (Str.ofString "access") k10, .ref al⟩, ⟨y11, .str (Str.ofString "signature") k11, v11⟩] n) :: news)) :
    ∃ f g, News h₀ L h ((d, txO f g v1 v2 v3 v4 v5 v6 v7 v8 v9 al v11 n) :: news) := ⟨pk y1 y2 y3 y4 y5 y6 y7 y8 y9 y10 y11, pk k1 k2 k3 k4 k5 k6 k7 k8 k9 k10 k11, N⟩
theorem bd_news {y1 y2 y3 y4 y5 y6 y7 : Int} {k1 k2 k3 k4 k5 k6 k7 ob : Tok} {v1 v2 v4 v5 v6 v7 : Value} {tips : Int} {n : Nat}
    (N : News h₀ L h ((d, dictOf [⟨y1, .str (Str.ofString "number") k1, v1⟩, ⟨y2, .str (Str.ofString "time") k2, v2⟩, ⟨y3, .str (Str.ofString "beneficiary") k3, .int tips ob⟩, ⟨y4, .str (Str.ofString "base_fee") k4, v4⟩, ⟨y5, .str (Str.ofString "limit") k5, v5⟩, ⟨y6, .str (Str.ofString "random") k6, v6⟩, ⟨y7, .str (Str.ofString "hashes") k7, v7⟩] n) :: news)) :
    ∃ f g, News h₀ L h ((d, bdO f g v1 v2 tips ob v4 v5 v6 v7 n) :: news) := ⟨pk y1 y2 y3 y4 y5 y6 y7 0 0 0 0, pk k1 k2 k3 k4 k5 k6 k7 0 0 0 0, N⟩
theorem ac_news {y1 y2 y3 y4 : Int} {k1 k2 k3 k4 k5 k6 k7 : Tok} {sto : Addr} {n : Nat}
    (N : News h₀ L h ((d, dictOf [⟨y1, .str (Str.ofString "nonce") k1, .int 0 k5⟩, ⟨y2, .str (Str.ofString "balance") k2, .int 1000000000 k6⟩, ⟨y3, .str (Str.ofString "code") k3, .bytes #[] k7⟩, ⟨y4, .str (Str.ofString "storage") k4, .ref sto⟩] n) :: news)) :
    ∃ f g, News h₀ L h ((d, acO f g sto n) :: news) := ⟨pk y1 y2 y3 y4 0 0 0 0 0 0 0, pk k1 k2 k3 k4 k5 k6 k7 0 0 0 0, N⟩
end
section
variable {w : World} {mean : ExcName → Option Value} {mg mb : Str → Option Value} {A₀ A : Around} {cn : Str} {cs : Scope} {L a : Addr} {ccd : Value} {cl : List (Str × Addr)} {outer : List Env} {base h₀ : Heap} {m : Str → Option Value}
  {s : Shared} {Q E : Value → Shared → Prop} {news : List (Addr × Obj)}
theorem news_swap {h : Heap} {p q : Addr × Obj} (N : News h₀ L h (p :: q :: news)) : News h₀ L h (q :: p :: news) := News.perm N (by walk_at "SUBT")
theorem setting_led {k1 k2 k3 : Tok} (C : Cx w mean mg mb A₀ A cn cs L a ccd cl outer base h₀ m s.heap 400 5000) (N : News h₀ L s.heap news)
    (hret : ∀ h' tk' se sed f g n, Fr h₀ L h' m → News h₀ L h' ((se, instObj 161 sed) :: (sed, seO f g n) :: news) → (∀ p ∈ news, p.1 < sed) → sed < se → Q (.ref se) { s with heap := h', toks := tk' }) :
    wpAny (model PySem.Challenge.rw_pq0410_01.row.prog w) A (call (.ref 161) [.none, .none, .int 1 k1, .int 64 k2, .int 24576 k3]) Q E s := by
  obtain ⟨kd, nm, ig, ic, mo⟩ := cs
  obtain rfl : kd = .function := C.hk
  have B := C.B
  have F := C.F
  have X := C.X
  have T := C.T
  refine lower C.hh C.hA C.hdp C.hun ?_
  k_steps
  (rename News h₀ L _ _ => N9)
  (rename Fr h₀ L _ m => F9)
  (rename ∀ p ∈ news, _ => l1)
  (rename @LT.lt Addr _ _ _ => l2)
  dsimp only at N9 F9
  obtain ⟨f, g, N2⟩ := se_news (news_swap N9)
  exact hret _ _ _ _ f g _ F9 (News.perm N2 (by walk_at "SUBT")) l1 l2
end
section
variable {prog : Program} {w : World} {K : Frag} {A : Around} {E : Value → Shared → Prop} {h₀ : Heap} {L : Addr} {m : Str → Option Value} {news : List (Addr × Obj)} {cn : Str} {cs : Scope} {a : Addr} {ccd : Value} {cl : List (Str × Addr)} {x C d : Addr} {s : Shared} {Q : Flow → Shared → Prop}
/-- where an object's fields are stored one after the other -/
structure Ini (prog : Program) (w : World) (K : Frag) (h₀ : Heap) (m : Str → Option Value) (cs : Scope) (x C d : Addr) : Prop where
  X : K.In h₀
  self : m (Str.ofString "self") = some (.ref x)
  hk : cs.kind = .function
  ks : cs.names.lookup (Str.ofString "self") = some .local
  hs : findIn K (.ref C) "__setattr__" = some (some (.builtin "object.__setattr__"))
  hp : plainOver K C = true
  hh : hasDictIn K C = true
  hx : @LT.lt Nat _ d x
  hb : h₀.NoLimit
theorem ini_set {y : Str} {v : Value} {p1 : Pos} {done : List (Str × Value)} {f : Nat → Int} {g : Nat → Tok} {n : Nat} {Q : Shared → Prop} (I : Ini prog w K h₀ m cs x C d) (ty : takerIn K C y = some none) (hny : (done.all fun p => !(p.1 == y)) = true) (hz : done.length ≤ 900) (hl : ∀ p ∈ news, p.1 ≠ d)
    (F : Fr h₀ L s.heap m) (N : News h₀ L s.heap ((x, instObj C d) :: (d, dictOf (esOf f g 1 done) n) :: news))
    (hret : ∀ h' tk' f' g', Fr h₀ L h' m → News h₀ L h' ((x, instObj C d) :: (d, dictOf (esOf f' g' 1 (done ++ [(y, v)])) (n + 1)) :: news) → Q { s with heap := h', toks := tk' }) :
    wpAny (model prog w) A (eval (.Name (Str.ofString "self") p1) (envX cn cs L a ccd cl)) (fun ov s₂ => wpAny (model prog w) A (setAttr ov y v) (fun _ => Q) E s₂) E s := by
  have hny' : ∀ p ∈ done, p.1 ≠ y := fun p hp e => by
    have := List.all_eq_true.mp hny p hp
    rw [e, beq_self_eq_true] at this
    cases this
  refine nameX_L F I.self ?_ I.hk I.ks (by decide)
  refine set_dict F I.X N (InstAt.of_news N (.head _) (.tail _ (.head _))) rfl I.hs I.hp ty I.hh (esOf_get done 1) rfl (.tail (Nat.ne_of_gt I.hx) (.head hl)) ?_ fun h' F' N' => ?_
  · rw [esOf_put done 1 hny', List.length_append, esOf_len]
    exact Nat.le_trans (Nat.succ_le_succ hz) (Nat.le_of_ble_eq_true rfl)
  · rw [esOf_put done 1 hny', esOf_putN done 1 hny'] at N'
    have e2 : esOf (fun j => if j = 1 + done.length then PyData.keyHash w.params y else f j) (fun j => if j = 1 + done.length then s.toks + 1 else g j) 1 (done ++ [(y, v)]) = esOf f g 1 done ++ [⟨PyData.keyHash w.params y, .str y (s.toks + 1), v⟩] := by
      rw [esOf_snoc, esOf_congr (f := f) (g := g) done 1 fun j hj => ⟨if_neg (Nat.ne_of_lt hj), if_neg (Nat.ne_of_lt hj)⟩, if_pos rfl, if_pos rfl]
    rw [← e2] at N'
    exact hret h' (s.toks + 2) _ _ F' N'
theorem ini_dict {y : Str} {p1 p2 p3 p4 : Pos} {rest : List Stmt} {done : List (Str × Value)} {f : Nat → Int} {g : Nat → Tok} {n : Nat} (I : Ini prog w K h₀ m cs x C d) (ty : takerIn K C y = some none) (hny : (done.all fun p => !(p.1 == y)) = true) (hz : done.length ≤ 900) (hl : ∀ p ∈ news, p.1 ≠ d)
    (F : Fr h₀ L s.heap m) (N : News h₀ L s.heap ((x, instObj C d) :: (d, dictOf (esOf f g 1 done) n) :: news))
    (hret : ∀ e o h' tk' f' g', Fr h₀ L h' m → News h₀ L h' ((x, instObj C d) :: (d, dictOf (esOf f' g' 1 (done ++ [(y, .ref e)])) (n + 1)) :: (e, o) :: news) → (∀ p ∈ (e, o) :: news, p.1 ≠ d) → (e == sysModules) = false → o.IsDictOf (PySem.intKind prog w) [] → @LT.lt Nat _ x e → (∀ p ∈ news, @LT.lt Nat _ p.1 e) →
      wpAny (model prog w) A (execs rest (envX cn cs L a ccd cl)) Q E { s with heap := h', toks := tk' }) :
    wpAny (model prog w) A (execs (.Assign [.Attribute (.Name (Str.ofString "self") p1) y p2] (.Dict [] [] p3) p4 :: rest) (envX cn cs L a ccd cl)) Q E s := by
  refine wpAny_execs_cons (plainObj_wpAny_Assign_Attribute ?_ (by rfl))
  refine newDict_K F N I.hb fun e h' o F' N' lt lo _ _ hi _ => ?_
  have lx : @LT.lt Nat _ x e := lt (x, instObj C d) (.head _)
  have hl2 : ∀ p ∈ (e, o) :: news, p.1 ≠ d := List.forall_mem_cons.mpr ⟨Nat.ne_of_gt (Nat.lt_trans I.hx lx), hl⟩
  refine ini_set (s := { s with heap := h' }) I ty hny hz hl2 F' (News.perm N' (by walk_at "SUBT")) fun h2 tk2 f2 g2 F2 N2 => ?_
  exact hret e o h2 tk2 f2 g2 F2 N2 hl2 lo hi lx fun p hp => lt p (.tail _ (.tail _ hp))
theorem ini_list {y : Str} {p1 p2 p3 p4 : Pos} {rest : List Stmt} {done : List (Str × Value)} {f : Nat → Int} {g : Nat → Tok} {n : Nat} (I : Ini prog w K h₀ m cs x C d) (ty : takerIn K C y = some none) (hny : (done.all fun p => !(p.1 == y)) = true) (hz : done.length ≤ 900) (hl : ∀ p ∈ news, p.1 ≠ d)
    (F : Fr h₀ L s.heap m) (N : News h₀ L s.heap ((x, instObj C d) :: (d, dictOf (esOf f g 1 done) n) :: news))
    (hret : ∀ e h' tk' f' g', Fr h₀ L h' m → News h₀ L h' ((x, instObj C d) :: (d, dictOf (esOf f' g' 1 (done ++ [(y, .ref e)])) (n + 1)) :: (e, listOf #[] 0) :: news) → (∀ p ∈ (e, listOf #[] 0) :: news, p.1 ≠ d) → @LT.lt Nat _ x e → (∀ p ∈ news, @LT.lt Nat _ p.1 e) →
      wpAny (model prog w) A (execs rest (envX cn cs L a ccd cl)) Q E { s with heap := h', toks := tk' }) :
    wpAny (model prog w) A (execs (.Assign [.Attribute (.Name (Str.ofString "self") p1) y p2] (.List [] p3) p4 :: rest) (envX cn cs L a ccd cl)) Q E s := by
  refine wpAny_execs_cons (plainObj_wpAny_Assign_Attribute ?_ (by rfl))
  refine List_ (spliced_none ?_)
  refine newList_K (vs := []) F N (fun e h' F' N' lt => ?_) (Nat.zero_le _)
  have lx : @LT.lt Nat _ x e := lt (x, instObj C d) (.head _)
  have hl2 : ∀ p ∈ (e, listOf #[] 0) :: news, p.1 ≠ d := List.forall_mem_cons.mpr ⟨Nat.ne_of_gt (Nat.lt_trans I.hx lx), hl⟩
  refine ini_set (s := { s with heap := h' }) I ty hny hz hl2 F' (News.perm N' (by walk_at "SUBT")) fun h2 tk2 f2 g2 F2 N2 => ?_
  exact hret e h2 tk2 f2 g2 F2 N2 hl2 lx fun p hp => lt p (.tail _ (.tail _ hp))
theorem ini_name {y z : Str} {v : Value} {p1 p2 p3 p4 : Pos} {rest : List Stmt} {done : List (Str × Value)} {f : Nat → Int} {g : Nat → Tok} {n : Nat} (I : Ini prog w K h₀ m cs x C d) (ty : takerIn K C y = some none) (hny : (done.all fun p => !(p.1 == y)) = true) (hz : done.length ≤ 900) (hl : ∀ p ∈ news, p.1 ≠ d)
    (hv : m z = some v) (kz : cs.names.lookup z = some .local) (bz : (z == ("__debug__" : Str)) = false)
    (F : Fr h₀ L s.heap m) (N : News h₀ L s.heap ((x, instObj C d) :: (d, dictOf (esOf f g 1 done) n) :: news))
    (hret : ∀ h' tk' f' g', Fr h₀ L h' m → News h₀ L h' ((x, instObj C d) :: (d, dictOf (esOf f' g' 1 (done ++ [(y, v)])) (n + 1)) :: news) →
      wpAny (model prog w) A (execs rest (envX cn cs L a ccd cl)) Q E { s with heap := h', toks := tk' }) :
    wpAny (model prog w) A (execs (.Assign [.Attribute (.Name (Str.ofString "self") p1) y p2] (.Name z p3) p4 :: rest) (envX cn cs L a ccd cl)) Q E s := by
  refine wpAny_execs_cons (plainObj_wpAny_Assign_Attribute ?_ (by rfl))
  refine nameX_L F hv ?_ I.hk kz bz
  exact ini_set I ty hny hz hl F N fun h2 tk2 f2 g2 F2 N2 => hret h2 tk2 f2 g2 F2 N2
theorem ini_int {y : Str} {i : Int} {kk : Nat} {p1 p2 p3 p4 : Pos} {rest : List Stmt} {done : List (Str × Value)} {f : Nat → Int} {g : Nat → Tok} {n : Nat} (I : Ini prog w K h₀ m cs x C d) (ty : takerIn K C y = some none) (hny : (done.all fun p => !(p.1 == y)) = true) (hz : done.length ≤ 900) (hl : ∀ p ∈ news, p.1 ≠ d)
    (F : Fr h₀ L s.heap m) (N : News h₀ L s.heap ((x, instObj C d) :: (d, dictOf (esOf f g 1 done) n) :: news))
    (hret : ∀ t h' tk' f' g', Fr h₀ L h' m → News h₀ L h' ((x, instObj C d) :: (d, dictOf (esOf f' g' 1 (done ++ [(y, .int i t)])) (n + 1)) :: news) →
      wpAny (model prog w) A (execs rest (envX cn cs L a ccd cl)) Q E { s with heap := h', toks := tk' }) :
    wpAny (model prog w) A (execs (.Assign [.Attribute (.Name (Str.ofString "self") p1) y p2] (.Constant (.int i) kk p3) p4 :: rest) (envX cn cs L a ccd cl)) Q E s := by
  refine wpAny_execs_cons (plainObj_wpAny_Assign_Attribute ?_ (by rfl))
  refine wpAny_Constant_int ?_
  exact ini_set (s := { s with toks := s.toks + 1 }) I ty hny hz hl F N fun h2 tk2 f2 g2 F2 N2 => hret _ h2 tk2 f2 g2 F2 N2
theorem ini_use {stmts : List Stmt} (I : Ini prog w K h₀ m cs x C d) (k : Ini prog w K h₀ m cs x C d → wpAny (model prog w) A (execs stmts (envX cn cs L a ccd cl)) Q E s) : wpAny (model prog w) A (execs stmts (envX cn cs L a ccd cl)) Q E s := k I
end
section
variable {w : World} {mean : ExcName → Option Value} {mg mb : Str → Option Value} {A₀ A : Around} {cn : Str} {cs : Scope} {L a : Addr} {ccd : Value} {cl : List (Str × Addr)} {outer : List Env} {base h₀ : Heap} {m : Str → Option Value}
  {s : Shared} {Q E : Value → Shared → Prop} {news : List (Addr × Obj)}
theorem state_led {se : Addr} (C : Cx w mean mg mb A₀ A cn cs L a ccd cl outer base h₀ m s.heap 400 5000) (N : News h₀ L s.heap news)
    (hret : ∀ h' tk' st sd ac jl td dd wd ws od lg f g aco tdo ddo, Fr h₀ L h' m → News h₀ L h' ((st, instObj 490 sd) :: (sd, sdO f g se ac jl td dd wd ws od lg 10) :: (ac, aco) :: (jl, listOf #[] 0) :: (td, tdo) :: (dd, ddo) :: news) →
      aco.IsDictOf (PySem.intKind PySem.Challenge.rw_pq0410_01.row.prog w) [] → tdo.IsDictOf (PySem.intKind PySem.Challenge.rw_pq0410_01.row.prog w) [] → ddo.IsDictOf (PySem.intKind PySem.Challenge.rw_pq0410_01.row.prog w) [] → (ac == sysModules) = false → (td == sysModules) = false → (dd == sysModules) = false →
      (∀ p ∈ news, p.1 < sd) → @LT.lt Nat _ sd st → @LT.lt Nat _ st ac → @LT.lt Nat _ ac jl → @LT.lt Nat _ jl td → @LT.lt Nat _ td dd → Q (.ref st) { s with heap := h', toks := tk' }) :
    wpAny (model PySem.Challenge.rw_pq0410_01.row.prog w) A (call (.ref 490) [.ref se]) Q E s := by
  refine lower C.hh C.hA C.hdp C.hun ?_
  show wpAny _ (ktrTop 400 5000 A.guards cn cs L a ccd cl outer) _ _ _ _
  refine' call_cls C.F C.X N ?m1 ?m2 ?m3 fun x d h1 F1 N1 l1 l2 => ?_
  case m1 => k_is
  case m2 => k_is
  case m3 => k_is
  refine' code_def (A := (ktrTop 400 5000 A.guards cn cs L a ccd cl outer).under _) (env := envX cn cs L a ccd cl) C.B F1 C.X N1 C.T rfl rfl C.hk ?qo ?qc ?qr ?qb ?ql (fun g L' h2 FG F2 N2 B2 X2 T2 => ?_) ?q1 ?q2 ?q3 ?q4
  case qo => k_is
  case qc => k_is
  case qr => exact (by decide : 400 + 1 < recursionLimit)
  case qb => exact BindsTo.of_eq rfl
  case ql => exact locs rfl
  case q1 => exact rfl
  case q2 => exact rfl
  case q3 => exact rfl
  case q4 => decide
  apply gen_fr F2
  clear F2
  intro M F2 eM
  have hset : M (Str.ofString "setting") = some (.ref se) := eM _
  have hself : M (Str.ofString "self") = some (.ref x) := eM _
  clear eM
  have hl0 : ∀ p ∈ news, p.1 ≠ d := fun p hp => Nat.ne_of_lt (l1 p hp)
  refine' ini_use (K := hd.heap_1 w.params) (h₀ := g) (m := M) (x := x) (C := 490) (d := d) ⟨X2, hself, ?i1, ?i2, ?i3, ?i4, ?i5, l2, T2.nolimit⟩ fun I => ?_
  case i1 => rfl
  case i2 => rfl
  case i3 => k_is
  case i4 => k_is
  case i5 => k_is
  refine' ini_name (z := Str.ofString "setting") (done := []) (f := fun _ => 0) (g := fun _ => 0) (n := 0) I ?t1 rfl (Nat.zero_le _) hl0 hset rfl (by decide) F2 N2 fun h3 tk3 f3 g3 F3 N3 => ?_
  case t1 => k_is
  refine' ini_dict I ?t2 (by with_unfolding_all rfl) (Nat.le_of_ble_eq_true rfl) hl0 F3 N3 fun ac aco h4 tk4 f4 g4 F4 N4 hl4 lac dac xac _ => ?_
  case t2 => k_is
  refine' ini_list I ?t3 (by with_unfolding_all rfl) (Nat.le_of_ble_eq_true rfl) hl4 F4 N4 fun jl h5 tk5 f5 g5 F5 N5 hl5 _ ljl => ?_
  case t3 => k_is
  refine' ini_dict I ?t4 (by with_unfolding_all rfl) (Nat.le_of_ble_eq_true rfl) hl5 F5 N5 fun td tdo h6 tk6 f6 g6 F6 N6 hl6 ltd dtd _ xtd => ?_
  case t4 => k_is
  refine' ini_dict I ?t5 (by with_unfolding_all rfl) (Nat.le_of_ble_eq_true rfl) hl6 F6 N6 fun dd ddo h7 tk7 f7 g7 F7 N7 hl7 ldd ddd _ xdd => ?_
  case t5 => k_is
  refine' ini_dict I ?t6 (by with_unfolding_all rfl) (Nat.le_of_ble_eq_true rfl) hl7 F7 N7 fun wd wdo h8 tk8 f8 g8 F8 N8 hl8 _ _ _ _ => ?_
  case t6 => k_is
  refine' ini_dict I ?t7 (by with_unfolding_all rfl) (Nat.le_of_ble_eq_true rfl) hl8 F8 N8 fun ws wso h9 tk9 f9 g9 F9 N9 hl9 _ _ _ _ => ?_
  case t7 => k_is
  refine' ini_dict I ?t8 (by with_unfolding_all rfl) (Nat.le_of_ble_eq_true rfl) hl9 F9 N9 fun od odo ha tka fa ga Fa Na hla _ _ _ _ => ?_
  case t8 => k_is
  refine' ini_int I ?t9 (by with_unfolding_all rfl) (Nat.le_of_ble_eq_true rfl) hla Fa Na fun t hb tkb fb gb Fb Nb => ?_
  case t9 => k_is
  refine' ini_list I ?t10 (by with_unfolding_all rfl) (Nat.le_of_ble_eq_true rfl) hla Fb Nb fun lg hc tkc fc gc Fc Nc _ _ _ => ?_
  case t10 => k_is
  refine wpAny_execs_nil ?_
  refine leaveK_ Fc Nc fun Fd Nd => ?_
  have N10 : News h₀ L _ ((d, sdO fc (fun i => if i = 11 then t else gc i) se ac jl td dd wd ws od lg _) :: (x, instObj 490 d) :: (lg, listOf #[] 0) :: (od, odo) :: (ws, wso) :: (wd, wdo) :: (dd, ddo) :: (td, tdo) :: (jl, listOf #[] 0) :: (ac, aco) :: news) := news_swap Nd
  exact ⟨rfl, hret _ _ x d ac jl td dd wd ws od lg fc _ aco tdo ddo Fd (News.perm N10 (by walk_at "SUBT")) dac dtd ddd lac ltd ldd l1 l2 xac (ljl _ (.head _)) (xtd _ (.head _)) (xdd _ (.head _))⟩
end


theorem at_put (who : Int) (v : Value) : valueAt (stored [] who v) who = some v := by simp [stored, valueAt]
example : True := by
  k_with "getItem ref int" => (k_here; k_dflt (refine' get_ones ?zzyN ?zzym ?zzyd ?zzyb ?_; (case zzyN => k_asm); (case zzym => k_mem); (case zzyd => k_asm); (case zzyb => exact at_put _ _)))
  trivial
section
variable {w : World} {mean : ExcName → Option Value} {mg mb : Str → Option Value} {A₀ A : Around} {cn : Str} {cs : Scope} {L a : Addr} {ccd : Value} {cl : List (Str × Addr)} {outer : List Env} {base h₀ : Heap} {m : Str → Option Value}
  {s : Shared} {Q E : Value → Shared → Prop} {news : List (Addr × Obj)}
theorem row_led0 {v1 v2 v3 v4 : Value} (C : Cx w mean mg mb A₀ A cn cs L a ccd cl outer base h₀ m s.heap 700 8000) (N : News h₀ L s.heap news)
    (hret : ∀ (h' : Heap) (tk' : Nat) (x : Addr), Fr h₀ L h' m → News h₀ L h' news → Q (.ref x) { s with heap := h', toks := tk' }) :
    wpAny (model PySem.Challenge.rw_pq0410_01.row.prog w) A (call (.ref 245) [v1, v2, v3, v4]) Q E s :=
  row_led C N fun h' tk' x _ _ _ F N _ _ => hret h' tk' x F fun p hp => N p (.tail _ (.tail _ hp))
example : True := by
  k_with "call ref" => (k_here; (with_reducible show wpAny _ _ (call (Value.ref 245) _) _ _ _); k_dflt (refine' row_led0 ?zzC ?zzN ?_; (case zzC => k_extra "CX"); (case zzN => k_asm)); (intro _ _ _ _ _))
  trivial
theorem setBal_led {st sd se ac jl td dd wd ws od lg : Addr} {zf : Nat → Int} {tf : Nat → Tok} {who : Int} {tw ta : Tok} {jn : Nat} {aco tdo ddo : Obj} (C : Cx w mean mg mb A₀ A cn cs L a ccd cl outer base h₀ m s.heap 400 5000)
    (N : News h₀ L s.heap ((st, instObj 490 sd) :: (sd, (sdO zf tf se ac jl td dd wd ws od lg 10)) :: (ac, aco) :: (jl, listOf #[] jn) :: (td, tdo) :: (dd, ddo) :: news))
    (da : aco.IsDictOf (PySem.intKind PySem.Challenge.rw_pq0410_01.row.prog w) []) (dt : tdo.IsDictOf (PySem.intKind PySem.Challenge.rw_pq0410_01.row.prog w) []) (la : (ac == sysModules) = false) (lt : (td == sysModules) = false)
    (l0 : ∀ p ∈ news, p.1 < sd) (l1 : @LT.lt Nat _ sd st) (l2 : @LT.lt Nat _ st ac) (l3 : @LT.lt Nat _ ac jl) (l4 : @LT.lt Nat _ jl td) (l5 : @LT.lt Nat _ td dd)
    (hret : ∀ h' tk' ai aid sto f g n aco' tdo', Fr h₀ L h' m → News h₀ L h' ((st, instObj 490 sd) :: (sd, (sdO zf tf se ac jl td dd wd ws od lg 10)) :: (ac, aco') :: (td, tdo') :: (dd, ddo) :: (ai, instObj 203 aid) :: (aid, acO f g sto n) :: news) →
      aco'.IsDictOf (PySem.intKind PySem.Challenge.rw_pq0410_01.row.prog w) [(who, .ref ai)] → tdo'.IsDictOf (PySem.intKind PySem.Challenge.rw_pq0410_01.row.prog w) [(who, .bool true)] → @LT.lt Nat _ dd aid → @LT.lt Nat _ dd ai → Q .none { s with heap := h', toks := tk' }) :
    wpAny (model PySem.Challenge.rw_pq0410_01.row.prog w) A (call (.ref 340) [.ref st, .int who tw, .int 1000000000 ta]) Q E s := by
  obtain ⟨kd, nm, ig, ic, mo⟩ := cs
  obtain rfl : kd = .function := C.hk
  have B := C.B
  have F := C.F
  have X := C.X
  have T := C.T
  refine lower C.hh C.hA C.hdp C.hun ?_
  have hb0 : (valueAt ([] : List (Int × Value)) who).isSome = false := rfl
  have n1 : ∀ p ∈ news, p.1 ≠ ac := fun p hp => Nat.ne_of_lt (Nat.lt_trans (l0 p hp) (Nat.lt_trans l1 l2))
  have n2 : ∀ p ∈ news, p.1 ≠ jl := fun p hp => Nat.ne_of_lt (Nat.lt_trans (l0 p hp) (Nat.lt_trans l1 (Nat.lt_trans l2 l3)))
  have n3 : ∀ p ∈ news, p.1 ≠ td := fun p hp => Nat.ne_of_lt (Nat.lt_trans (l0 p hp) (Nat.lt_trans l1 (Nat.lt_trans l2 (Nat.lt_trans l3 l4))))
  k_steps
  (rename News h₀ L _ _ => N9)
  (rename Fr h₀ L _ m => F9)
  dsimp only at N9 F9
  rename_i sto _ _ _ _ _ _ _ _ _ _ _ _ ai aid _ _ _ _ lai2 lai _ _ _ aco2 da2 _ _ _ _ _ _ _ _ tdo2 dt2 _ _ _ _ _ _ _ _ _ _ _ _ _ _ _ _ _ _ _ _ _
  have N3 := News.perm (news' := (aid, _) :: (st, instObj 490 sd) :: (sd, (sdO zf tf se ac jl td dd wd ws od lg 10)) :: (ac, aco2) :: (td, tdo2) :: (dd, ddo) :: (ai, instObj 203 aid) :: news) N9 (by walk_at "SUBT")
  obtain ⟨f, g, N4⟩ := ac_news N3
  refine hret _ _ ai aid sto f g _ aco2 tdo2 F9 (News.perm N4 (by walk_at "SUBT")) da2 dt2 lai.2.2.2.2.2.2.1 (Nat.lt_trans lai.2.2.2.2.2.2.1 lai2)
end


section
variable {prog : Program} {w : World} {A : Around} {E : Value → Shared → Prop} {s : Shared} {h₀ : Heap} {L d : Addr} {m : Str → Option Value} {news : List (Addr × Obj)} {o : Obj} {Q : Value → Shared → Prop}
theorem sorted_nil (hh : A.handled = none) (F : Fr h₀ L s.heap m) (N : News h₀ L s.heap news) (hm : (d, o) ∈ news) (hd : o.IsDictOf (PySem.intKind PySem.Challenge.rw_pq0410_01.row.prog w) []) (lo : (d == sysModules) = false)
    (h : ∀ h' tk D oD n, Fr h₀ L h' m → News h₀ L h' ((D, oD) :: news) → oD.cls = .type "list" → oD.data = .seq #[] n → Q (.ref D) { s with heap := h', toks := tk }) :
    wpAny (model PySem.Challenge.rw_pq0410_01.row.prog w) A (call (.builtin "sorted") [.ref d]) Q E s := by
  refine sorted_dict_ints hh (N _ hm).1 hd lo (by decide) fun D h' tk out q k hD ⟨oD, e, hc, n, hdd⟩ hi hnd hmem hs => ?_
  obtain ⟨F', N'⟩ := new_led F N (kept_of k) hD e
  have hq : q = [] := List.eq_nil_iff_forall_not_mem.mpr fun a ha => nomatch (hmem a).mp ha
  subst hq
  have hl : out.toList.length = 0 := hi.length
  have ho : out = #[] := Array.toList_inj.mp (List.length_eq_zero_iff.mp hl)
  exact h h' tk D oD n F' N' hc (ho ▸ hdd)
theorem sorted_one {who : Int} {v : Value} (hh : A.handled = none) (F : Fr h₀ L s.heap m) (N : News h₀ L s.heap news) (hm : (d, o) ∈ news) (hd : o.IsDictOf (PySem.intKind PySem.Challenge.rw_pq0410_01.row.prog w) [(who, v)]) (lo : (d == sysModules) = false)
    (h : ∀ h' tk D oD n t, Fr h₀ L h' m → News h₀ L h' ((D, oD) :: news) → oD.cls = .type "list" → oD.data = .seq #[.int who t] n → Q (.ref D) { s with heap := h', toks := tk }) :
    wpAny (model PySem.Challenge.rw_pq0410_01.row.prog w) A (call (.builtin "sorted") [.ref d]) Q E s := by
  refine sorted_dict_ints hh (N _ hm).1 hd lo (by show 1 < 64; decide) fun D h' tk out q k hD ⟨oD, e, hc, n, hdd⟩ hi hnd hmem hs => ?_
  obtain ⟨F', N'⟩ := new_led F N (kept_of k) hD e
  have hq : ∃ t, out.toList = [.int who t] := by
    have hw : who ∈ q := (hmem who).mpr (List.mem_cons_self ..)
    have hall : ∀ a ∈ q, a = who := fun a ha => by simpa using (hmem a).mp ha
    obtain ⟨l, hl⟩ : ∃ l, out.toList = l := ⟨_, rfl⟩
    rw [hl] at hi ⊢
    cases hi with
    | nil => cases hw
    | cons k t r =>
      have hk : k = who := hall k (List.mem_cons_self ..)
      cases r with
      | nil => exact ⟨t, by rw [hk]⟩
      | cons k' t' r =>
        have hk' : k' = who := hall k' (by simp)
        rw [List.nodup_cons] at hnd
        exact absurd (by rw [hk, hk']; exact List.mem_cons_self ..) hnd.1
  obtain ⟨t, ht⟩ := hq
  have ho : out = #[.int who t] := Array.toList_inj.mp ht
  exact h h' tk D oD n t F' N' hc (ho ▸ hdd)
end
section
variable {w : World} {mean : ExcName → Option Value} {mg mb : Str → Option Value} {A₀ A : Around} {cn : Str} {cs : Scope} {L a : Addr} {ccd : Value} {cl : List (Str × Addr)} {outer : List Env} {base h₀ : Heap} {m : Str → Option Value}
  {s : Shared} {Q E : Value → Shared → Prop} {news : List (Addr × Obj)}
theorem lt_all {d : Addr} {l : List (Addr × Obj)} (h : AllLt d l) : ∀ p ∈ l, @LT.lt Nat _ p.1 d := by
  induction l with
  | nil => intro _ hp; cases hp
  | cons q l ih =>
    intro p hp
    rcases List.mem_cons.mp hp with rfl | hp
    · exact h.1
    · exact ih h.2 p hp
theorem begin_led {st sd se ac jl td dd wd ws od lg : Addr} {zf : Nat → Int} {tf : Nat → Tok} {ai aid sto : Addr} {aco : Obj} {ahf : Nat → Int} {akf : Nat → Tok} {adn : Nat} {who : Int} {tdo ddo : Obj} (C : Cx w mean mg mb A₀ A cn cs L a ccd cl outer base h₀ m s.heap 400 5000)
    (N : News h₀ L s.heap ((st, instObj 490 sd) :: (sd, (sdO zf tf se ac jl td dd wd ws od lg 10)) :: (ac, aco) :: (td, tdo) :: (dd, ddo) :: (ai, instObj 203 aid) :: (aid, (acO ahf akf sto adn)) :: news))
    (da : aco.IsDictOf (PySem.intKind PySem.Challenge.rw_pq0410_01.row.prog w) [(who, .ref ai)]) (dt : tdo.IsDictOf (PySem.intKind PySem.Challenge.rw_pq0410_01.row.prog w) [(who, .bool true)]) (de : ddo.IsDictOf (PySem.intKind PySem.Challenge.rw_pq0410_01.row.prog w) []) (la : (ac == sysModules) = false) (lt : (td == sysModules) = false) (ld : (dd == sysModules) = false)
    (l0 : ∀ p ∈ news, p.1 < sd) (l1 : @LT.lt Nat _ sd st) (l2 : @LT.lt Nat _ st ac) (l3 : @LT.lt Nat _ ac td) (l5 : @LT.lt Nat _ td dd) (l6 : @LT.lt Nat _ dd aid) (l7 : @LT.lt Nat _ dd ai)
    (hret : ∀ h' tk' jl' td' dd' wd' ws' od' lg' wo so f g, Fr h₀ L h' m → News h₀ L h' ((st, instObj 490 sd) :: (sd, sdO f g se ac jl' td' dd' wd' ws' od' lg' 10) :: (ac, aco) :: (jl', listOf #[] 0) :: (wd', wo) :: (ws', so) :: (ai, instObj 203 aid) :: (aid, (acO ahf akf sto adn)) :: news) →
      wo.IsDictOf (PySem.intKind PySem.Challenge.rw_pq0410_01.row.prog w) [] → so.IsDictOf (PySem.intKind PySem.Challenge.rw_pq0410_01.row.prog w) [] → (wd' == sysModules) = false → (ws' == sysModules) = false → @LT.lt Nat _ ai jl' → @LT.lt Nat _ aid jl' → @LT.lt Nat _ ac jl' → @LT.lt Nat _ jl' wd' → @LT.lt Nat _ wd' ws' → Q .none { s with heap := h', toks := tk' }) :
    wpAny (model PySem.Challenge.rw_pq0410_01.row.prog w) A (call (.ref 480) [.ref st]) Q E s := by
  obtain ⟨kd, nm, ig, ic, mo⟩ := cs
  obtain rfl : kd = .function := C.hk
  have B := C.B
  have F := C.F
  have X := C.X
  have T := C.T
  refine lower C.hh C.hA C.hdp C.hun ?_
  have hb0 : (valueAt [(who, Value.ref ai)] who).isSome = true := by simp [valueAt]
  have hb1 : (valueAt ([] : List (Int × Value)) who).isSome = false := rfl
  have hb2 : valueAt [(who, Value.ref ai)] who = some (.ref ai) := by simp [valueAt]
  obtain ⟨nt, hnt⟩ : ∃ n, n = (st, instObj 490 sd) :: (ac, aco) :: (td, tdo) :: (dd, ddo) :: (ai, instObj 203 aid) :: (aid, (acO ahf akf sto adn)) :: news := ⟨_, rfl⟩
  have NT : News h₀ L s.heap ((sd, (sdO zf tf se ac jl td dd wd ws od lg 10)) :: nt) := News.perm N (by rw [hnt]; walk_at "SUBT")
  have mst : (st, instObj 490 sd) ∈ nt := hnt ▸ .head _
  have mac : (ac, aco) ∈ nt := hnt ▸ .tail _ (.head _)
  have mtd : (td, tdo) ∈ nt := hnt ▸ .tail _ (.tail _ (.head _))
  have mdd : (dd, ddo) ∈ nt := hnt ▸ .tail _ (.tail _ (.tail _ (.head _)))
  have mai : (ai, instObj 203 aid) ∈ nt := hnt ▸ .tail _ (.tail _ (.tail _ (.tail _ (.head _))))
  have maid : (aid, (acO ahf akf sto adn)) ∈ nt := hnt ▸ .tail _ (.tail _ (.tail _ (.tail _ (.tail _ (.head _)))))
  have hin : ∀ p ∈ news, p ∈ nt := fun p hp => hnt ▸ .tail _ (.tail _ (.tail _ (.tail _ (.tail _ (.tail _ hp)))))
  have e2 := Nat.lt_trans l1 l2
  have e3 := Nat.lt_trans e2 l3
  have e4 := Nat.lt_trans e3 l5
  have hf : ∀ p ∈ nt, p.1 ≠ sd := hnt ▸ List.forall_mem_cons.mpr ⟨Nat.ne_of_gt l1, List.forall_mem_cons.mpr ⟨Nat.ne_of_gt e2, List.forall_mem_cons.mpr ⟨Nat.ne_of_gt e3, List.forall_mem_cons.mpr ⟨Nat.ne_of_gt e4, List.forall_mem_cons.mpr ⟨Nat.ne_of_gt (Nat.lt_trans e4 l7), List.forall_mem_cons.mpr ⟨Nat.ne_of_gt (Nat.lt_trans e4 l6), fun p hp => Nat.ne_of_lt (l0 p hp)⟩⟩⟩⟩⟩⟩
  clear N hnt e2 e3 e4 l0 l1 l2 l3 l5 l6 l7
  repeat' ((fail_if_success (with_reducible show wpAny _ _ (exec (Stmt.For _ _ _ _ _) _) _ _ _)); first | walk1 | (dsimp only; walk1))
  rename_i g2 L2 h2 FG2 F2 N2 B2 X2 T2
  obtain ⟨M, F3, hM⟩ : ∃ M, Fr g2 L2 h2 M ∧ M (Str.ofString "self") = some (.ref st) := ⟨_, F2, rfl⟩
  clear F2
  refine wpAny_For ?_ (fun _ => rfl)
  try k_fold
  k_steps
  dsimp only
  refine sorted_nil rfl (by k_asm) (by k_asm) (by k_mem) de ld fun h9 tk9 D9 o9 n9 F9 N9 c9 d9 => ?_
  dsimp only
  k_steps
  refine sorted_one rfl F9 N9 (by k_mem) dt lt fun h8 tk8 D8 o8 n8 t8 F8 N8 c8 d8 => ?_
  dsimp only
  k_steps
  refine kmk_add_lit F8 N8 ⟨_, (N8 (D9, o9) (.tail _ (.head _))).1, c9, _, d9⟩ ⟨_, (N8 (D8, o8) (.head _)).1, c8, _, d8⟩ (zs := [.int who t8]) rfl ?_ (Nat.le_of_ble_eq_true rfl)
  intro D7 h7 F7 N7 l7'
  clear l7'
  repeat' ((fail_if_success (with_reducible show wpAny _ _ (pyIter _) _ _ _)); first | k_unfold | walk1 | (dsimp only; walk1))
  dsimp only
  show wpAny _ _ (pyIter _) _ _ _
  obtain ⟨n6, hn6⟩ : ∃ n, n = (D7, listOf [Value.int who t8].toArray 0) :: (sd, (sdO zf tf se ac jl td dd wd ws od lg 10)) :: nt := ⟨_, rfl⟩
  have N6 : News g2 L2 h7 n6 := News.perm N7 (by rw [hn6]; walk_at "SUBT")
  have i6 : ∀ p ∈ nt, p ∈ n6 := fun p hp => hn6 ▸ .tail _ (.tail _ hp)
  have msd6 : (sd, (sdO zf tf se ac jl td dd wd ws od lg 10)) ∈ n6 := hn6 ▸ .tail _ (.head _)
  have mD7 : (D7, listOf [Value.int who t8].toArray 0) ∈ n6 := hn6 ▸ .head _
  clear N7 N8 N9 F8 F9 c9 d9 c8 d8 hn6 F3
  refine' for_list (J := fun i m' ld _ => (∀ y, y ≠ Str.ofString "address" → m' y = M y) ∧ ∀ p ∈ n6, p ∈ ld) rfl (News.get N6 mD7) rfl rfl F7 N6 ?aj ?aJ ?ago ?aturn ?adone ?aE
  case aE => passes_own
  case ago => exact fun s' v Q' h _ q => wpAny_pure q
  case aJ => exact fun i m news h h' x _ => x
  case aj => exact ⟨fun _ _ => rfl, fun _ h => h⟩
  case aturn =>
    have kst := i6 _ mst
    have kac := i6 _ mac
    have kdd := i6 _ mdd
    have kai := i6 _ mai
    have kaid := i6 _ maid
    clear F7 N6 hret mst mac mtd mdd mai maid
    intro i v m₂ ld h tk oI hi X hn hol F5 N5
    have hm := X.1
    replace hn := fun p hp => hn p (X.2 p hp)
    replace N5 : News _ _ _ (_ :: n6) := List.forall_mem_cons.mpr ⟨N5 _ (.head _), fun p hp => N5 p (.tail _ (X.2 p hp))⟩
    clear X
    have ev : v = .int who t8 := by
      have := List.mem_of_getElem? hi
      exact List.mem_singleton.mp this
    subst ev
    have hM' := (hm _ (by decide)).trans hM
    dsimp only at N5 hn
    have N5' : News _ _ _ ((ac, aco) :: (h7.objs.size, oI) :: n6) := List.forall_mem_cons.mpr ⟨N5 _ (.tail _ kac), N5⟩
    clear N5
    refine wpAny_assign_Name ?_
    k_steps
    (rename News g2 _ _ _ => N9)
    (rename Fr g2 _ _ _ => F9)
    exact turn_end F9 (fun p hp => N9 p (.tail _ hp)) hn (News.get N9 (.tail _ (.tail _ mD7))) ⟨fun y q => (if_neg q).trans (hm y q), fun _ h => h⟩
  case adone =>
    intro m₂ ld h tk X hol F5 N5
    have hM' := (X.1 _ (by decide)).trans hM
    replace N5 : News _ _ _ ((sd, (sdO zf tf se ac jl td dd wd ws od lg 10)) :: nt) := List.forall_mem_cons.mpr ⟨N5 _ (X.2 _ msd6), fun p hp => N5 p (X.2 _ (i6 p hp))⟩
    clear X F7 N6 i6 msd6 mD7
    try dsimp only at N5 ⊢
    k_steps
    (rename News h₀ L _ _ => N9)
    (rename Fr h₀ L _ m => F9)
    dsimp only at N9 F9
    rename_i jl2 _ lj _ td2 _ _ _ _ _ _ _ _ _ dd2 _ _ _ _ _ _ _ _ _ wd2 _ wo2 low _ _ hiw _ lw _ ws2 _ so2 los _ _ his _ ls _ od2 _ _ _ _ _ _ _ _ _ _ _ _ _ _ lg2 _ _ _ _ _ _ _
    have N3 := News.perm (news' := (sd, _) :: (st, instObj 490 sd) :: (ac, aco) :: (jl2, listOf #[] 0) :: (wd2, wo2) :: (ws2, so2) :: (ai, instObj 203 aid) :: (aid, (acO ahf akf sto adn)) :: news) N9 (by
      repeat (refine List.forall_mem_cons.mpr ⟨by k_mem, ?_⟩)
      intro p hp
      repeat (refine List.mem_cons_of_mem _ ?_)
      exact hin p hp)
    obtain ⟨f, g, N4⟩ := sd_news N3
    exact hret _ _ jl2 td2 dd2 wd2 ws2 od2 lg2 wo2 so2 f g F9 (news_swap N4) hiw his low los (lt_all lj.2 _ mai) (lt_all lj.2 _ maid) (lt_all lj.2 _ mac) lw.2.2.1 ls.1
end


section
variable {w : World} {mean : ExcName → Option Value} {mg mb : Str → Option Value} {A₀ A : Around} {cn : Str} {cs : Scope} {L a : Addr} {ccd : Value} {cl : List (Str × Addr)} {outer : List Env} {base h₀ : Heap} {m : Str → Option Value}
  {s : Shared} {Q E : Value → Shared → Prop} {news : List (Addr × Obj)}
theorem trans_led {v1 v2 v3 v4 v5 v6 v7 v8 v9 v11 : Value} {al : Addr} (C : Cx w mean mg mb A₀ A cn cs L a ccd cl outer base h₀ m s.heap 450 5500) (N : News h₀ L s.heap news)
    (hret : ∀ h' tk' tx txd f g n, Fr h₀ L h' m → News h₀ L h' ((tx, instObj 511 txd) :: (txd, txO f g v1 v2 v3 v4 v5 v6 v7 v8 v9 al v11 n) :: news) → (∀ p ∈ news, p.1 < txd) → txd < tx → Q (.ref tx) { s with heap := h', toks := tk' }) :
    wpAny (model PySem.Challenge.rw_pq0410_01.row.prog w) A (call (.ref 511) [v1, v2, v3, v4, v5, v6, v7, v8, v9, .ref al, v11]) Q E s :=
  transaction_led C N fun _ _ _ _ f g F N l1 l2 => hret _ _ _ _ f g _ F N l1 l2
theorem block_led {v1 v2 v4 v5 v6 v7 : Value} {tips : Int} {ob : Tok} (C : Cx w mean mg mb A₀ A cn cs L a ccd cl outer base h₀ m s.heap 400 5000) (N : News h₀ L s.heap news)
    (hret : ∀ h' tk' bl bd f g n, Fr h₀ L h' m → News h₀ L h' ((bl, instObj 182 bd) :: (bd, bdO f g v1 v2 tips ob v4 v5 v6 v7 n) :: news) → (∀ p ∈ news, p.1 < bd) → bd < bl → Q (.ref bl) { s with heap := h', toks := tk' }) :
    wpAny (model PySem.Challenge.rw_pq0410_01.row.prog w) A (call (.ref 182) [v1, v2, .int tips ob, v4, v5, v6, v7]) Q E s :=
  blockinfo_led C N fun _ _ _ _ f g F N l1 l2 => hret _ _ _ _ f g _ F N l1 l2
theorem mark_led {st sd se ac jl td dd wd ws od lg : Addr} {zf : Nat → Int} {tf : Nat → Tok} {nd : Nat} {n : Nat} (C : Cx w mean mg mb A₀ A cn cs L a ccd cl outer base h₀ m s.heap 400 5000) (N : News h₀ L s.heap news) (m1 : (st, instObj 490 sd) ∈ news) (m2 : (sd, (sdO zf tf se ac jl td dd wd ws od lg nd)) ∈ news) (m3 : (jl, listOf #[] n) ∈ news)
    (hret : ∀ h' tk' t, Kept s.heap h' [] → Fr h₀ L h' m → News h₀ L h' news → Q (.int 0 t) { s with heap := h', toks := tk' }) :
    wpAny (model PySem.Challenge.rw_pq0410_01.row.prog w) A (call (.ref 466) [.ref st]) Q E s := by
  have N0 := N
  walk_at "ENTER"
  rename_i g1 L1 h1' hG1 hU1 F1 N1 B1 X1 T1
  k_steps
  show Q _ _
  have K : Kept s.heap h1' [] := fun b o e _ => hU1 b o e
  exact hret _ _ _ K (C.after K (by simp) (by simp)) (news_kept N K)
theorem addrs_led {st sd se ac jl td dd wd ws od lg : Addr} {zf : Nat → Int} {tf : Nat → Tok} {nd : Nat} {who : Int} {v : Value} {aco : Obj} (C : Cx w mean mg mb A₀ A cn cs L a ccd cl outer base h₀ m s.heap 400 5000) (N : News h₀ L s.heap news) (m1 : (st, instObj 490 sd) ∈ news) (m2 : (sd, (sdO zf tf se ac jl td dd wd ws od lg nd)) ∈ news) (m3 : (ac, aco) ∈ news)
    (da : aco.IsDictOf (PySem.intKind PySem.Challenge.rw_pq0410_01.row.prog w) [(who, v)]) (la : (ac == sysModules) = false)
    (hret : ∀ h' tk' D oD n t, Fr h₀ L h' m → News h₀ L h' ((D, oD) :: news) → oD.cls = .type "list" → oD.data = .seq #[.int who t] n → Q (.ref D) { s with heap := h', toks := tk' }) :
    wpAny (model PySem.Challenge.rw_pq0410_01.row.prog w) A (call (.ref 291) [.ref st]) Q E s := by
  obtain ⟨kd, nm, ig, ic, mo⟩ := cs
  obtain rfl : kd = .function := C.hk
  have B := C.B
  have F := C.F
  have X := C.X
  have T := C.T
  refine lower C.hh C.hA C.hdp C.hun ?_
  k_steps
  refine sorted_one rfl (by k_asm) (by k_asm) (by k_mem) da la fun h8 tk8 D8 o8 n8 t8 F8 N8 c8 d8 => ?_
  dsimp only
  k_steps
  (rename News h₀ L _ _ => N9)
  (rename Fr h₀ L _ m => F9)
  dsimp only at N9 F9
  exact hret _ _ _ _ _ _ F9 N9 c8 d8
example : True := by
  k_with "getAttr ref" => (k_here; (with_reducible show wpAny _ _ (getAttr (Value.ref _) (PySem.Str.ofString "target") _) _ _ _); k_dflt (refine' get_own ?zzk1 ?zzk2 ?zzk3 ?zzk4 ?zzk5 ?zzk6 ?zzk7 ?zzk8 ?zzk9 ?_; (case zzk1 => k_asm); (case zzk2 => k_asm); (case zzk3 => k_inst); (case zzk4 => k_is); (case zzk5 => k_is); (case zzk6 => k_is); (case zzk7 => k_is); (case zzk8 => k_get); (case zzk9 => with_reducible assumption); k_whole))
  trivial
theorem goal_handed {v : Value} {goal : Option Int} (h : GoalIs v goal) : handedIn v = true := by
  rcases h with ⟨_, rfl⟩ | ⟨_, _, _, rfl⟩ <;> rfl
theorem with_led {tx txd al : Addr} {qf : Nat → Int} {rf : Nat → Tok} {vLimit vGoal vSig : Value} {nx : Nat} {limit : Int} {tl : Tok} {kind prio cap worth : Int} {u1 u2 u3 u4 u5 u7 : Tok} {data : Array UInt8} {tb : Tok} {goal : Option Int} (C : Cx w mean mg mb A₀ A cn cs L a ccd cl outer base h₀ m s.heap 400 5000) (N : News h₀ L s.heap news) (m1 : (tx, instObj 511 txd) ∈ news) (m2 : (txd, txO qf rf (.int kind u1) (.int 1 u2) (.int 0 u3) (.int prio u4) (.int cap u5) vLimit vGoal (.int worth u7) (.bytes data tb) al vSig nx) ∈ news) (hg : GoalIs vGoal goal)
    (hret : ∀ h' tk' tx' txd' t1 t2 f g n, Fr h₀ L h' m → News h₀ L h' ((tx', instObj 511 txd') :: (txd', txO f g (.int kind u1) (.int 1 t1) (.int 0 t2) (.int prio u4) (.int cap u5) (.int limit tl) vGoal (.int worth u7) (.bytes data tb) al .none n) :: news) → (∀ p ∈ news, p.1 < txd') → txd' < tx' → Q (.ref tx') { s with heap := h', toks := tk' }) :
    wpAny (model PySem.Challenge.rw_pq0410_01.row.prog w) A (call (.ref 568) [.ref tx, .int limit tl]) Q E s := by
  obtain ⟨kd, nm, ig, ic, mo⟩ := cs
  obtain rfl : kd = .function := C.hk
  have hgd := goal_handed hg
  have B := C.B
  have F := C.F
  have X := C.X
  have T := C.T
  refine lower C.hh C.hA C.hdp C.hun ?_
  repeat' ((fail_if_success (with_reducible show wpAny _ _ (call (Value.ref 511) _) _ _ _)); first | walk1 | (dsimp only; walk1))
  refine' trans_led ?zC (by k_asm) (fun h4 tk4 tx4 txd4 f4 g4 n4 F4 N4 l4 l5 => ?_)
  case zC => walk_at "CX"
  dsimp only
  k_steps
  (rename News h₀ L _ _ => N9)
  (rename Fr h₀ L _ m => F9)
  exact hret _ _ _ _ _ _ f4 g4 _ F9 N9 l4 l5
end


theorem ones_without {σ : List Ent} {a : Int} (h : Ent.inl a ∉ σ) : without (ones (σ ++ [Ent.inl a])) a = ones σ := by
  have e : ones (σ ++ [Ent.inl a]) = ones σ ++ [(a, .bool true)] := by simp [ones, oneOf]
  have hn : a ∉ (ones σ).map (·.1) := fun q => by
    obtain ⟨x, hx, rfl⟩ := List.mem_map.mp q
    exact h (ones_mem.mp ⟨x.2, hx⟩)
  rw [e]
  unfold without
  rw [List.filter_append]
  have := without_of_not_mem (ones σ) a hn
  unfold without at this
  rw [this]
  simp
theorem ones_last {σ : List Ent} {a : Int} : (valueAt (ones (σ ++ [Ent.inl a])) a).isSome = true := by rw [ones_has]; simp
section
variable {w : World} {mean : ExcName → Option Value} {mg mb : Str → Option Value} {A₀ A : Around} {cn : Str} {cs : Scope} {L a : Addr} {ccd : Value} {cl : List (Str × Addr)} {outer : List Env} {base h₀ : Heap} {m : Str → Option Value}
  {s : Shared} {Q E : Value → Shared → Prop} {news : List (Addr × Obj)}
theorem undone_led {st sd se ac jl td dd wd ws od lg : Addr} {zf : Nat → Int} {tf : Nat → Tok} {nd : Nat} {wo so : Obj} {x : Addr} {e : Ent} {own : List (Addr × Obj)} {σ : List Ent} (C : Cx w mean mg mb A₀ A cn cs L a ccd cl outer base h₀ m s.heap 450 5500)
    (N : News h₀ L s.heap ((wd, wo) :: (ws, so) :: news)) (m1 : (st, instObj 490 sd) ∈ news) (m2 : (sd, (sdO zf tf se ac jl td dd wd ws od lg nd)) ∈ news) (hr : JRow news (.ref x) e) (ho : ∀ p ∈ own, p ∈ news)
    (one : wo.IsDictOf (PySem.intKind PySem.Challenge.rw_pq0410_01.row.prog w) (ones (σ ++ [e]))) (pr : ∃ xs, PairsObj w so own xs ∧ xs.map (·.1) = prs (σ ++ [e])) (nd' : (σ ++ [e]).Nodup) (lo : (wd == sysModules) = false) (lo2 : (ws == sysModules) = false)
    (n1 : ∀ p ∈ news, p.1 ≠ wd) (n2 : ∀ p ∈ news, p.1 ≠ ws) (n3 : wd ≠ ws) (hz : σ.length ≤ 100)
    (hret : ∀ h' tk' wo' so', Fr h₀ L h' m → News h₀ L h' ((wd, wo') :: (ws, so') :: news) → wo'.IsDictOf (PySem.intKind PySem.Challenge.rw_pq0410_01.row.prog w) (ones σ) → (∃ xs, PairsObj w so' own xs ∧ xs.map (·.1) = prs σ) → Q .none { s with heap := h', toks := tk' }) :
    wpAny (model PySem.Challenge.rw_pq0410_01.row.prog w) A (call (.ref 263) [.ref st, .ref x]) Q E s := by
  obtain ⟨kd, nm, ig, ic, mo⟩ := cs
  obtain rfl : kd = .function := C.hk
  have B := C.B
  have F := C.F
  have X := C.X
  have T := C.T
  refine lower C.hh C.hA C.hdp C.hun ?_
  repeat' ((fail_if_success (with_reducible show wpAny _ _ (exec (Stmt.If _ _ _ _) _) _ _ _)); first | walk1 | (dsimp only; walk1))
  (rename Fr _ _ _ _ => F2)
  apply gen_fr F2
  clear F2
  intro M F2 eM
  have hM1 : M (Str.ofString "state") = some (.ref st) := eM _
  have hM2 : M (Str.ofString "row") = some (.ref x) := eM _
  clear eM
  have hne : e ∉ σ := fun q => by
    rw [List.nodup_append] at nd'
    exact nd'.2.2 e q e (List.mem_singleton.mpr rfl) rfl
  cases hr with
  | @one _ d aa _ _ _ _ _ _ _ _ _ _ _ _ _ r1 r2 =>
    k_steps
    dsimp only
    rw [prs_skip] at pr
    refine kob_del (knd := PySem.intKind _ _) (by k_asm) (by k_asm) (by k_updF) one (intKind_is _ _ _ _) ones_last (Nat.le_trans (ones_len _) (by rw [List.length_append, sizeLine_eq]; exact Nat.le_trans (Nat.succ_le_succ hz) (by decide))) fun h8 o8 F8 N8 d8 => ?_
    rw [ones_without hne] at d8
    dsimp only at N8 ⊢
    k_steps
    (rename News h₀ L _ _ => N9)
    (rename Fr h₀ L _ m => F9)
    dsimp only at N9 F9
    exact hret _ _ _ _ F9 (News.perm N9 (by walk_at "SUBT")) d8 pr
  | @two _ d aa bb _ _ _ _ _ _ _ _ _ _ _ _ _ r1 r2 =>
    obtain ⟨xs, P, hx⟩ := pr
    rw [prs_add] at hx
    obtain ⟨ys, zs, rfl, h1, h2⟩ := List.map_eq_append_iff.mp hx
    obtain ⟨⟨k, p⟩, rfl, hk⟩ := List.map_eq_singleton_iff.mp h2
    dsimp only at hk
    subst hk
    rw [ones_skip] at one
    k_steps
    dsimp only
    (rename News _ _ _ _ => N9)
    refine del_pairs (by k_asm) N9 (by k_updF) P (fun p hp => by (repeat' (first | exact ho p hp | refine List.mem_cons_of_mem _ ?_))) (.head _) tupKey2 (Nat.le_of_ble_eq_true rfl) ?_ fun h8 o8 F8 N8 P8 => ?_
    · have := prs_len σ
      rw [← h1, List.length_map] at this
      rw [sizeLine_eq]; omega
    dsimp only at N8 ⊢
    k_steps
    (rename News h₀ L _ _ => N7)
    (rename Fr h₀ L _ m => F7)
    dsimp only at N7 F7
    exact hret _ _ _ _ F7 (News.perm N7 (by walk_at "SUBT")) one ⟨ys, P8, h1⟩
end


theorem last_snoc : ∀ (l : List Value) (v : Value), kl_last (l ++ [v]) = some (l, v)
  | [], v => rfl
  | x :: l, v => by
    rw [List.cons_append]
    unfold kl_last
    rw [last_snoc l v]
theorem paired_snoc {α β : Type} {F : α → β → Prop} {v : α} : ∀ {l : List α} {r : List β}, Paired F (l ++ [v]) r → ∃ r' e, r = r' ++ [e] ∧ Paired F l r' ∧ F v e := by
  intro l
  induction l with
  | nil => intro r h; cases h with | cons h t => cases t; exact ⟨[], _, rfl, .nil, h⟩
  | cons x l ih =>
    intro r h
    cases h with
    | cons h t =>
      obtain ⟨r', e, rfl, h1, h2⟩ := ih t
      exact ⟨_ :: r', e, rfl, .cons h h1, h2⟩
section
variable {w : World} {mean : ExcName → Option Value} {mg mb : Str → Option Value} {A₀ A : Around} {cn : Str} {cs : Scope} {L a : Addr} {ccd : Value} {cl : List (Str × Addr)} {outer : List Env} {base h₀ : Heap} {m : Str → Option Value}
  {s : Shared} {Q E : Value → Shared → Prop} {news : List (Addr × Obj)}
inductive BJ (w : World) (M : Str → Option Value) (jl wd ws : Addr) (news : List (Addr × Obj)) : Nat → (Str → Option Value) → List (Addr × Obj) → Prop
  | mk {σ : List Ent} {its : List Value} {jn : Nat} {wo so : Obj} (hz : σ.length ≤ 100) (S : StOk w wo so its news σ) : BJ w M jl wd ws news σ.length M ((jl, listOf its.toArray jn) :: (wd, wo) :: (ws, so) :: news)
theorem BJ.elim {M : Str → Option Value} {jl wd ws : Addr} {n : Nat} {m' : Str → Option Value} {nw : List (Addr × Obj)} {P : Nat → (Str → Option Value) → List (Addr × Obj) → Prop} (X : BJ w M jl wd ws news n m' nw)
    (k : ∀ σ its jn wo so, σ.length ≤ 100 → StOk w wo so its news σ → P σ.length M ((jl, listOf its.toArray jn) :: (wd, wo) :: (ws, so) :: news)) : P n m' nw := by
  cases X with
  | mk hz S => exact k _ _ _ _ _ hz S
theorem rows_last {its : List Value} {σ : List Ent} {P : List Value → List Ent → Prop} (h : Paired (JRow news) its σ) (h0 : ¬ its = []) (k : ∀ ps x σ' e, Paired (JRow news) ps σ' → JRow news (.ref x) e → P (ps ++ [.ref x]) (σ' ++ [e])) : P its σ := by
  obtain ⟨ps, v, rfl⟩ : ∃ ps v, its = ps ++ [v] := ⟨_, _, (List.dropLast_concat_getLast h0).symm⟩
  obtain ⟨σ', e, rfl, hps, hre⟩ := paired_snoc h
  cases hre with
  | one a b => exact k _ _ _ _ hps (.one a b)
  | two a b => exact k _ _ _ _ hps (.two a b)
theorem back_led {st sd se ac jl td dd wd ws od lg : Addr} {zf : Nat → Int} {tf : Nat → Tok} {nd : Nat} {wo so : Obj} {its : List Value} {jn : Nat} {t0 : Tok} {σ : List Ent} (C : Cx w mean mg mb A₀ A cn cs L a ccd cl outer base h₀ m s.heap 400 5000)
    (N : News h₀ L s.heap ((jl, listOf its.toArray jn) :: (wd, wo) :: (ws, so) :: news)) (m1 : (st, instObj 490 sd) ∈ news) (m2 : (sd, (sdO zf tf se ac jl td dd wd ws od lg nd)) ∈ news)
    (S : StOk w wo so its news σ) (lo : (wd == sysModules) = false) (lo2 : (ws == sysModules) = false)
    (n1 : ∀ p ∈ news, p.1 ≠ wd) (n2 : ∀ p ∈ news, p.1 ≠ ws) (n4 : ∀ p ∈ news, p.1 ≠ jl) (n3 : wd ≠ ws) (n5 : jl ≠ wd) (n6 : jl ≠ ws) (hz : σ.length ≤ 100)
    (hret : ∀ h' tk' wo' so' jn', Fr h₀ L h' m → News h₀ L h' ((jl, listOf #[] jn') :: (wd, wo') :: (ws, so') :: news) → StOk w wo' so' [] news [] → Q .none { s with heap := h', toks := tk' }) :
    wpAny (model PySem.Challenge.rw_pq0410_01.row.prog w) A (call (.ref 473) [.ref st, .int 0 t0]) Q E s := by
  obtain ⟨kd, nm, ig, ic, mo⟩ := cs
  obtain rfl : kd = .function := C.hk
  have B := C.B
  have F := C.F
  have X := C.X
  have T := C.T
  refine lower C.hh C.hA C.hdp C.hun ?_
  repeat' ((fail_if_success (with_reducible show wpAny _ _ (exec (Stmt.While _ _ _ _) _) _ _ _)); first | walk1 | (dsimp only; walk1))
  rename_i g1 L1 h1 FG1 F1 N1 B1 X1 T1
  apply gen_fr F1
  clear F1
  intro M F2 eM
  have hM1 : M (Str.ofString "self") = some (.ref st) := eM _
  have hM2 : M (Str.ofString "mark") = some (.int 0 t0) := eM _
  clear eM
  refine' While_inv2 (J := BJ w M jl wd ws news) (n₀ := σ.length) F2 N1 (.mk hz S) ?wturn ?wE
  case wE => passes_own
  case wturn =>
    clear F2 N1 S hz N
    intro n m₇ nw h7 tk7 F N X
    revert F N
    apply BJ.elim X
    clear X
    intro σ its jn wo so hz S F N
    have hl := paired_len S.rows
    have hlz : its.length ≤ 100 := by rw [hl]; exact hz
    have hzs : its.toArray.size ≤ sizeLine := by rw [List.size_toArray, hl, sizeLine_eq]; exact Nat.le_trans hz (by decide)
    k_steps
    refine kun_lenL (News.isList N (.head _)) rfl (by rw [List.size_toArray]; exact Int.ofNat_le.mpr (Nat.le_trans hlz (by decide))) ?_
    rw [List.size_toArray]
    dsimp only
    by_cases h0 : its = []
    · subst h0
      obtain rfl : σ = [] := List.length_eq_zero_iff.mp hl.symm
      k_steps
      (rename News h₀ L _ _ => N9)
      (rename Fr h₀ L _ m => F9)
      exact hret _ _ _ _ _ F9 N9 S
    · have hrows := S.rows
      revert S N hl hlz hzs hz
      apply rows_last hrows h0
      clear hrows h0
      intro ps x σ' e hps hre hz S N hl hlz hzs
      have hgt : (0 : Int) < ((ps ++ [Value.ref x]).length : Int) := by rw [List.length_append]; exact Int.ofNat_lt.mpr (Nat.succ_pos _)
      have hsz : σ'.length ≤ 100 := by rw [List.length_append] at hz; exact Nat.le_of_succ_le hz
      repeat' ((fail_if_success (with_reducible show wpAny _ _ (call (Value.builtin "list.pop") _) _ _ _)); first | walk1 | (dsimp only; walk1))
      dsimp only
      refine kl_pop (p := ps) (y := .ref x) F N (last_snoc ps _) (by k_upd) ?_ fun h8 F8 N8 => ?_
      · exact Nat.le_trans hlz (by rw [sizeLine_eq]; decide)
      dsimp only at N8 ⊢
      repeat' ((fail_if_success (with_reducible show wpAny _ _ (call (Value.ref 263) _) _ _ _)); first | walk1 | (dsimp only; walk1))
      refine' undone_led (news := (jl, listOf ps.toArray (jn + 1)) :: news) (own := news) (σ := σ') (e := e) (wo := wo) (so := so) ?uC (News.perm N8 (by walk_at "SUBT")) (.tail _ m1) (.tail _ m2) (hre.mono fun p hp => List.mem_cons_of_mem _ hp) (fun p hp => List.mem_cons_of_mem _ hp) S.one S.prs S.nd lo lo2 (List.forall_mem_cons.mpr ⟨n5, n1⟩) (List.forall_mem_cons.mpr ⟨n6, n2⟩) n3 hsz fun h9 tk9 wo9 so9 F9 N9 d9 p9 => ?_
      case uC => walk_at "CX"
      dsimp only
      k_steps
      refine ⟨_, _, _, _, σ'.length, rfl, F9, News.perm N9 (by walk_at "SUBT"), by rw [List.length_append]; exact Nat.lt_succ_self _, .mk hsz ⟨d9, p9, hps, ?_⟩⟩
      exact (List.nodup_append.mp S.nd).1
end


section
variable {prog : Program} {w : World} {A : Around} {E : Value → Shared → Prop} {s : Shared} {h₀ : Heap} {L : Addr} {m : Str → Option Value} {news : List (Addr × Obj)}
theorem sliced2 {sl : Addr} {u : Tok} {Q : Int × Int × Nat → Shared → Prop} (hs : s.heap.IsSliceOf sl .none (.int 2 u) .none) (h : Q (0, 1, 2) s) :
    wpAny (model prog w) A (Builtin.Slice.sliceApplied (.ref sl) (pure (5 : Int))) Q E s := by
  obtain ⟨os, hos, hcs, hds⟩ := id hs
  unfold Builtin.Slice.sliceApplied Builtin.Slice.sliceFields
  refine wpAny_bind (wpAny_bind (wpAny_field hos hds (x := .none) rfl (wpAny_bind (wpAny_field hos hds (x := .int 2 u) rfl (wpAny_bind (wpAny_field hos hds (x := .none) rfl (wpAny_pure ?_)))))))
  refine wpAny_bind (slicePart_none ?_)
  show wpAny _ _ (if ((1 : Int) == 0) = true then _ else _) _ _ s
  rw [if_neg (by decide)]
  refine wpAny_bind (slicePart_none (wpAny_bind (slicePart_int (wpAny_bind (wpAny_pure ?_)))))
  exact wpAny_pure h
theorem get_tup2 {t sl : Addr} {v1 v2 v3 v4 v5 : Value} {u : Tok} {Q : Value → Shared → Prop} (ht : IsTup s.heap t #[v1, v2, v3, v4, v5]) (hs : s.heap.IsSliceOf sl .none (.int 2 u) .none)
    (h : Q (.ref s.heap.objs.size) { s with heap := s.heap.push { cls := .type "tuple", data := .seq #[v1, v2] } }) : wpAny (model prog w) A (getItem (.ref t) (.ref sl)) Q E s := by
  obtain ⟨os, hos, hcs, hds⟩ := id hs
  have hTs : s.TypeIs (.ref sl) "slice" := ⟨os, hos, hcs⟩
  unfold getItem
  refine wpAny_holding ?_
  refine wpAny_bind (wpAny_sequenceKey ht.typeIs (by decide) ?_)
  refine wpAny_bind (wpAny_callSpecial?_slot (name := Str.ofString "__getitem__") ht.typeIs PyProof.Rows.slot_tuple_getitem
    (wpAny_call_entry PyProof.Rows.slot_tuple_getitem ht.typeIs PyProof.Rows.entry_tuple_getitem ?_ (PyProof.Rows.args_tuple_getitem _ _)))
  show wpAny _ _ (Builtin.Tuple.tupleItemsOf (.ref t) >>= _) _ _ s
  refine wpAny_bind (tupleItemsOf_ ht ?_)
  refine wpAny_bind (wpAny_typeOf hTs ?_)
  rw [if_pos (by decide)]
  refine wpAny_bind (sliced2 hs ?_)
  have hd : sizeOk (.seq #[v1, v2]) := by show 2 ≤ sizeLine; rw [sizeLine_eq]; decide
  show wpAny _ _ (Builtin.Tuple.tupleExact #[v1, v2] >>= _) _ _ s
  exact wpAny_bind (m := Builtin.Tuple.tupleExact _) (wpAny_newObj_type (wpAny_pure ⟨_, rfl, wpAny_pure h⟩) hd)
theorem slice_tup2 {value slice : Expr} {t : Addr} {v1 v2 v3 v4 v5 : Value} {u : Tok} {Q : Value → Shared → Prop}
    (F : Fr h₀ L s.heap m) (N : News h₀ L s.heap news) (hm : (t, ({ cls := .type "tuple", data := .seq #[v1, v2, v3, v4, v5] } : Obj)) ∈ news)
    (h : ∀ h' T, Fr h₀ L h' m → News h₀ L h' ((T, { cls := .type "tuple", data := .seq #[v1, v2] }) :: news) → (∀ p ∈ news, p.1 < T) → Q (.ref T) { s with heap := h' })
    (hs : subscripted slice false (.ref t) (.ref s.heap.objs.size) = operate [.ref s.heap.objs.size, .ref t] (getItem (.ref t) (.ref s.heap.objs.size)) := by with_unfolding_all rfl)
    (hg : ∀ r, letTemporaryGo value (.ref t) r = pure () := by intro _; with_unfolding_all rfl) :
    wpAny (model prog w) A (subscriptTail value slice (.ref t) (.ref s.heap.objs.size)) Q E { s with heap := s.heap.push { cls := .type "slice", data := .fields #[.none, .int 2 u, .none] } } := by
  have ht : IsTup s.heap t #[v1, v2, v3, v4, v5] := News.isTup N hm
  have ht' : IsTup (s.heap.push { cls := .type "slice", data := .fields #[.none, .int 2 u, .none] }) t #[v1, v2, v3, v4, v5] := ht.keeps fun _ _ e => Heap.get?_push_of_some _ e
  refine subscriptTail_ops (s := { s with heap := s.heap.push { cls := .type "slice", data := .fields #[.none, .int 2 u, .none] } }) ht'.typeIs PyProof.Rows.slot_tuple_getitem.lookup
    (get_tup2 ht' (Heap.IsSliceOf.new ..) ?_) hs hg
  have N1 := News.push (F.push { cls := .type "slice", data := .fields #[.none, .int 2 u, .none] }) (N.grown fun _ _ e => Heap.get?_push_of_some _ e) { cls := .type "tuple", data := .seq #[v1, v2] }
  rw [Heap.size_push] at N1
  show Q (.ref (s.heap.push _).objs.size) _
  rw [Heap.size_push]
  exact h _ _ ((F.push _).push _) N1 fun p hp => Nat.lt_succ_of_lt (Heap.lt_size (N p hp).1)
end


section
variable {w : World} {mean : ExcName → Option Value} {mg mb : Str → Option Value} {A₀ A : Around} {cn : Str} {cs : Scope} {L a : Addr} {ccd : Value} {cl : List (Str × Addr)} {base h₀ : Heap} {m : Str → Option Value}
  {s : Shared} {Q E : Value → Shared → Prop}
theorem fr_keptS {h h' : Heap} (F : Fr h₀ L h m) (k : KeptS h h' [L]) : Fr h₀ L h' m := by
  obtain ⟨oL, es, ep, a1, a2, a3, a4⟩ := F.ns
  obtain ⟨sl, e⟩ := k.2 _ _ a1
  exact ⟨⟨_, es, ep, e, a2, a3, a4⟩, fun b o e => k.1 _ _ (F.keep b o e) (fun q => Nat.ne_of_lt (Nat.lt_of_lt_of_le (Heap.lt_size e) F.above) (List.mem_singleton.mp q)), F.above⟩
theorem news_keptS {h h' : Heap} {news : List (Addr × Obj)} (N : News h₀ L h news) (k : KeptS h h' [L]) : News h₀ L h' news :=
  fun p hp => ⟨k.1 _ _ (N p hp).1 (fun q => (N p hp).2.1 (List.mem_singleton.mp q)), (N p hp).2⟩
theorem word_led {st sd se ac jl td dd wd ws od lg : Addr} {zf : Nat → Int} {tf : Nat → Tok} {nd : Nat} {tx txd al : Addr} {qf : Nat → Int} {rf : Nat → Tok} {vGoal vSig : Value} {nx : Nat} {bl bd : Addr} {pf : Nat → Int} {of' : Nat → Tok} {vNum vTime vRand vHash : Value} {tips : Int} {ob : Tok} {nb : Nat} {sed : Addr} {shf : Nat → Int} {skf : Nat → Tok} {sn : Nat} {ai aid sto : Addr} {aco : Obj} {ahf : Nat → Int} {akf : Nat → Tok} {adn : Nat} {wl : Addr} {wlo : Obj} {wk4 : Tok} {who : Int} {data : Array UInt8} {tb : Tok} {rits : List Value} {an : Nat} {tl news : List (Addr × Obj)} {rs : List (Int × List Int)} {goal : Option Int}
    {kind prio cap limit worth fee : Int} {u1 u2 u3 u4 u5 u6 u7 u8 u9 : Tok}
    (C : Cx w mean mg mb A₀ A cn cs L a ccd cl [] base h₀ m s.heap 400 5000)
    (XB : (hd.heap_1 w.params).In base) (TB : Top vw (looseW vw hloose) mean mg mb base)
    (N : News h₀ L s.heap news) (m1 : (tx, instObj 511 txd) ∈ news) (m2 : (txd, txO qf rf (.int kind u1) (.int 1 u2) (.int 0 u3) (.int prio u4) (.int cap u5) (.int limit u6) vGoal (.int worth u7) (.bytes data tb) al vSig nx) ∈ news)
    (m3 : (al, listOf rits.toArray an) ∈ news) (m4 : (wl, wlo) ∈ news) (m5 : (st, instObj 490 sd) ∈ news) (m6 : (sd, (sdO zf tf se ac jl td dd wd ws od lg nd)) ∈ news) (m7 : (se, instObj 161 sed) ∈ news) (m8 : (sed, (seO shf skf sn)) ∈ news)
    (m9 : (ac, aco) ∈ news) (m10 : (ai, instObj 203 aid) ∈ news) (m11 : (aid, (acO ahf akf sto adn)) ∈ news) (m12 : (bl, instObj 182 bd) ∈ news) (m13 : (bd, bdO pf of' vNum vTime tips ob (.int fee u8) (.int 30000000 u9) vRand vHash nb) ∈ news)
    (ht : ∀ p ∈ tl, p ∈ news) (hz : data.size ≤ 70) (hwl : (wlo.IsDictOf (PySem.strKind PySem.Challenge.rw_pq0410_01.row.prog w) [(Str.ofString "state", .ref st), (Str.ofString "who", .int who wk4), (Str.ofString "info", .ref bl)]))
    (hac : aco.IsDictOf (PySem.intKind PySem.Challenge.rw_pq0410_01.row.prog w) [(who, .ref ai)]) (lo : (ac == sysModules) = false)
    (i7 : cap ≤ 5) (i1 : 0 ≤ prio) (i2 : prio ≤ cap) (i3 : fee ≤ cap) (i4 : limit ≤ 30000000) (i5 : limit * cap + worth ≤ 1000000000) (i6 : 0 ≤ worth)
    (hg : GoalIs vGoal goal) (hR : RowsIn tl rits rs) (hro : RowsOk rs)
    {word : Str} (hwd : (if limit < intr data rs goal then Str.ofString "gas" else Str.ofString "") = word)
    (hret : ∀ h' tk' t, Fr h₀ L h' m → News h₀ L h' news → Q (.str word t) { s with heap := h', toks := tk' }) :
    wpAny (model PySem.Challenge.rw_pq0410_01.row.prog w) A (call (.ref 575) [.ref tx, .ref wl]) Q E s :=
  word_spec C XB TB (List.forall_mem_cons.mpr ⟨N _ m1, List.forall_mem_cons.mpr ⟨N _ m2, List.forall_mem_cons.mpr ⟨N _ m3, List.forall_mem_cons.mpr ⟨N _ m4, List.forall_mem_cons.mpr ⟨N _ m5, List.forall_mem_cons.mpr ⟨N _ m6, List.forall_mem_cons.mpr ⟨N _ m7, List.forall_mem_cons.mpr ⟨N _ m8, List.forall_mem_cons.mpr ⟨N _ m9, List.forall_mem_cons.mpr ⟨N _ m10, List.forall_mem_cons.mpr ⟨N _ m11, List.forall_mem_cons.mpr ⟨N _ m12, List.forall_mem_cons.mpr ⟨N _ m13, fun p hp => N p (ht p hp)⟩⟩⟩⟩⟩⟩⟩⟩⟩⟩⟩⟩⟩)
    rfl hz rfl rfl rfl rfl rfl rfl rfl rfl rfl hwl hac lo i7 i1 i2 i3 i4 i5 i6 hg hR hro hwd
    fun h' tk' t K => hret h' tk' t (fr_keptS C.F K) (news_keptS N K)
end
theorem rowsCost_le : ∀ {rs : List (Int × List Int)}, (∀ r ∈ rs, r.2.length ≤ 3) → 0 ≤ rowsCost rs ∧ rowsCost rs ≤ 8100 * (rs.length : Int)
  | [], _ => ⟨Int.le_refl _, Int.le_refl _⟩
  | r :: rs, h => by
    have h1 := h r (.head _)
    have h2 := rowsCost_le fun q hq => h q (.tail _ hq)
    simp only [rowsCost, List.length_cons]
    omega
theorem intr_bound {data : Array UInt8} {rs : List (Int × List Int)} {goal : Option Int} (hz : data.size ≤ 70) (hro : RowsOk rs) : 0 ≤ intr data rs goal ∧ intr data rs goal ≤ 200000 := by
  have h1 := rowsCost_le fun r hr => (hro.2 r hr).2.1
  have h2 := hro.1
  have h3 : data.toList.count 0 ≤ data.size := List.count_le_length
  cases goal with
  | none =>
    simp only [intr]
    rw [Int.fdiv_eq_ediv_of_nonneg _ (by decide)]
    omega
  | some g =>
    simp only [intr]
    omega


theorem ne_one {prog : Program} {w : World} {A : Around} {E : Value → Shared → Prop} {s : Shared} {p q : Addr} {k : Int} {t t' : Tok} {Q : Value → Shared → Prop} (hp : s.heap.IsList p #[.int k t]) (hq : s.heap.IsList q #[.int k t']) (hu : A.units < cLine) (h : Q (.bool false) s) :
    wpAny (model prog w) A (compareOp .NotEq (.ref p) (.ref q)) Q E s := by
  refine (SeqAt.RcNeAt.lists (e := fun _ => true) hp hq rfl hu fun j h1 h2 => ?_) prog w E Q ?_
  · have e : j = 0 := by simpa using h1
    subst e
    have := SeqAt.EqAt.int_int (A := A.in1) (s := s) k t k t'
    simpa using this
  · exact h
theorem bools_snoc : ∀ {vs : List Value} {bs : List Bool} (b : Bool), LSm.BoolsAre vs bs → LSm.BoolsAre (vs ++ [.bool b]) (bs ++ [b]) := by
  intro vs bs b h
  induction h with
  | nil => exact .cons b .nil
  | cons c _ ih => exact .cons c ih
structure LawAr (fee over worth more S : Int) : Prop where
  a1 : fee + over ≤ 5
  a2 : fee ≤ fee + over
  a3 : 0 ≤ worth
  b1 : S - 1 ≤ 30000000
  b2 : (S - 1) * (fee + over) + worth ≤ 1000000000
  b3 : S - 1 < S
  c1 : S + more ≤ 30000000
  c2 : (S + more) * (fee + over) + worth ≤ 1000000000
  c3 : ¬ S + more < S
theorem law_ar {fee over worth more S : Int} (f0 : 0 ≤ fee) (f1 : fee < 4) (o0 : 0 ≤ over) (o1 : over < 3) (hw : worth ∈ ([0, 1, 500] : List Int)) (hm : more ∈ ([0, 1, 50000] : List Int)) (hs : 0 ≤ S ∧ S ≤ 200000) : LawAr fee over worth more S := by
  simp only [List.mem_cons, List.not_mem_nil, or_false] at hw hm
  have cost : ∀ l : Int, l ≤ 250000 → l * (fee + over) + worth ≤ 1000000000 := fun l hl => by
    have := Int.mul_le_mul_of_nonneg_right (c := fee + over) hl (by omega)
    omega
  exact ⟨by omega, by omega, by omega, by omega, cost _ (by omega), by omega, by omega, cost _ (by omega), by omega⟩


example : True := by
  k_with "OFF" => skip
  trivial
local macro_rules | `(tactic| k_in) => `(tactic| (first | k_in_fast | exact Frag.In.keeps (by k_asm) (Fr.keep (by k_asm))))
/-- both ways of law_listed -/
inductive LJn (g : Heap) (L : Addr) (m : Str → Option Value) (oc : Addr × Obj) (s : Shared) : Value → Shared → Prop
  | mk {h : Heap} {tk : Nat} {al : Addr} {rits : List Value} {an : Nat} {own : List (Addr × Obj)} {rs : List (Int × List Int)} (F : Fr g L h m) (N : News g L h ((al, listOf rits.toArray an) :: (own ++ [oc]))) (hR : RowsIn own rits rs) (hok : RowsOk rs) (o1 : ∀ p ∈ own, p.1 ≠ oc.1) (o2 : al ≠ oc.1) :
    LJn g L m oc s (.ref al) { s with heap := h, toks := tk }
theorem LJn.elim {g : Heap} {L : Addr} {m : Str → Option Value} {oc : Addr × Obj} {s : Shared} {R : Value → Shared → Prop} {v : Value} {s' : Shared} (h : LJn g L m oc s v s')
    (k : ∀ h tk al rits an own rs, Fr g L h m → News g L h ((al, listOf rits.toArray an) :: (own ++ [oc])) → RowsIn own rits rs → RowsOk rs → (∀ p ∈ own, p.1 ≠ oc.1) → al ≠ oc.1 → R (.ref al) { s with heap := h, toks := tk }) : R v s' := by
  obtain ⟨a, b, c, d, e, f⟩ := h
  exact k _ _ _ _ _ _ _ a b c d e f
inductive IntIn (b : Int) (h : Heap) (s : Shared) : Value → Shared → Prop
  | mk {x : Int} {t : Tok} {tk : Nat} (h0 : 0 ≤ x) (h1 : x ≤ b) : IntIn b h s (.int x t) { s with heap := h, toks := tk }
theorem IntIn.elim {b : Int} {h : Heap} {s : Shared} {R : Value → Shared → Prop} {v : Value} {s' : Shared} (i : IntIn b h s v s') (k : ∀ x t tk, 0 ≤ x → x ≤ b → R (.int x t) { s with heap := h, toks := tk }) : R v s' := by
  obtain ⟨h0, h1⟩ := i
  exact k _ _ _ h0 h1
theorem mem_ints {x : Value} {vs : List Value} {ns : List Int} (h : x ∈ vs) (hi : IntsAre vs ns) : ∃ i t, x = .int i t ∧ i ∈ ns := by
  obtain ⟨j, hj⟩ := List.mem_iff_getElem?.mp h
  obtain ⟨i, t, e, he⟩ := ints_get hi hj
  exact ⟨i, t, e, List.mem_of_getElem? he⟩
theorem mem_ints_k {x : Value} {vs : List Value} {ns : List Int} {P : Value → Prop} (h : x ∈ vs) (hi : IntsAre vs ns) (k : ∀ i t, i ∈ ns → P (.int i t)) : P x := by
  obtain ⟨i, t, rfl, q⟩ := mem_ints h hi
  exact k i t q
theorem gen_eq {α : Type} {P : Prop} (v : α) (k : ∀ x, x = v → P) : P := k v rfl
theorem gen1 {α : Type} {P : Prop} {T : α → Prop} {a : α} (H : T a) (k : ∀ a, T a → P) : P := k a H
theorem gen8 {P : Prop} {T : Tok → Tok → Tok → Value → Value → Tok → Value → Value → Prop} {a b c : Tok} {d e : Value} {f : Tok} {g h : Value} (H : T a b c d e f g h) (k : ∀ a b c d e f g h, T a b c d e f g h → P) : P := k _ _ _ _ _ _ _ _ H
theorem gen_uv {P : Prop} {T : List Value → List Value → Prop} {ns : List Int} {u v : List Value} (h1 : IntsAre (u ++ v) ns) (h2 : u ≠ []) (h3 : v ≠ []) (h4 : u.length + v.length = 7) (h5 : T u v)
    (k : ∀ u v, IntsAre (u ++ v) ns → u ≠ [] → v ≠ [] → u.length + v.length = 7 → T u v → P) : P := k u v h1 h2 h3 h4 h5
theorem mem_goal {x : Value} {vs : List Value} {ns : List Int} (h : x ∈ vs ++ [.none]) (hi : IntsAre vs ns) : ∃ goal, GoalIs x goal := by
  rcases List.mem_append.mp h with h | h
  · obtain ⟨i, t, rfl, _⟩ := mem_ints h hi
    exact ⟨some i, .inr ⟨i, t, rfl, rfl⟩⟩
  · exact ⟨none, .inl ⟨rfl, List.mem_singleton.mp h⟩⟩
theorem g_names : namesOk vw (looseW vw hloose) (namesW vw hloose) = true := by
  rw [PySem.W.Fast.te17448422675489707002, PySem.W.Fast.te821141287760084731]; decide +kernel
theorem g_imps : importsNone vw = true := by decide +kernel
local macro_rules | `(tactic| k_qdec) => `(tactic| first | with_reducible exact Mine.g_names | with_reducible exact Mine.g_imps)
theorem law_main : PySem.Challenge.rw_pq0410_01.Holds := hd (by
  k_go0
  (rename World => w)
  (rename Fr _ _ _ _ => F0)
  (rename Below _ _ _ _ => B0)
  (rename Top _ _ _ _ _ _ => T0)
  (rename Frag.In _ _ => X0)
  (rename IntsAre _ _ => hI)
  (rename ¬ _ < _ => hlen)
  (rename Heap.IsList _ _ _ => hL)
  dsimp only at F0 ⊢
  try k_fold
  repeat' ((fail_if_success (with_reducible show wpAny _ _ (call (Value.ref 537) _) _ _ _)); first | walk1 | (dsimp only; walk1))
  rename_i s0 s1 mg mb _ _ _ _ _ _ _ _ _ _ _ _ _ _ _ _ _ _ _ _ zs0 _ _ _ _ _ _ _ l0 vz _ _ _ _ _ _ _ _ _ oc hoc _ fd _ _ _ _ lf1 _ us _ hus hus2 hus3 lf2 ce nce _ lce _ fo hfo h1 F1 N1
  have hfd : IsFeed w fo ce 0 _ := hfo
  have hne0 : @Ne Nat fd ce := Nat.ne_of_lt lce.2.1
  have ncell : @Ne Nat (s1.heap.objs.size + 1) fd := Nat.ne_of_lt lf1
  have hl60 : (zs0.take 60).length ≤ 60 := by rw [hus2]; exact Nat.min_le_left _ _
  have N2 : News s1.heap s1.heap.objs.size h1 [(s1.heap.objs.size + 1, oc), (fd, fo), (ce, listOf us.toArray nce)] := News.perm N1 (by walk_at "SUBT")
  clear N1
  apply gen_fr F1
  intro M F2 eM
  have hM0 : M (Str.ofString "feed") = some (.ref fd) := eM _
  clear eM
  clear F1
  walk1
  repeat' ((fail_if_success (with_reducible show wpAny _ _ (call (Value.ref 522) _) _ _ _)); first | walk1 | (dsimp only; walk1))
  walk1
  repeat' ((fail_if_success (with_reducible show wpAny _ _ (subscriptTail _ _ _ _) _ _ _)); first | walk1 | (dsimp only; walk1))
  k_unfold
  dsimp only
  rename_i h2 tk2 kind tkind tf2 fo2 K2 hT2 F3 N3 I3 kd0 kd1 _ _ h3 tk3 T3 t1 t2 t3 t4 t5 K3 F4 N4 n3'
  refine kba_turn (value' := PySem.Expr.Name (PySem.Str.ofString "_") ⟨0, 0, 0, 0⟩) (fun _ => rfl) ?_
  refine slice_tup2 (s := { heap := h3, gens := s1.gens, drawn := s1.drawn, toks := _, os := s1.os }) F4 N4 (.head _) fun h4 T4 F5 N5 l5 => ?_
  dsimp only
  have hT4 : IsTup h4 T4 [Value.int 1001 t1, Value.int 1002 t2].toArray := News.isTup N5 (.head _)
  have N6 : News s1.heap s1.heap.objs.size h4 [(s1.heap.objs.size + 1, oc), (fd, fo2), (ce, listOf us.toArray nce)] := News.perm N5 (by walk_at "SUBT")
  clear N2 F2 N3 F3 N4 F4 N5 l5 n3' K2 K3 hT2
  repeat' ((fail_if_success (with_reducible show wpAny _ _ (call (Value.ref 544) _) _ _ _)); first | walk1 | (dsimp only; walk1))
  walk1
  repeat' ((fail_if_success (with_reducible show wpAny _ _ (call (Value.ref 522) _) _ _ _)); first | walk1 | (dsimp only; walk1))
  rename_i h5 tk5 x5 tf5 fo5 K5 hT5 F6 N7 I5 xm5 T95
  revert F6
  apply mem_ints_k xm5 (.cons _ _ (.cons _ _ .nil))
  intro who tw hwho F6
  clear K5 hT5 T95 hT4 N6 F5 I3 xm5
  walk1
  rename_i h6 tk6 T6 p1 p2 p3 p4 p5 K6 F7 N8 n8
  have hT6 : IsTup h6 T6 [Value.int 1001 p1, Value.int 1002 p2, Value.int 4 p3, Value.int 2 p4, Value.int (2 ^ 160 - 1) p5].toArray := News.isTup N8 (.head _)
  have N9 : News s1.heap s1.heap.objs.size h6 [(s1.heap.objs.size + 1, oc), (fd, fo5), (ce, listOf us.toArray nce)] := News.perm N8 (by walk_at "SUBT")
  clear K6 N8 n8 N7 F6
  repeat' ((fail_if_success (with_reducible show wpAny _ _ (call (Value.ref 544) _) _ _ _)); first | walk1 | (dsimp only; walk1))
  walk1
  repeat' ((fail_if_success (with_reducible show wpAny _ _ (call (Value.ref 522) _) _ _ _)); first | walk1 | (dsimp only; walk1))
  rename_i h7 tk7 x7 tf7 fo7 K7 hT7 I7 xm7 T97 D7 h7a l7 h7b h7c h7d h8 F8 N10
  revert F8
  apply mem_ints_k xm7 (.cons _ _ (.cons _ _ (.cons _ _ (.cons _ _ (.cons _ _ .nil)))))
  intro tips tti htips F8
  apply gen_fr F8
  intro M2 F9 eM
  have hM1 : M2 (Str.ofString "feed") = some (.ref fd) := (eM _).trans hM0
  have hM2 : M2 (Str.ofString "law_kind") = some (.int kind tkind) := eM _
  have hM3 : M2 (Str.ofString "law_giver") = some (.int who tw) := eM _
  have hM4 : M2 (Str.ofString "law_tips") = some (.int tips tti) := eM _
  clear eM
  have N11 : News s1.heap s1.heap.objs.size h8 [(s1.heap.objs.size + 1, oc), (fd, fo7), (ce, listOf us.toArray nce)] := News.perm N10 (by walk_at "SUBT")
  clear F8 N10 T97 xm7 hT7 K7 hT6 I5 hM0 l7
  walk1
  repeat' ((fail_if_success (with_reducible show wpAny _ _ (binaryOp _ _ _) _ _ _)); first | walk1 | (dsimp only; walk1))
  dsimp only
  rename_i h9 tk9 T9 r1 r2 r3 r4 r5 K9 n9 D9 h10 F10 N12 l12
  refine add_tuples (vs := [_, _, _, _, _]) (ws := [.none]) F10 N12 (News.isTup N12 (.tail _ (.head _))) (News.isTup N12 (.head _)) (fun e => nomatch e) (fun _ e => nomatch e) (fun _ _ h11 F11 N13 => ?_) (Nat.le_of_ble_eq_true rfl)
  dsimp only at N13 ⊢
  have hT11 : IsTup h11 h10.objs.size ([Value.int 1001 r1, Value.int 1002 r2, Value.int 4 r3, Value.int 2 r4, Value.int (2 ^ 160 - 1) r5] ++ [Value.none]).toArray := News.isTup N13 (.head _)
  have N14 : News s1.heap s1.heap.objs.size h11 [(s1.heap.objs.size + 1, oc), (fd, fo7), (ce, listOf us.toArray nce)] := News.perm N13 (by walk_at "SUBT")
  clear N13 N12 l12 n9 K9
  repeat' ((fail_if_success (with_reducible show wpAny _ _ (call (Value.ref 544) _) _ _ _)); first | walk1 | (dsimp only; walk1))
  walk1
  repeat' ((fail_if_success (with_reducible show wpAny _ _ (call (Value.ref 549) _) _ _ _)); first | walk1 | (dsimp only; walk1))
  walk1
  repeat' ((fail_if_success (with_reducible show wpAny _ _ (call (Value.ref 537) _) _ _ _)); first | walk1 | (dsimp only; walk1))
  rename_i _ _ h12 tk12 goalv tfg fog Kg hTg Ig xmg T9g h13 tk13 data tb kk tfd fod Kd hTd Id kk1 kk2 hz70 T9d D13 h14 l14 h15 h16 h17 F14 N15
  refine Exists.elim (mem_goal xmg (.cons _ _ (.cons _ _ (.cons _ _ (.cons _ _ (.cons _ _ .nil)))))) fun goal hg => ?_
  apply gen_fr F14
  intro M3 F15 eM
  have hm1 : M3 (Str.ofString "feed") = some (.ref fd) := (eM _).trans hM1
  have hm2 : M3 (Str.ofString "law_kind") = some (.int kind tkind) := (eM _).trans hM2
  have hm3 : M3 (Str.ofString "law_giver") = some (.int who tw) := (eM _).trans hM3
  have hm4 : M3 (Str.ofString "law_tips") = some (.int tips tti) := (eM _).trans hM4
  have hm5 : M3 (Str.ofString "law_goal") = some goalv := eM _
  have hm6 : M3 (Str.ofString "law_octets") = some (.bytes data tb) := eM _
  clear eM
  have N16 : News s1.heap s1.heap.objs.size h17 [(s1.heap.objs.size + 1, oc), (fd, fod), (ce, listOf us.toArray nce)] := News.perm N15 (by walk_at "SUBT")
  clear F14 N15 T9d T9g hTd hTg Kd Kg hM1 hM2 hM3 hM4 l14 xmg Ig I7 hT11
  walk1
  repeat' ((fail_if_success (with_reducible show wpAny _ _ (call (Value.ref 537) _) _ _ _)); first | walk1 | (dsimp only; walk1))
  walk1
  repeat' ((fail_if_success (with_reducible show wpAny _ _ (call (Value.ref 544) _) _ _ _)); first | walk1 | (dsimp only; walk1))
  walk1
  repeat' ((fail_if_success (with_reducible show wpAny _ _ (call (Value.ref 544) _) _ _ _)); first | walk1 | (dsimp only; walk1))
  walk1
  repeat' ((fail_if_success (with_reducible show wpAny _ _ (eval (Expr.IfExp _ _ _ _) _) _ _ _)); first | walk1 | (dsimp only; walk1))
  rename_i h18 tk18 fee tfee tfx1 fox1 Kx1 hTx1 Ix1 fee0 fee1 _ _ h19 tk19 over tov tfx2 fox2 Kx2 hTx2 Ix2 ov0 ov1 _ _ D20 h20 l20 h21 tk21 xw tfx3 fox3 Kx3 hTx3 Ix3 xmw _ _ D22 h22 l22 h23 tk23 xmv tfx4 fox4 Kx4 hTx4 Ix4 xmm D24 h24 l24 h25 h26 h27 h28 h29 F16 N17
  revert F16
  apply mem_ints_k xmw (.cons _ _ (.cons _ _ (.cons _ _ .nil)))
  intro worth two hworth
  apply mem_ints_k xmm (.cons _ _ (.cons _ _ (.cons _ _ .nil)))
  intro more tmo hmore F16
  apply gen_fr F16
  intro M4 F17 eM
  have ha1 : M4 (Str.ofString "feed") = some (.ref fd) := (eM _).trans hm1
  have ha2 : M4 (Str.ofString "law_kind") = some (.int kind tkind) := (eM _).trans hm2
  have ha3 : M4 (Str.ofString "law_giver") = some (.int who tw) := (eM _).trans hm3
  have ha4 : M4 (Str.ofString "law_tips") = some (.int tips tti) := (eM _).trans hm4
  have ha5 : M4 (Str.ofString "law_goal") = some goalv := (eM _).trans hm5
  have ha6 : M4 (Str.ofString "law_octets") = some (.bytes data tb) := (eM _).trans hm6
  have ha7 : M4 (Str.ofString "law_fee") = some (.int fee tfee) := eM _
  have ha8 : M4 (Str.ofString "law_over") = some (.int over tov) := eM _
  have ha9 : M4 (Str.ofString "law_worth") = some (.int worth two) := eM _
  have ha10 : M4 (Str.ofString "law_more") = some (.int more tmo) := eM _
  clear eM
  have N18 : News s1.heap s1.heap.objs.size h29 [(s1.heap.objs.size + 1, oc), (fd, fox4), (ce, listOf us.toArray nce)] := News.perm N17 (by walk_at "SUBT")
  clear F16 N17 hm1 hm2 hm3 hm4 hm5 hm6 Kx1 hTx1 Ix1 Kx2 hTx2 Ix2 Kx3 hTx3 Ix3 xmw Kx4 hTx4 xmm l20 l22 l24
  refine wpAny_mono (Q := LJn s1.heap s1.heap.objs.size M4 (s1.heap.objs.size + 1, oc) s1) ?_ ?_ (fun _ _ e => e)
  · by_cases hk0 : 0 < kind
    · repeat' ((fail_if_success (with_reducible show wpAny _ _ (call (Value.ref 554) _) _ _ _)); first | walk1 | (dsimp only; walk1))
      refine' listed_led ?zC N18 (by k_updF) Ix4 (by k_mem) hne0 hus hl60 (by omega) (by omega) ?_
      case zC => walk_at "CX"
      intro h' tk' k' tk2 fo' D nD its rs own K hT F9 N9 I9 kk' hR hok hD hown
      refine .mk (an := nD) F9 (News.perm N9 (fun p hp => ?_)) hR hok (fun p hp => hown p hp (_, oc) (.head _)) (Ne.symm (hD (_, oc) (List.mem_append_right _ (.head _))))
      rcases List.mem_cons.mp hp with rfl | hp
      · exact .head _
      · rcases List.mem_append.mp hp with hp | hp
        · exact .tail _ (List.mem_append_left _ hp)
        · rw [List.mem_singleton.mp hp]
          exact .tail _ (List.mem_append_right _ (.head _))
    · k_steps
      rename_i l9 h9 F9 N9 b9
      exact .mk (rits := []) (an := 0) (own := []) (rs := []) F9 (News.perm N9 (by walk_at "SUBT")) .nil ⟨by decide, (fun _ h => nomatch h)⟩ (fun _ h => nomatch h) (Nat.ne_of_gt b9.1)
  · intro v s2 X30
    apply LJn.elim X30
    intro h30 tk30 al rits an own rs F18 N19 hR0 hok ho1 ho2
    clear X30
    refine gen_eq ((al, listOf rits.toArray an) :: own) fun nw hnw => ?_
    have N20 : News s1.heap s1.heap.objs.size h30 ((s1.heap.objs.size + 1, oc) :: nw) := News.perm N19 (fun p hp => by
      rcases List.mem_cons.mp hp with rfl | hp
      · exact .tail _ (List.mem_append_right _ (.head _))
      · rw [hnw] at hp
        rcases List.mem_cons.mp hp with rfl | hp
        · exact .head _
        · exact .tail _ (List.mem_append_left _ hp))
    have mal : (al, listOf rits.toArray an) ∈ nw := hnw ▸ List.mem_cons_self ..
    have hon : ∀ p ∈ own, p ∈ nw := fun p hp => hnw ▸ List.mem_cons_of_mem _ hp
    have hR : RowsIn nw rits rs := hR0.mono hon
    have q0 : ∀ p ∈ nw, p.1 ≠ s1.heap.objs.size + 1 := hnw ▸ List.forall_mem_cons.mpr ⟨ho2, ho1⟩
    clear N19 ho1 ho2 N18 Ix4
    dsimp only
    repeat' ((fail_if_success (with_reducible show wpAny _ _ (call (Value.ref 161) _) _ _ _)); first | walk1 | (dsimp only; walk1))
    rename_i _ h31 F20 N21
    apply gen_fr F20
    intro M5 F21 eM
    have b2 : M5 (Str.ofString "law_kind") = some (.int kind tkind) := (eM _).trans ha2
    have b3 : M5 (Str.ofString "law_giver") = some (.int who tw) := (eM _).trans ha3
    have b4 : M5 (Str.ofString "law_tips") = some (.int tips tti) := (eM _).trans ha4
    have b5 : M5 (Str.ofString "law_goal") = some goalv := (eM _).trans ha5
    have b6 : M5 (Str.ofString "law_octets") = some (.bytes data tb) := (eM _).trans ha6
    have b7 : M5 (Str.ofString "law_fee") = some (.int fee tfee) := (eM _).trans ha7
    have b8 : M5 (Str.ofString "law_worth") = some (.int worth two) := (eM _).trans ha9
    have b9 : M5 (Str.ofString "law_more") = some (.int more tmo) := (eM _).trans ha10
    have b10 : M5 (Str.ofString "law_listed") = some (.ref al) := eM _
    refine gen1 (T := fun t => M5 (Str.ofString "law_cap") = some (.int (fee + over) t)) (eM _) fun tcap b11 => ?_
    clear eM
    clear F20 ha1 ha2 ha3 ha4 ha5 ha6 ha7 ha8 ha9 ha10
    refine' setting_led ?zC N21 (fun h32 tk32 se sed f32 g32 n32 F22 N22 l22 l22' => ?_)
    case zC => walk_at "CX"
    refine gen_eq ((se, instObj 161 sed) :: (sed, seO f32 g32 n32) :: nw) fun nw1 hnw1 => ?_
    have N23 : News s1.heap s1.heap.objs.size h32 ((s1.heap.objs.size + 1, oc) :: nw1) := News.perm N22 (by rw [hnw1]; walk_at "SUBT")
    have in1 : ∀ p ∈ nw, p ∈ nw1 := fun p hp => hnw1 ▸ .tail _ (.tail _ hp)
    have mse : (se, instObj 161 sed) ∈ nw1 := hnw1 ▸ .head _
    have msed : (sed, seO f32 g32 n32) ∈ nw1 := hnw1 ▸ .tail _ (.head _)
    have q1 : ∀ p ∈ nw1, p.1 ≠ s1.heap.objs.size + 1 := hnw1 ▸ List.forall_mem_cons.mpr ⟨Nat.ne_of_gt (Nat.lt_trans (l22 _ (.head _)) l22'), List.forall_mem_cons.mpr ⟨Nat.ne_of_gt (l22 _ (.head _)), q0⟩⟩
    have mal1 := in1 _ mal
    have hR1 := hR.mono in1
    clear hnw1 N22 l22 l22' q0 mal hR N21 F21
    dsimp only
    repeat' ((fail_if_success (with_reducible show wpAny _ _ (call (Value.ref 490) _) _ _ _)); first | walk1 | (dsimp only; walk1))
    refine' state_led ?zC N23 (fun h33 tk33 st sd ac jl td dd wd0 ws0 od lg f33 g33 aco tdo ddo F24 N24 da dt de la lt ld l0 l1 l2 l3 l4 l5 => ?_)
    case zC => walk_at "CX"
    have q2 : @LT.lt Nat _ (s1.heap.objs.size + 1) sd := l0 _ (.head _)
    have y1 := Nat.lt_trans q2 l1
    have y2 := Nat.lt_trans y1 l2
    have y3 := Nat.lt_trans y2 l3
    have y4 := Nat.lt_trans y3 l4
    have nc0 : @Ne Nat (s1.heap.objs.size + 1) sd := Nat.ne_of_lt q2
    have nc1 : @Ne Nat (s1.heap.objs.size + 1) st := Nat.ne_of_lt y1
    have nc2 : @Ne Nat (s1.heap.objs.size + 1) ac := Nat.ne_of_lt y2
    have nc3 : @Ne Nat (s1.heap.objs.size + 1) jl := Nat.ne_of_lt y3
    have nc4 : @Ne Nat (s1.heap.objs.size + 1) td := Nat.ne_of_lt y4
    have nc5 : @Ne Nat (s1.heap.objs.size + 1) dd := Nat.ne_of_lt (Nat.lt_trans y4 l5)
    clear y1 y2 y3 y4
    dsimp only
    repeat' ((fail_if_success (with_reducible show wpAny _ _ (call (Value.ref 340) _) _ _ _)); first | walk1 | (dsimp only; walk1))
    rename_i h34 oc2 F25 N25 hoc2
    have l0' : ∀ p ∈ (s1.heap.objs.size + 1, oc2) :: nw1, p.1 < sd := List.forall_mem_cons.mpr ⟨q2, fun p hp => l0 p (.tail _ hp)⟩
    rw [show ((10 : Int) ^ Int.toNat 9) = 1000000000 from rfl]
    refine' setBal_led ?zC N25 da dt la lt l0' l1 l2 l3 l4 l5 (fun h35 tk35 ai aid sto f35 g35 n35 aco2 tdo2 F26 N26 da2 dt2 lq1 lq2 => ?_)
    case zC => walk_at "CX"
    clear l0
    dsimp only
    repeat' ((fail_if_success (with_reducible show wpAny _ _ (call (Value.ref 480) _) _ _ _)); first | walk1 | (dsimp only; walk1))
    refine' begin_led ?zC N26 da2 dt2 de la lt ld l0' l1 l2 (Nat.lt_trans l3 l4) l5 lq1 lq2 (fun h36 tk36 jl2 td2 dd2 wd ws od2 lg2 wo so f36 g36 F27 N27 dw ds lw ls o1 o2 o3 o4 o5 => ?_)
    case zC => walk_at "CX"
    refine gen_eq ((st, instObj 490 sd) :: (sd, sdO f36 g36 se ac jl2 td2 dd2 wd ws od2 lg2 10) :: (ac, aco2) :: (ai, instObj 203 aid) :: (aid, acO f35 g35 sto n35) :: (s1.heap.objs.size + 1, oc2) :: nw1) fun nw2 hnw2 => ?_
    have N28 : News s1.heap s1.heap.objs.size h36 ((jl2, listOf #[] 0) :: (wd, wo) :: (ws, so) :: nw2) := News.perm N27 (by rw [hnw2]; walk_at "SUBT")
    have in2 : ∀ p ∈ nw1, p ∈ nw2 := fun p hp => hnw2 ▸ .tail _ (.tail _ (.tail _ (.tail _ (.tail _ (.tail _ hp)))))
    have mst : (st, instObj 490 sd) ∈ nw2 := hnw2 ▸ .head _
    have msd : (sd, sdO f36 g36 se ac jl2 td2 dd2 wd ws od2 lg2 10) ∈ nw2 := hnw2 ▸ .tail _ (.head _)
    have mac : (ac, aco2) ∈ nw2 := hnw2 ▸ .tail _ (.tail _ (.head _))
    have mai : (ai, instObj 203 aid) ∈ nw2 := hnw2 ▸ .tail _ (.tail _ (.tail _ (.head _)))
    have maid : (aid, acO f35 g35 sto n35) ∈ nw2 := hnw2 ▸ .tail _ (.tail _ (.tail _ (.tail _ (.head _))))
    have mce : (s1.heap.objs.size + 1, oc2) ∈ nw2 := hnw2 ▸ .tail _ (.tail _ (.tail _ (.tail _ (.tail _ (.head _)))))
    have sj : @LT.lt Nat _ sd jl2 := Nat.lt_trans l1 (Nat.lt_trans l2 o3)
    have hlt : ∀ p ∈ nw2, @LT.lt Nat _ p.1 jl2 := hnw2 ▸ List.forall_mem_cons.mpr ⟨Nat.lt_trans l2 o3, List.forall_mem_cons.mpr ⟨sj, List.forall_mem_cons.mpr ⟨o3, List.forall_mem_cons.mpr ⟨o1, List.forall_mem_cons.mpr ⟨o2, fun p hp => Nat.lt_trans (l0' p hp) sj⟩⟩⟩⟩⟩
    have S0 : StOk w wo so [] own [] := ⟨dw, ⟨[], PairsObj.empty ds, rfl⟩, .nil, .nil⟩
    have ho5 : ∀ p ∈ own, @Ne Nat p.1 st ∧ @Ne Nat p.1 sd := fun p hp => by
      have := l0' p (.tail _ (in1 p (hon p hp)))
      exact ⟨Nat.ne_of_lt (Nat.lt_trans this l1), Nat.ne_of_lt this⟩
    have mse2 := in2 _ mse
    have msed2 := in2 _ msed
    have mal2 := in2 _ mal1
    have hR2 := hR1.mono in2
    have hon2 : ∀ p ∈ own, p ∈ nw2 := fun p hp => in2 p (in1 p (hon p hp))
    clear hnw2 N27 N26 F26 q1 hoc
    dsimp only
    repeat' ((fail_if_success (with_reducible show wpAny _ _ (call (Value.ref 182) _) _ _ _)); first | walk1 | (dsimp only; walk1))
    refine' block_led ?zC (by assumption) (fun h37 tk37 bl bd f37 g37 n37 F29 N29 lb1 lb2 => ?_)
    case zC => walk_at "CX"
    k_lt lb1
    dsimp only
    repeat' ((fail_if_success (with_reducible show wpAny _ _ (call (Value.ref 511) _) _ _ _)); first | walk1 | (dsimp only; walk1))
    have lb3 : @LT.lt Nat _ bd bl := lb2
    repeat' ((fail_if_success (with_reducible show wpAny _ _ (eval (Expr.IfExp _ _ _ _) _) _ _ _)); first | walk1 | (dsimp only; walk1))
    rename_i wl _ _ lo7 _ lz7 d8 _ oh8 _ _ _ _ _ lz8 h38 wlo hwl0 h39 F30 N30
    refine wpAny_mono (Q := IntIn (fee + over) h39 s1) ?_ ?_ (fun _ _ e => e)
    · have z0 : 0 ≤ fee + over := Int.add_nonneg fee0 ov0
      by_cases hk2 : kind < 2
      · k_steps
        exact .mk z0 (Int.le_refl _)
      · k_steps
        exact .mk (Int.le_refl 0) z0
    intro v s2 X40
    apply IntIn.elim X40
    intro pri tpr tk40 hp0 hp1
    clear X40
    dsimp only
    repeat' ((fail_if_success (with_reducible show wpAny _ _ (call (Value.ref 511) _) _ _ _)); first | walk1 | (dsimp only; walk1))
    refine' trans_led ?zC N30 (fun h41 tk41 tx txd f41 g41 n41 F32 N32 lt1 lt2 => ?_)
    case zC => walk_at "CX"
    dsimp only
    repeat' ((fail_if_success (with_reducible show wpAny _ _ (call (Value.ref 561) _) _ _ _)); first | walk1 | (dsimp only; walk1))
    rename_i h42 F33 N33
    apply gen_fr F33
    intro M6 F34 eM
    have e3 : M6 (Str.ofString "law_giver") = some (.int who tw) := (eM _).trans b3
    have e10 : M6 (Str.ofString "law_more") = some (.int more tmo) := (eM _).trans b9
    have e12 : M6 (Str.ofString "law_world") = some (.ref wl) := eM _
    have e13 : M6 (Str.ofString "law_deal") = some (.ref tx) := eM _
    clear eM
    refine gen8 (T := fun u2 u3 u6 v1 v2 u9 vr vh => News s1.heap s1.heap.objs.size h42 ((tx, instObj 511 txd) :: (txd, txO f41 g41 (.int kind tkind) (.int 1 u2) (.int 0 u3) (.int pri tpr) (.int (fee + over) tcap) (.int 0 u6) goalv (.int worth two) (.bytes data tb) al .none n41) :: (bl, instObj 182 bd) :: (bd, bdO f37 g37 v1 v2 tips tti (.int fee tfee) (.int 30000000 u9) vr vh n37) :: (d8, oh8) :: (wl, wlo) :: (jl2, listOf #[] 0) :: (wd, wo) :: (ws, so) :: nw2)) N33 fun u2 u3 u6 v1 v2 u9 vr vh N34 => ?_
    have hwl : wlo.IsDictOf (PySem.strKind PySem.Challenge.rw_pq0410_01.row.prog w) [(Str.ofString "state", .ref st), (Str.ofString "who", .int who tw), (Str.ofString "info", .ref bl)] := hwl0
    refine gen_eq ((tx, instObj 511 txd) :: (txd, txO f41 g41 (.int kind tkind) (.int 1 u2) (.int 0 u3) (.int pri tpr) (.int (fee + over) tcap) (.int 0 u6) goalv (.int worth two) (.bytes data tb) al .none n41) :: (bl, instObj 182 bd) :: (bd, bdO f37 g37 v1 v2 tips tti (.int fee tfee) (.int 30000000 u9) vr vh n37) :: (wl, wlo) :: nw2) fun nw3 hnw3 => ?_
    have N35 : News s1.heap s1.heap.objs.size h42 ((jl2, listOf #[] 0) :: (wd, wo) :: (ws, so) :: nw3) := News.perm N34 (by rw [hnw3]; walk_at "SUBT")
    have in3 : ∀ p ∈ nw2, p ∈ nw3 := fun p hp => hnw3 ▸ .tail _ (.tail _ (.tail _ (.tail _ (.tail _ hp))))
    have mtx : (tx, instObj 511 txd) ∈ nw3 := hnw3 ▸ .head _
    have mtxd : (txd, txO f41 g41 (.int kind tkind) (.int 1 u2) (.int 0 u3) (.int pri tpr) (.int (fee + over) tcap) (.int 0 u6) goalv (.int worth two) (.bytes data tb) al .none n41) ∈ nw3 := hnw3 ▸ .tail _ (.head _)
    have mbl : (bl, instObj 182 bd) ∈ nw3 := hnw3 ▸ .tail _ (.tail _ (.head _))
    have mbd : (bd, bdO f37 g37 v1 v2 tips tti (.int fee tfee) (.int 30000000 u9) vr vh n37) ∈ nw3 := hnw3 ▸ .tail _ (.tail _ (.tail _ (.head _)))
    have mwl : (wl, wlo) ∈ nw3 := hnw3 ▸ .tail _ (.tail _ (.tail _ (.tail _ (.head _))))
    have s2 : @LT.lt Nat _ ws bd := lb1.2.2.2.2.1
    have s3 : @LT.lt Nat _ bd txd := lt1 _ (.tail _ (.head _))
    have s4 : @LT.lt Nat _ ws wl := lz7.2.2.1
    have hoff : ∀ p ∈ nw3, @LT.lt Nat _ p.1 jl2 ∨ @LT.lt Nat _ ws p.1 := hnw3 ▸ List.forall_mem_cons.mpr ⟨.inr (Nat.lt_trans s2 (Nat.lt_trans s3 lt2)), List.forall_mem_cons.mpr ⟨.inr (Nat.lt_trans s2 s3), List.forall_mem_cons.mpr ⟨.inr (Nat.lt_trans s2 lb2), List.forall_mem_cons.mpr ⟨.inr s2, List.forall_mem_cons.mpr ⟨.inr s4, fun p hp => .inl (hlt p hp)⟩⟩⟩⟩⟩
    have mst3 := in3 _ mst
    have msd3 := in3 _ msd
    have mac3 := in3 _ mac
    have mai3 := in3 _ mai
    have maid3 := in3 _ maid
    have mce3 := in3 _ mce
    have mse3 := in3 _ mse2
    have msed3 := in3 _ msed2
    have mal3 := in3 _ mal2
    have hR3 := hR2.mono in3
    have hon3 : ∀ p ∈ own, p ∈ nw3 := fun p hp => in3 p (hon2 p hp)
    clear N33 N34 F33 b2 b3 b4 b5 b6 b7 b8 b9 b10 b11 hwl0 lb1 lt1 lz8 lz7 hnw3
    refine' sum_led (tl := nw3) ?zC N35 (.tail _ (.tail _ (.tail _ mtx))) (.tail _ (.tail _ (.tail _ mtxd))) (.tail _ (.tail _ (.tail _ mal3))) (fun p hp => .tail _ (.tail _ (.tail _ hp))) rfl hz70 hg hR3 hok (fun h43 tk43 t43 K43 F35 N36 => ?_)
    case zC => walk_at "CX"
    dsimp only
    repeat' ((fail_if_success (with_reducible show wpAny _ _ (call (Value.ref 109) _) _ _ _)); first | walk1 | (dsimp only; walk1))
    refine' intrinsic_led (tl := nw3) ?zC (by assumption) (.tail _ (.tail _ (.tail _ mtx))) (.tail _ (.tail _ (.tail _ mtxd))) (.tail _ (.tail _ (.tail _ mal3))) (fun p hp => .tail _ (.tail _ (.tail _ hp))) rfl hz70 hg hR3 hok (fun h44 tk44 t44 K44 F36 N37 => ?_)
    case zC => walk_at "CX"
    dsimp only
    repeat' ((fail_if_success (with_reducible show wpAny _ _ (call (Value.ref 568) _) _ _ _)); first | walk1 | (dsimp only; walk1))
    · exact absurd rfl (by assumption)
    refine' with_led ?zC N37 (.tail _ (.tail _ (.tail _ mtx))) (.tail _ (.tail _ (.tail _ mtxd))) hg (fun h45 tk45 ty tyd t1 t2 f45 g45 n45 F37 N38 ly1 ly2 => ?_)
    case zC => walk_at "CX"
    dsimp only
    repeat' ((fail_if_success (with_reducible show wpAny _ _ (call (Value.ref 575) _) _ _ _)); first | walk1 | (dsimp only; walk1))
    have za := law_ar fee0 fee1 ov0 ov1 hworth hmore (intr_bound (goal := goal) hz70 hok)
    have up : ∀ p ∈ nw3, p ∈ (jl2, listOf #[] 0) :: (wd, wo) :: (ws, so) :: nw3 := fun p hp => .tail _ (.tail _ (.tail _ hp))
    have up2 : ∀ (x y : Addr × Obj), ∀ p ∈ nw3, p ∈ x :: y :: (jl2, listOf #[] 0) :: (wd, wo) :: (ws, so) :: nw3 := fun x y p hp => .tail _ (.tail _ (up p hp))
    have dac : aco2.IsDictOf (PySem.intKind PySem.Challenge.rw_pq0410_01.row.prog w) [(who, .ref ai)] := da2
    refine' word_led (tl := nw3) (word := Str.ofString "gas") ?zC X0 T0 N38 (.head _) (.tail _ (.head _)) (up2 _ _ _ mal3) (up2 _ _ _ mwl) (up2 _ _ _ mst3) (up2 _ _ _ msd3) (up2 _ _ _ mse3) (up2 _ _ _ msed3) (up2 _ _ _ mac3) (up2 _ _ _ mai3) (up2 _ _ _ maid3) (up2 _ _ _ mbl) (up2 _ _ _ mbd) (up2 _ _) hz70 hwl dac ?zl za.a1 hp0 hp1 za.a2 za.b1 za.b2 za.a3 hg hR3 hok (if_pos za.b3) (fun h46 tk46 t46 F38 N39 => ?_)
    case zC => walk_at "CX"
    case zl => assumption
    dsimp only
    repeat' ((fail_if_success (with_reducible show wpAny _ _ (call (Value.ref 568) _) _ _ _)); first | walk1 | (dsimp only; walk1))
    have N40 : News s1.heap s1.heap.objs.size h46 ((jl2, listOf #[] 0) :: (wd, wo) :: (ws, so) :: nw3) := fun p hp => N39 p (.tail _ (.tail _ hp))
    clear N39 N38 F37 ly1 ly2 N37 F36 K44 K43
    refine' with_led ?zC N40 (.tail _ (.tail _ (.tail _ mtx))) (.tail _ (.tail _ (.tail _ mtxd))) hg (fun h47 tk47 tz tzd t3 t4 f47 g47 n47 F39 N41 lz1 lz2 => ?_)
    case zC => walk_at "CX"
    dsimp only
    repeat' ((fail_if_success (with_reducible show wpAny _ _ (call (Value.ref 575) _) _ _ _)); first | walk1 | (dsimp only; walk1))
    rename_i h48 F40 N42
    apply gen_fr F40
    intro M7 F41 eM
    have j3 : M7 (Str.ofString "law_giver") = some (.int who tw) := (eM _).trans e3
    have j10 : M7 (Str.ofString "law_more") = some (.int more tmo) := (eM _).trans e10
    have j12 : M7 (Str.ofString "law_world") = some (.ref wl) := (eM _).trans e12
    have j13 : M7 (Str.ofString "law_deal") = some (.ref tz) := eM _
    clear eM
    clear F40 e3 e10 e12 e13
    refine' word_led (tl := nw3) (word := Str.ofString "") ?zC X0 T0 N42 (.head _) (.tail _ (.head _)) (up2 _ _ _ mal3) (up2 _ _ _ mwl) (up2 _ _ _ mst3) (up2 _ _ _ msd3) (up2 _ _ _ mse3) (up2 _ _ _ msed3) (up2 _ _ _ mac3) (up2 _ _ _ mai3) (up2 _ _ _ maid3) (up2 _ _ _ mbl) (up2 _ _ _ mbd) (up2 _ _) hz70 hwl dac ?zl za.a1 hp0 hp1 za.a2 za.c1 za.c2 za.a3 hg hR3 hok (if_neg za.c3) (fun h49 tk49 t49 F42 N43 => ?_)
    case zC => walk_at "CX"
    case zl => assumption
    dsimp only
    repeat' ((fail_if_success (with_reducible show wpAny _ _ (call (Value.ref 466) _) _ _ _)); first | walk1 | (dsimp only; walk1))
    refine gen1 (T := fun tq => News s1.heap s1.heap.objs.size h49 ((tz, instObj 511 tzd) :: (tzd, txO f47 g47 (.int kind tkind) (.int 1 t3) (.int 0 t4) (.int pri tpr) (.int (fee + over) tcap) (.int (intr data rs goal + more) tq) goalv (.int worth two) (.bytes data tb) al .none n47) :: (jl2, listOf #[] 0) :: (wd, wo) :: (ws, so) :: nw3)) N43 fun tq N44 => ?_
    refine gen_eq ((tz, instObj 511 tzd) :: (tzd, txO f47 g47 (.int kind tkind) (.int 1 t3) (.int 0 t4) (.int pri tpr) (.int (fee + over) tcap) (.int (intr data rs goal + more) tq) goalv (.int worth two) (.bytes data tb) al .none n47) :: nw3) fun nw4 hnw4 => ?_
    refine gen_eq ((jl2, listOf #[] 0) :: (wd, wo) :: (ws, so) :: nw4) fun nwF hnwF => ?_
    have N45 : News s1.heap s1.heap.objs.size h49 nwF := News.perm N44 (by rw [hnwF, hnw4]; walk_at "SUBT")
    have in4 : ∀ p ∈ nw3, p ∈ nw4 := fun p hp => hnw4 ▸ .tail _ (.tail _ hp)
    have mtz : (tz, instObj 511 tzd) ∈ nw4 := hnw4 ▸ .head _
    have mtzd : (tzd, txO f47 g47 (.int kind tkind) (.int 1 t3) (.int 0 t4) (.int pri tpr) (.int (fee + over) tcap) (.int (intr data rs goal + more) tq) goalv (.int worth two) (.bytes data tb) al .none n47) ∈ nw4 := hnw4 ▸ .tail _ (.head _)
    have s5 : @LT.lt Nat _ ws tzd := lz1 _ (.tail _ (.tail _ (.head _)))
    have hoff4 : ∀ p ∈ nw4, @Ne Nat p.1 jl2 ∧ @Ne Nat p.1 wd ∧ @Ne Nat p.1 ws := fun p hp => by
      have : @LT.lt Nat _ p.1 jl2 ∨ @LT.lt Nat _ ws p.1 := by
        rw [hnw4] at hp
        rcases List.mem_cons.mp hp with rfl | hp
        · exact .inr (Nat.lt_trans s5 lz2)
        · rcases List.mem_cons.mp hp with rfl | hp
          · exact .inr s5
          · exact hoff p hp
      exact this.elim (fun q => ⟨Nat.ne_of_lt q, Nat.ne_of_lt (Nat.lt_trans q o4), Nat.ne_of_lt (Nat.lt_trans q (Nat.lt_trans o4 o5))⟩) (fun q => ⟨Nat.ne_of_gt (Nat.lt_trans (Nat.lt_trans o4 o5) q), Nat.ne_of_gt (Nat.lt_trans o5 q), Nat.ne_of_gt q⟩)
    have hoff0 : ∀ p ∈ own, @Ne Nat p.1 jl2 ∧ @Ne Nat p.1 wd ∧ @Ne Nat p.1 ws := fun p hp => hoff4 p (in4 p (hon3 p hp))
    have q1 := hlt _ mst
    have q2 := hlt _ msd
    have DS : SN st sd wd ws jl2 := ⟨Nat.ne_of_gt l1, Nat.ne_of_lt (Nat.lt_trans q1 o4), Nat.ne_of_lt q1, Nat.ne_of_lt (Nat.lt_trans q2 o4), Nat.ne_of_lt q2, Nat.ne_of_gt o4, Nat.ne_of_lt (Nat.lt_trans q1 (Nat.lt_trans o4 o5)), Nat.ne_of_lt (Nat.lt_trans q2 (Nat.lt_trans o4 o5)), Nat.ne_of_lt o5, Nat.ne_of_gt (Nat.lt_trans o4 o5)⟩
    have up5 : ∀ p ∈ nw3, p ∈ nwF := fun p hp => hnwF ▸ .tail _ (.tail _ (.tail _ (in4 p hp)))
    have mstF := up5 _ mst3
    have msdF := up5 _ msd3
    have mwlF := up5 _ mwl
    have mceF := up5 _ mce3
    have mjlF : (jl2, listOf #[] 0) ∈ nwF := hnwF ▸ .head _
    clear N44 N43 N42 lz1 lz2 hoff
    dsimp only
    refine' mark_led ?zC N45 mstF msdF mjlF (fun h50 tk50 t50 K50 F43 N46 => ?_)
    case zC => walk_at "CX"
    dsimp only
    repeat' ((fail_if_success (with_reducible show wpAny _ _ (call (Value.ref 137) _) _ _ _)); first | walk1 | (dsimp only; walk1))
    rw [hnwF] at N46
    refine' putWarm_led (tl := own) ?zC N46 (in4 _ mst3) (in4 _ msd3) mtz mtzd (in4 _ mbl) (in4 _ mbd) (in4 _ mal3) (fun p hp => in4 _ (hon3 p hp)) hoff4 DS S0 lw ls hg hR0 hok (fun h51 tk51 wo2 so2 its2 jn2 nw5 F44 N47 in5 hoff5 S1 => ?_)
    case zC => walk_at "CX"
    refine gen_eq ((jl2, listOf its2.toArray jn2) :: (wd, wo2) :: (ws, so2) :: nw5) fun nwG hnwG => ?_
    have N48 : News s1.heap s1.heap.objs.size h51 nwG := hnwG ▸ N47
    have up6 : ∀ p ∈ nw4, p ∈ nwG := fun p hp => hnwG ▸ .tail _ (.tail _ (.tail _ (in5 p hp)))
    have up7 : ∀ p ∈ nw3, p ∈ nwG := fun p hp => up6 p (in4 p hp)
    have mce5 := in5 _ (in4 _ mce3)
    have mst5 := in5 _ (in4 _ mst3)
    have msd5 := in5 _ (in4 _ msd3)
    have mceG := up7 _ mce3
    have mwlG := up7 _ mwl
    have mstG := up7 _ mst3
    have msdG := up7 _ msd3
    have macG := up7 _ mac3
    have maiG := up7 _ mai3
    have maidG := up7 _ maid3
    have malG := up7 _ mal3
    have hRG := hR3.mono up7
    have S2 := S1.mono (own' := nwG) (fun p hp => hnwG ▸ .tail _ (.tail _ (.tail _ hp)))
    clear N45 N46 N47 F43 F42 K50 mstF msdF mwlF mceF mjlF up5
    dsimp only
    repeat' ((fail_if_success (with_reducible show wpAny _ _ (call (Value.ref 580) _) _ _ _)); first | walk1 | (dsimp only; walk1))
    refine' isWarmSo_led ?zC (by assumption) (up6 _ mtz) (up6 _ mtzd) malG mwlG mstG msdG (hnwG ▸ .tail _ (.head _)) (hnwG ▸ .tail _ (.tail _ (.head _))) (up7 _ mbl) (up7 _ mbd) hwl S2 lw ls DS hg hRG hok (fun h52 tk52 K52 F45 N49 => ?_)
    case zC => walk_at "CX"
    dsimp only
    repeat' ((fail_if_success (with_reducible show wpAny _ _ (call (Value.ref 587) _) _ _ _)); first | walk1 | (dsimp only; walk1))
    refine' sends_led (tl := nwG) ?zC (by assumption) (up6 _ mtz) (up6 _ mtzd) malG (fun _ h => h) rfl hz70 rfl rfl hg hRG hok (fun h53 tk53 K53 F46 N50 => ?_)
    case zC => walk_at "CX"
    dsimp only
    repeat' ((fail_if_success (with_reducible show wpAny _ _ (call (Value.ref 291) _) _ _ _)); first | walk1 | (dsimp only; walk1))
    refine' addrs_led ?zC (by assumption) mstG msdG macG dac ?zl (fun h54 tk54 D oD nD tD F47 N51 cD dD => ?_)
    case zC => walk_at "CX"
    case zl => assumption
    dsimp only
    repeat' ((fail_if_success (with_reducible show wpAny _ _ (compareOp _ _ _) _ _ _)); first | walk1 | (dsimp only; walk1))
    rename_i D2 h55 F48 N52 lD2
    refine ne_one ⟨_, (N52 _ (.tail _ (.head _))).1, cD, _, dD⟩ ⟨_, (N52 _ (.head _)).1, rfl, _, rfl⟩ (by first | exact Nat.le_of_ble_eq_true rfl | (rw [cLine_eq]; exact Nat.le_of_ble_eq_true rfl) | (with_unfolding_all exact Nat.le_of_ble_eq_true rfl)) ?_
    have N53 : News s1.heap s1.heap.objs.size h55 nwG := fun p hp => N52 p (.tail _ (.tail _ hp))
    clear N52 lD2 cD dD
    dsimp only
    repeat' ((fail_if_success (with_reducible show wpAny _ _ (call (Value.ref 333) _) _ _ _)); first | walk1 | (dsimp only; walk1))
    refine' balance_led ?zC N53 mstG msdG macG maiG maidG dac ?zl (fun h56 tk56 K56 F49 N54 => ?_)
    case zC => walk_at "CX"
    case zl => assumption
    dsimp only
    repeat' ((fail_if_success (with_reducible show wpAny _ _ (call (Value.ref 354) _) _ _ _)); first | walk1 | (dsimp only; walk1))
    refine' nonce_led ?zC N54 mstG msdG macG maiG maidG dac ?zl (fun h57 tk57 K57 F50 N55 => ?_)
    case zC => walk_at "CX"
    case zl => assumption
    dsimp only
    repeat' ((fail_if_success (with_reducible show wpAny _ _ (call (Value.ref 473) _) _ _ _)); first | walk1 | (dsimp only; walk1))
    rw [hnwG] at N55
    refine' back_led ?zC N55 mst5 msd5 S1 lw ls (fun p hp => (hoff5 p hp).2.1) (fun p hp => (hoff5 p hp).2.2) (fun p hp => (hoff5 p hp).1) DS.d9 (Ne.symm DS.d6) (Ne.symm DS.d10) (Nat.le_trans (Nat.le_of_lt (ents_len hok.1 fun r hr => (hok.2 r hr).2.1)) (Nat.le_of_ble_eq_true rfl)) (fun h58 tk58 wo3 so3 jn3 F51 N56 S3 => ?_)
    case zC => walk_at "CX"
    refine gen_eq ((jl2, listOf #[] jn3) :: (wd, wo3) :: (ws, so3) :: nw5) fun nwH hnwH => ?_
    have N57 : News s1.heap s1.heap.objs.size h58 nwH := hnwH ▸ N56
    have up9 : ∀ p ∈ nw5, p ∈ nwH := fun p hp => hnwH ▸ .tail _ (.tail _ (.tail _ hp))
    have mceH := up9 _ mce5
    have mstH := up9 _ mst5
    have msdH := up9 _ msd5
    have mwdH : (wd, wo3) ∈ nwH := hnwH ▸ .tail _ (.head _)
    have S4 := S3.mono (own' := nwH) up9
    clear N53 N54 N55 N56 F48 F49 F50 K56 K57 S1 S2 mstG msdG macG maiG maidG mceG hnwG hnwH
    dsimp only
    repeat' ((fail_if_success (with_reducible show wpAny _ _ (eval (Expr.ListComp _ _ _ _) _) _ _ _)); first | walk1 | (dsimp only; walk1))
    dsimp only
    refine comp_eval rfl rfl (by decide) (fun _ => rfl) ?_
    try k_fold
    repeat' ((fail_if_success (with_reducible show wpAny _ _ (binaryOp _ _ _) _ _ _)); first | walk1 | (dsimp only; walk1))
    dsimp only
    rename_i h59 tk59 T59 t1 t2 t3 t4 t5 K59 F59 N59 n59 h60 F60 N60 k60 k61 k62
    refine gen_uv (T := fun u v => News s1.heap s1.heap.objs.size h60 ((T59, { cls := .type "tuple", data := .seq u.toArray }) :: (h59.objs.size, { cls := .type "tuple", data := .seq v.toArray }) :: nwH)) (ns := [1001, 1002, 4, 2, 2 ^ 160 - 1] ++ [1, 5]) (u := [_, _, _, _, _]) (v := [_, _]) ((IntsAre.cons _ _ (.cons _ _ (.cons _ _ (.cons _ _ (.cons _ _ .nil))))).append (.cons _ _ (.cons _ _ .nil))) (List.cons_ne_nil _ _) (List.cons_ne_nil _ _) rfl (News.perm N60 (by walk_at "SUBT")) fun u7 v7 hus7 hu7 hv7 hl7 N61 => ?_
    clear N60 n59 k60 k61 k62 K59 N59 F59
    refine add_tuples F60 N61 (News.isTup N61 (by k_mem)) (News.isTup N61 (by k_mem)) (fun e => absurd e hu7) (fun _ e => absurd e hv7) (fun _ _ h61 F61 N62 => ?_) (by rw [hl7, sizeLine_eq]; decide)
    k_unfold
    dsimp only at N62 ⊢
    have N63 : News s1.heap s1.heap.objs.size h61 ((h60.objs.size, ({ cls := .type "tuple", data := .seq (u7 ++ v7).toArray } : Obj)) :: nwH) := News.perm N62 (by walk_at "SUBT")
    clear N62 N61
    repeat' ((fail_if_success (with_reducible show wpAny _ _ (pyIter _) _ _ _)); first | walk1 | (dsimp only; walk1))
    show wpAny _ _ (pyIter _) _ _ _
    refine' comp_tuple (J := fun i ys nw _ => nw = (h60.objs.size, ({ cls := .type "tuple", data := .seq (u7 ++ v7).toArray } : Obj)) :: nwH ∧ ∃ bs, LSm.BoolsAre ys bs ∧ bs.any id = false) rfl (News.get N63 (by k_mem)) rfl rfl ?csz ?ccell ?ckind ?cx F61 N63 ?cj ?cJ ?cturn ?cdone
    case csz => rw [List.length_append, hl7, sizeLine_eq]; decide
    case ckind => rfl
    case cx => rfl
    case ccell => decide
    case cj => exact ⟨rfl, [], .nil, rfl⟩
    case cJ => exact fun i ys news h h' x _ => x
    case cturn =>
      rintro i v ys news₁ h tk oI oD oC D C m₁ E' hi ⟨rfl, bs, hbs, hbf⟩ hD hC hn _ F N hns hm
      obtain ⟨pl, tp, rfl, hpl⟩ := ints_get hus7 hi
      simp only [List.cons_append, List.nil_append] at N
      dsimp only at N hD hC hn
      repeat' ((fail_if_success (with_reducible show wpAny _ _ (call (Value.ref 410) _) _ _ _)); first | walk1 | (dsimp only; walk1))
      refine' isWarm_led ?zC N (by k_mem) (by k_mem) (by k_mem) S4 lw DS (fun h7 tk7 K7 F7 N7 => ?_)
      case zC => walk_at "CX"
      rw [decide_eq_false (List.not_mem_nil)]
      refine ⟨h7, tk7, _, rfl, F7, N7, hn, News.get N7 (by k_mem), rfl, bs ++ [false], bools_snoc false hbs, ?_⟩
      rw [List.any_append, hbf]
      rfl
    case cdone =>
      rintro ys news₁ h62 tk62 D62 k62 ⟨rfl, bs, hbs, hbf⟩ hlen hD _ F62 N62 hn
      repeat' ((fail_if_success (with_reducible show wpAny _ _ (call (Value.builtin "any") _) _ _ _)); first | walk1 | (dsimp only; walk1))
      refine LSm.any_bools F62 N62 rfl (News.isList N62 (.head _)) hbs fun h63 tk63 F63 N63 => ?_
      rw [hbf]
      dsimp only
      k_steps)


end Mine
set_option maxRecDepth 100000 in
set_option maxHeartbeats 8000000 in
theorem PySem.Challenge.cw_pq0410_01_holds : PySem.Challenge.rw_pq0410_01.Holds :=
  Mine.law_main
