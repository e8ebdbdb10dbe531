import PyProof.Rows.All
import PySem.Challenge.RW_partfilter_k37_whole_rounds
import Wide.All
import OpenK.AllK
import Wide.FinOn
import HandS.ForExc
import HandS.Defaults
import HandS.Comp
import HandS.AnyAll
import HandS.GenList
import HandS.Iter
import HandS.Walk
import HandS.GenYield
import PyProof.Draws
import HandS.Conv
import HandS.Codes
import HandS.Strs
import HandS.TupSets
import HandS.RaiseMore
import HandS.FStr
import HandS.ExcIs
import HandS.HeadHook1
import HandS.Small
import HandS.WordsExc
import HandS.IsInst
import KE.KStateDown
import HandS.Head0
import HandS.Head1
import HandS.Head2
import HandS.HeadEnd
import HandS.HeadHook2
import HandS.HeadHook3
import HandS.HeadHook4
import HandS.HeadWalk
set_option Elab.async false
set_option linter.all false
set_option maxRecDepth 100000
set_option maxHeartbeats 2000000
/-! The text by places. -/
namespace K37
open PySem PySem.Spec PyProof.Rows L2
def topS (i : Nat) : Stmt := PySem.Challenge.pw_partfilter_k37_whole_rounds.main.body.getD i (.Pass ⟨0, 0, 0, 0⟩)
abbrev FnP (K : PySem.W.Frag) (x : Str) (st : Stmt) (f : Addr) (fd : FuncData) : Prop := FunD K x x (defArgs st) (defBody st) (defScope st) [] [] f fd
abbrev sAssoc : Stmt := topS 8
abbrev sFault : Stmt := topS 9
abbrev sCheck : Stmt := topS 10
abbrev sValue : Stmt := topS 11
abbrev sIsVS : Stmt := topS 12
abbrev sFirst : Stmt := topS 13
abbrev sChkSets : Stmt := topS 15
abbrev sWords : Stmt := topS 17
abbrev sEnds : Stmt := topS 18
abbrev sTells : Stmt := topS 19
abbrev sStay : Stmt := topS 20
abbrev sMid : Stmt := topS 21
abbrev sRounds : Stmt := topS 22
abbrev sRW : Stmt := topS 23
abbrev sEA : Stmt := topS 24
abbrev sDraws : Stmt := topS 26
abbrev sBox : Stmt := topS 27
abbrev sNext : Stmt := topS 28
abbrev sSimple : Stmt := topS 29
abbrev sLAssoc : Stmt := topS 30
abbrev sTable : Stmt := topS 31
abbrev sSemi : Stmt := topS 32
abbrev sSubset : Stmt := topS 33
abbrev sLValue : Stmt := topS 35
abbrev sRefused : Stmt := topS 36
abbrev sSame : Stmt := topS 37
abbrev sTimes : Stmt := topS 38
abbrev sDrawn : Stmt := topS 39
abbrev sLaw : Stmt := topS 40
end K37
set_option Elab.async false
set_option linter.all false
set_option maxRecDepth 100000
set_option maxHeartbeats 2000000
/-! any, all of a generator expression of one or more clauses, its parts by the layer's judgements. -/
namespace GX
open PySem PySem.Spec PyProof.Rows L2 GenW

/-! ### the frame -/
theorem over_start {A : Around} {elt : Expr} {gens : List Comprehension} {scope : Scope} {pos : Pos} {it acc : Value} {env : Env} :
    A.over (.compStart (.GeneratorExp elt gens scope pos) 0 it acc env) [] = A.deeper env := by
  first
    | rfl
    | (obtain ⟨hd, d, fr, gs, u⟩ := A; simp [Around.over, Around.deeper, marksOver, frameCount, unitsOf, envsOf, guardsOf, pushEnvs, pushGuards, Code.envs, Code.env?, Code.isFrame, Code.guards, Code.isGuard, Code.weight, Code.frames, Code.isCreation, Code.isCaller, Code.cUnits])
theorem over_loop0 {A : Around} {elt : Expr} {gens : List Comprehension} {scope : Scope} {pos : Pos} {it acc : Value} {env : Env} :
    A.over (.compLoop (.GeneratorExp elt gens scope pos) 0 it acc env) [] = A.deeper env := by
  first
    | rfl
    | (obtain ⟨hd, d, fr, gs, u⟩ := A; simp [Around.over, Around.deeper, marksOver, frameCount, unitsOf, envsOf, guardsOf, pushEnvs, pushGuards, Code.envs, Code.env?, Code.isFrame, Code.guards, Code.isGuard, Code.weight, Code.frames, Code.isCreation, Code.isCaller, Code.cUnits])

/-- the context of the generator's frame -/
abbrev gxc (X : Cx) (scope : Scope) (A : Around) (s : Shared) (H : Hp) (cl : List (Str × Addr)) (C : Addr) (code : Value) (fp : List Addr) (pn : List (Addr × Obj)) : Cx :=
  { X with A := A.deeper (genEnv scope cl C code builtinsNs X.env), s_0 := s, H_0 := H, env := genEnv scope cl C code builtinsNs X.env, outer := X.stack, stack := genEnv scope cl C code builtinsNs X.env :: X.stack, ex := fp, fn := fun _ => false, pn := pn, xe := fun _ _ => False }
/-- what holds in the generator's frame, whatever it is -/
def InGx (X : Cx) (scope : Scope) (k : Nat) (Φ : Cx → Prop) : Prop :=
  ∀ (A : Around) (s : Shared) (H : Hp) (cl : List (Str × Addr)) (C : Addr) (code : Value) (fp : List Addr) (pn : List (Addr × Obj)), Room k (gxc X scope A s H cl C code fp pn).A → Φ (gxc X scope A s H cl C code fp pn)

/-- the scope of a generator expression -/
structure GxS (N : List Str) (sc scope : Scope) (own : List (Str × Nat)) : Prop where
  blk : BlkOk N sc scope own
  co : scope.isCoroutine = false
  cell : ∀ y ∈ scope.names, y.2 ≠ .cell
  dot : scope.names.lookup (".0" : Str) = some NameKind.local

section
variable {X : Cx} {pins : List (Addr × Obj)} {σ : L2.St} {H : Hp} {s : Shared}
theorem gx_start {scope : Scope} {own : List (Str × Nat)} {fp : List Addr} {A : Around} {code it : Value} {go : Obj} {h' : Heap} {s' : Shared} (I : Inv X pins σ H s) (S : GxS X.N X.env.scope scope own) (hN : X.N.Nodup) (hfp : ∀ b ∈ fp, FpOk X pins H b ∧ b < s.heap.objs.size)
    (hd : A.handled = none) (hfr : A.frames = some X.stack) (hgo : ∀ v, go.data ≠ .cell v) (hgn : ∀ h : Heap, (h.push go).get? h.objs.size = some go)
    (hns : h'.Ns s.heap.objs.size (fun y => if y = ".0" then some it else none)) (hsb : Heap.SameBut s.heap.objs.size (s.heap.push { cls := .type "frame", data := .dict #[] }) h')
    (eh : s'.heap = h'.push go) (eo : s'.os = s.os) (eg : AllBare s'.gens) :
    Inv (gxc X scope A s H (cloFrom X.env.cells scope.names []) s.heap.objs.size code fp [(h'.objs.size, go)]) [] (wipe σ (own.map (·.2))) H s' := by
  have ok := S.blk
  have hfree : ∀ y ∈ scope.names, y.2 = .free → ∃ c, X.env.cells.lookup y.1 = some c := fun y hy e => by
    rcases ok.free y hy e with k | k
    · exact I.ok.has _ (.inl k)
    · exact I.ok.has _ (.inr k)
  have hsz : h'.objs.size = s.heap.objs.size + 1 := by rw [hsb.1, Heap.size_push]
  have kp' : ∀ b o, s.heap.get? b = some o → h'.get? b = some o := fun b o e => hsb.extBut b o (Nat.ne_of_lt (Heap.lt_size e)) (Heap.get?_push_of_some _ e)
  have kp : ∀ b o, s.heap.get? b = some o → s'.heap.get? b = some o := fun b o e => by rw [eh]; exact Heap.get?_push_of_some _ (kp' b o e)
  have cm : ∀ {y c}, (y, c) ∈ cloFrom X.env.cells scope.names [] → X.env.cells.lookup y = some c ∧ c < s.heap.objs.size := fun {y c} hm => by
    rcases cloFrom_mem hm with hm | ⟨h1, rfl⟩
    · cases hm
    · obtain ⟨c, hc⟩ := hfree _ h1 rfl
      rw [hc]
      obtain ⟨w, z⟩ := I.cell _ _ hc
      exact ⟨rfl, z.lt⟩
  have look : ∀ {y}, scope.names.lookup y = some .free → ∃ c, (cloFrom X.env.cells scope.names []).lookup y = some c ∧ X.env.cells.lookup y = some c := fun {y} hl => by
    have hy : (y, NameKind.free) ∈ scope.names := PySem.mem_of_lookup hl
    obtain ⟨c', e'⟩ := mem_lookup (cloFrom_has (cells := X.env.cells) (acc := []) hy)
    exact ⟨c', e', (cm (PySem.mem_of_lookup e')).1⟩
  generalize hX : gxc X scope A s H (cloFrom X.env.cells scope.names []) s.heap.objs.size code fp [(h'.objs.size, go)] = Y
  have okY : Y.Ok := by
    subst hX
    refine ⟨I.ok.mod, ok.kind, I.ok.glob, rfl, Nat.le_refl _, fun y z c e1 e2 => ?_, fun y hy => ?_, fun y c z => (Bool.noConfusion z), fun _ => hd, Around.frames_deeper hfr, .inr ⟨rfl, rfl⟩, fun b hb => ⟨?_, fun y c e z => ?_⟩, I.bs, Nat.le_trans I.ok.bsz I.sz, fun b o e hb => ?_, fun b hb z => ?_, I.stack, I.stkFree⟩
    · exact I.ok.inj y z c (cm (PySem.mem_of_lookup e1)).1 (cm (PySem.mem_of_lookup e2)).1
    · have hy : scope.names.lookup y = some .cell ∨ scope.names.lookup y = some .free := hy
      rcases hy with hy | hy
      · exact absurd rfl (S.cell _ (PySem.mem_of_lookup hy))
      · obtain ⟨c, h1, _⟩ := look hy
        exact ⟨c, h1⟩
    · exact Nat.ne_of_lt (hfp b hb).2
    · exact (hfp b hb).1.2.2.2.2.1 y c (cm (PySem.mem_of_lookup e)).1 z
    · rcases (hfp b hb).1.2.2.2.1 with z | z
      · exact I.ok.noex b o e z
      · exact absurd (Nat.lt_of_lt_of_le (Heap.lt_size e) (Nat.le_trans I.ok.bsz z)) (Nat.lt_irrefl _)
    · rcases List.mem_cons.mp (I.stkSub b z) with z | z
      · exact (hfp b hb).1.2.1 z
      · exact (hfp b hb).1.2.2.1 z
  have nsC : s'.heap.Ns s.heap.objs.size (fun y => if y = ".0" then some it else none) := by rw [eh]; exact hns.push _
  subst hX
  refine ⟨okY, eo, eg, Un.kept kp, ⟨_, nsC, fun i y av e1 e2 e3 => ?_⟩, fun y c e => ?_, I.hok.fresh (Nat.le_refl _), fun y c e => ?_, fun p hp => ?_, I.hok.kept kp, by rw [wipe_length]; exact I.len⟩
  · obtain ⟨e2, hne⟩ := wipe_some e2
    have hl : scope.names.lookup y = some .free := by
      have no : ∀ k, scope.names.lookup y = some k → (k = .local ∨ k = .cell) → False := fun k hk hh => by
        rcases ok.own _ (PySem.mem_of_lookup hk) hh with e' | e'
        · obtain ⟨p, hp, hpy⟩ := List.mem_map.mp e'
          have e3 := ok.ix p hp
          have : p.1 = y := hpy
          rw [this] at e3
          exact hne (List.mem_map.mpr ⟨p, hp, nodup_ix hN e3 e1⟩)
        · exact e' (List.mem_of_getElem? e1)
      have e3 : scope.names.lookup y = some .local ∨ scope.names.lookup y = some .cell ∨ scope.names.lookup y = some .free := e3
      rcases e3 with e3 | e3 | e3
      · exact (no _ e3 (.inl rfl)).elim
      · exact (no _ e3 (.inr rfl)).elim
      · exact e3
    obtain ⟨m, hn, hl2⟩ := I.loc
    have hvis : Vis X.env.scope y := (ok.free _ (PySem.mem_of_lookup hl) rfl).elim (fun k => .inr (.inl k)) (fun k => .inr (.inr k))
    obtain ⟨w, r, q⟩ := hl2 i y av e1 e2 hvis
    obtain ⟨c, h1, h2⟩ := look hl
    refine ⟨w, r, .inr ⟨.inr hl, c, h1, ?_⟩⟩
    rcases q with ⟨k, _⟩ | ⟨_, c', e', z⟩
    · have k : X.env.scope.names.lookup y = some .local := k
      rcases ok.free _ (PySem.mem_of_lookup hl) rfl with k' | k' <;> rw [show X.env.scope.names.lookup y = _ from k'] at k <;> cases k
    · rw [h2] at e'; cases e'
      exact z.keeps kp
  · obtain ⟨w, z⟩ := I.cell y c (cm (PySem.mem_of_lookup e)).1
    exact ⟨w, z.keeps kp⟩
  · exact I.freeC y c (cm (PySem.mem_of_lookup e)).1
  · have hp : p ∈ [(h'.objs.size, go)] := by simpa using hp
    rw [List.mem_singleton.mp hp]
    refine ⟨by rw [eh]; exact hgn h', I.hok.fresh (by rw [hsz]; exact Nat.le_succ _), by show h'.objs.size ≠ s.heap.objs.size; rw [hsz]; exact Nat.succ_ne_self _, fun z => ?_, hgo⟩
    rcases List.mem_cons.mp (I.stkSub _ z) with z | z
    · have h1 := I.lt
      have z : h'.objs.size = X.env.locals := z
      rw [← z, hsz] at h1
      exact absurd (Nat.lt_of_succ_lt h1) (Nat.lt_irrefl _)
    · exact I.nofs (a := h'.objs.size) (by rw [hsz]; exact Nat.le_succ _) z
end

/-! ### turns -/
/-- a clause's turn: body stands in it -/
def turnOf (tg iter : Expr) (ifs : List Expr) (it : Value) (env : Env) (body : Sem Unit) (c : Code) : Sem PySem.Fin := do
  standAt iter.pos
  match ← pyNext it with
  | none => pure (.done .next)
  | some v =>
    letOwnedTupleGo tg it v
    assign tg env v
    let mut ok := true
    for c in ifs do
      if ok then ok ← isTrue c env (eval c env)
    if ok then
      body
    again c
/-- the innermost: the element is handed out -/
def eltB (elt : Expr) (env : Env) : Sem Unit := do
  let v ← eval elt env
  standAt elt.pos
  let _ ← yieldOut env v
/-- a clause within -/
def forB (e : Expr) (d : Nat) (iter : Expr) (env : Env) : Sem Unit := do
  let x ← eval iter env
  standAt iter.pos
  let x ← foldedSetIterable iter env x
  let _ ← runOwn (.compStart e d (← holding [x] (pyIter x)) .none env) env

/-- while the generator sleeps nothing of the heap changes -/
def Slept0 (s s' : Shared) : Prop := s'.os = s.os ∧ s'.heap = s.heap ∧ AllBare s'.gens
def XY (X : Cx) (b : Bool) (stop : Hp → Prop) : Protocol := fun _ _ v s kap => ∃ c ip σ H, v = .bool c ∧ Inv X ip σ H s ∧ if c = b then stop H else ∀ s', Slept0 s s' → kap (.send .none) s'
def XR (X : Cx) (fin : Hp → Prop) : GenEnd := fun _ _ r s => r = .ok .next ∧ ∃ ip σ H, Inv X ip σ H s ∧ fin H
/-- where the generator's code stands -/
structure GCx (X : Cx) (A : Around) (c : Code) (fs : List Frame) : Prop where
  over : A.over c fs = X.A
  split : splitAtGen fs = none
  guard : fs.any Frame.guarded = false
theorem Inv.woke {X : Cx} {ip : List (Addr × Obj)} {σ : L2.St} {H : Hp} {s s' : Shared} (I : Inv X ip σ H s) (z : Slept0 s s') : Inv X ip σ H s' := by
  obtain ⟨z1, z2, z3⟩ := z
  exact I.call' (ch := []) z1 (by rw [z2]; exact Un.refl) (by rw [z2]; exact I.hok) z3 fun b hb => absurd hb (by simp)

/-- a reading: the budget, slots, heap; what goes on (with the budget left); the consumer's stop -/
abbrev TX := Nat → L2.St → Hp → (Nat → Hp → Prop) → (Hp → Prop) → Prop
/-- what stands within a clause; behind it the slots vs are forgotten -/
structure PB (X : Cx) (b : Bool) (body : Env → Sem Unit) (vs : List Nat) (t : TX) : Prop where
  run : ∀ (A : Around) (stop fin : Hp → Prop) (nx : Nat → Hp → Prop) (k n : Nat) (s₀ : Shared) (c : Code) (fs : List Frame) (K : Unit → Sem PySem.Fin) (Hh : Value → Sem PySem.Fin) (gd : Bool → Bool) (lv : List Value → List Value) (s : Shared) (ip : List (Addr × Obj)) (σ : L2.St) (H : Hp),
    GCx X A c fs → gd false = false → k ≤ n → Inv X ip σ H s → t k σ H nx stop →
    (∀ m n' s₀' H' s', m ≤ k → m ≤ n' → Inv X ip (wipe σ vs) H' s' → nx m H' → Seg (model X.prog X.w) A (XR X fin) (XY X b stop) n' s₀' c (K ()) fs s') →
    Seg (model X.prog X.w) A (XR X fin) (XY X b stop) (n + 1) s₀ c ((body X.env).wrap K Hh gd lv) fs s

/-- the element -/
def tEl (b : Bool) (te : TE) : TX := fun k σ H nx stop => te σ H fun y H1 => ∃ c, y = .bl c ∧ if c = b then stop H1 else nx k H1
section
variable {X : Cx} {b : Bool}
theorem pb_elt {elt : Expr} {te : TE} (hx : X.xe = fun _ _ => False) (hco : X.env.scope.isCoroutine = false) (he : PE X elt te) : PB X b (eltB elt) [] (tEl b te) := by
  refine ⟨fun A stop fin nx k n s₀ c fs K Hh gd lv s ip σ H g hgd hk I ht hK => ?_⟩
  have hy : ∀ v, yieldOut X.env v = yieldValue v := fun v => by simp only [yieldOut, hco, Bool.false_eq_true, if_false]
  show Seg _ A _ _ (n + 1) s₀ c ((eval elt X.env >>= fun v => (standAt elt.pos >>= fun _ => (yieldOut X.env v >>= fun _ => pure ()))).wrap K Hh gd lv) fs s
  simp only [hy]
  rw [Sem.bind_eq_wrap', Sem.wrap_wrap]
  refine seg_wrap ?_
  rw [g.over]
  refine wpAny_mono (he.run ip s σ H _ I ht) (fun v s' hv => ?_) fun x s' hx' => ?_
  · obtain ⟨x, H1, I1, rv, cc, ex, q⟩ := hv
    subst ex
    obtain rfl : v = Value.bool cc := rv
    refine seg_at ?_
    refine seg_yield g.split (show gd _ = false from hgd) g.guard ?_
    refine ⟨cc, ip, σ, H1, rfl, I1, ?_⟩
    by_cases h : cc = b
    · rw [if_pos h] at q ⊢
      exact q
    · rw [if_neg h] at q ⊢
      intro s'' z
      exact hK k n s'' H1 s'' (Nat.le_refl _) hk (Inv.woke I1 z) q
  · rw [hx] at hx'
    exact hx'.elim
end

/-! ### a clause -/
/-- the turns of a clause: W by the turn and the budget -/
def LoopX (J : It) (g : TG) (tt : TT) (vs : List Nat) (t : TX) (σ : L2.St) (W : Nat → Nat → Hp → Prop) (nx : Nat → Hp → Prop) (stop : Hp → Prop) : Prop :=
  ∀ i m H, W i m H → (J.stop i H ∧ nx m H) ∨ (J.go i H ∧ ∃ k, m = k + 1 ∧ ∀ x H', J.yld i H x H' → g x (wipe σ vs) H' fun σ2 H2 => wipe σ2 vs = wipe σ vs ∧ tt σ2 H2 fun ok H3 =>
    if ok = true then t k σ2 H3 (fun m' H' => ∃ m'', m'' ≤ m' ∧ W (i + 1) m'' H') stop else ∃ m'', m'' ≤ k ∧ W (i + 1) m'' H3)
def tFr (wi : TI) (g : TG) (tt : TT) (vs : List Nat) (t : TX) : TX := fun k σ H nx stop => wi σ H fun J H1 => ∃ W : Nat → Nat → Hp → Prop, (∃ m, m ≤ k ∧ W 0 m H1) ∧ LoopX J g tt vs t σ W nx stop
section
variable {X : Cx} {b : Bool}
theorem seg_loopX {tg iter : Expr} {ifs : List Expr} {g : TG} {tt : TT} {t : TX} {vs vsI : List Nat} {body : Env → Sem Unit} {J : It} {it : Addr} {fp : List Addr} {tn : Nat → Heap → Prop} {W : Nat → Nat → Hp → Prop} {nx : Nat → Hp → Prop} {stop fin : Hp → Prop} {σ : L2.St}
    {A : Around} {c : Code} {fs : List Frame} {hh : Value → Sem Unit} {ip : List (Addr × Obj)} (hx : X.xe = fun _ _ => False) (hc : X.calm = true) (G : GCx X A c fs) (hq : c.quiet = true) (hden : (model X.prog X.w).den c = (turnOf tg iter ifs (.ref it) X.env (body X.env) c).onRaise hh)
    (T : Turn X.prog X.w X.K tg J fp it tn) (hg : PG X tg g) (ht : PTs X ifs tt) (hb : PB X b body vsI t) (hv : ∀ i ∈ vsI, i ∈ vs) (hl : LoopX J g tt vs t σ W nx stop) (hf : ∀ b ∈ fp, ∀ H : Hp, H b = none → FpOk X ip H b) (k : Nat)
    (hend : ∀ m n' s₀' H' s', m ≤ k → m ≤ n' → Inv X ip (wipe σ vs) H' s' → nx m H' → Seg (model X.prog X.w) A (XR X fin) (XY X b stop) n' s₀' c (.pure (.done .next)) fs s') :
    ∀ (m i n : Nat) (H : Hp) (s₀ s : Shared), m ≤ k → m ≤ n → W i m H → Inv X ip (wipe σ vs) H s → tn i s.heap → (∀ b ∈ fp, H b = none) →
      Seg (model X.prog X.w) A (XR X fin) (XY X b stop) n s₀ c ((model X.prog X.w).den c) fs s := by
  have nox : ∀ {α : Type} {e : Value} {s' : Shared} {P : Prop}, X.xe e s' → P := fun {α e s' P} z => by rw [hx] at z; exact z.elim
  intro m
  induction m using Nat.strongRecOn with
  | ind m ih =>
    intro i n H s₀ s hmk hmn w I st fr
    have stat : ∀ {H' : Hp}, (∀ b ∈ fp, H' b = none) → ∀ b ∈ fp, FpOk X ip H' b := fun hn b hb => hf b hb _ (hn b hb)
    rw [hden, Sem.onRaise_eq_wrap]
    unfold turnOf
    refine seg_bind_wrap (wpAny_standAt ?_)
    rcases hl i m H w with ⟨hs, hn⟩ | ⟨hgo, k', rfl, step⟩
    · refine seg_bind_wrap ?_
      rw [G.over]
      refine wpAny_mono (T.done X rfl rfl rfl hc i ip s _ H X.xe I (stat fr) st hs) (fun r s1 hr => ?_) fun e s' z => nox (α := Unit) z
      obtain ⟨er, I1⟩ := hr
      subst er
      exact hend m n s₀ H s1 hmk hmn I1 hn
    · obtain ⟨n, rfl⟩ : ∃ j, n = j + 1 := ⟨n - 1, by omega⟩
      refine seg_bind_wrap ?_
      rw [G.over]
      refine wpAny_mono (T.item X rfl rfl rfl hc i ip s _ H X.xe I (stat fr) st hgo) (fun r s1 hr => ?_) fun e s' z => nox (α := Unit) z
      obtain ⟨u, er, h1⟩ := hr
      subst er
      refine seg_bind_wrap ?_
      rw [G.over]
      refine wpAny_mono h1 (fun _ s2 h2 => ?_) fun e s' z => nox (α := Unit) z
      obtain ⟨x, H2, I2, r2, y2, st2, fr2⟩ := h2
      have I2' := I2.pinned (stat fr2) (T.obj _ _ st2)
      refine seg_bind_wrap ?_
      rw [G.over]
      refine wpAny_mono (hg.run _ s2 _ H2 x u _ I2' r2 (step x H2 y2)) (fun _ s3 h3 => ?_) fun e s' z => nox (α := Unit) z
      obtain ⟨σ3, H3, I3, hw3, q3⟩ := h3
      refine seg_bind_wrap ?_
      rw [G.over]
      refine wpAny_mono (ht.run _ s3 σ3 H3 _ I3 q3) (fun ok s4 h4 => ?_) fun e s' z => nox (α := Unit) z
      obtain ⟨H4, I4, q4⟩ := h4
      have hl3 : (wipe σ vs).length = σ3.length := by rw [← hw3, wipe_length]
      have fin : ∀ {σ5 : L2.St} {n5 : Nat} {s₅ : Shared} {m'' : Nat} {H5 : Hp} {s5 : Shared}, Inv X (ip ++ pinsAt fp s2.heap) σ5 H5 s5 → (wipe σ vs).length = σ5.length → (∀ (j : Nat) v, (wipe σ vs)[j]? = some (some v) → σ5[j]? = some (some v)) → m'' ≤ k' → m'' ≤ n5 → W (i + 1) m'' H5 →
          Seg (model X.prog X.w) A (XR X fin) (XY X b stop) n5 s₅ c (.pure (.again c)) fs s5 := fun {σ5 n5 s₅ m'' H5 s5} I5 hl5 hk5 h1 h2 w5 => by
        have pin' : ∀ b ∈ fp, ∀ o, s2.heap.get? b = some o → s5.heap.get? b = some o ∧ H5 b = none := fun b hb o e =>
          let z := I5.pin (b, o) (List.mem_append_right _ (List.mem_append_right _ (mem_pinsAt hb e)))
          ⟨z.1, z.2.1⟩
        refine seg_again hq (ih m'' (by omega) (i + 1) n5 H5 s₅ s5 (by omega) h2 w5 (I5.unpinned.weak hl5 hk5) (T.keep _ _ _ st2 fun b hb o e => (pin' b hb o e).1) fun b hb => ?_)
        obtain ⟨o, e, _⟩ := T.obj _ _ st2 b hb
        exact (pin' b hb o e).2
      have hk3 : ∀ (j : Nat) v, (wipe σ vs)[j]? = some (some v) → σ3[j]? = some (some v) := fun j v e => by
        rw [← hw3] at e
        exact (wipe_some e).1
      cases ok with
      | false =>
        rw [if_neg Bool.false_ne_true] at q4
        obtain ⟨m'', hm, w5⟩ := q4
        exact fin I4 hl3 hk3 hm (by omega) w5
      | true =>
        rw [if_pos rfl] at q4
        rw [if_pos rfl, Sem.bind_eq_wrap', Sem.wrap_wrap]
        refine hb.run A stop _ _ k' n s₀ c fs _ _ _ _ s4 _ σ3 H4 G rfl (by omega) I4 q4 fun m' n' s₀' H' s' hm' hn' I' q' => ?_
        obtain ⟨m'', hm, w5⟩ := q'
        refine fin I' (hl3.trans (wipe_length _ _).symm) (fun j v e => ?_) (by omega) (by omega) w5
        rw [← hw3] at e
        obtain ⟨e1, e2⟩ := wipe_some e
        rw [wipe_out fun z => e2 (hv j z)]
        exact e1
end

/-! ### a clause within a clause -/
theorem gcx_loop {X : Cx} {A : Around} {c c' : Code} {fs : List Frame} {gd : Bool → Bool} {k : Result → Sem PySem.Fin} {l kp : List Value} {p : Pos} (g : GCx X A c fs) (hgd : gd false = false) (hw : c'.weight = 0) (hu : c'.cUnits = 0) :
    GCx X A c' (.ret k none (gd false) l c p kp :: fs) where
  over := (over_loop hw hu).trans g.over
  split := by
    show (splitAtGen fs).map _ = none
    rw [g.split]; rfl
  guard := by
    show (gd false || fs.any Frame.guarded) = false
    rw [hgd, g.guard]; rfl
/-- codes of the inner clauses -/
structure Inner (e : Expr) (d : Nat) (it : Value) (env : Env) : Prop where
  w0 : (Code.compStart e d it .none env).weight = 0
  u0 : (Code.compStart e d it .none env).cUnits = 0
  w1 : (Code.compLoop e d it .none env).weight = 0
  u1 : (Code.compLoop e d it .none env).cUnits = 0
section
variable {X : Cx} {b : Bool}
theorem pb_for {e tg iter : Expr} {d : Nat} {ifs : List Expr} {wi : TI} {g : TG} {tt : TT} {t : TX} {vs vsI : List Nat} {body : Env → Sem Unit} (hx : X.xe = fun _ _ => False) (hc : X.calm = true)
    (hi : PI X tg iter wi) (hg : PG X tg g) (ht : PTs X ifs tt) (hb : PB X b body vsI t) (hv : ∀ i ∈ vsI, i ∈ vs)
    (hs : ∀ x, foldedSetIterable iter X.env x = pure x)
    (hin : ∀ it, Inner e d it X.env)
    (hden : ∀ it, ∃ hh, (model X.prog X.w).den (.compLoop e d it .none X.env) = (turnOf tg iter ifs it X.env (body X.env) (.compLoop e d it .none X.env)).onRaise hh)
    (hst : ∀ it, ∃ hh, (model X.prog X.w).den (.compStart e d it .none X.env) = (compStart e d it .none X.env).onRaise hh)
    (hcs : ∀ it, compStart e d it .none X.env = (do
      if (← ask).params.followText "comprehension-iter-twice" then return ← again (.compLoop e d it .none X.env)
      rule "comprehension.iter-twice"
      standAt iter.pos
      again (.compLoop e d (← pyIter it) .none X.env))) :
    PB X b (forB e d iter) vs (tFr wi g tt vs t) := by
  have nox : ∀ {α : Type} {e : Value} {s' : Shared} {P : Prop}, X.xe e s' → P := fun {α e s' P} z => by rw [hx] at z; exact z.elim
  refine ⟨fun A stop fin nx k n s₀ c fs K Hh gd lv s ip σ H G hgd hk I ht' hK => ?_⟩
  unfold forB
  refine seg_bind_wrap ?_
  rw [G.over]
  refine wpAny_mono (hi.run ip s σ H _ I ht') (fun v s1 h1 => ?_) fun e s' z => nox (α := Unit) z
  refine seg_bind_wrap (wpAny_standAt ?_)
  refine seg_bind_wrap (wpAny_of_eq (hs v) ?_)
  refine seg_bind_wrap (wpAny_holding ?_)
  rw [G.over]
  refine wpAny_mono h1 (fun itv s2 h2 => ?_) fun e s' z => nox (α := Unit) z
  obtain ⟨it, fp, tn, J, H2, eit, I2, T, st2, f2, W, ⟨m0, hm0, w0⟩, hl⟩ := h2
  subst eit
  obtain ⟨hh, hd1⟩ := hden (.ref it)
  obtain ⟨hh2, hd2⟩ := hst (.ref it)
  refine seg_call fun p => ?_
  have Gs := fun (kk : Result → Sem PySem.Fin) (l kp : List Value) => gcx_loop (k := kk) (l := l) (kp := kp) (p := p) G hgd (hin (.ref it)).w0 (hin (.ref it)).u0
  have Gl := fun (kk : Result → Sem PySem.Fin) (l kp : List Value) => gcx_loop (k := kk) (l := l) (kp := kp) (p := p) G hgd (hin (.ref it)).w1 (hin (.ref it)).u1
  have loop := fun (kk : Result → Sem PySem.Fin) (l kp : List Value) (hkk : ∀ (n' : Nat) (s₀' s' : Shared), Seg (model X.prog X.w) A (XR X fin) (XY X b stop) n' s₀' c (K ()) fs s' → Seg (model X.prog X.w) A (XR X fin) (XY X b stop) n' s₀' c (kk (.ok .next)) fs s') =>
    seg_loopX hx hc (Gl kk l kp) rfl hd1 T hg ht hb hv hl (fun b hb H hn => ⟨hn, (f2 b hb).2⟩) k
      (fun m n' s₀' H' s' h1 h2 h3 h4 => seg_leaf (.ok .next) (hkk n' s₀' s' (hK m n' s₀' H' s' h1 h2 h3 h4))) m0 0 (n + 1) H2 s₀ s2 hm0 (by omega) w0 (I2.weak (wipe_length _ _) fun j v e => (wipe_some e).1) st2 fun b hb => (f2 b hb).1
  rw [hd2, Sem.onRaise_eq_wrap, hcs]
  refine seg_bind_wrap (wpAny_askSetting ?_)
  split
  · exact seg_again rfl (loop _ _ _ fun n' s₀' s' z => z)
  · first
      | exact seg_bind_wrap (wpAny_rule (seg_bind_wrap (wpAny_standAt (seg_bind_wrap (T.self _ 0 _ _ _ st2 (seg_again rfl (loop _ _ _ fun n' s₀' s' z => z)))))))
      | (refine seg_bind_wrap (wpAny_rule ?_); show Seg _ A _ _ _ s₀ _ ((standAt iter.pos >>= _).wrap _ _ _ _) _ s2; exact seg_bind_wrap (wpAny_standAt (seg_bind_wrap (T.self _ 0 _ _ _ st2 (seg_again rfl (loop _ _ _ fun n' s₀' s' z => z))))))
end

/-! ### the consumers -/

theorem drain_any {Y : Cx} {A : Around} {R : Result → Shared → Prop} {a : Addr} {g : Nat} {stop fin : Hp → Prop} (hh : A.handled = none) (hd : A.depth < recursionLimit) (hpin : ∀ ip σ H s, Inv Y ip σ H s → s.heap.IsGen a g)
    (hstop : ∀ s' ip σ H gs', Inv Y ip σ H s' → stop H → gs'.bare = true → R (.ok (.ret (.bool true))) (s'.setGen g gs'))
    (hfin : ∀ s' ip σ H h', Inv Y ip σ H s' → fin H → (∀ b o, s'.heap.get? b = some o → h'.get? b = some o) → R (.ok (.ret (.bool false))) { s'.setGen g .finished with heap := h' }) :
    ∀ (n : Nat) (s : Shared), s.heap.IsGen a g → s.heap.NoLimit → (∃ gs, s.gens[g]? = some gs ∧ gs.Goes (model Y.prog Y.w) A.in1.in1 (XR Y fin) (XY Y true stop) n (.send .none) (s.setGen g .running)) →
      codeAny (model Y.prog Y.w) A (.builtin "any.loop" ⟨[.ref a], []⟩) R s := by
  intro n
  induction n with
  | zero =>
    intro s hg hl ⟨gs, hgs, hgo⟩
    refine codeAny_builtin F.entry_any_loop ?_
    rw [Around.under_plainId F.plain_any_loop _]
    show wpAny _ A.in1 (pyNext (.ref a) >>= _) _ _ s
    refine wpAny_bind (wpAny_pyNext_genexpQ (A := A.in1) (P := fun _ _ s₁ => ∃ ip σ H, Inv Y ip σ H s₁ ∧ fin H) hh hl hd hg hgs hgo (fun v s₁ gs' hbare hv => ?_) (fun s₁ hp h' hk => ?_))
    · obtain ⟨c, ip, σ, H, rfl, I, q⟩ := hv
      by_cases h : c = true
      · rw [if_pos h] at q
        subst h
        refine wpAny_bind (wpAny_holding (wpAny_truthy_bool ?_))
        refine wpAny_bind (wpAny_letGo ?_)
        simp only [if_true, Bool.false_eq_true, if_false]
        exact wpAny_bind (wpAny_rule (wpAny_pure (hstop _ ip σ H gs' I q hbare)))
      · rw [if_neg h] at q
        exact (q s₁ ⟨rfl, rfl, I.bare⟩).elim
    · obtain ⟨ip, σ, H, I, q⟩ := hp
      exact wpAny_bind (wpAny_rule (wpAny_pure (hfin _ ip σ H _ I q hk)))
  | succ n ih =>
    intro s hg hl ⟨gs, hgs, hgo⟩
    have hgl : g < s.gens.size := (Array.getElem?_eq_some_iff.mp hgs).1
    refine codeAny_builtin F.entry_any_loop ?_
    rw [Around.under_plainId F.plain_any_loop _]
    show wpAny _ A.in1 (pyNext (.ref a) >>= _) _ _ s
    refine wpAny_bind (wpAny_gsz (n := g + 1) hgl (wpAny_pyNext_genexpQ (A := A.in1) (P := fun _ _ s₁ => ∃ ip σ H, Inv Y ip σ H s₁ ∧ fin H) hh hl hd hg hgs hgo (fun v s₁ gs' hbare hv => ?_) (fun s₁ hp h' hk => ?_)))
    · intro hsz
      obtain ⟨c, ip, σ, H, rfl, I, q⟩ := hv
      by_cases h : c = true
      · rw [if_pos h] at q
        subst h
        refine wpAny_bind (wpAny_holding (wpAny_truthy_bool ?_))
        refine wpAny_bind (wpAny_letGo ?_)
        simp only [if_true, Bool.false_eq_true, if_false]
        exact wpAny_bind (wpAny_rule (wpAny_pure (hstop _ ip σ H gs' I q hbare)))
      · rw [if_neg h] at q
        have hc : c = false := by cases c <;> simp_all
        subst hc
        have hsz1 : g < s₁.gens.size := by
          have q : (s₁.setGen g gs').gens.size = s₁.gens.size := setGen_size _ _ _
          have hsz' : g + 1 ≤ (s₁.setGen g gs').gens.size := hsz
          omega
        refine wpAny_bind (wpAny_holding (wpAny_truthy_bool ?_))
        refine wpAny_bind (wpAny_letGo ?_)
        simp only [if_true, Bool.false_eq_true, if_false]
        refine wpAny_pure ⟨plainId_quiet F.plain_any_loop _, ih (s₁.setGen g gs') (hpin ip σ H s₁ I) I.nolimit ⟨gs', setGen_at hsz1, ?_⟩⟩
        exact q _ ⟨rfl, rfl, allBare_setGen (s := s₁.setGen g gs') (allBare_setGen I.bare hbare) rfl⟩
    · intro hsz
      obtain ⟨ip, σ, H, I, q⟩ := hp
      exact wpAny_bind (wpAny_rule (wpAny_pure (hfin _ ip σ H _ I q hk)))
theorem call_any_gx {Y : Cx} {A : Around} {a : Addr} {g n : Nat} {gs : GenState} {stop fin : Hp → Prop} {Q : Value → Shared → Prop} {E : Value → Shared → Prop} {s : Shared} (hh : A.handled = none) (hd : A.depth < recursionLimit) (hpin : ∀ ip σ H s, Inv Y ip σ H s → s.heap.IsGen a g)
    (hstop : ∀ s' ip σ H gs', Inv Y ip σ H s' → stop H → gs'.bare = true → Q (.bool true) (s'.setGen g gs'))
    (hfin : ∀ s' ip σ H h', Inv Y ip σ H s' → fin H → (∀ b o, s'.heap.get? b = some o → h'.get? b = some o) → Q (.bool false) { s'.setGen g .finished with heap := h' })
    (hg : s.heap.IsGen a g) (hl : s.heap.NoLimit) (hgs : s.gens[g]? = some gs) (hgo : gs.Goes (model Y.prog Y.w) A.in1.in1 (XR Y fin) (XY Y true stop) n (.send .none) (s.setGen g .running)) :
    wpAny (model Y.prog Y.w) A (call (.builtin "any") [.ref a]) Q E s := by
  refine call_function_tree F.kind_any F.plain_any F.entry_any (F.args_any1 _) ?_
  unfold Builtin.«any»
  refine wpAny_bind (m := oneArg "any" _) (wpAny_pure ?_)
  refine wpAny_bind (wpAny_pyIter_gen hg ?_)
  exact wpAny_pure ⟨plainId_quiet F.plain_any_loop _, drain_any hh hd hpin (fun s' ip σ H gs' h1 h2 h3 => hstop s' ip σ H gs' h1 h2 h3) (fun s' ip σ H h' h1 h2 h3 => hfin s' ip σ H h' h1 h2 h3) n s hg hl ⟨gs, hgs, hgo⟩⟩

theorem drain_all {Y : Cx} {A : Around} {R : Result → Shared → Prop} {a : Addr} {g : Nat} {stop fin : Hp → Prop} (hh : A.handled = none) (hd : A.depth < recursionLimit) (hpin : ∀ ip σ H s, Inv Y ip σ H s → s.heap.IsGen a g)
    (hstop : ∀ s' ip σ H gs', Inv Y ip σ H s' → stop H → gs'.bare = true → R (.ok (.ret (.bool false))) (s'.setGen g gs'))
    (hfin : ∀ s' ip σ H h', Inv Y ip σ H s' → fin H → (∀ b o, s'.heap.get? b = some o → h'.get? b = some o) → R (.ok (.ret (.bool true))) { s'.setGen g .finished with heap := h' }) :
    ∀ (n : Nat) (s : Shared), s.heap.IsGen a g → s.heap.NoLimit → (∃ gs, s.gens[g]? = some gs ∧ gs.Goes (model Y.prog Y.w) A.in1.in1 (XR Y fin) (XY Y false stop) n (.send .none) (s.setGen g .running)) →
      codeAny (model Y.prog Y.w) A (.builtin "all.loop" ⟨[.ref a], []⟩) R s := by
  intro n
  induction n with
  | zero =>
    intro s hg hl ⟨gs, hgs, hgo⟩
    refine codeAny_builtin F.entry_all_loop ?_
    rw [Around.under_plainId F.plain_all_loop _]
    show wpAny _ A.in1 (pyNext (.ref a) >>= _) _ _ s
    refine wpAny_bind (wpAny_pyNext_genexpQ (A := A.in1) (P := fun _ _ s₁ => ∃ ip σ H, Inv Y ip σ H s₁ ∧ fin H) hh hl hd hg hgs hgo (fun v s₁ gs' hbare hv => ?_) (fun s₁ hp h' hk => ?_))
    · obtain ⟨c, ip, σ, H, rfl, I, q⟩ := hv
      by_cases h : c = false
      · rw [if_pos h] at q
        subst h
        refine wpAny_bind (wpAny_holding (wpAny_truthy_bool ?_))
        refine wpAny_bind (wpAny_letGo ?_)
        simp only [if_true, Bool.false_eq_true, if_false]
        exact wpAny_bind (wpAny_rule (wpAny_pure (hstop _ ip σ H gs' I q hbare)))
      · rw [if_neg h] at q
        exact (q s₁ ⟨rfl, rfl, I.bare⟩).elim
    · obtain ⟨ip, σ, H, I, q⟩ := hp
      exact wpAny_bind (wpAny_rule (wpAny_pure (hfin _ ip σ H _ I q hk)))
  | succ n ih =>
    intro s hg hl ⟨gs, hgs, hgo⟩
    have hgl : g < s.gens.size := (Array.getElem?_eq_some_iff.mp hgs).1
    refine codeAny_builtin F.entry_all_loop ?_
    rw [Around.under_plainId F.plain_all_loop _]
    show wpAny _ A.in1 (pyNext (.ref a) >>= _) _ _ s
    refine wpAny_bind (wpAny_gsz (n := g + 1) hgl (wpAny_pyNext_genexpQ (A := A.in1) (P := fun _ _ s₁ => ∃ ip σ H, Inv Y ip σ H s₁ ∧ fin H) hh hl hd hg hgs hgo (fun v s₁ gs' hbare hv => ?_) (fun s₁ hp h' hk => ?_)))
    · intro hsz
      obtain ⟨c, ip, σ, H, rfl, I, q⟩ := hv
      by_cases h : c = false
      · rw [if_pos h] at q
        subst h
        refine wpAny_bind (wpAny_holding (wpAny_truthy_bool ?_))
        refine wpAny_bind (wpAny_letGo ?_)
        simp only [if_true, Bool.false_eq_true, if_false]
        exact wpAny_bind (wpAny_rule (wpAny_pure (hstop _ ip σ H gs' I q hbare)))
      · rw [if_neg h] at q
        have hc : c = true := by cases c <;> simp_all
        subst hc
        have hsz1 : g < s₁.gens.size := by
          have q : (s₁.setGen g gs').gens.size = s₁.gens.size := setGen_size _ _ _
          have hsz' : g + 1 ≤ (s₁.setGen g gs').gens.size := hsz
          omega
        refine wpAny_bind (wpAny_holding (wpAny_truthy_bool ?_))
        refine wpAny_bind (wpAny_letGo ?_)
        simp only [if_true, Bool.false_eq_true, if_false]
        refine wpAny_pure ⟨plainId_quiet F.plain_all_loop _, ih (s₁.setGen g gs') (hpin ip σ H s₁ I) I.nolimit ⟨gs', setGen_at hsz1, ?_⟩⟩
        exact q _ ⟨rfl, rfl, allBare_setGen (s := s₁.setGen g gs') (allBare_setGen I.bare hbare) rfl⟩
    · intro hsz
      obtain ⟨ip, σ, H, I, q⟩ := hp
      exact wpAny_bind (wpAny_rule (wpAny_pure (hfin _ ip σ H _ I q hk)))
theorem call_all_gx {Y : Cx} {A : Around} {a : Addr} {g n : Nat} {gs : GenState} {stop fin : Hp → Prop} {Q : Value → Shared → Prop} {E : Value → Shared → Prop} {s : Shared} (hh : A.handled = none) (hd : A.depth < recursionLimit) (hpin : ∀ ip σ H s, Inv Y ip σ H s → s.heap.IsGen a g)
    (hstop : ∀ s' ip σ H gs', Inv Y ip σ H s' → stop H → gs'.bare = true → Q (.bool false) (s'.setGen g gs'))
    (hfin : ∀ s' ip σ H h', Inv Y ip σ H s' → fin H → (∀ b o, s'.heap.get? b = some o → h'.get? b = some o) → Q (.bool true) { s'.setGen g .finished with heap := h' })
    (hg : s.heap.IsGen a g) (hl : s.heap.NoLimit) (hgs : s.gens[g]? = some gs) (hgo : gs.Goes (model Y.prog Y.w) A.in1.in1 (XR Y fin) (XY Y false stop) n (.send .none) (s.setGen g .running)) :
    wpAny (model Y.prog Y.w) A (call (.builtin "all") [.ref a]) Q E s := by
  refine call_function_tree F.kind_all F.plain_all F.entry_all (F.args_all1 _) ?_
  unfold Builtin.«all»
  refine wpAny_bind (m := oneArg "all" _) (wpAny_pure ?_)
  refine wpAny_bind (wpAny_pyIter_gen hg ?_)
  exact wpAny_pure ⟨plainId_quiet F.plain_all_loop _, drain_all hh hd hpin (fun s' ip σ H gs' h1 h2 h3 => hstop s' ip σ H gs' h1 h2 h3) (fun s' ip σ H h' h1 h2 h3 => hfin s' ip σ H h' h1 h2 h3) n s hg hl ⟨gs, hgs, hgo⟩⟩


/-! ### its making -/
theorem eval_gx (elt target iter : Expr) (ifs : List Expr) (rest : List Comprehension) (scope : Scope) (pos : Pos) (env : Env) (hco : scope.isCoroutine = false) :
    eval (.GeneratorExp elt (⟨target, iter, ifs, 0⟩ :: rest) scope pos) env = (do
      let x ← eval iter env
      standAt iter.pos
      let x ← genFold iter env x
      let it ← holding [x] (pyIter x)
      enterFrame
      let cl ← closureFor scope env
      let code ← genexprCode env pos (env.qual ++ "<genexpr>") scope
      let bi ← builtinsFor env.globals env.builtins
      let cenv ← newFunctionEnv scope env.globals cl [(".0", it)] (env.qual ++ "<genexpr>.") none code none bi
      newGenerator (.compStart (.GeneratorExp elt (⟨target, iter, ifs, 0⟩ :: rest) scope pos) 0 it .none cenv) "<genexpr>" (env.qual ++ "<genexpr>")) := by
  rw [arm_eval_GeneratorExp]
  simp only [hco, Bool.false_eq_true, if_false]
  cases iter <;> rfl
theorem make_gx {M : Model} {A : Around} {E : Value → Shared → Prop} {s : Shared} {env : Env} {elt target iter : Expr} {ifs : List Expr} {rest : List Comprehension} {scope : Scope} {cl : List (Str × Addr)} {pos : Pos} {Q : Value → Shared → Prop}
    (hco : scope.isCoroutine = false) (hclos : closureFor scope env = pure cl) (hcell : ∀ y ∈ scope.names, y.2 ≠ .cell) (h0 : scope.names.lookup (".0" : Str) = some NameKind.local) (hkind : scope.kind = .function)
    (hroom : A.depth < recursionLimit)
    (h : wpAny M A (eval iter env) (fun xv s₁ => wpAny M A (pyIter xv) (fun it s₂ => s₂.heap.NoLimit ∧
      wpAny M A (genexprCode env pos (env.qual ++ "<genexpr>") scope) (fun code s₃ => wpAny M A (builtinsFor env.globals env.builtins) (fun bi s₄ =>
        ∀ h', h'.Ns s₄.heap.objs.size (fun y => if y = ".0" then some it else none) → Heap.SameBut s₄.heap.objs.size (s₄.heap.push { cls := .type "frame", data := .dict #[] }) h' →
          Q (.ref h'.objs.size) { s₄ with
            gens := s₄.gens.push (.fresh (.compStart (.GeneratorExp elt (⟨target, iter, ifs, 0⟩ :: rest) scope pos) 0 it .none (genEnv scope cl s₄.heap.objs.size code bi env))),
            toks := s₄.toks + 1 + 1 + 1,
            heap := h'.push { cls := .type "generator", data := .fields #[.int s₄.gens.size 0, .str "<genexpr>" (s₄.toks + 1), .str (env.qual ++ "<genexpr>") (s₄.toks + 1 + 1)] } }) E s₃) E s₂) E s₁) E s)
    (hs : ∀ x, genFold iter env x = pure x) :
    wpAny M A (eval (.GeneratorExp elt (⟨target, iter, ifs, 0⟩ :: rest) scope pos) env) Q E s := by
  rw [eval_gx _ _ _ _ _ _ _ _ hco, hclos]
  refine wpAny_bind (wpAny_mono h (fun xv s₁ h₁ => ?_) fun _ _ e => e)
  refine wpAny_bind (wpAny_standAt ?_)
  refine wpAny_bind (wpAny_of_eq (hs xv) ?_)
  refine wpAny_bind (wpAny_holding (wpAny_mono h₁ (fun it s₂ h₂ => ?_) fun _ _ e => e))
  refine wpAny_bind (wpAny_enterFrame h₂.1 hroom ?_)
  refine wpAny_bind (wpAny_pure ?_)
  refine wpAny_bind (wpAny_mono h₂.2 (fun code s₃ h₃ => ?_) fun _ _ e => e)
  refine wpAny_bind (wpAny_mono h₃ (fun bi s₄ h₄ => ?_) fun _ _ e => e)
  have hbinds : ∀ y ∈ ([((".0" : Str), it)] : List (Str × Value)), scope.names.lookup y.1 = some NameKind.local := by
    intro y hy
    rcases List.mem_cons.mp hy with rfl | hy
    · exact h0
    · cases hy
  refine wpAny_bind (wpAny_newFunctionEnv hcell hbinds (fun h' hn' hs' => ?_) hkind)
  have e : (fun y : Str => ([((".0" : Str), it)] : List (Str × Value)).reverse.lookup y) = fun y : Str => if y = (".0" : Str) then some it else none := by
    funext y
    by_cases hy : y = ".0"
    · subst hy; simp
    · have : (y == (".0" : Str)) = false := by simpa using hy
      simp [List.lookup, this, hy]
  rw [e] at hn'
  simp only [newGenerator, newFields]
  refine wpAny_bind (wpAny_newGen (wpAny_bind (wpAny_mkText (wpAny_bind (wpAny_mkText (wpAny_newObj_type ?_ (by size_fits)))))))
  exact h₄ h' hn' hs'

/-! ### the rule -/
/-- what any, all do with a generator -/
def ConsX (id : String) (b : Bool) : Prop := ∀ {Y : Cx} {A : Around} {a : Addr} {g n : Nat} {gs : GenState} {stop fin : Hp → Prop} {Q : Value → Shared → Prop} {E : Value → Shared → Prop} {s : Shared}, A.handled = none → A.depth < recursionLimit → (∀ ip σ H s, Inv Y ip σ H s → s.heap.IsGen a g) →
    (∀ s' ip σ H gs', Inv Y ip σ H s' → stop H → gs'.bare = true → Q (.bool b) (s'.setGen g gs')) →
    (∀ s' ip σ H h', Inv Y ip σ H s' → fin H → (∀ b o, s'.heap.get? b = some o → h'.get? b = some o) → Q (.bool (!b)) { s'.setGen g .finished with heap := h' }) →
    s.heap.IsGen a g → s.heap.NoLimit → s.gens[g]? = some gs → gs.Goes (model Y.prog Y.w) A.in1.in1 (XR Y fin) (XY Y b stop) n (.send .none) (s.setGen g .running) →
    wpAny (model Y.prog Y.w) A (call (.builtin id) [.ref a]) Q E s
theorem cons_any : ConsX "any" true := fun h1 h2 h3 h4 h5 h6 h7 h8 h9 => call_any_gx h1 h2 h3 h4 h5 h6 h7 h8 h9
theorem cons_all : ConsX "all" false := fun h1 h2 h3 h4 h5 h6 h7 h8 h9 => call_all_gx h1 h2 h3 h4 h5 h6 h7 h8 h9

/-- any(..), all(..): b is what stops it -/
def tGx (P : Addr) (b : Bool) (wi : TI) (g : TG) (tt : TT) (t : TX) (vs : List Nat) : TE := fun σ H Q => wi σ H fun J H1 => GxR.TabG H1 P ∧ ∀ H2, GxR.Tabbed P H1 H2 → ∃ W : Nat → Nat → Hp → Prop, (∃ m, W 0 m H2) ∧
  LoopX J g tt vs t σ W (fun _ H => Q (.bl (!b)) H) (fun H => Q (.bl b) H)
section
variable {X : Cx}
theorem pe_gx {nm : Str} {id : String} {b : Bool} {c P : Addr} {elt tg iter : Expr} {ifs : List Expr} {rest : List Comprehension} {scope : Scope} {own : List (Str × Nat)} {p pos gpos : Pos} {wi : TI} {g : TG} {tt : TT} {t : TX} {vsI : List Nat} {body : Env → Sem Unit} {k : Nat}
    (cons : ConsX id b) (hr : Room (k + 1) X.A) (hc : X.calm = true) (hN : X.N.Nodup) (hg : Gl X nm) (hm : X.mg nm = none) (hv : bootBuiltins nm = some (.builtin id)) (TB : GxR.TabB X.base X.mg c P) (hcode : X.env.code = .ref c) (S : GxS X.N X.env.scope scope own)
    (hi : PI X tg iter wi) (pg : InGx X scope k fun Y => PG Y tg g) (pt : InGx X scope k fun Y => PTs Y ifs tt) (pb : InGx X scope k fun Y => PB Y b body vsI t) (hvI : ∀ i ∈ vsI, i ∈ own.map (·.2))
    (hs : ∀ v, genFold iter X.env v = pure v := by intro _; rfl)
    (hturn : ∀ it env, compTurn (.GeneratorExp elt (⟨tg, iter, ifs, 0⟩ :: rest) scope gpos) 0 it .none env = turnOf tg iter ifs it env (body env) (.compLoop (.GeneratorExp elt (⟨tg, iter, ifs, 0⟩ :: rest) scope gpos) 0 it .none env) := by intro _ _; rfl)
    (hn : nm ≠ "__name__" := by decide) (hdb : (nm == ("__debug__" : Str)) = false := by decide)
    (he : starEach [.GeneratorExp elt (⟨tg, iter, ifs, 0⟩ :: rest) scope gpos] X.env = (false, eval (.GeneratorExp elt (⟨tg, iter, ifs, 0⟩ :: rest) scope gpos) X.env) :: starEach [] X.env := by rfl) :
    PE X (.Call (.Name nm p) [.GeneratorExp elt (⟨tg, iter, ifs, 0⟩ :: rest) scope gpos] [] pos) (tGx P b wi g tt t (own.map (·.2))) := by
  refine ⟨fun pins s σ H Q I h => ?_⟩
  refine wpAny_Call_Name_kw (ld_blt I hg hm hv ?_ hn hdb)
  refine PyProof.Rows.callWith_builtin1 ?_ he (by rfl)
  rw [he]
  show wpAny _ _ (spliced ((false, eval (.GeneratorExp elt (⟨tg, iter, ifs, 0⟩ :: rest) scope gpos) X.env) :: backTo pos (starEach [] X.env))) _ _ s
  refine Calls.spliced_cons ?_
  have hfree : ∀ y ∈ scope.names, y.2 = .free → ∃ c, X.env.cells.lookup y.1 = some c := fun y hy e => by
    rcases S.blk.free y hy e with k | k
    · exact I.ok.has _ (.inl k)
    · exact I.ok.has _ (.inr k)
  refine make_gx S.co (closure_ok hfree) S.cell S.dot S.blk.kind hr.depth ?_ hs
  refine thn (hi.run pins s σ H _ I h) fun xv s1 hx => thn hx fun itv s2 h2 => ?_
  obtain ⟨it, fp, tn, J, H2, eit, I2, T, st2, f2, ⟨ps, hP, ht⟩, q⟩ := h2
  subst eit
  refine ⟨I2.nolimit, ?_⟩
  have hPs : s2.heap.get? P = some { cls := .none, data := .fields ps } := I2.hok P _ hP
  have cd : PySem.W.CodeHd s2.heap c P := TB.code.keeps I2.bk
  have cont : ∀ (code : Value) (h3 : Heap) (tk : Nat) (ps' : Array Value), Heap.ExtBut P s2.heap h3 → s2.heap.objs.size ≤ h3.objs.size → h3.get? P = some { cls := .none, data := .fields ps' } → (∃ more, ps' = ps ++ more) → TriplesOk ps'.toList →
      wpAny (model X.prog X.w) X.A (builtinsFor X.env.globals X.env.builtins) (fun bi s₄ =>
        ∀ h', h'.Ns s₄.heap.objs.size (fun y => if y = ".0" then some (.ref it) else none) → Heap.SameBut s₄.heap.objs.size (s₄.heap.push { cls := .type "frame", data := .dict #[] }) h' →
          wpAny (model X.prog X.w) X.A (spliced (backTo pos (starEach [] X.env))) (fun vs s' => wpAny (model X.prog X.w) X.A (call (.builtin id) ((.ref h'.objs.size) :: vs)) (EP X pins σ Q) X.xe s') X.xe { s₄ with
            gens := s₄.gens.push (.fresh (.compStart (.GeneratorExp elt (⟨tg, iter, ifs, 0⟩ :: rest) scope gpos) 0 (.ref it) .none (genEnv scope (cloFrom X.env.cells scope.names []) s₄.heap.objs.size code bi X.env))),
            toks := s₄.toks + 1 + 1 + 1,
            heap := h'.push { cls := .type "generator", data := .fields #[.int s₄.gens.size 0, .str "<genexpr>" (s₄.toks + 1), .str (X.env.qual ++ "<genexpr>") (s₄.toks + 1 + 1)] } }) X.xe { s2 with heap := h3, toks := tk } := by
    intro code h3 tk ps' hx3 hsz hP3 hmore ht3
    obtain ⟨bm, ob, e1, e2, e3, e4, e5, e6, e7, e8⟩ := TB.bm
    obtain ⟨more, em⟩ := hmore
    have keep3 : ∀ b u, b ≠ P → s2.heap.get? b = some u → h3.get? b = some u := fun b u hb e => hx3 b u hb e
    have J4 : Inv X pins σ (upd H2 P (.tbl (ps ++ more))) { s2 with heap := h3, toks := tk } :=
      GxR.inv_tab (g' := s2.gens) (d' := s2.drawn) I2 hP keep3 (by rw [← em]; exact hP3) I2.bare
    refine wpAny_builtinsFor (m := X.mg) (by rw [I.ok.glob]; exact (I2.mod.glob.keeps I2.bk).extBut hx3 TB.gP) e1 e2 (keep3 _ _ e4 (I2.bk _ _ e5)) e6 e7 e8 ?_
    intro h' hn' hs'
    obtain ⟨W, ⟨m0, w0⟩, hl⟩ := q (upd H2 P (.tbl (ps ++ more))) ⟨⟨ps ++ more, upd_same, by rw [← em]; exact ht3⟩, fun b hb => upd_ne hb⟩
    refine Calls.spliced_nil ?_
    generalize hs4 : ({ s2 with heap := h3, toks := tk } : Shared) = s4 at J4 hn' hs' ⊢
    have hs4h : s4.heap = h3 := by rw [← hs4]
    generalize hH4 : upd H2 P (.tbl (ps ++ more)) = H4 at J4 w0
    generalize hgo : ({ cls := .type "generator", data := .fields #[.int s4.gens.size 0, .str "<genexpr>" (s4.toks + 1), .str (X.env.qual ++ "<genexpr>") (s4.toks + 1 + 1)] } : Obj) = go
    have hgoc : go.cls = .type "generator" := by rw [← hgo]
    have hgod : ∃ nm qn, go.data = .fields #[.int s4.gens.size 0, nm, qn] := by rw [← hgo]; exact ⟨_, _, rfl⟩
    have hgos : go.slots = #[] := by rw [← hgo]
    have hgn : ∀ h : Heap, (h.push go).get? h.objs.size = some go := fun h => by rw [← hgo]; exact Heap.get?_push_size _ rfl
    obtain ⟨gnm, gqn, hgod⟩ := hgod
    have hgov : ∀ v, go.data ≠ .cell v := fun v z => by rw [hgod] at z; cases z
    have isg : ∀ h : Heap, h.get? h'.objs.size = some go → h.IsGen h'.objs.size s4.gens.size := fun h e => ⟨go, gnm, gqn, e, hgoc, hgod, hgos⟩
    have sz : ∀ b ∈ fp, b < s2.heap.objs.size := fun b hb => by
      obtain ⟨o, e, _⟩ := T.obj _ _ st2 b hb
      exact Heap.lt_size e
    have nP : ∀ b ∈ fp, b ≠ P := fun b hb z => by
      have := (f2 b hb).1
      rw [z, hP] at this
      cases this
    have f4 : ∀ b ∈ fp, FpOk X pins H4 b ∧ b < s4.heap.objs.size := fun b hb => by
      refine ⟨⟨?_, (f2 b hb).2⟩, by rw [hs4h]; exact Nat.lt_of_lt_of_le (sz b hb) hsz⟩
      rw [← hH4, upd_ne (nP b hb)]
      exact (f2 b hb).1
    have st4 : tn 0 s4.heap := T.keep _ _ _ st2 fun b hb o e => by rw [hs4h]; exact keep3 b o (nP b hb) e
    have szh : h'.objs.size = s4.heap.objs.size + 1 := by rw [hs'.1, Heap.size_push]
    have keep5 : ∀ b o, s4.heap.get? b = some o → (h'.push go).get? b = some o := fun b o e => Heap.get?_push_of_some _ (hs'.extBut b o (Nat.ne_of_lt (Heap.lt_size e)) (Heap.get?_push_of_some _ e))
    have fr1 : X.A.in1.in1.frames = some X.stack := I.ok.frames
    generalize hce : genEnv scope (cloFrom X.env.cells scope.names []) s4.heap.objs.size code builtinsNs X.env = ce
    -- the generator's frame, once it runs
    have start : ∀ s6 : Shared, s6.heap = h'.push go → s6.os = s4.os → AllBare s6.gens → Inv (gxc X scope X.A.in1.in1 s4 H4 (cloFrom X.env.cells scope.names []) s4.heap.objs.size code fp [(h'.objs.size, go)]) [] (wipe σ (own.map (·.2))) H4 s6 :=
      fun s6 e1 e2 e3 => gx_start J4 S hN f4 (show X.A.in1.in1.handled = none from hr.hd) fr1 hgov hgn hn' hs' e1 e2 e3
    have hroom : Room k (gxc X scope X.A.in1.in1 s4 H4 (cloFrom X.env.cells scope.names []) s4.heap.objs.size code fp [(h'.objs.size, go)]).A := by
      refine ⟨hr.hd, ?_, ?_⟩
      · have := hr.dp
        show X.A.depth + 1 + 3 * k + 5 < _
        omega
      · have := hr.un
        show X.A.units + 1 + 1 + 3 + 16 * k + 200 < _
        omega
    have pgY := pg X.A.in1.in1 s4 H4 (cloFrom X.env.cells scope.names []) s4.heap.objs.size code fp [(h'.objs.size, go)] hroom
    have ptY := pt X.A.in1.in1 s4 H4 (cloFrom X.env.cells scope.names []) s4.heap.objs.size code fp [(h'.objs.size, go)] hroom
    have pbY := pb X.A.in1.in1 s4 H4 (cloFrom X.env.cells scope.names []) s4.heap.objs.size code fp [(h'.objs.size, go)] hroom
    have hYe : (gxc X scope X.A.in1.in1 s4 H4 (cloFrom X.env.cells scope.names []) s4.heap.objs.size code fp [(h'.objs.size, go)]).env = ce := hce
    have back : ∀ {ip : List (Addr × Obj)} {σ' : L2.St} {H' : Hp} {s' s'' : Shared}, Inv (gxc X scope X.A.in1.in1 s4 H4 (cloFrom X.env.cells scope.names []) s4.heap.objs.size code fp [(h'.objs.size, go)]) ip σ' H' s' → s''.os = s'.os → AllBare s''.gens → (∀ b o, s'.heap.get? b = some o → s''.heap.get? b = some o) → Inv X pins σ H' s'' :=
      fun {ip σ' H' s' s''} J o1 o2 o3 => J4.call' (ch := fp) (o1.trans J.os) (J.base.trans (Un.kept o3)) (J.hok.kept o3) o2 fun b hb => ⟨(f4 b hb).1.2.2.2.1, (f4 b hb).1.2.1, (f4 b hb).1.2.2.2.2.1, (f4 b hb).1.2.2.2.2.2⟩
    have pinY : ∀ ip σ' H' s', Inv (gxc X scope X.A.in1.in1 s4 H4 (cloFrom X.env.cells scope.names []) s4.heap.objs.size code fp [(h'.objs.size, go)]) ip σ' H' s' → s'.heap.IsGen h'.objs.size s4.gens.size := fun ip σ' H' s' J =>
      isg _ (J.pin (h'.objs.size, go) (List.mem_append_left _ (List.mem_singleton.mpr rfl))).1
    refine cons (Y := gxc X scope X.A.in1.in1 s4 H4 (cloFrom X.env.cells scope.names []) s4.heap.objs.size code fp [(h'.objs.size, go)]) (A := X.A) (g := s4.gens.size) (n := m0) (stop := fun H => Q (.bl b) H) (fin := fun H => Q (.bl (!b)) H)
      (gs := .fresh (.compStart (.GeneratorExp elt (⟨tg, iter, ifs, 0⟩ :: rest) scope gpos) 0 (.ref it) .none ce)) hr.hd hr.depth pinY
      (fun s' ip σ' H' gs' J hq hb => ⟨.bl b, H', back J rfl (allBare_setGen J.bare hb) (fun _ _ e => e), rfl, hq⟩)
      (fun s' ip σ' H' h'' J hq hk => ⟨.bl (!b), H', back J rfl (allBare_setGen J.bare rfl) hk, rfl, hq⟩)
      (isg _ (hgn h')) (J4.nolimit.keeps keep5) (Array.getElem?_push_size ..) ⟨rfl, ?_⟩
    have I7 : Inv (gxc X scope X.A.in1.in1 s4 H4 (cloFrom X.env.cells scope.names []) s4.heap.objs.size code fp [(h'.objs.size, go)]) [] (wipe σ (own.map (·.2))) H4
      (({ s4 with gens := s4.gens.push (.fresh (.compStart (.GeneratorExp elt (⟨tg, iter, ifs, 0⟩ :: rest) scope gpos) 0 (.ref it) .none ce)), toks := s4.toks + 1 + 1 + 1, heap := h'.push go } : Shared).setGen s4.gens.size .running) :=
      start _ rfl rfl (allBare_setGen (s := { s4 with gens := s4.gens.push (.fresh (.compStart (.GeneratorExp elt (⟨tg, iter, ifs, 0⟩ :: rest) scope gpos) 0 (.ref it) .none ce)), toks := s4.toks + 1 + 1 + 1, heap := h'.push go }) (AllBare.push J4.bare rfl) rfl)
    have st7 : tn 0 (h'.push go) := T.keep _ _ _ st4 fun b _ o e => keep5 b o e
    have G0 : GCx (gxc X scope X.A.in1.in1 s4 H4 (cloFrom X.env.cells scope.names []) s4.heap.objs.size code fp [(h'.objs.size, go)]) X.A.in1.in1 (.compLoop (.GeneratorExp elt (⟨tg, iter, ifs, 0⟩ :: rest) scope gpos) 0 (.ref it) .none ce) [] :=
      ⟨by rw [over_loop0, hYe.symm], rfl, rfl⟩
    have stat : ∀ b ∈ fp, ∀ H : Hp, H b = none → FpOk (gxc X scope X.A.in1.in1 s4 H4 (cloFrom X.env.cells scope.names []) s4.heap.objs.size code fp [(h'.objs.size, go)]) [] H b := fun b hb H hn =>
      ⟨hn, (I7.ok.exf b hb).1, I7.ok.exfs b hb, .inl hb, fun x c e => (I7.ok.exf b hb).2 x c e, fun p hp => by
        have hp : p ∈ [(h'.objs.size, go)] := by simpa using hp
        rw [List.mem_singleton.mp hp]
        intro z
        have z : h'.objs.size = b := z
        have h9 := (f4 b hb).2
        rw [← z, szh] at h9
        exact absurd (Nat.lt_of_succ_lt h9) (Nat.lt_irrefl _)⟩
    have loop := fun (s₀ : Shared) => seg_loopX (X := gxc X scope X.A.in1.in1 s4 H4 (cloFrom X.env.cells scope.names []) s4.heap.objs.size code fp [(h'.objs.size, go)]) (b := b) (nx := fun _ H => Q (.bl (!b)) H) (stop := fun H => Q (.bl b) H) (fin := fun H => Q (.bl (!b)) H) (ip := []) (σ := σ) rfl hc G0 rfl
      (hh := leaving ce) (by
        show (compTurn (.GeneratorExp elt (⟨tg, iter, ifs, 0⟩ :: rest) scope gpos) 0 (.ref it) .none ce).onRaise (leaving ce) = _
        rw [hturn, hYe]) T pgY ptY pbY hvI hl stat m0
      (fun m n' s₀' H' s' _ _ I' q' => seg_end (.ok .next) ⟨rfl, [], _, H', I', q'⟩) m0 0 m0 H4 s₀ _ (Nat.le_refl _) (Nat.le_refl _) w0 I7 st7 fun b hb => (f4 b hb).1.1
    show Seg _ X.A.in1.in1 _ _ m0 _ _ ((compStart (.GeneratorExp elt (⟨tg, iter, ifs, 0⟩ :: rest) scope gpos) 0 (.ref it) .none ce).onRaise (leaving ce)) [] _
    unfold compStart
    rw [Sem.onRaise_eq_wrap]
    show Seg _ _ _ _ _ _ _ ((ask >>= _).wrap _ _ _ _) [] _
    refine seg_bind_wrap (wpAny_askSetting ?_)
    split
    · exact seg_again rfl (loop _)
    · first
        | exact seg_bind_wrap (wpAny_rule (seg_bind_wrap (wpAny_standAt (seg_bind_wrap (T.self _ 0 _ _ _ st7 (seg_again rfl (loop _)))))))
        | (refine seg_bind_wrap (wpAny_rule ?_); show Seg _ _ _ _ _ _ _ ((standAt iter.pos >>= _).wrap _ _ _ _) [] _; exact seg_bind_wrap (wpAny_standAt (seg_bind_wrap (T.self _ 0 _ _ _ st7 (seg_again rfl (loop _))))))
  cases hf : codeAmong gpos ps.toList with
  | none =>
    refine wpAny_genexprCodeX hcode (cd.code hPs ht) (cd.tab hPs) hf fun c' h' tk hx hge hlt hco' _ htab' _ => ?_
    obtain ⟨o1, vs, f1, tf, fl, tg, inF, tx, tt, op, _, _, _, _, _, _, _, _, _, htr, _⟩ := hco'
    exact cont _ h' tk _ hx (Nat.le_trans hge (Nat.le_of_lt hlt)) htab'.2 ⟨_, rfl⟩ htr
  | some cv =>
    refine wpAny_genexprCode_hit hcode (cd.code hPs ht) hf ?_
    exact cont cv s2.heap s2.toks ps (Heap.ExtBut.refl _ _) (Nat.le_refl _) hPs ⟨#[], by simp⟩ ht
end
end GX
set_option Elab.async false
set_option linter.all false
set_option maxRecDepth 100000
set_option maxHeartbeats 2000000
/-! for i, x in enumerate(a tuple). -/
namespace EnT
open PySem PySem.Spec PyProof.Rows L2
open PySem.AutoSeq1 (wpAny_loadPart')
open Sem (wp)
set_option maxHeartbeats 4000000 in
theorem meets_enum_tup (t : Addr) (items : Array Value) (n : Nat) (dct : Option Addr) (sl : Array (Option Value)) :
    Meets (Builtin.«enumerate.__new__» ⟨[.type "enumerate", .ref t], []⟩) (fun _ R s => s.heap.get? t = some { cls := .type "tuple", dict := dct, data := .seq items n, slots := sl } ∧
      R (.ok (.ret (.ref (s.heap.push { cls := .type "tuple_iterator", data := .fields #[.ref t, .int 0 0] }).objs.size)))
        { s with heap := (s.heap.push { cls := .type "tuple_iterator", data := .fields #[.ref t, .int 0 0] }).push { cls := .type "enumerate", data := .fields #[.none, .bool false, .ref s.heap.objs.size, rawInt 0, .none, .none] } }) :=
  .of_wp fun prog w A R s h => by
    obtain ⟨hp, g, d, tk, os⟩ := s; obtain ⟨hl, h⟩ := h
    have hsub := sub_enumerate
    have hL : Heap.IsTuple (Shared.heap ⟨hp, g, d, tk, os⟩) t items := ⟨_, hl, rfl, n, rfl⟩
    wp_walk using wpAny_loadPart' hl
    refine wpAny_stack_any fun st => wpAny_pure ?_
    split
    · rename_i c _ _ _ _ _
      cases (c == Value.type "enumerate")
      · wp_walk using wpAny_loadPart' hl, wpAny_pyIter_tuple hL
        exact ⟨_, rfl, h⟩
      · wp_walk using wpAny_loadPart' hl, wpAny_pyIter_tuple hL
        exact ⟨_, rfl, h⟩
    · wp_walk using wpAny_loadPart' hl, wpAny_pyIter_tuple hL
      exact ⟨_, rfl, h⟩
section
variable {prog : Program} {w : World} {A : Around} {E : Value → Shared → Prop} {s : Shared}
theorem call_enum_tup {l : Addr} {items : Array Value} {Q : Value → Shared → Prop} (hL : IsTup s.heap l items)
    (h : ∀ h', IsEnum h' (s.heap.objs.size + 1) s.heap.objs.size 0 .none → IsTupIter h' s.heap.objs.size l 0 → h'.objs.size = s.heap.objs.size + 2 →
      (∀ b o, s.heap.get? b = some o → h'.get? b = some o) → Q (.ref (s.heap.objs.size + 1)) { s with heap := h' }) :
    wpAny (model prog w) A (call (.type "enumerate") [.ref l]) Q E s := by
  obtain ⟨⟨c, dct, dt, sl⟩, hl, hc, n, hd⟩ := hL
  replace hc : c = .type "tuple" := hc
  replace hd : dt = .seq items n := hd
  subst hc hd
  refine callType_new F.called_enumerate (by decide) (F.typeCall_enumerate_1 _) (F.newCall_enumerate_1 _) (fun obj => F.args_object_init_2 obj _) F.entry_enumerate_new
    (meets_enum_tup l items n dct sl) ⟨hl, ?_⟩
  have hz : (s.heap.push { cls := .type "tuple_iterator", data := .fields #[.ref l, .int 0 0] }).objs.size = s.heap.objs.size + 1 := Heap.size_push ..
  show _ ∧ _
  rw [hz]
  have he : IsEnum ((s.heap.push { cls := .type "tuple_iterator", data := .fields #[.ref l, .int 0 0] }).push
      { cls := .type "enumerate", data := .fields #[.none, .bool false, .ref s.heap.objs.size, rawInt 0, .none, .none] }) (s.heap.objs.size + 1) s.heap.objs.size 0 .none := by
    have := Heap.get?_push_size (s.heap.push { cls := .type "tuple_iterator", data := .fields #[.ref l, .int 0 0] })
      (o := { cls := .type "enumerate", data := .fields #[.none, .bool false, .ref s.heap.objs.size, rawInt 0, .none, .none] }) rfl
    rw [hz] at this; exact this
  refine ⟨⟨_, he, rfl⟩, h _ he ⟨_, Heap.get?_push_of_some _ (Heap.get?_push_size _ rfl), rfl, rfl⟩ (by rw [Heap.size_push, hz]) fun b o x => Heap.get?_push_of_some _ (Heap.get?_push_of_some _ x)⟩
theorem draws_tup (hh : A.handled = none) (it t : Addr) (items : Array Value) :
    Draws prog w A it [it, t] items.size (fun i x => items[i]? = some x) (fun i h => IsTupIter h it t i ∧ IsTup h t items ∧ it ≠ t) where
  live := fun _ _ st => let ⟨⟨o, ho, _⟩, _⟩ := st; ⟨o, ho⟩
  frame := fun _ _ _ st hk => let ⟨⟨o, ho, r⟩, ⟨o2, ho2, r2⟩, ne⟩ := st; ⟨⟨o, hk it (by simp) o ho, r⟩, ⟨o2, hk t (by simp) o2 ho2, r2⟩, ne⟩
  item := fun i s Q E hi st hQ => by
    obtain ⟨hit, ht, ne⟩ := st
    unfold Builtin.SmallTypes.nextOf
    refine wpAny_bind (special_tup_item hit ht (x := items[i]) (by simp [hi]) fun h' hit' sb => wpAny_pure ?_)
    exact hQ _ h' s.toks (by simp [hi]) ⟨hit', let ⟨o2, ho2, r2⟩ := ht; ⟨o2, (sb.2 t (Ne.symm ne)).trans ho2, r2⟩, ne⟩ sb
  done := fun s Q E st hE => by
    obtain ⟨hit, ht, ne⟩ := st
    unfold Builtin.SmallTypes.nextOf
    refine wpAny_bind (special_tup_end hh hit ht (by simp) fun e h' hx eb => ?_)
    obtain ⟨a, o, vs, rfl, h1, h2, _⟩ := hx
    exact hE h' a eb ⟨o, h1, h2⟩
end
/-- the tuple at a, each item in a new pair -/
def Ite (K : PySem.W.Frag) (a : Addr) : It :=
  ⟨fun i H => ∃ (xs : List V) (x : V), SqT K H a xs ∧ xs[i]? = some x, fun i H v H' => ∃ T x, v = .ref T ∧ H T = none ∧ H' = upd H T (.tup [.int (i : Nat), x]) ∧ ∀ xs, SqT K H a xs → xs[i]? = some x, fun i H => ∃ xs : List V, SqT K H a xs ∧ xs.length ≤ i⟩
theorem turn_enum {P : Program} {w : World} {K : PySem.W.Frag} {elts : List Expr} {kk : Nat} {tpos : Pos} (a e it : Addr) :
    Turn P w K (.Tuple elts kk tpos) (Ite K a) [e, it] e (fun i h => (∃ old, IsEnum h e it ((i : Nat) : Int) old) ∧ IsTupIter h it a i ∧ e ≠ it) where
  mem := by simp
  obj := fun i h st b hb => by
    obtain ⟨⟨old, he⟩, ⟨o, ho, hc, hd⟩, _⟩ := st
    have e' : b = e ∨ b = it := by simpa using hb
    rcases e' with z | z
    · rw [z]; exact ⟨_, he, fun v q => nomatch q⟩
    · rw [z]; exact ⟨o, ho, fun v q => by rw [hd] at q; cases q⟩
  keep := fun i h h' st k => let ⟨⟨old, he⟩, ⟨o, ho, r⟩, hne⟩ := st; ⟨⟨old, k e (by simp) _ he⟩, ⟨o, k it (by simp) o ho, r⟩, hne⟩
  item := by
    intro X hP hw hK hc i pins s σ H E I hf st hg
    subst hP hw hK
    obtain ⟨⟨old, he⟩, hit, hne⟩ := st
    obtain ⟨xs, x, hq, hx⟩ := hg
    obtain ⟨its, rv, p, hz⟩ := I.tuple hq
    obtain ⟨u, hu, ru⟩ := rv.get hx
    have hel : e < s.heap.objs.size := Heap.lt_size he
    have hil : it < s.heap.objs.size := by obtain ⟨_, q, _⟩ := hit; exact Heap.lt_size q
    have hia : it ≠ a := fun z => by
      obtain ⟨o, ho, hc1, hd⟩ := hit
      obtain ⟨o2, ho2, hc2, _⟩ := p
      rw [z, ho2] at ho
      cases ho
      rw [hc2] at hc1
      exact absurd hc1 (by decide)
    have hea : e ≠ a := fun z => by
      obtain ⟨o2, ho2, hc2, _⟩ := p
      rw [← z, he] at ho2
      cases ho2
      exact absurd (show Value.type "enumerate" = Value.type "tuple" from hc2) (by decide)
    refine wpAny_pyNext_enum_itemD (draws_tup (A := X.A.in1) (I.ok.hd hc) it a its.toArray) he ⟨hit, p, hia⟩ (i := i) (by
      have h1 := (List.getElem?_eq_some_iff.mp hx).1
      have h2 := rv.length
      simp
      omega) hne (by simp [hne, hea]) fun x' h' tk hPx ho hst' hT hsz hk => ?_
    have ex : x' = u := by
      have h1 : its.toArray[i]? = some x' := hPx
      have h2 : its.toArray[i]? = some u := by simpa using hu
      rw [h1] at h2
      exact Option.some.inj h2
    subst ex
    obtain ⟨hit', p', _⟩ := hst'
    refine ⟨_, rfl, wpAny_letOwnedTupleGo_enum (s := { s with heap := h', toks := tk + 1 }) ho fun h'' he' sb => ?_⟩
    have hT2 : h''.get? s.heap.objs.size = some { cls := .type "tuple", data := .seq #[.int i tk, x'] } := (sb.2 _ (Nat.ne_of_gt hel)).trans hT
    have new : ObjOk X.prog X.w (upd H s.heap.objs.size (.tup [.int (i : Nat), x])) h'' s.heap.objs.size (.tup [.int (i : Nat), x]) :=
      ⟨by show 2 ≤ sizeLine; decide, [.int i tk, x'], .cons ⟨_, rfl⟩ (.cons ru .nil), ⟨_, hT2, rfl, _, rfl⟩⟩
    have I1 : Inv X pins σ (upd H s.heap.objs.size (.tup [.int (i : Nat), x])) { s with heap := h'', toks := tk + 1 } :=
      I.turnedNew (ch := [e, it]) (fun b ob hb q => (sb.2 b (fun z => hb (by simp [z]))).trans (hk b ob (fun z => hb (by simp [z])) (fun z => hb (by simp [z])) q)) hf (Nat.le_refl _) new
    refine ⟨.ref s.heap.objs.size, _, I1, rfl, ⟨_, x, rfl, I.hok.fresh (Nat.le_refl _), rfl, fun ys hy => by rw [I.tuple_inj hy hq]; exact hx⟩, ⟨⟨x', ?_⟩, let ⟨o, ho2, r⟩ := hit'; ⟨o, (sb.2 it (Ne.symm hne)).trans ho2, r⟩, hne⟩, fun b hb => ?_⟩
    · have e1 : ((i + 1 : Nat) : Int) = (i : Int) + 1 := by omega
      rw [e1]; exact he'
    · have hb' : b < s.heap.objs.size := by
        have e' : b = e ∨ b = it := by simpa using hb
        rcases e' with z | z
        · rw [z]; exact hel
        · rw [z]; exact hil
      rw [upd_ne (Nat.ne_of_lt hb')]
      exact (hf b hb).1
  done := by
    intro X hP hw hK hc i pins s σ H E I hf st hg
    subst hP hw hK
    obtain ⟨⟨old, he⟩, hit, hne⟩ := st
    obtain ⟨xs, hq, hx⟩ := hg
    obtain ⟨its, rv, p, hz⟩ := I.tuple hq
    obtain ⟨f0, f1, f2, f3, f4, f5⟩ := hf it (by simp)
    have hl := rv.length
    unfold pyNext
    have hT : s.TypeIs (.ref e) "enumerate" := ⟨_, he, rfl⟩
    refine wpAny_bind (wpAny_attempt (wpAny_callSpecial?_slot (name := Str.ofString "__next__") hT F.slot_enumerate_next
      (wpAny_call_entry F.slot_enumerate_next hT F.entry_enumerate_next ?_ (F.args_enumerate_next_1 _))))
    show wpAny _ _ (field (.ref e) 2 >>= _) _ _ _
    refine wpAny_bind (wpAny_field he rfl (x := .ref it) rfl ?_)
    unfold Builtin.SmallTypes.nextOf
    refine wpAny_bind (wpAny_bind (special_tup_end (A := X.A.in1) (I.ok.hd hc) hit p (by simp; omega) fun e' h' hx' eb => ?_))
    obtain ⟨a', o', vs, rfl, h1, h2, _⟩ := hx'
    refine wpAny_bind (wpAny_isInstance (T := "StopIteration") (b := true) ⟨o', h1, h2⟩ isSubtype_stop ?_)
    exact wpAny_pure ⟨rfl, I.turned (t' := s.toks) (fun b o hb q => eb b o hb q) f0 f1 f3 f4 f5⟩
  self := fun A i s Q E st h => let ⟨⟨_, he⟩, _⟩ := st; wpAny_pyIter_enum he h
def iEnum (K : PySem.W.Frag) (ta : TA) : TI := fun σ H R => ta σ H fun vs H1 => ∃ a xs, vs = [.ref a] ∧ SqT K H1 a xs ∧ R (Ite K a) H1
theorem pi_enum {X : Cx} {e : Expr} {ta : TA} {p pos tpos : Pos} {elts : List Expr} {kk : Nat} (hg : Gl X "enumerate") (hm : X.mg "enumerate" = none) (ha : PA X [e] ta) (hs : starEach [e] X.env = [(false, eval e X.env)] := by rfl) :
    PI X (.Tuple elts kk tpos) (.Call (.Name "enumerate" p) [e] [] pos) (iEnum X.K ta) := by
  refine ⟨fun pins s σ H R I h => ?_⟩
  refine Call_ (ld_blt I hg hm boot_enumerate (PyProof.Rows.callWith_type1 (thn (ha.run pos pins s σ H _ I h) fun us s1 ⟨vs, H1, I1, r1, q1⟩ => ?_) hs rfl))
  obtain ⟨a, xs, ex, hq, q⟩ := q1
  subst ex
  cases r1 with
  | cons r rr =>
    cases rr
    cases r
    obtain ⟨its, rv, p', hz⟩ := I1.tuple hq
    refine call_enum_tup p' fun h' he hit hsz hk => wpAny_pyIter_enum he ?_
    have I2 : Inv X pins σ H1 { s1 with heap := h' } := I1.kept (t' := s1.toks) hk
    refine ⟨s1.heap.objs.size + 1, [s1.heap.objs.size + 1, s1.heap.objs.size], _, _, H1, rfl, I2, turn_enum a (s1.heap.objs.size + 1) s1.heap.objs.size, ⟨⟨.none, he⟩, hit, Nat.succ_ne_self _⟩, fun b hb => ?_, q⟩
    have e' : b = s1.heap.objs.size + 1 ∨ b = s1.heap.objs.size := by simpa using hb
    have hle : s1.heap.objs.size ≤ b := by
      rcases e' with z | z
      · rw [z]; exact Nat.le_add_right _ _
      · rw [z]; exact Nat.le_refl _
    exact I1.fpOk hle (I1.hok.fresh hle)
theorem walk_enum {K : PySem.W.Frag} {a : Addr} {xs : List V} : Walk (Ite K a) xs.length (fun H => SqT K H a xs) (YPair (fun i => some (.int (i : Nat))) (fun i => xs[i]?)) := by
  refine ⟨fun i _ hi q => ⟨xs, xs[i], q, by simp [hi]⟩, fun _ q => ⟨xs, q, Nat.le_refl _⟩, fun i H v H' _ q y => ?_⟩
  obtain ⟨T, x, h1, h2, h3, h4⟩ := y
  exact ⟨T, .int (i : Nat), x, h1, h2, h3, rfl, h4 xs q⟩
end EnT
set_option Elab.async false
set_option linter.all false
set_option maxRecDepth 100000
set_option maxHeartbeats 2000000
/-! Heaps: what a step leaves; the program's data; short words. -/
namespace K37
open PySem PySem.Spec PyProof.Rows L2

/-! ### what a step leaves -/
/-- all that was tracked is as it was, but for tables (they may grow) and the thing at x -/
def Ext (x : Option Addr) (H H' : Hp) : Prop := ∀ b o, H b = some o → H' b = some o ∨ (∃ ps qs, o = .tbl ps ∧ H' b = some (.tbl qs)) ∨ (some b = x ∧ ∃ o', H' b = some o')
/-- the tables are in order -/
def Tb (T : List Addr) (H : Hp) : Prop := ∀ P ∈ T, GxR.TabG H P
theorem Ext.refl (x : Option Addr) (H : Hp) : Ext x H H := fun _ _ h => .inl h
theorem Ext.trans {x : Option Addr} {H H1 H2 : Hp} (a : Ext x H H1) (b : Ext x H1 H2) : Ext x H H2 := fun c o h => by
  rcases a c o h with h1 | ⟨ps, qs, e, h1⟩ | ⟨e, o', h1⟩
  · exact b c o h1
  · rcases b c _ h1 with h2 | ⟨ps2, qs2, _, h2⟩ | ⟨e2, o2, h2⟩
    · exact .inr (.inl ⟨ps, qs, e, h2⟩)
    · exact .inr (.inl ⟨ps, qs2, e, h2⟩)
    · exact .inr (.inr ⟨e2, o2, h2⟩)
  · rcases b c _ h1 with h2 | ⟨ps2, qs2, _, h2⟩ | ⟨e2, o2, h2⟩
    · exact .inr (.inr ⟨e, _, h2⟩)
    · exact .inr (.inr ⟨e, _, h2⟩)
    · exact .inr (.inr ⟨e, o2, h2⟩)
theorem Ext.wide {x : Option Addr} {H H' : Hp} (a : Ext none H H') : Ext x H H' := fun c o h => by
  rcases a c o h with h1 | h1 | ⟨e, _⟩
  · exact .inl h1
  · exact .inr (.inl h1)
  · cases e
theorem Ext.free {x : Option Addr} {H H' : Hp} (a : Ext x H H') {b : Addr} (h : H' b = none) : H b = none := by
  cases q : H b with
  | none => rfl
  | some o =>
    rcases a b o q with h1 | ⟨_, _, _, h1⟩ | ⟨_, _, h1⟩ <;> (rw [h] at h1; cases h1)
theorem Ext.at_ {x : Option Addr} {H H' : Hp} (a : Ext x H H') {b : Addr} {o : HO} (h : H b = some o) (nt : ∀ ps, o ≠ .tbl ps) (nx : some b ≠ x) : H' b = some o := by
  rcases a b o h with h1 | ⟨ps, _, e, _⟩ | ⟨e, _⟩
  · exact h1
  · exact absurd e (nt ps)
  · exact absurd e nx
theorem Ext.upd_ {x : Option Addr} {H0 H : Hp} {p : Addr} {o : HO} (a : Ext x H0 H) (h : H0 p = none) : Ext x H0 (upd H p o) := fun b u e => by
  have ne : b ≠ p := ne_of_none e h
  rcases a b u e with h1 | ⟨ps, qs, e1, h1⟩ | ⟨e1, o', h1⟩
  · exact .inl (by rw [upd_ne ne]; exact h1)
  · exact .inr (.inl ⟨ps, qs, e1, by rw [upd_ne ne]; exact h1⟩)
  · exact .inr (.inr ⟨e1, o', by rw [upd_ne ne]; exact h1⟩)
theorem Ext.updX {x : Addr} {H0 H : Hp} {o : HO} (a : Ext (some x) H0 H) : Ext (some x) H0 (upd H x o) := fun b u e => by
  by_cases ne : b = x
  · subst ne
    exact .inr (.inr ⟨rfl, o, upd_same⟩)
  · rcases a b u e with h1 | ⟨ps, qs, e1, h1⟩ | ⟨e1, o', h1⟩
    · exact .inl (by rw [upd_ne ne]; exact h1)
    · exact .inr (.inl ⟨ps, qs, e1, by rw [upd_ne ne]; exact h1⟩)
    · exact .inr (.inr ⟨e1, o', by rw [upd_ne ne]; exact h1⟩)
theorem Ext.tabbed {x : Option Addr} {H0 H H' : Hp} {P : Addr} (a : Ext x H0 H) (g : GxR.TabG H P) (t : GxR.Tabbed P H H') : Ext x H0 H' := by
  refine a.trans fun b o e => ?_
  by_cases hb : b = P
  · subst hb
    obtain ⟨ps, h1, _⟩ := g
    obtain ⟨qs, h2, _⟩ := t.1
    rw [e] at h1
    exact .inr (.inl ⟨ps, qs, Option.some.inj h1, h2⟩)
  · exact .inl ((t.2 b hb).trans e)
theorem Tb.upd_ {T : List Addr} {H : Hp} {p : Addr} {o : HO} (t : Tb T H) (h : ∀ ps, H p ≠ some (.tbl ps)) : Tb T (upd H p o) := fun P hP => by
  obtain ⟨ps, h1, h2⟩ := t P hP
  have ne : P ≠ p := fun z => h ps (by rw [← z]; exact h1)
  exact ⟨ps, by rw [upd_ne ne]; exact h1, h2⟩
theorem Tb.new {T : List Addr} {H : Hp} {p : Addr} {o : HO} (t : Tb T H) (h : H p = none) : Tb T (upd H p o) := t.upd_ fun ps z => by rw [h] at z; cases z
theorem Tb.tabbed {T : List Addr} {H H' : Hp} {P : Addr} (t : Tb T H) (h : GxR.Tabbed P H H') : Tb T H' := fun Q hQ => by
  by_cases hb : Q = P
  · rw [hb]; exact h.1
  · obtain ⟨ps, h1, h2⟩ := t Q hQ
    exact ⟨ps, (h.2 Q hb).trans h1, h2⟩

/-- a step of the program: nothing of old is changed, the tables are in order -/
structure Nx (T : List Addr) (H H' : Hp) : Prop where
  ext : Ext none H H'
  tb : Tb T H'
theorem Nx.refl {T : List Addr} {H : Hp} (t : Tb T H) : Nx T H H := ⟨Ext.refl _ _, t⟩
theorem Nx.trans {T : List Addr} {H H1 H2 : Hp} (a : Nx T H H1) (b : Nx T H1 H2) : Nx T H H2 := ⟨a.ext.trans b.ext, b.tb⟩
theorem Nx.new {T : List Addr} {H0 H : Hp} {p : Addr} {o : HO} (a : Nx T H0 H) (h : H p = none) : Nx T H0 (upd H p o) := ⟨a.ext.upd_ (a.ext.free h), a.tb.new h⟩
theorem Nx.upd_ {T : List Addr} {H0 H : Hp} {p : Addr} {o : HO} (a : Nx T H0 H) (h0 : H0 p = none) (h : ∀ ps, H p ≠ some (.tbl ps)) : Nx T H0 (upd H p o) := ⟨a.ext.upd_ h0, a.tb.upd_ h⟩
theorem Nx.tabbed {T : List Addr} {H0 H H' : Hp} {P : Addr} (a : Nx T H0 H) (hP : P ∈ T) (t : GxR.Tabbed P H H') : Nx T H0 H' := ⟨a.ext.tabbed (a.tb P hP) t, a.tb.tabbed t⟩
theorem Nx.free {T : List Addr} {H H' : Hp} (a : Nx T H H') {b : Addr} (h : H' b = none) : H b = none := a.ext.free h
theorem Nx.lst {T : List Addr} {H H' : Hp} (a : Nx T H H') {b : Addr} {xs : List V} (h : H b = some (.lst xs)) : H' b = some (.lst xs) := a.ext.at_ h (fun _ z => by cases z) (fun z => by cases z)
theorem Nx.tup {T : List Addr} {H H' : Hp} (a : Nx T H H') {b : Addr} {xs : List V} (h : H b = some (.tup xs)) : H' b = some (.tup xs) := a.ext.at_ h (fun _ z => by cases z) (fun z => by cases z)
theorem Nx.seqL {T : List Addr} {K : PySem.W.Frag} {H H' : Hp} {a : Addr} {xs : List V} (e : Nx T H H') (h : SqL K H a xs) : SqL K H' a xs := by
  rcases h with (h | ⟨o, h⟩) | h
  · exact .inl (.inl (e.lst h))
  · exact .inl (.inr ⟨o, e.ext.at_ h (fun _ z => by cases z) (fun z => by cases z)⟩)
  · exact .inr h
theorem Nx.seqT {T : List Addr} {K : PySem.W.Frag} {H H' : Hp} {a : Addr} {xs : List V} (e : Nx T H H') (h : SqT K H a xs) : SqT K H' a xs := by
  rcases h with (h | ⟨o, h⟩) | h
  · exact .inl (.inl (e.tup h))
  · exact .inl (.inr ⟨o, e.ext.at_ h (fun _ z => by cases z) (fun z => by cases z)⟩)
  · exact .inr h
theorem lst_ne_tbl {H : Hp} {p : Addr} {xs : List V} (h : H p = some (.lst xs)) : ∀ ps, H p ≠ some (.tbl ps) := fun ps z => by rw [h] at z; cases z

/-! ### the data -/
abbrev ivs (ns : List Nat) : List V := ns.map fun n : Nat => V.int (n : Int)
/-- the product by the table -/
def g (T : List (List Nat)) (a b : Nat) : Nat := (T.getD a []).getD b 0
/-- the table's tuple of rows -/
def TblT (K : PySem.W.Frag) (H : Hp) (a : Addr) (T : List (List Nat)) : Prop := ∃ rs : List Addr, SqT K H a (rs.map V.ref) ∧ Paired (fun r row => SqT K H r (ivs row)) rs T
/-- a semigroup -/
def SgT (K : PySem.W.Frag) (H : Hp) (s : Addr) (T : List (List Nat)) (L : List Nat) : Prop := ∃ ta la, SqT K H s [.ref ta, .ref la] ∧ TblT K H ta T ∧ SqT K H la (ivs L)
/-- a valid one -/
structure Val (T : List (List Nat)) (L : List Nat) : Prop where
  n1 : 1 ≤ T.length
  n4 : T.length ≤ 4
  rows : ∀ row ∈ T, row.length = T.length ∧ ∀ x ∈ row, x < T.length
  assoc : ∀ a b c, a < T.length → b < T.length → c < T.length → g T (g T a b) c = g T a (g T b c)
  l1 : 1 ≤ L.length
  l3 : L.length ≤ 3
  ls : ∀ x ∈ L, x < T.length
theorem paired_map {α β : Type} {F G : α → β → Prop} {l1 : List α} {l2 : List β} (r : Paired F l1 l2) (f : ∀ a b, F a b → G a b) : Paired G l1 l2 := Paired.mapP r f
theorem paired_get {α β : Type} {F : α → β → Prop} : ∀ {l1 : List α} {l2 : List β} {i : Nat} {b : β}, Paired F l1 l2 → l2[i]? = some b → ∃ a, l1[i]? = some a ∧ F a b
  | _, _, _, _, .nil, h => by simp at h
  | _, _, 0, _, .cons r _, h => by
    simp at h
    subst h
    exact ⟨_, rfl, r⟩
  | _, _, i + 1, b, .cons _ t, h => by
    obtain ⟨a, h1, h2⟩ := paired_get (i := i) t (by simpa using h)
    exact ⟨a, by simpa using h1, h2⟩
theorem Nx.tbl {T' : List Addr} {K : PySem.W.Frag} {H H' : Hp} {a : Addr} {T : List (List Nat)} (e : Nx T' H H') (h : TblT K H a T) : TblT K H' a T := by
  obtain ⟨rs, h1, h2⟩ := h
  exact ⟨rs, e.seqT h1, paired_map h2 fun _ _ z => e.seqT z⟩
theorem Nx.sg {T' : List Addr} {K : PySem.W.Frag} {H H' : Hp} {a : Addr} {T : List (List Nat)} {L : List Nat} (e : Nx T' H H') (h : SgT K H a T L) : SgT K H' a T L := by
  obtain ⟨ta, la, h1, h2, h3⟩ := h
  exact ⟨ta, la, e.seqT h1, e.tbl h2, e.seqT h3⟩
theorem Val.row {T : List (List Nat)} {L : List Nat} (v : Val T L) {a : Nat} (ha : a < T.length) : (T.getD a []).length = T.length ∧ ∀ x ∈ T.getD a [], x < T.length := by
  have e : T.getD a [] = T[a] := by simp [ha]
  rw [e]
  exact v.rows _ (List.getElem_mem ha)
theorem Val.g_lt {T : List (List Nat)} {L : List Nat} (v : Val T L) {a b : Nat} (ha : a < T.length) (hb : b < T.length) : g T a b < T.length := by
  obtain ⟨h1, h2⟩ := v.row ha
  unfold g
  have hb' : b < (T.getD a []).length := by omega
  have e : (T.getD a []).getD b 0 = (T.getD a [])[b] := by rw [List.getD_eq_getElem?_getD, List.getElem?_eq_getElem hb']; rfl
  rw [e]
  exact h2 _ (List.getElem_mem hb')

/-! ### readings of items -/
theorem at_ivs {ns : List Nat} {i : Nat} (h : i < ns.length) : atI (ivs ns) (i : Int) = some (.int (ns.getD i 0 : Nat)) := by
  refine atI_nat ?_
  rw [List.getElem?_map, List.getElem?_eq_getElem h]
  simp [h]
theorem rd_row {K : PySem.W.Frag} {H : Hp} {ta : Addr} {T : List (List Nat)} {a : Nat} {Q : VK} (ht : TblT K H ta T) (ha : a < T.length) (q : ∀ r, SqT K H r (ivs (T.getD a [])) → Q (.ref r) H) : rIxT K (.ref ta) (.int (a : Nat)) H Q := by
  obtain ⟨rs, h1, h2⟩ := ht
  obtain ⟨r, hr, hq⟩ := paired_get h2 (List.getElem?_eq_getElem ha)
  refine ⟨ta, rs.map V.ref, a, .ref r, rfl, rfl, h1, atI_nat ?_, q r ?_⟩
  · rw [List.getElem?_map, hr]
    rfl
  · have e : T.getD a [] = T[a] := by simp [ha]
    rw [e]
    exact hq
theorem rd_int {K : PySem.W.Frag} {H : Hp} {r : Addr} {ns : List Nat} {b : Nat} {Q : VK} (h : SqT K H r (ivs ns)) (hb : b < ns.length) (q : Q (.int (ns.getD b 0 : Nat)) H) : rIxT K (.ref r) (.int (b : Nat)) H Q := ⟨r, ivs ns, b, _, rfl, rfl, h, at_ivs hb, q⟩

/-! ### a def whose code object is known -/
section
variable {P : Program} {w : World} {K : PySem.W.Frag} {mg : Str → Option Value} {base : Heap}
theorem okC {CX : CXT} {x : Str} {st : Stmt} {f : Addr} {fd : FuncData} {N ps : List Str} {k : Nat} {sp : Sp} {c : Addr} (F : FnP K x st f fd) (S : FnScope N ps (defScope st)) (hc : fd.code = .ref c) (len : ∀ vs H Q E, sp vs H Q E → vs.length = ps.length)
    (hbody : ∀ (A : Around) (outer : List Env) (s : Shared) (H : Hp) (vs : List V) (Q : VK) (E : XK), Room k (A.deeper (envOfC x (defScope st) s.heap.objs.size f (.ref c))) → sp vs H Q E →
      ∃ t, PSs (cxOf CX P w K mg base N x (defScope st) f (.ref c) A outer s H E) (defBody st) t ∧ t { nx := fun _ H' => Q .non H', rt := Q } (start N vs) H) : FnOk P w K mg base CX (k + 1) f fd ps sp := by
  obtain ⟨oc, od, dV, kV, doc, pm, an, cdv, ct, osl, rfl, lk, hcd, _, _⟩ := F.ex
  have e : cdv = .ref c := hc
  subst e
  exact fn_of lk hcd S len fun A outer s H vs Q E hr hsp => hbody A outer s H vs Q E hr hsp
/-- .. where nothing is raised -/
theorem ok0 {x : Str} {st : Stmt} {f : Addr} {fd : FuncData} {N ps : List Str} {k : Nat} {sp : Sp} (F : FnP K x st f fd) (S : FnScope N ps (defScope st)) (len : ∀ vs H Q E, sp vs H Q E → vs.length = ps.length)
    (hbody : ∀ (cdv : Value) (A : Around) (outer : List Env) (s : Shared) (H : Hp) (vs : List V) (Q : VK) (E : XK), Room k (A.deeper (envOfC x (defScope st) s.heap.objs.size f cdv)) → sp vs H Q E →
      ∃ t, PSs (cxOf CX0 P w K mg base N x (defScope st) f cdv A outer s H E).nox (defBody st) t ∧ t { nx := fun _ H' => Q .non H', rt := Q } (start N vs) H) : FnOk P w K mg base CX0 (k + 1) f fd ps sp :=
  F.ok S len fun cdv A outer s H vs Q E hr hsp => let ⟨t, h, q⟩ := hbody cdv A outer s H vs Q E hr hsp; ⟨t, h.nox, q⟩
theorem okC0 {x : Str} {st : Stmt} {f : Addr} {fd : FuncData} {N ps : List Str} {k : Nat} {sp : Sp} {c : Addr} (F : FnP K x st f fd) (S : FnScope N ps (defScope st)) (hc : fd.code = .ref c) (len : ∀ vs H Q E, sp vs H Q E → vs.length = ps.length)
    (hbody : ∀ (A : Around) (outer : List Env) (s : Shared) (H : Hp) (vs : List V) (Q : VK) (E : XK), Room k (A.deeper (envOfC x (defScope st) s.heap.objs.size f (.ref c))) → sp vs H Q E →
      ∃ t, PSs (cxOf CX0 P w K mg base N x (defScope st) f (.ref c) A outer s H E).nox (defBody st) t ∧ t { nx := fun _ H' => Q .non H', rt := Q } (start N vs) H) : FnOk P w K mg base CX0 (k + 1) f fd ps sp :=
  okC F S hc len fun A outer s H vs Q E hr hsp => let ⟨t, h, q⟩ := hbody A outer s H vs Q E hr hsp; ⟨t, h.nox, q⟩
end

/-! ### generator expressions in short -/
def gxC (N : List Str) (sc scope : Scope) (own : List (Str × Nat)) : Bool :=
  blkC N sc scope own && (!scope.isCoroutine && ((scope.names.all fun y => match y.2 with | .cell => false | _ => true) && decide (scope.names.lookup (".0" : Str) = some NameKind.local)))
theorem gxS_by {N : List Str} {sc scope : Scope} {own : List (Str × Nat)} (h : gxC N sc scope own = true) : GX.GxS N sc scope own := by
  unfold gxC at h
  simp only [Bool.and_eq_true, List.all_eq_true, decide_eq_true_eq, Bool.not_eq_true'] at h
  obtain ⟨h1, h2, h3, h4⟩ := h
  refine ⟨blkOk_by h1, h2, fun y hy e => ?_, h4⟩
  have q := h3 y hy
  rw [e] at q
  cases q
/-- the budget left at turn i of n, where each turn costs c at most and one, and e is to be left -/
def bud (e c n i : Nat) : Nat := e + (n - i) * (c + 1)
def Wl (e c n : Nat) (Pv : Nat → Hp → Prop) (i m : Nat) (H : Hp) : Prop := m = bud e c n i ∧ i ≤ n ∧ Pv i H
theorem bud_succ {e c n i : Nat} (h : i < n) : bud e c n i = bud e c n (i + 1) + c + 1 := by
  unfold bud
  have h1 : n - i = (n - (i + 1)) + 1 := by omega
  rw [h1, Nat.add_mul]
  omega
theorem bud_end (e c n : Nat) : bud e c n n = e := by unfold bud; simp
/-- the turns of a clause over a walk -/
theorem loop_it {J : It} {n : Nat} {G : Hp → Prop} {Y : Nat → Hp → V → Hp → Prop} (w : Walk J n G Y) {g : TG} {tt : TT} {vs : List Nat} {t : GX.TX} {s0 : L2.St} {nx : Nat → Hp → Prop} {stop : Hp → Prop} (e c : Nat) (Pv : Nat → Hp → Prop)
    (hG : ∀ i H, i ≤ n → Pv i H → G H)
    (hs : ∀ i x H H', i < n → Pv i H → Y i H x H' → g x (wipe s0 vs) H' fun s2 H2 => wipe s2 vs = wipe s0 vs ∧ tt s2 H2 fun ok H3 =>
      if ok = true then t (bud e c n (i + 1) + c) s2 H3 (fun m' H' => ∃ m'', m'' ≤ m' ∧ Wl e c n Pv (i + 1) m'' H') stop else ∃ m'', m'' ≤ bud e c n (i + 1) + c ∧ Wl e c n Pv (i + 1) m'' H3)
    (hd : ∀ H, Pv n H → nx e H) : GX.LoopX J g tt vs t s0 (Wl e c n Pv) nx stop := by
  rintro i m H ⟨rfl, hi, p⟩
  have q := hG i H hi p
  by_cases hlt : i < n
  · exact .inr ⟨w.goes i H hlt q, bud e c n (i + 1) + c, bud_succ hlt, fun x H' y => hs i x H H' hlt p (w.yields i H x H' hlt q y)⟩
  · have h : i = n := by omega
    subst h
    exact .inl ⟨w.stops H q, by rw [bud_end]; exact hd H p⟩
/-- the outermost clause -/
theorem gx_it {J : It} {n : Nat} {G : Hp → Prop} {Y : Nat → Hp → V → Hp → Prop} (w : Walk J n G Y) {g : TG} {tt : TT} {vs : List Nat} {t : GX.TX} {s0 : L2.St} {nx : Nat → Hp → Prop} {stop : Hp → Prop} {H0 : Hp} (c : Nat) (Pv : Nat → Hp → Prop)
    (h0 : Pv 0 H0) (hG : ∀ i H, i ≤ n → Pv i H → G H)
    (hs : ∀ i x H H', i < n → Pv i H → Y i H x H' → g x (wipe s0 vs) H' fun s2 H2 => wipe s2 vs = wipe s0 vs ∧ tt s2 H2 fun ok H3 =>
      if ok = true then t (bud 0 c n (i + 1) + c) s2 H3 (fun m' H' => ∃ m'', m'' ≤ m' ∧ Wl 0 c n Pv (i + 1) m'' H') stop else ∃ m'', m'' ≤ bud 0 c n (i + 1) + c ∧ Wl 0 c n Pv (i + 1) m'' H3)
    (hd : ∀ H, Pv n H → nx 0 H) : ∃ W : Nat → Nat → Hp → Prop, (∃ m, W 0 m H0) ∧ GX.LoopX J g tt vs t s0 W nx stop :=
  ⟨Wl 0 c n Pv, ⟨_, rfl, Nat.zero_le _, h0⟩, loop_it w 0 c Pv hG hs hd⟩
/-- a clause within: k is the budget, e is to be left -/
theorem fr_it {J : It} {n : Nat} {G : Hp → Prop} {Y : Nat → Hp → V → Hp → Prop} (w : Walk J n G Y) {g : TG} {tt : TT} {vs : List Nat} {t : GX.TX} {s0 : L2.St} {nx : Nat → Hp → Prop} {stop : Hp → Prop} {H0 : Hp} {k : Nat} (e c : Nat) (Pv : Nat → Hp → Prop)
    (hk : e + n * (c + 1) ≤ k) (h0 : Pv 0 H0) (hG : ∀ i H, i ≤ n → Pv i H → G H)
    (hs : ∀ i x H H', i < n → Pv i H → Y i H x H' → g x (wipe s0 vs) H' fun s2 H2 => wipe s2 vs = wipe s0 vs ∧ tt s2 H2 fun ok H3 =>
      if ok = true then t (bud e c n (i + 1) + c) s2 H3 (fun m' H' => ∃ m'', m'' ≤ m' ∧ Wl e c n Pv (i + 1) m'' H') stop else ∃ m'', m'' ≤ bud e c n (i + 1) + c ∧ Wl e c n Pv (i + 1) m'' H3)
    (hd : ∀ H, Pv n H → nx e H) : ∃ W : Nat → Nat → Hp → Prop, (∃ m, m ≤ k ∧ W 0 m H0) ∧ GX.LoopX J g tt vs t s0 W nx stop :=
  ⟨Wl e c n Pv, ⟨bud e c n 0, by unfold bud; simpa using hk, rfl, Nat.zero_le _, h0⟩, loop_it w e c Pv hG hs hd⟩
end K37
set_option Elab.async false
set_option linter.all false
set_option maxRecDepth 100000
set_option maxHeartbeats 4000000
namespace GX
open PySem PySem.Spec PyProof.Rows L2 GenW
/-- what stands within a clause, by the clauses that are left -/
def bodyG (e elt : Expr) : List Comprehension → Nat → Env → Sem Unit
  | [], _, env => eltB elt env
  | c :: _, d, env => forB e d c.iter env
theorem turn_last {elt tg iter : Expr} {gens : List Comprehension} {scope : Scope} {pos : Pos} {ifs : List Expr} {d : Nat} {it : Value} {env : Env} (h0 : gens[d]? = some ⟨tg, iter, ifs, 0⟩) (h1 : gens[d + 1]? = none) :
    compTurn (.GeneratorExp elt gens scope pos) d it .none env = turnOf tg iter ifs it env (eltB elt env) (.compLoop (.GeneratorExp elt gens scope pos) d it .none env) := by
  unfold compTurn turnOf eltB
  simp only [h0, h1, bne_self_eq_false, Bool.false_eq_true, if_false, bind_assoc]
  rfl
theorem turn_mid {elt tg iter tg' iter' : Expr} {gens : List Comprehension} {scope : Scope} {pos : Pos} {ifs ifs' : List Expr} {d : Nat} {it : Value} {env : Env} (h0 : gens[d]? = some ⟨tg, iter, ifs, 0⟩) (h1 : gens[d + 1]? = some ⟨tg', iter', ifs', 0⟩) :
    compTurn (.GeneratorExp elt gens scope pos) d it .none env = turnOf tg iter ifs it env (forB (.GeneratorExp elt gens scope pos) (d + 1) iter' env) (.compLoop (.GeneratorExp elt gens scope pos) d it .none env) := by
  unfold compTurn turnOf forB
  simp only [h0, h1, bne_self_eq_false, Bool.false_eq_true, if_false, bind_assoc]
  rfl
theorem turn_any {elt tg iter : Expr} {gens rest : List Comprehension} {scope : Scope} {pos : Pos} {ifs : List Expr} {d : Nat} {it : Value} {env : Env} (h0 : gens.drop d = ⟨tg, iter, ifs, 0⟩ :: rest) (h1 : (rest.headD ⟨tg, iter, ifs, 0⟩).is_async = 0) :
    compTurn (.GeneratorExp elt gens scope pos) d it .none env = turnOf tg iter ifs it env (bodyG (.GeneratorExp elt gens scope pos) elt rest (d + 1) env) (.compLoop (.GeneratorExp elt gens scope pos) d it .none env) := by
  have e0 : gens[d]? = some ⟨tg, iter, ifs, 0⟩ := by
    have := congrArg (fun l => l[0]?) h0
    simpa using this
  have e1 : gens[d + 1]? = rest[0]? := by
    have := congrArg (fun l => l[1]?) h0
    simpa using this
  cases rest with
  | nil => exact turn_last e0 (by simpa using e1)
  | cons c r =>
    obtain ⟨a, b, l, z⟩ := c
    have : z = 0 := h1
    subst this
    exact turn_mid e0 (by simpa using e1)
section
variable {X : Cx} {b : Bool}
theorem pbE {e elt : Expr} {d : Nat} {te : TE} (hx : X.xe = fun _ _ => False) (hco : X.env.scope.isCoroutine = false) (he : PE X elt te) : PB X b (bodyG e elt [] d) [] (tEl b te) := pb_elt hx hco he
theorem pbF {elt tg iter : Expr} {gens rest : List Comprehension} {scope : Scope} {gpos : Pos} {d : Nat} {ifs : List Expr} {wi : TI} {g : TG} {tt : TT} {t : TX} {vs vsI : List Nat}
    (hx : X.xe = fun _ _ => False) (hc : X.calm = true) (hd : gens.drop (d + 1) = ⟨tg, iter, ifs, 0⟩ :: rest) (h1 : (rest.headD ⟨tg, iter, ifs, 0⟩).is_async = 0) (hs : ∀ x, foldedSetIterable iter X.env x = pure x) (hv : ∀ i ∈ vsI, i ∈ vs)
    (hi : PI X tg iter wi) (hg : PG X tg g) (ht : PTs X ifs tt) (hb : PB X b (bodyG (.GeneratorExp elt gens scope gpos) elt rest (d + 2)) vsI t) :
    PB X b (bodyG (.GeneratorExp elt gens scope gpos) elt (⟨tg, iter, ifs, 0⟩ :: rest) (d + 1)) vs (tFr wi g tt vs t) := by
  have e0 : gens[d + 1]? = some ⟨tg, iter, ifs, 0⟩ := by
    have := congrArg (fun l => l[0]?) hd
    simpa using this
  refine pb_for hx hc hi hg ht hb hv hs (fun _ => ⟨rfl, rfl, rfl, rfl⟩) (fun it => ?_) (fun it => ?_) fun it => ?_
  · rw [← turn_any hd h1]
    exact ⟨_, rfl⟩
  · exact ⟨_, rfl⟩
  · unfold compStart
    simp only [clausesOf, e0, bne_self_eq_false, Bool.false_eq_true, if_false, Option.elim]
/-- any(..), all(..) -/
theorem pe_gxB {nm : Str} {id : String} {b : Bool} {c P : Addr} {elt tg iter : Expr} {ifs : List Expr} {rest : List Comprehension} {scope : Scope} {p pos gpos : Pos} {wi : TI} {g : TG} {tt : TT} {t : TX} {k : Nat} (own : List (Str × Nat)) (vsI : List Nat)
    (hvI : ∀ i ∈ vsI, i ∈ own.map (·.2)) (cons : ConsX id b) (hr : Room (k + 1) X.A) (hN : X.N.Nodup) (hm : X.mg nm = none) (hv : bootBuiltins nm = some (.builtin id)) (TB : GxR.TabB X.base X.mg c P) (hcode : X.env.code = .ref c) (S : K37.gxC X.N X.env.scope scope own = true)
    (hi : PI X tg iter wi) (pp : ∀ (A : Around) (s : Shared) (H : Hp) (cl : List (Str × Addr)) (C : Addr) (code : Value) (fp : List Addr) (pn : List (Addr × Obj)), Room k (gxc X scope A s H cl C code fp pn).A →
      PG (gxc X scope A s H cl C code fp pn) tg g ∧ PTs (gxc X scope A s H cl C code fp pn) ifs tt ∧ PB (gxc X scope A s H cl C code fp pn) b (bodyG (.GeneratorExp elt (⟨tg, iter, ifs, 0⟩ :: rest) scope gpos) elt rest 1) vsI t)
    (hg : Gl X nm := by rfl) (hc : X.calm = true := by rfl)
    (hs : ∀ v, genFold iter X.env v = pure v := by intro _; rfl)
    (h1 : (rest.headD ⟨tg, iter, ifs, 0⟩).is_async = 0 := by rfl)
    (hn : nm ≠ "__name__" := by decide) (hdb : (nm == ("__debug__" : Str)) = false := by decide)
    (he : starEach [.GeneratorExp elt (⟨tg, iter, ifs, 0⟩ :: rest) scope gpos] X.env = (false, eval (.GeneratorExp elt (⟨tg, iter, ifs, 0⟩ :: rest) scope gpos) X.env) :: starEach [] X.env := by rfl) :
    PE X (.Call (.Name nm p) [.GeneratorExp elt (⟨tg, iter, ifs, 0⟩ :: rest) scope gpos] [] pos) (tGx P b wi g tt t (own.map (·.2))) :=
  pe_gx cons hr hc hN hg hm hv TB hcode (K37.gxS_by S) hi (fun A s H cl C code fp pn h => (pp A s H cl C code fp pn h).1) (fun A s H cl C code fp pn h => (pp A s H cl C code fp pn h).2.1) (fun A s H cl C code fp pn h => (pp A s H cl C code fp pn h).2.2) hvI hs (fun _ _ => turn_any rfl h1) hn hdb he
end
end GX
namespace K37
open PySem PySem.Spec PyProof.Rows L2
section
variable {X : Cx} {tg : Expr}
/-! rules whose readings name the fragment, not the frame -/
theorem kList (K : PySem.W.Frag) {l : Expr} {tl : TE} (hK : X.K = K) (hl : PE X l tl) : PI X tg l (iList K tl) := hK ▸ pi_list hl
theorem kTup (K : PySem.W.Frag) {l : Expr} {tl : TE} (hK : X.K = K) (hl : PE X l tl) : PI X tg l (iTup K tl) := hK ▸ pi_tup hl
theorem kIxT (K : PySem.W.Frag) (hK : X.K = K) : IxR X (rIxT K) := hK ▸ ix_tup
theorem kIxL (K : PySem.W.Frag) (hK : X.K = K) : IxR X (rIxL K) := hK ▸ ix_list
theorem kIx (K : PySem.W.Frag) (hK : X.K = K) : IxR X (rIx K) := hK ▸ ix_seq
theorem kLen (K : PySem.W.Frag) (hK : X.K = K) : CallR X (.builtin "len") (fun xs H Q => ∃ p ys, xs = [.ref p] ∧ (SqL K H p ys ∨ SqT K H p ys) ∧ Q (.int ys.length) H) := hK ▸ call_len_seq
end
end K37
set_option Elab.async false
set_option linter.all false
set_option maxRecDepth 100000
set_option maxHeartbeats 4000000
/-! Expressions that leave the heap: their values. -/
namespace K37
open PySem PySem.Spec PyProof.Rows L2
/-- the expression has this value, the heap stays -/
def Rd (t : TE) (σ : L2.St) (H : Hp) (v : V) : Prop := ∀ Q : VK, Q v H → t σ H Q
section
variable {K : PySem.W.Frag} {σ : L2.St} {H : Hp} {t ta tb tc : TE}
theorem Rd.var {i : Nat} {v : V} (h : σ[i]? = some (some v)) : Rd (tVar i) σ H v := fun _ q => ⟨v, h, q⟩
theorem Rd.c {v : V} : Rd (tC v) σ H v := fun _ q => q
/-- table[a] -/
theorem Rd.row {T : Addr} {M : List (List Nat)} {a : Nat} (hM : TblT K H T M) (h1 : Rd ta σ H (.ref T)) (h2 : Rd tb σ H (.int (a : Nat))) (ha : a < M.length) {Q : VK} (q : ∀ r, SqT K H r (ivs (M.getD a [])) → Q (.ref r) H) : tOp (rIxT K) ta tb σ H Q :=
  h1 _ (h2 _ (rd_row hM ha q))
/-- letters[a] -/
theorem Rd.at_ {l : Addr} {L : List Nat} {a : Nat} (hL : SqT K H l (ivs L)) (h1 : Rd ta σ H (.ref l)) (h2 : Rd tb σ H (.int (a : Nat))) (ha : a < L.length) : Rd (tOp (rIxT K) ta tb) σ H (.int (L.getD a 0 : Nat)) :=
  fun Q q => h1 _ (h2 _ (rd_int hL ha q))
/-- table[a][b] -/
theorem Rd.prod {T : Addr} {M : List (List Nat)} {L : List Nat} {a b : Nat} (hM : TblT K H T M) (hV : Val M L) (h1 : Rd ta σ H (.ref T)) (h2 : Rd tb σ H (.int (a : Nat))) (h3 : Rd tc σ H (.int (b : Nat))) (ha : a < M.length) (hb : b < M.length) :
    Rd (tOp (rIxT K) (tOp (rIxT K) ta tb) tc) σ H (.int (g M a b : Nat)) :=
  fun Q q => Rd.row hM h1 h2 ha fun r hr => h3 _ (rd_int hr (by rw [(hV.row ha).1]; exact hb) q)
/-- semigroup[0], semigroup[1] -/
theorem Rd.fst {s x y : Addr} (hs : SqT K H s [.ref x, .ref y]) (h1 : Rd ta σ H (.ref s)) : Rd (tOp (rIxT K) ta (tC (.int 0))) σ H (.ref x) := fun Q q => h1 _ ⟨s, _, 0, .ref x, rfl, rfl, hs, rfl, q⟩
theorem Rd.snd {s x y : Addr} (hs : SqT K H s [.ref x, .ref y]) (h1 : Rd ta σ H (.ref s)) : Rd (tOp (rIxT K) ta (tC (.int 1))) σ H (.ref y) := fun Q q => h1 _ ⟨s, _, 1, .ref y, rfl, rfl, hs, rfl, q⟩
theorem Rd.eqI {i j : Int} (h1 : Rd ta σ H (.int i)) (h2 : Rd tb σ H (.int j)) : Rd (tOp rEq ta tb) σ H (.bl (i == j)) := fun Q q => h1 _ (h2 _ ⟨rfl, by rw [dec_int]; exact q⟩)
theorem Rd.neI {i j : Int} (h1 : Rd ta σ H (.int i)) (h2 : Rd tb σ H (.int j)) : Rd (tOp rNe ta tb) σ H (.bl (!(i == j))) := fun Q q => h1 _ (h2 _ ⟨rfl, by rw [dec_int]; exact q⟩)
theorem Rd.len {a : Addr} {xs : List V} {n : Nat} (h1 : Rd t σ H (.ref a)) (hs : SqL K H a xs ∨ SqT K H a xs) (hn : xs.length = n) : Rd (tCB (fun xs H Q => ∃ p ys, xs = [.ref p] ∧ (SqL K H p ys ∨ SqT K H p ys) ∧ Q (.int ys.length) H) (tCons t tNil)) σ H (.int (n : Nat)) := by
  intro Q q
  subst hn
  exact h1 _ ⟨a, xs, rfl, hs, q⟩
end
theorem TblT.len {K : PySem.W.Frag} {H : Hp} {a : Addr} {M : List (List Nat)} (h : TblT K H a M) : ∃ xs, SqT K H a xs ∧ xs.length = M.length := by
  obtain ⟨rs, h1, h2⟩ := h
  exact ⟨_, h1, by rw [List.length_map]; exact h2.length⟩
theorem rgV_at {n : Int} {i : Nat} {x : V} (h : (rgV 0 n)[i]? = some x) : x = .int (i : Nat) ∧ i < n.toNat := by
  unfold rgV at h
  rw [List.getElem?_map] at h
  cases e : (List.range (n - 0).toNat)[i]? with
  | none => rw [e] at h; cases h
  | some j =>
    rw [e] at h
    obtain ⟨h1, h2⟩ := List.getElem?_eq_some_iff.mp e
    simp at h2 h1
    subst h2
    simp at h
    exact ⟨h.symm, by omega⟩
end K37
set_option Elab.async false
set_option linter.all false
set_option maxRecDepth 100000
set_option maxHeartbeats 4000000
/-! Defs by their names. -/
namespace K37
open PySem PySem.Spec PyProof.Rows L2
open C8 (Cal pe_c)
/-- the module's names that are still the built-ins -/
structure Bn (mg : Str → Option Value) : Prop where
  list : mg "list" = none
  range : mg "range" = none
  len : mg "len" = none
  all : mg "all" = none
  any : mg "any" = none
  set : mg "set" = none
  enum : mg "enumerate" = none
  tuple : mg "tuple" = none
  max : mg "max" = none
  min : mg "min" = none
  int : mg "int" = none
  isi : mg "isinstance" = none
/-- a def under its name -/
structure Dn (K : PySem.W.Frag) (mg : Str → Option Value) (x : Str) (st : Stmt) : Prop where
  ex : ∃ f fd, FnP K x st f fd ∧ mg x = some (.ref f)
/-- .. with its table of code objects -/
structure Tn (K : PySem.W.Frag) (mg : Str → Option Value) (base : Heap) (T : List Addr) (x : Str) (st : Stmt) : Prop where
  ex : ∃ f fd c Pt, FnP K x st f fd ∧ mg x = some (.ref f) ∧ fd.code = .ref c ∧ GxR.TabB base mg c Pt ∧ Pt ∈ T
section
variable {P : Program} {w : World} {K : PySem.W.Frag} {mg : Str → Option Value} {base : Heap} {T : List Addr}
theorem cal_of {x : Str} {st : Stmt} {N ps : List Str} {k : Nat} {sp : Sp} (D : Dn K mg x st) (S : FnScope N ps (defScope st))
    (hb : ∀ (kV doc pm : Value) (an : Option Addr) (cdv ct : Value) (us : List Value), us.length = ps.length → bindArgs (PySem.W.fnOf x x (defArgs st) (defBody st) (defScope st) .none kV doc pm an cdv ct) ⟨us, []⟩ = pure (ps.zip us))
    (len : ∀ vs H Q E, sp vs H Q E → vs.length = ps.length)
    (hbody : ∀ (f : Addr) (cdv : Value) (A : Around) (outer : List Env) (s : Shared) (H : Hp) (vs : List V) (Q : VK) (E : XK), Room k (A.deeper (envOfC x (defScope st) s.heap.objs.size f cdv)) → sp vs H Q E →
      ∃ t, PSs (cxOf CX0 P w K mg base N x (defScope st) f cdv A outer s H E).nox (defBody st) t ∧ t { nx := fun _ H' => Q .non H', rt := Q } (start N vs) H) : Cal P w K mg base (k + 1) x sp [] := by
  obtain ⟨f, fd, F, hm⟩ := D.ex
  exact ⟨f, fd, ps, [], ok0 F S len (hbody f), hm, F.kp, F.bindsN hb, .nil⟩
theorem cal_ofC {x : Str} {st : Stmt} {N ps : List Str} {k : Nat} {sp : Sp} (D : Tn K mg base T x st) (S : FnScope N ps (defScope st))
    (hb : ∀ (kV doc pm : Value) (an : Option Addr) (cdv ct : Value) (us : List Value), us.length = ps.length → bindArgs (PySem.W.fnOf x x (defArgs st) (defBody st) (defScope st) .none kV doc pm an cdv ct) ⟨us, []⟩ = pure (ps.zip us))
    (len : ∀ vs H Q E, sp vs H Q E → vs.length = ps.length)
    (hbody : ∀ (f c Pt : Addr), GxR.TabB base mg c Pt → Pt ∈ T → ∀ (A : Around) (outer : List Env) (s : Shared) (H : Hp) (vs : List V) (Q : VK) (E : XK), Room k (A.deeper (envOfC x (defScope st) s.heap.objs.size f (.ref c))) → sp vs H Q E →
      ∃ t, PSs (cxOf CX0 P w K mg base N x (defScope st) f (.ref c) A outer s H E).nox (defBody st) t ∧ t { nx := fun _ H' => Q .non H', rt := Q } (start N vs) H) : Cal P w K mg base (k + 1) x sp [] := by
  obtain ⟨f, fd, c, Pt, F, hm, hc, TB, hP⟩ := D.ex
  exact ⟨f, fd, ps, [], okC0 F S hc len (hbody f c Pt TB hP), hm, F.kp, F.bindsN hb, .nil⟩
end
section
variable {X : Cx} {tg : Expr}
theorem kIn (K : PySem.W.Frag) (hK : X.K = K) : OpR X (compareOp .In) (rIn K false) := hK ▸ op_in_seq
theorem kNotIn (K : PySem.W.Frag) (hK : X.K = K) : OpR X (compareOp .NotIn) (rIn K true) := hK ▸ op_notIn_seq
theorem kgTup (K : PySem.W.Frag) (n : Nat) {es : List Expr} {k : Nat} {t : TGs} {pos : Pos} (hK : X.K = K) (hc : X.calm = true) (h : PGs X es t)
    (hn : (assignEach es X.env).length = n := by rfl) (hst : (assignEach es X.env).findIdx? (·.1) = none := by rfl) : PG X (.Tuple es k pos) (gTup K n t) := hK ▸ pg_tup hc h hn hst
end
end K37
set_option Elab.async false
set_option linter.all false
set_option maxRecDepth 100000
set_option maxHeartbeats 4000000
namespace K37
open PySem PySem.Spec PyProof.Rows L2
open C8 (Cal pe_c)
section
variable {P : Program} {w : World} {K : PySem.W.Frag} {mg : Str → Option Value} {base : Heap} {T : List Addr}
theorem scAssoc : FnScope ["table", "values", "a", "b", "c"] ["table"] (defScope sAssoc) := ⟨rfl, rfl, rfl, by decide +kernel, rfl, by decide +kernel, by decide +kernel⟩
def spAssoc (T : List Addr) (K : PySem.W.Frag) : Sp := fun vs H Q _ => ∃ (ta : Addr) (M : List (List Nat)) (L : List Nat), vs = [.ref ta] ∧ TblT K H ta M ∧ Val M L ∧ Tb T H ∧ ∀ H', Nx T H H' → Q (.bl true) H'
theorem ok_assoc (D : Tn K mg base T "is_associative" sAssoc) (B : Bn mg) : Cal P w K mg base 2 "is_associative" (spAssoc T K) [] := by
  refine cal_ofC D scAssoc (fun _ _ _ _ _ _ us h => by match us, h with | [_], _ => rfl) (fun vs H Q E h => ?_) (fun f c Pt TB hP A outer s H vs Q E hr h => ?_)
  · obtain ⟨ta, M, L, rfl, _⟩ := h
    rfl
  · obtain ⟨ta, M, L, rfl, hM, hV, hT, q⟩ := h
    refine ⟨_, (pss_cons (ps_set (i := 1) scAssoc.nd rfl (by first | exact .inl rfl | exact .inr rfl) (pe_listRg rfl (by rfl) B.list (prg_1 (by rfl) B.range (pe_callB call_len_seq (by rfl) B.len PySem.boot_len (pa_cons (pv 0) pa_nil)))))
      (pss_one (ps_ret (GX.pe_gxB (k := 0) [("a", 2), ("b", 3), ("c", 4)] [3, 4] (by decide) GX.cons_all (hr.mono (by decide)) scAssoc.nd B.all (by decide +kernel) TB rfl ?_ (pi_list (pv 1))
        (fun _ _ _ _ _ _ _ _ hy => ⟨(pg_name (i := 2) scAssoc.nd rfl (by first | exact .inl rfl | exact .inr rfl)), pts_nil, (GX.pbF rfl rfl rfl rfl (fun _ => rfl) (by decide : ∀ i ∈ ([4] : List Nat), i ∈ ([3, 4] : List Nat)) (kList K rfl (pv 1)) (pg_name (i := 3) scAssoc.nd rfl (by first | exact .inl rfl | exact .inr rfl)) pts_nil
        (GX.pbF rfl rfl rfl rfl (fun _ => rfl) (by decide : ∀ i ∈ ([] : List Nat), i ∈ ([4] : List Nat)) (kList K rfl (pv 1)) (pg_name (i := 4) scAssoc.nd rfl (by first | exact .inl rfl | exact .inr rfl)) pts_nil
        (GX.pbE rfl rfl (pe_cmpR op_eq (pe_ix (kIxT K rfl) (pe_ix (kIxT K rfl) (pv 0) (pe_ix (kIxT K rfl) (pe_ix (kIxT K rfl) (pv 0) (pv 2) (fun _ _ => rfl)) (pv 3) (fun _ _ => rfl)) (fun _ _ => rfl)) (pv 4) (fun _ _ => rfl)) (pe_ix (kIxT K rfl) (pe_ix (kIxT K rfl) (pv 0) (pv 2) (fun _ _ => rfl)) (pe_ix (kIxT K rfl) (pe_ix (kIxT K rfl) (pv 0) (pv 3) (fun _ _ => rfl)) (pv 4) (fun _ _ => rfl)) (fun _ _ => rfl)) (nomark _)))))⟩))))), ?_⟩
    · show gxC ["table", "values", "a", "b", "c"] (defScope sAssoc) _ _ = true
      decide +kernel
    obtain ⟨xs, hx, hxl⟩ := hM.len
    have h4 := hV.n4
    refine ⟨_, rfl, ta, xs, rfl, .inr hx, _, rfl, RgOk.of_le (by omega) (by omega) (by omega) (by omega), fun q1 hq1 => ?_⟩
    rw [hxl]
    have N1 : Nx T H (upd H q1 (.lst (rgV 0 M.length))) := (Nx.refl hT).new hq1
    generalize hH1 : upd H q1 (.lst (rgV 0 M.length)) = H1 at N1
    have hl : H1 q1 = some (.lst (rgV 0 M.length)) := by rw [← hH1]; exact upd_same
    have hM1 := N1.tbl hM
    have hlen : (rgV 0 M.length).length = M.length := by rw [rgV_length]; omega
    refine ⟨_, rfl, q1, rfl, ⟨_, .inl (.inl hl)⟩, N1.tb _ hP, fun H2 t2 => ?_⟩
    have N2 : Nx T H H2 := N1.tabbed hP t2
    have N12 : Nx T H1 H2 := (Nx.refl N1.tb).tabbed hP t2
    have hl2 := N12.lst hl
    have hM2 := N12.tbl hM1
    refine gx_it (n := (rgV 0 M.length).length) walk_list 20000 (fun _ H' => H2 = H') rfl (fun i H' _ e => by subst e; exact .inl (.inl hl2)) (fun i x H' H'' hi e y => ?_) (fun H' e => by subst e; exact q _ N2)
    subst e
    obtain ⟨rfl, hx⟩ := y
    obtain ⟨rfl, ha⟩ := rgV_at hx
    refine ⟨rfl, ⟨_, rfl, q1, rfl, ⟨_, .inl (.inl hl2)⟩, ?_⟩⟩
    refine fr_it (n := (rgV 0 M.length).length) walk_list (bud 0 20000 (rgV 0 M.length).length (i + 1)) 1000 (fun _ H' => H'' = H') (by rw [hlen]; omega) rfl (fun i H' _ e => by subst e; exact .inl (.inl hl2)) (fun j x H' H'' hj e y => ?_) (fun H' e => by subst e; exact ⟨_, Nat.le_refl _, rfl, by omega, rfl⟩)
    subst e
    obtain ⟨rfl, hx⟩ := y
    obtain ⟨rfl, hb⟩ := rgV_at hx
    refine ⟨rfl, ⟨_, rfl, q1, rfl, ⟨_, .inl (.inl hl2)⟩, ?_⟩⟩
    refine fr_it (n := (rgV 0 M.length).length) walk_list (bud (bud 0 20000 (rgV 0 M.length).length (i + 1)) 1000 (rgV 0 M.length).length (j + 1)) 10 (fun _ H' => H'' = H') (by rw [hlen]; omega) rfl (fun i H' _ e => by subst e; exact .inl (.inl hl2)) (fun k x H' H'' hk e y => ?_) (fun H' e => by subst e; exact ⟨_, Nat.le_refl _, rfl, by omega, rfl⟩)
    subst e
    obtain ⟨rfl, hx⟩ := y
    obtain ⟨rfl, hcc⟩ := rgV_at hx
    have la : i < M.length := by omega
    have lb : j < M.length := by omega
    have lc : k < M.length := by omega
    refine ⟨rfl, ?_⟩
    refine Rd.eqI (Rd.prod hM2 hV (Rd.var rfl) (Rd.prod hM2 hV (Rd.var rfl) (Rd.var rfl) (Rd.var rfl) la lb) (Rd.var rfl) (hV.g_lt la lb) lc)
      (Rd.prod hM2 hV (Rd.var rfl) (Rd.var rfl) (Rd.prod hM2 hV (Rd.var rfl) (Rd.var rfl) (Rd.var rfl) lb lc) la (hV.g_lt lb lc)) _ ?_
    rw [hV.assoc i j k la lb lc]
    refine ⟨true, by simp, ⟨_, by omega, rfl, by omega, rfl⟩⟩
end
end K37
set_option Elab.async false
set_option linter.all false
set_option maxRecDepth 100000
set_option maxHeartbeats 4000000
namespace K37
open PySem PySem.Spec PyProof.Rows L2
section
variable {J : It} {xs : List V} {G : Hp → Prop} {j : Nat} {vs : List Nat} {t : GX.TX} {s0 : L2.St} {stop : Hp → Prop} {nx : Nat → Hp → Prop} {H0 : Hp}
/-- any, all: nothing of the heap changes; e is left behind the last turn -/
theorem fr_flat (w : Walk J xs.length G (YAt xs)) (e c : Nat) {k : Nat} (hk : e + xs.length * (c + 1) ≤ k) (hG : G H0) (hw : ∀ x, wipe ((wipe s0 vs).set j (some x)) vs = wipe s0 vs)
    (hs : ∀ (i : Nat) (x : V) (m : Nat) (N : Nat → Hp → Prop), xs[i]? = some x → (∀ m', m ≤ m' → N m' H0) → t (m + c) ((wipe s0 vs).set j (some x)) H0 N stop) (hd : nx e H0) :
    ∃ W : Nat → Nat → Hp → Prop, (∃ m, m ≤ k ∧ W 0 m H0) ∧ GX.LoopX J (gName j) tYes vs t s0 W nx stop := by
  refine ⟨fun i m H => m = bud e c xs.length i ∧ i ≤ xs.length ∧ H0 = H, ⟨bud e c xs.length 0, by unfold bud; simpa using hk, rfl, Nat.zero_le _, rfl⟩, ?_⟩
  rintro i m H ⟨rfl, hi, rfl⟩
  by_cases hlt : i < xs.length
  · refine .inr ⟨w.goes i _ hlt hG, bud e c xs.length (i + 1) + c, bud_succ hlt, fun x H' y => ?_⟩
    obtain ⟨rfl, hx⟩ := w.yields i _ x H' hlt hG y
    refine ⟨hw x, ?_⟩
    unfold tYes
    simp only [if_true]
    exact hs i x _ _ hx fun m' hm => ⟨_, hm, rfl, by omega, rfl⟩
  · have h : i = xs.length := by omega
    subst h
    exact .inl ⟨w.stops _ hG, by rw [bud_end]; exact hd⟩
theorem gx_flat (w : Walk J xs.length G (YAt xs)) (c : Nat) (hG : G H0) (hw : ∀ x, wipe ((wipe s0 vs).set j (some x)) vs = wipe s0 vs)
    (hs : ∀ (i : Nat) (x : V) (m : Nat) (N : Nat → Hp → Prop), xs[i]? = some x → (∀ m', m ≤ m' → N m' H0) → t (m + c) ((wipe s0 vs).set j (some x)) H0 N stop) (hd : nx 0 H0) :
    ∃ W : Nat → Nat → Hp → Prop, (∃ m, W 0 m H0) ∧ GX.LoopX J (gName j) tYes vs t s0 W nx stop := by
  obtain ⟨W, ⟨m, _, h⟩, l⟩ := fr_flat w 0 c (Nat.le_refl _) hG hw hs hd
  exact ⟨W, ⟨m, h⟩, l⟩
end
theorem Rd.rI0 {σ : L2.St} {H : Hp} {ta tb : TE} {i j : Int} {f : Int → Int → V} (h1 : Rd ta σ H (.int i)) (h2 : Rd tb σ H (.int j)) : Rd (tOp (rI0 f) ta tb) σ H (f i j) := fun Q q => h1 _ (h2 _ ⟨i, j, rfl, rfl, q⟩)
/-- a op1 b op2 c, ints -/
theorem Rd.chain {σ : L2.St} {H : Hp} {ta tb tc : TE} {i j l : Int} {p q : Int → Int → Bool} (h1 : Rd ta σ H (.int i)) (h2 : Rd tb σ H (.int j)) (h3 : Rd tc σ H (.int l)) :
    Rd (tChain (L2.rI0 fun i j => .bl (p i j)) (L2.rI0 fun i j => .bl (q i j)) ta tb tc) σ H (.bl (p i j && q j l)) := fun Q hq => h1 _ (h2 _ ⟨i, j, rfl, rfl, p i j, rfl, by
  cases e : p i j with
  | false => rw [e] at hq; exact iteF hq
  | true => rw [e] at hq; exact iteT (h3 _ ⟨j, l, rfl, rfl, hq⟩)⟩)
theorem mem_ivs {ns : List Nat} {i : Nat} {x : V} (h : (ivs ns)[i]? = some x) : ∃ n : Nat, x = .int (n : Int) ∧ n ∈ ns := by
  rw [List.getElem?_map] at h
  cases e : ns[i]? with
  | none => rw [e] at h; cases h
  | some n =>
    rw [e] at h
    exact ⟨n, (Option.some.inj h).symm, List.mem_of_getElem? e⟩
theorem mem_rows {K : PySem.W.Frag} {H : Hp} {rs : List Addr} {M : List (List Nat)} {i : Nat} {x : V} (h : Paired (fun r row => SqT K H r (ivs row)) rs M) (e : (rs.map V.ref)[i]? = some x) : ∃ r row, x = .ref r ∧ row ∈ M ∧ SqT K H r (ivs row) := by
  rw [List.getElem?_map] at e
  cases e1 : rs[i]? with
  | none => rw [e1] at e; cases e
  | some r =>
    rw [e1] at e
    have hl : i < M.length := by rw [← h.length]; exact (List.getElem?_eq_some_iff.mp e1).1
    obtain ⟨a, h1, h2⟩ := paired_get h (List.getElem?_eq_getElem hl)
    rw [e1] at h1
    cases h1
    exact ⟨r, M[i], (Option.some.inj e).symm, List.getElem_mem hl, h2⟩
theorem Rd.chainE {σ : L2.St} {H : Hp} {ta tb tc : TE} {i j l : Int} {p q : Int → Int → Bool} {b : Bool} (h1 : Rd ta σ H (.int i)) (h2 : Rd tb σ H (.int j)) (h3 : Rd tc σ H (.int l)) (e : (p i j && q j l) = b) :
    Rd (tChain (L2.rI0 fun i j => .bl (p i j)) (L2.rI0 fun i j => .bl (q i j)) ta tb tc) σ H (.bl b) := e ▸ Rd.chain h1 h2 h3
/-! ### values and tests behind which the program's tables may have grown -/
def RdN (T : List Addr) (t : TE) (σ : L2.St) (H : Hp) (v : V) : Prop := ∀ Q : VK, (∀ H', Nx T H H' → Q v H') → t σ H Q
def TdN (T : List Addr) (t : TT) (σ : L2.St) (H : Hp) (b : Bool) : Prop := ∀ Q : Bool → Hp → Prop, (∀ H', Nx T H H' → Q b H') → t σ H Q
section
variable {T : List Addr} {K : PySem.W.Frag} {σ : L2.St} {H : Hp} {te ta tb : TE} {tt tu : TT} {b : Bool} {v : V}
theorem Rd.n (h : Rd te σ H v) (hT : Tb T H) : RdN T te σ H v := fun _ q => h _ (q _ (Nx.refl hT))
theorem RdN.tB_ (h : RdN T te σ H (.bl b)) : TdN T (tB te) σ H b := fun _ q => h _ fun H' n => ⟨b, rfl, q H' n⟩
theorem RdN.test (h : RdN T te σ H (.bl b)) : TdN T (tTest te) σ H b := fun _ q => h _ fun H' n => ⟨b, rfl, q H' n⟩
theorem TdN.not (h : TdN T tt σ H b) : TdN T (tNot tt) σ H (!b) := fun _ q => h _ q
theorem TdN.notE {c : Bool} (h : TdN T tt σ H c) (e : (!c) = b) : TdN T (tNot tt) σ H b := fun _ q => h _ fun H' n => by rw [e]; exact q H' n
theorem TdN.of (e : b = c) (h : TdN T tt σ H b) : TdN T tt σ H c := e ▸ h
theorem TdN.orF (h : TdN T tt σ H false) (h2 : ∀ H', Nx T H H' → TdN T tu σ H' b) : TdN T (tOr tt tu) σ H b := fun _ q => h _ fun H1 n => iteF (h2 H1 n _ fun H2 n2 => q H2 (n.trans n2))
theorem TdN.orT (h : TdN T tt σ H true) : TdN T (tOr tt tu) σ H true := fun _ q => h _ fun H1 n => iteT (q H1 n)
theorem TdN.andT (h : TdN T tt σ H true) (h2 : ∀ H', Nx T H H' → TdN T tu σ H' b) : TdN T (tAnd tt tu) σ H b := fun _ q => h _ fun H1 n => iteT (h2 H1 n _ fun H2 n2 => q H2 (n.trans n2))
theorem TdN.andF (h : TdN T tt σ H false) : TdN T (tAnd tt tu) σ H false := fun _ q => h _ fun H1 n => iteF (q H1 n)
theorem TdN.ifF {t u : TS} {D : Ends} (h : TdN T tt σ H false) (k : ∀ H', Nx T H H' → u D σ H') : tIfS tt t u D σ H := h _ fun H1 n => iteF (k H1 n)
theorem TdN.ifT {t u : TS} {D : Ends} (h : TdN T tt σ H true) (k : ∀ H', Nx T H H' → t D σ H') : tIfS tt t u D σ H := h _ fun H1 n => iteT (k H1 n)
theorem TdN.ifB {t u : TS} {D : Ends} (h : TdN T tt σ H b) (k1 : b = true → ∀ H', Nx T H H' → t D σ H') (k2 : b = false → ∀ H', Nx T H H' → u D σ H') : tIfS tt t u D σ H := h _ fun H1 n => by
  cases e : b with
  | true => exact iteT (k1 e H1 n)
  | false => exact iteF (k2 e H1 n)
theorem Rd.notV (h : Rd te σ H (.bl b)) : Rd (tNotV te) σ H (.bl (!b)) := fun _ q => h _ ⟨b, rfl, q⟩
theorem RdN.notV (h : RdN T te σ H (.bl b)) : RdN T (tNotV te) σ H (.bl (!b)) := fun _ q => h _ fun H' n => ⟨b, rfl, q H' n⟩
/-- an element that stops nothing -/
theorem el_pass {c : Bool} {k : Nat} {nx : Nat → Hp → Prop} {stop : Hp → Prop} (h : Rd te σ H (.bl c)) (hc : c ≠ b) (hn : nx k H) : GX.tEl b te k σ H nx stop := h _ ⟨c, rfl, by rw [if_neg hc]; exact hn⟩
/-- any, all over a tuple: no element stops it, the heap stays within -/
theorem gxT {Pt : Addr} {a : Addr} {xs : List V} {j : Nat} {vs : List Nat} {t : GX.TX} (c : Nat) (hP : Pt ∈ T) (hT : Tb T H) (hv : Rd ta σ H (.ref a)) (ha : SqT K H a xs) (hw : ∀ x, wipe ((wipe σ vs).set j (some x)) vs = wipe σ vs)
    (hs : ∀ H2, Nx T H H2 → ∀ (i : Nat) (x : V) (m : Nat) (N : Nat → Hp → Prop) (stop : Hp → Prop), xs[i]? = some x → (∀ m', m ≤ m' → N m' H2) → t (m + c) ((wipe σ vs).set j (some x)) H2 N stop) :
    RdN T (GX.tGx Pt b (iTup K ta) (gName j) tYes t vs) σ H (.bl (!b)) := fun Q q => hv _ ⟨a, rfl, ⟨xs, ha⟩, hT _ hP, fun H2 t2 => by
  have n2 : Nx T H H2 := (Nx.refl hT).tabbed hP t2
  exact gx_flat walk_tup c (n2.seqT ha) hw (fun i x m N hx hN => hs H2 n2 i x m N _ hx hN) (q _ n2)⟩
theorem gxL {Pt : Addr} {a : Addr} {xs : List V} {j : Nat} {vs : List Nat} {t : GX.TX} (c : Nat) (hP : Pt ∈ T) (hT : Tb T H) (hv : Rd ta σ H (.ref a)) (ha : SqL K H a xs) (hw : ∀ x, wipe ((wipe σ vs).set j (some x)) vs = wipe σ vs)
    (hs : ∀ H2, Nx T H H2 → ∀ (i : Nat) (x : V) (m : Nat) (N : Nat → Hp → Prop) (stop : Hp → Prop), xs[i]? = some x → (∀ m', m ≤ m' → N m' H2) → t (m + c) ((wipe σ vs).set j (some x)) H2 N stop) :
    RdN T (GX.tGx Pt b (iList K ta) (gName j) tYes t vs) σ H (.bl (!b)) := fun Q q => hv _ ⟨a, rfl, ⟨xs, ha⟩, hT _ hP, fun H2 t2 => by
  have n2 : Nx T H H2 := (Nx.refl hT).tabbed hP t2
  exact gx_flat walk_list c (n2.seqL ha) hw (fun i x m N hx hN => hs H2 n2 i x m N _ hx hN) (q _ n2)⟩
theorem gxT_any {Pt : Addr} {a : Addr} {xs : List V} {j : Nat} {vs : List Nat} {t : GX.TX} (c : Nat) (hP : Pt ∈ T) (hT : Tb T H) (hv : Rd ta σ H (.ref a)) (ha : SqT K H a xs) (hw : ∀ x, wipe ((wipe σ vs).set j (some x)) vs = wipe σ vs)
    (hs : ∀ H2, Nx T H H2 → ∀ (i : Nat) (x : V) (m : Nat) (N : Nat → Hp → Prop) (stop : Hp → Prop), xs[i]? = some x → (∀ m', m ≤ m' → N m' H2) → t (m + c) ((wipe σ vs).set j (some x)) H2 N stop) :
    RdN T (GX.tGx Pt true (iTup K ta) (gName j) tYes t vs) σ H (.bl false) := gxT c hP hT hv ha hw hs
theorem gxT_all {Pt : Addr} {a : Addr} {xs : List V} {j : Nat} {vs : List Nat} {t : GX.TX} (c : Nat) (hP : Pt ∈ T) (hT : Tb T H) (hv : Rd ta σ H (.ref a)) (ha : SqT K H a xs) (hw : ∀ x, wipe ((wipe σ vs).set j (some x)) vs = wipe σ vs)
    (hs : ∀ H2, Nx T H H2 → ∀ (i : Nat) (x : V) (m : Nat) (N : Nat → Hp → Prop) (stop : Hp → Prop), xs[i]? = some x → (∀ m', m ≤ m' → N m' H2) → t (m + c) ((wipe σ vs).set j (some x)) H2 N stop) :
    RdN T (GX.tGx Pt false (iTup K ta) (gName j) tYes t vs) σ H (.bl true) := gxT c hP hT hv ha hw hs
theorem gxL_any {Pt : Addr} {a : Addr} {xs : List V} {j : Nat} {vs : List Nat} {t : GX.TX} (c : Nat) (hP : Pt ∈ T) (hT : Tb T H) (hv : Rd ta σ H (.ref a)) (ha : SqL K H a xs) (hw : ∀ x, wipe ((wipe σ vs).set j (some x)) vs = wipe σ vs)
    (hs : ∀ H2, Nx T H H2 → ∀ (i : Nat) (x : V) (m : Nat) (N : Nat → Hp → Prop) (stop : Hp → Prop), xs[i]? = some x → (∀ m', m ≤ m' → N m' H2) → t (m + c) ((wipe σ vs).set j (some x)) H2 N stop) :
    RdN T (GX.tGx Pt true (iList K ta) (gName j) tYes t vs) σ H (.bl false) := gxL c hP hT hv ha hw hs
theorem gxL_all {Pt : Addr} {a : Addr} {xs : List V} {j : Nat} {vs : List Nat} {t : GX.TX} (c : Nat) (hP : Pt ∈ T) (hT : Tb T H) (hv : Rd ta σ H (.ref a)) (ha : SqL K H a xs) (hw : ∀ x, wipe ((wipe σ vs).set j (some x)) vs = wipe σ vs)
    (hs : ∀ H2, Nx T H H2 → ∀ (i : Nat) (x : V) (m : Nat) (N : Nat → Hp → Prop) (stop : Hp → Prop), xs[i]? = some x → (∀ m', m ≤ m' → N m' H2) → t (m + c) ((wipe σ vs).set j (some x)) H2 N stop) :
    RdN T (GX.tGx Pt false (iList K ta) (gName j) tYes t vs) σ H (.bl true) := gxL c hP hT hv ha hw hs
/-! ### any, all whose elements may let the tables grow -/
theorem gxLN {Pt : Addr} {a : Addr} {xs : List V} {j : Nat} {vs : List Nat} {t : GX.TX} (hP : Pt ∈ T) (hT : Tb T H) (hv : Rd ta σ H (.ref a)) (ha : SqL K H a xs) (hw : ∀ x, wipe ((wipe σ vs).set j (some x)) vs = wipe σ vs)
    (hs : ∀ H2, Nx T H H2 → ∀ (i : Nat) (x : V) (m : Nat) (N : Nat → Hp → Prop) (stop : Hp → Prop), xs[i]? = some x → (∀ H', Nx T H H' → N m H') → t m ((wipe σ vs).set j (some x)) H2 N stop) :
    RdN T (GX.tGx Pt b (iList K ta) (gName j) tYes t vs) σ H (.bl (!b)) := fun Q q => hv _ ⟨a, rfl, ⟨xs, ha⟩, hT _ hP, fun H2 t2 => by
  have n2 : Nx T H H2 := (Nx.refl hT).tabbed hP t2
  refine gx_it (n := xs.length) walk_list 0 (fun _ H' => Nx T H H') n2 (fun i H' _ n => n.seqL ha) (fun i x H' H'' hi n y => ?_) (fun H' n => q _ n)
  obtain ⟨rfl, hx⟩ := y
  refine ⟨hw x, ?_⟩
  unfold tYes
  simp only [if_true]
  exact hs _ n i x _ _ _ hx fun H3 n3 => ⟨_, Nat.le_refl _, rfl, by omega, n3⟩⟩
theorem gxLN_any {Pt : Addr} {a : Addr} {xs : List V} {j : Nat} {vs : List Nat} {t : GX.TX} (hP : Pt ∈ T) (hT : Tb T H) (hv : Rd ta σ H (.ref a)) (ha : SqL K H a xs) (hw : ∀ x, wipe ((wipe σ vs).set j (some x)) vs = wipe σ vs)
    (hs : ∀ H2, Nx T H H2 → ∀ (i : Nat) (x : V) (m : Nat) (N : Nat → Hp → Prop) (stop : Hp → Prop), xs[i]? = some x → (∀ H', Nx T H H' → N m H') → t m ((wipe σ vs).set j (some x)) H2 N stop) :
    RdN T (GX.tGx Pt true (iList K ta) (gName j) tYes t vs) σ H (.bl false) := gxLN hP hT hv ha hw hs
/-- all over a range -/
theorem gxRg_all {Pt : Addr} {n : Int} {j : Nat} {vs : List Nat} {t : GX.TX} {tA : TA} (hP : Pt ∈ T) (hT : Tb T H) (hv : ∀ Q : List V → Hp → Prop, Q [.int n] H → tA σ H Q) (hn : -1000 < n ∧ n < 1000) (hw : ∀ x, wipe ((wipe σ vs).set j (some x)) vs = wipe σ vs)
    (hs : ∀ H2, Nx T H H2 → ∀ (i : Nat) (m : Nat) (N : Nat → Hp → Prop) (stop : Hp → Prop), i < n.toNat → N m H2 → t m ((wipe σ vs).set j (some (.int (i : Nat)))) H2 N stop) :
    RdN T (GX.tGx Pt false (iRng1 tA) (gName j) tYes t vs) σ H (.bl true) := fun Q q => hv _ ⟨n, rfl, by omega, by omega, hT _ hP, fun H2 t2 => by
  have n2 : Nx T H H2 := (Nx.refl hT).tabbed hP t2
  refine gx_it (n := n.toNat) walk_range 0 (fun _ H' => H2 = H') rfl (fun i H' _ n => trivial) (fun i x H' H'' hi e y => ?_) (fun H' e => e ▸ q _ n2)
  subst e
  obtain ⟨rfl, rfl⟩ := y
  refine ⟨hw _, ?_⟩
  unfold tYes
  simp only [if_true]
  rw [Int.zero_add]
  exact hs _ n2 i _ _ _ (by omega) ⟨_, Nat.le_refl _, rfl, by omega, rfl⟩⟩
end
end K37
set_option Elab.async false
set_option linter.all false
set_option maxRecDepth 100000
set_option maxHeartbeats 4000000
namespace K37
open PySem PySem.Spec PyProof.Rows L2
open C8 (Cal pe_c)
section
variable {P : Program} {w : World} {K : PySem.W.Frag} {mg : Str → Option Value} {base : Heap} {T : List Addr}
theorem scFault : FnScope ["semigroup", "table", "letters", "size", "row", "value"] ["semigroup"] (defScope sFault) := ⟨rfl, rfl, rfl, by decide +kernel, rfl, by decide +kernel, by decide +kernel⟩
def spFault (T : List Addr) (K : PySem.W.Frag) : Sp := fun vs H Q _ => ∃ (sa : Addr) (M : List (List Nat)) (L : List Nat), vs = [.ref sa] ∧ SgT K H sa M L ∧ Val M L ∧ Tb T H ∧ ∀ H', Nx T H H' → Q .non H'
theorem ok_fault (D : Tn K mg base T "fault_of" sFault) (B : Bn mg) {u1 u2 : Tok} (hMV : mg "MOST_VALUES" = some (.int 4 u1)) (hML : mg "MOST_LETTERS" = some (.int 3 u2)) (c_is_associative : Cal P w K mg base 2 "is_associative" (spAssoc T K) []) : Cal P w K mg base 4 "fault_of" (spFault T K) [] := by
  refine cal_ofC D scFault (fun _ _ _ _ _ _ us h => by match us, h with | [_], _ => rfl) (fun vs H Q E h => ?_) (fun f c Pt TB hP A outer s H vs Q E hr h => ?_)
  · obtain ⟨ta, M, L, rfl, _⟩ := h
    rfl
  · obtain ⟨sa, M, L, rfl, hS, hV, hT, q⟩ := h
    refine ⟨_, (pss_cons (ps_asg (pv 0) (pg_tup rfl (pgs_cons (pg_name (i := 1) scFault.nd rfl (by first | exact .inl rfl | exact .inr rfl)) (pgs_cons (pg_name (i := 2) scFault.nd rfl (by first | exact .inl rfl | exact .inr rfl)) pgs_nil))))
      (pss_cons (ps_set (i := 3) scFault.nd rfl (by first | exact .inl rfl | exact .inr rfl) (pe_callB call_len_seq (by rfl) B.len PySem.boot_len (pa_cons (pv 1) pa_nil)))
      (pss_cons (ps_if (PW.pt (pw_or (pt_not (pt_chain op_le op_le pe_int (pv 3) (pe_glob (v := .int 4) (by rfl) hMV ⟨_, rfl⟩))) (pw_or1 (pt_val (GX.pe_gxB (k := 0) [("row", 4)] [] (by decide) GX.cons_any (hr.mono (by decide)) scFault.nd B.any (by decide +kernel) TB rfl ?_ (pi_tup (pv 1))
        (fun _ _ _ _ _ _ _ _ hy => ⟨(pg_name (i := 4) scFault.nd rfl (by first | exact .inl rfl | exact .inr rfl)), pts_nil, (GX.pbE rfl rfl (pe_cmpR op_ne (pe_callB (kLen K rfl) (by rfl) B.len PySem.boot_len (pa_cons (pv 4) pa_nil)) (pv 3) (nomark _)))⟩)))))) (pss_one (ps_ret pe_str)) pss_nil)
      (pss_cons (ps_if (pt_val (GX.pe_gxB (k := 0) [("row", 4), ("value", 5)] [5] (by decide) GX.cons_any (hr.mono (by decide)) scFault.nd B.any (by decide +kernel) TB rfl ?_ (pi_tup (pv 1))
        (fun _ _ _ _ _ _ _ _ hy => ⟨(pg_name (i := 4) scFault.nd rfl (by first | exact .inl rfl | exact .inr rfl)), pts_nil, (GX.pbF rfl rfl rfl rfl (fun _ => rfl) (by decide : ∀ i ∈ ([] : List Nat), i ∈ ([5] : List Nat)) (kTup K rfl (pv 4)) (pg_name (i := 5) scFault.nd rfl (by first | exact .inl rfl | exact .inr rfl)) pts_nil
        (GX.pbE rfl rfl (pe_not (pe_chain op_le op_lt pe_int (pv 5) (pv 3)))))⟩))) (pss_one (ps_ret pe_str)) pss_nil)
      (pss_cons (ps_if (PW.pt (pw_or (pt_not (pt_chain op_le op_le pe_int (pe_callB call_len_seq (by rfl) B.len PySem.boot_len (pa_cons (pv 2) pa_nil)) (pe_glob (v := .int 3) (by rfl) hML ⟨_, rfl⟩))) (pw_or1 (pt_val (GX.pe_gxB (k := 0) [("value", 5)] [] (by decide) GX.cons_any (hr.mono (by decide)) scFault.nd B.any (by decide +kernel) TB rfl ?_ (pi_tup (pv 2))
        (fun _ _ _ _ _ _ _ _ hy => ⟨(pg_name (i := 5) scFault.nd rfl (by first | exact .inl rfl | exact .inr rfl)), pts_nil, (GX.pbE rfl rfl (pe_not (pe_chain op_le op_lt pe_int (pv 5) (pv 3))))⟩)))))) (pss_one (ps_ret pe_str)) pss_nil)
      (pss_cons (ps_if (pt_not (pt_val (pe_c c_is_associative hr (by decide) (by rfl) (pa_cons (pv 1) pa_nil)))) (pss_one (ps_ret pe_str)) pss_nil)
      (pss_one (ps_ret pe_non)))))))), ?_⟩
    iterate 3
      · show gxC ["semigroup", "table", "letters", "size", "row", "value"] (defScope sFault) _ _ = true
        decide +kernel
    obtain ⟨ta, la, hs, hM, hL⟩ := hS
    have h1 := hV.n1
    have h4 := hV.n4
    have l1 := hV.l1
    have l3 := hV.l3
    obtain ⟨rs, hr1, hr2⟩ := hM
    have hlr : rs.length = M.length := hr2.length
    have hll : (rs.map V.ref).length = M.length := by rw [List.length_map, hlr]
    refine ⟨_, rfl, sa, _, rfl, hs, rfl, _, _, rfl, _, _, rfl, rfl, ?_⟩
    refine ⟨_, rfl, ta, _, rfl, .inr hr1, ?_⟩
    rw [hll]
    have hM : TblT K H ta M := ⟨rs, hr1, hr2⟩
    refine TdN.ifF (TdN.orF (TdN.notE (RdN.test (Rd.n (Rd.chainE (b := true) (p := fun i j => decide (i ≤ j)) (q := fun i j => decide (i ≤ j)) Rd.c (Rd.var rfl) Rd.c (by simp; omega)) hT)) rfl) fun H1 n1 =>
      RdN.tB_ (gxT_any 10 hP n1.tb (Rd.var rfl) (n1.seqT hr1) (fun x => rfl) fun H2 n2 i x m N stop hx hN => ?_)) fun H3 n3 => ?_
    · obtain ⟨r, row, rfl, hrow, hr⟩ := mem_rows hr2 hx
      have e := (hV.rows row hrow).1
      exact el_pass (Rd.neI (Rd.len (Rd.var rfl) (.inr (n2.seqT (n1.seqT hr))) rfl) (Rd.var rfl)) (by simp [e]) (hN _ (by omega))
    refine TdN.ifF (RdN.tB_ (gxT_any 1000 hP n3.tb (Rd.var rfl) (n3.seqT hr1) (fun x => rfl) fun H4 n4 i x m N stop hx hN => ?_)) fun H5 n5 => ?_
    · obtain ⟨r, row, rfl, hrow, hr⟩ := mem_rows hr2 hx
      obtain ⟨e1, e2⟩ := hV.rows row hrow
      have hr4 := n4.seqT (n3.seqT hr)
      refine ⟨_, rfl, r, rfl, ⟨_, hr4⟩, fr_flat walk_tup m 10 (by rw [List.length_map, e1]; omega) hr4 (fun x => rfl) (fun j y m2 N2 hy hN2 => ?_) (hN m (Nat.le_refl _))⟩
      obtain ⟨v, rfl, hv⟩ := mem_ivs hy
      have := e2 v hv
      exact el_pass (Rd.notV (Rd.chainE (b := true) (p := fun i j => decide (i ≤ j)) (q := fun i j => decide (i < j)) Rd.c (Rd.var rfl) (Rd.var rfl) (by simp; omega))) (by simp) (hN2 _ (by omega))
    have n5' := n3.trans n5
    refine TdN.ifF (TdN.orF (TdN.notE (RdN.test (Rd.n (Rd.chainE (b := true) (p := fun i j => decide (i ≤ j)) (q := fun i j => decide (i ≤ j)) Rd.c (Rd.len (Rd.var rfl) (.inr (n5'.seqT hL)) rfl) Rd.c (by simp; omega)) n5'.tb)) rfl) fun H6 n6 =>
      RdN.tB_ (gxT_any 10 hP n6.tb (Rd.var rfl) (n6.seqT (n5'.seqT hL)) (fun x => rfl) fun H7 n7 i x m N stop hx hN => ?_)) fun H8 n8 => ?_
    · obtain ⟨v, rfl, hv⟩ := mem_ivs hx
      have := hV.ls v hv
      exact el_pass (Rd.notV (Rd.chainE (b := true) (p := fun i j => decide (i ≤ j)) (q := fun i j => decide (i < j)) Rd.c (Rd.var rfl) (Rd.var rfl) (by simp; omega))) (by simp) (hN _ (by omega))
    have n8' := n5'.trans n8
    show tIfS (tNot (tB (tCall (spAssoc T K) [] C8.E0 (tCons (tVar 1) tNil)))) _ _ _ _ _
    refine TdN.ifF (T := T) (TdN.notE (c := true) (RdN.tB_ ?_) rfl) fun H9 n9 => ?_
    · intro Q2 q2
      exact ⟨_, rfl, ta, M, L, rfl, n8'.tbl hM, hV, n8'.tb, q2⟩
    exact q _ (n8'.trans n9)
end
end K37
set_option Elab.async false
set_option linter.all false
set_option maxRecDepth 100000
set_option maxHeartbeats 4000000
namespace K37
open PySem PySem.Spec PyProof.Rows L2
open C8 (Cal pe_c)
section
variable {P : Program} {w : World} {K : PySem.W.Frag} {mg : Str → Option Value} {base : Heap} {T : List Addr}
theorem scCheck : FnScope ["semigroup", "fault"] ["semigroup"] (defScope sCheck) := ⟨rfl, rfl, rfl, by decide +kernel, rfl, by decide +kernel, by decide +kernel⟩
theorem ok_check (D : Dn K mg "check" sCheck) (c_fault_of : Cal P w K mg base 4 "fault_of" (spFault T K) []) : Cal P w K mg base 5 "check" (spFault T K) [] := by
  refine cal_of D scCheck (fun _ _ _ _ _ _ us h => by match us, h with | [_], _ => rfl) (fun vs H Q E h => ?_) (fun f cdv A outer s H vs Q E hr h => ?_)
  · obtain ⟨ta, M, L, rfl, _⟩ := h
    rfl
  · obtain ⟨sa, M, L, rfl, hS, hV, hT, q⟩ := h
    refine ⟨_, (pss_cons (ps_set (i := 1) scCheck.nd rfl (by first | exact .inl rfl | exact .inr rfl) (pe_c c_fault_of hr (by decide) (by rfl) (pa_cons (pv 0) pa_nil)))
      (pss_one (ps_if (pt_cmp (pc_notN (pv 1))) (pss_one ps_never) pss_nil))), ?_⟩
    refine ⟨_, rfl, sa, M, L, rfl, hS, hV, hT, fun H1 n1 => ?_⟩
    exact ⟨_, rfl, false, rfl, iteF (q _ n1)⟩
/-- a word's value -/
def vOf (M : List (List Nat)) (L : List Nat) (ws : List Nat) : Option Nat := ws.foldl (fun o l => some (match o with | none => L.getD l 0 | some v => g M v (L.getD l 0))) none
def oV : Option Nat → V
  | none => .non
  | some n => .int (n : Nat)
theorem vOf_snoc (M : List (List Nat)) (L : List Nat) (ws : List Nat) (l : Nat) : vOf M L (ws ++ [l]) = some (match vOf M L ws with | none => L.getD l 0 | some v => g M v (L.getD l 0)) := by
  unfold vOf
  rw [List.foldl_append]
  rfl
theorem getD_lt {L : List Nat} {n l : Nat} (h : ∀ x ∈ L, x < n) (hl : l < L.length) : L.getD l 0 < n := by
  have e : L.getD l 0 = L[l] := by simp [hl]
  rw [e]
  exact h _ (List.getElem_mem hl)
theorem snocInd {α : Type} {C : List α → Prop} (h0 : C []) (h1 : ∀ l a, C l → C (l ++ [a])) (l : List α) : C l := by
  have h : ∀ r : List α, C r.reverse := fun r => by
    induction r with
    | nil => exact h0
    | cons a r ih => rw [List.reverse_cons]; exact h1 _ _ ih
  have := h l.reverse
  rwa [List.reverse_reverse] at this
theorem vOf_lt {M : List (List Nat)} {L : List Nat} (hV : Val M L) {ws : List Nat} : (∀ l ∈ ws, l < L.length) → ∀ v, vOf M L ws = some v → v < M.length := by
  refine snocInd (C := fun ws => (∀ l ∈ ws, l < L.length) → ∀ v, vOf M L ws = some v → v < M.length) (fun _ v e => by cases e) (fun ws l ih => ?_) ws
  · intro h v e
    rw [vOf_snoc] at e
    have hl : L.getD l 0 < M.length := getD_lt hV.ls (h l (by simp))
    cases q : vOf M L ws with
    | none => rw [q] at e; cases e; exact hl
    | some u =>
      rw [q] at e
      cases e
      exact hV.g_lt (ih (fun x hx => h x (by simp [hx])) u q) hl
theorem scValue : FnScope ["semigroup", "word", "table", "letters", "value", "letter"] ["semigroup", "word"] (defScope sValue) := ⟨rfl, rfl, rfl, by decide +kernel, rfl, by decide +kernel, by decide +kernel⟩
def spValue (K : PySem.W.Frag) : Sp := fun vs H Q _ => ∃ (sa wa : Addr) (M : List (List Nat)) (L ws : List Nat), vs = [.ref sa, .ref wa] ∧ SgT K H sa M L ∧ Val M L ∧ SqL K H wa (ivs ws) ∧ (∀ l ∈ ws, l < L.length) ∧ Q (oV (vOf M L ws)) H
theorem ok_value (D : Dn K mg "value_of" sValue) : Cal P w K mg base 1 "value_of" (spValue K) [] := by
  refine cal_of D scValue (fun _ _ _ _ _ _ us h => by match us, h with | [_, _], _ => rfl) (fun vs H Q E h => ?_) (fun f cdv A outer s H vs Q E hr h => ?_)
  · obtain ⟨sa, wa, M, L, ws, rfl, _⟩ := h
    rfl
  · obtain ⟨sa, wa, M, L, ws, rfl, hS, hV, hW, hl, q⟩ := h
    refine ⟨_, (pss_cons (ps_asg (pv 0) (pg_tup rfl (pgs_cons (pg_name (i := 2) scValue.nd rfl (by first | exact .inl rfl | exact .inr rfl)) (pgs_cons (pg_name (i := 3) scValue.nd rfl (by first | exact .inl rfl | exact .inr rfl)) pgs_nil))))
      (pss_cons (ps_set (i := 4) scValue.nd rfl (by first | exact .inl rfl | exact .inr rfl) pe_non)
      (pss_cons (ps_for PassesOwn.never rfl (pi_list (pv 1)) (pg_name (i := 5) scValue.nd rfl (by first | exact .inl rfl | exact .inr rfl)) (pss_one (ps_set (i := 4) scValue.nd rfl (by first | exact .inl rfl | exact .inr rfl) (pe_ifExp (pt_cmp (pc_isN (pv 4))) (pe_ix ix_tup (pv 3) (pv 5) (fun _ _ => rfl)) (pe_ix ix_tup (pe_ix ix_tup (pv 2) (pv 4) (fun _ _ => rfl)) (pe_ix ix_tup (pv 3) (pv 5) (fun _ _ => rfl)) (fun _ _ => rfl))))))
      (pss_one (ps_ret (pv 4)))))), ?_⟩
    obtain ⟨ta, la, hs, hM, hL⟩ := hS
    refine ⟨_, rfl, sa, _, rfl, hs, rfl, _, _, rfl, _, _, rfl, rfl, ?_⟩
    refine ⟨_, rfl, wa, rfl, ⟨_, hW⟩, ?_⟩
    refine for_it (n := (ivs ws).length) walk_list (fun i σ' H' => H = H' ∧ ∃ x5 : Option V, σ' = [some (.ref sa), some (.ref wa), some (.ref ta), some (.ref la), some (oV (vOf M L (ws.take i))), x5]) ⟨rfl, none, rfl⟩ (fun i σ' H' _ h => h.1 ▸ hW)
      (fun i x σ' H' H'' hi h y => ?_) (fun σ' H' h => ?_)
    · obtain ⟨rfl, x5, rfl⟩ := h
      obtain ⟨rfl, hx⟩ := y
      have hi' : i < ws.length := by simpa using hi
      have ex : x = .int (ws[i] : Nat) := by
        rw [List.getElem?_map, List.getElem?_eq_getElem hi'] at hx
        exact (Option.some.inj hx).symm
      subst ex
      have hli : ws[i] < L.length := hl _ (List.getElem_mem hi')
      have et : vOf M L (ws.take (i + 1)) = some (match vOf M L (ws.take i) with | none => L.getD ws[i] 0 | some v => g M v (L.getD ws[i] 0)) := by
        rw [List.take_succ_eq_append_getElem hi', vOf_snoc]
      cases e : vOf M L (ws.take i) with
      | none =>
        rw [e] at et
        refine ⟨_, rfl, true, rfl, iteT (Rd.at_ hL (Rd.var rfl) (Rd.var rfl) hli _ ⟨rfl, some (.int (ws[i] : Nat)), ?_⟩)⟩
        rw [et]
        rfl
      | some v =>
        rw [e] at et
        have hv : v < M.length := vOf_lt hV (fun l hl' => hl l (List.mem_of_mem_take hl')) v e
        refine ⟨_, rfl, false, rfl, iteF (Rd.prod hM hV (Rd.var rfl) (Rd.var rfl) (Rd.at_ hL (Rd.var rfl) (Rd.var rfl) hli) hv (getD_lt hV.ls hli) _ ⟨rfl, some (.int (ws[i] : Nat)), ?_⟩)⟩
        rw [et]
        rfl
    · obtain ⟨rfl, x5, rfl⟩ := h
      refine ⟨_, rfl, ?_⟩
      have : ws.take (ivs ws).length = ws := by simp
      rw [this]
      exact q
theorem scIsVS : FnScope ["size", "values", "value", "k"] ["size", "values"] (defScope sIsVS) := ⟨rfl, rfl, rfl, by decide +kernel, rfl, by decide +kernel, by decide +kernel⟩
/-- a set of values: ascending, below n -/
def VS (n : Nat) (ns : List Nat) : Prop := ns.Pairwise (· < ·) ∧ (∀ x ∈ ns, x < n) ∧ ns.length ≤ 4
def spIsVS (T : List Addr) (K : PySem.W.Frag) : Sp := fun vs H Q _ => ∃ (n : Nat) (a : Addr) (ns : List Nat), vs = [.int (n : Nat), .ref a] ∧ SqT K H a (ivs ns) ∧ VS n ns ∧ Tb T H ∧ ∀ H', Nx T H H' → Q (.bl true) H'
theorem ok_isvs (D : Tn K mg base T "is_value_set" sIsVS) (B : Bn mg) : Cal P w K mg base 2 "is_value_set" (spIsVS T K) [] := by
  refine cal_ofC D scIsVS (fun _ _ _ _ _ _ us h => by match us, h with | [_, _], _ => rfl) (fun vs H Q E h => ?_) (fun f c Pt TB hP A outer s H vs Q E hr h => ?_)
  · obtain ⟨n, a, ns, rfl, _⟩ := h
    rfl
  · obtain ⟨n, a, ns, rfl, hA, ⟨v1, v2, v3⟩, hT, q⟩ := h
    refine ⟨_, (pss_cons (ps_if (pt_val (GX.pe_gxB (k := 0) [("value", 2)] [] (by decide) GX.cons_any (hr.mono (by decide)) scIsVS.nd B.any (by decide +kernel) TB rfl ?_ (pi_tup (pv 1))
        (fun _ _ _ _ _ _ _ _ hy => ⟨(pg_name (i := 2) scIsVS.nd rfl (by first | exact .inl rfl | exact .inr rfl)), pts_nil, (GX.pbE rfl rfl (pe_not (pe_chain op_le op_lt pe_int (pv 2) (pv 0))))⟩))) (pss_one (ps_ret pe_bl)) pss_nil)
      (pss_one (ps_ret (GX.pe_gxB (k := 0) [("k", 3)] [] (by decide) GX.cons_all (hr.mono (by decide)) scIsVS.nd B.all (by decide +kernel) TB rfl ?_ (pi_range1 (by rfl) B.range (pa_cons (pe_op op_sub (pe_callB call_len_seq (by rfl) B.len PySem.boot_len (pa_cons (pv 1) pa_nil)) pe_int) pa_nil))
        (fun _ _ _ _ _ _ _ _ hy => ⟨(pg_name (i := 3) scIsVS.nd rfl (by first | exact .inl rfl | exact .inr rfl)), pts_nil, (GX.pbE rfl rfl (pe_cmpR op_lt (pe_ix (kIxT K rfl) (pv 1) (pv 3) (fun _ _ => rfl)) (pe_ix (kIxT K rfl) (pv 1) (pe_op op_add (pv 3) pe_int) (fun _ _ => rfl)) (nomark _)))⟩))))), ?_⟩
    iterate 2
      · show gxC ["size", "values", "value", "k"] (defScope sIsVS) _ _ = true
        decide +kernel
    refine TdN.ifF (T := T) (RdN.tB_ (gxT_any 10 hP hT (Rd.var rfl) hA (fun x => rfl) fun H2 n2 i x m N stop hx hN => ?_)) fun H1 n1 => ?_
    · obtain ⟨v, rfl, hv⟩ := mem_ivs hx
      have := v2 v hv
      exact el_pass (Rd.notV (Rd.chainE (b := true) (p := fun i j => decide (i ≤ j)) (q := fun i j => decide (i < j)) Rd.c (Rd.var rfl) (Rd.var rfl) (by simp; omega))) (by simp) (hN _ (by omega))
    have hA1 := n1.seqT hA
    dsimp only [tNext, tRet]
    refine gxRg_all (T := T) (n := (ns.length : Int) - 1) hP n1.tb (fun Q2 q2 => ⟨_, rfl, a, _, rfl, .inr hA1, _, _, rfl, rfl, ?_⟩) (by omega) (fun x => rfl) (fun H2 n2 i m N stop hi hN => ?_) _ (fun H2 n2 => q _ (n1.trans n2))
    rotate_left
    · rw [List.length_map]
      exact q2
    · have hA2 := n2.seqT hA1
      have h1 : i < ns.length := by omega
      have h2 : i + 1 < ns.length := by omega
      have lt : ns.getD i 0 < ns.getD (i + 1) 0 := by
        have := (List.pairwise_iff_getElem.mp v1) i (i + 1) h1 h2 (by omega)
        simpa [h1, h2] using this
      refine el_pass (c := true) (fun Q2 q2 => Rd.at_ hA2 (Rd.var rfl) (Rd.var rfl) h1 _ (Rd.at_ (a := i + 1) hA2 (Rd.var rfl) (fun Q3 q3 => ⟨_, rfl, _, _, rfl, rfl, by simpa using q3⟩) h2 _ ⟨_, _, rfl, rfl, ?_⟩)) (by simp) hN
      show Q2 (V.bl (decide (((ns.getD i 0 : Nat) : Int) < ((ns.getD (i + 1) 0 : Nat) : Int)))) H2
      rw [decide_eq_true (by omega : ((ns.getD i 0 : Nat) : Int) < ((ns.getD (i + 1) 0 : Nat) : Int))]
      exact q2
theorem scChkSets : FnScope ["semigroup", "sets", "one"] ["semigroup", "sets"] (defScope sChkSets) := ⟨rfl, rfl, rfl, by decide +kernel, rfl, by decide +kernel, by decide +kernel⟩
def spChkSets (T : List Addr) (K : PySem.W.Frag) : Sp := fun vs H Q _ => ∃ (sa pa : Addr) (M : List (List Nat)) (L : List Nat) (as : List Addr), vs = [.ref sa, .ref pa] ∧ SgT K H sa M L ∧ Val M L ∧ SqL K H pa (as.map V.ref) ∧ (∀ a ∈ as, ∃ ns, SqT K H a (ivs ns) ∧ VS M.length ns) ∧ Tb T H ∧ ∀ H', Nx T H H' → Q .non H'
theorem ok_chkSets (D : Tn K mg base T "check_sets" sChkSets) (B : Bn mg) (c_check : Cal P w K mg base 5 "check" (spFault T K) []) (c_is_value_set : Cal P w K mg base 2 "is_value_set" (spIsVS T K) []) : Cal P w K mg base 6 "check_sets" (spChkSets T K) [] := by
  refine cal_ofC D scChkSets (fun _ _ _ _ _ _ us h => by match us, h with | [_, _], _ => rfl) (fun vs H Q E h => ?_) (fun f c Pt TB hP A outer s H vs Q E hr h => ?_)
  · obtain ⟨sa, pa, M, L, as, rfl, _⟩ := h
    rfl
  · obtain ⟨sa, pa, M, L, as, rfl, hS, hV, hA, hAs, hT, q⟩ := h
    refine ⟨_, (pss_cons (ps_expr (pe_c c_check hr (by decide) (by rfl) (pa_cons (pv 0) pa_nil)))
      (pss_one (ps_if (pt_val (GX.pe_gxB (k := 2) [("one", 2)] [] (by decide) GX.cons_any (hr.mono (by decide)) scChkSets.nd B.any (by decide +kernel) TB rfl ?_ (pi_list (pv 1))
        (fun _ _ _ _ _ _ _ _ hy => ⟨(pg_name (i := 2) scChkSets.nd rfl (by first | exact .inl rfl | exact .inr rfl)), pts_nil, (GX.pbE rfl rfl (pe_not (pe_c c_is_value_set hy (by decide) (by rfl) (pa_cons (pe_callB (kLen K rfl) (by rfl) B.len PySem.boot_len (pa_cons (pe_ix (kIxT K rfl) (pv 0) pe_int (fun _ _ => rfl)) pa_nil)) (pa_cons (pv 2) pa_nil)))))⟩))) (pss_one ps_never) pss_nil))), ?_⟩
    · show gxC ["semigroup", "sets", "one"] (defScope sChkSets) _ _ = true
      decide +kernel
    refine ⟨_, rfl, sa, M, L, rfl, hS, hV, hT, fun H1 n1 => ?_⟩
    dsimp only [tNext, tSeq]
    refine TdN.ifF (T := T) (RdN.tB_ (gxLN_any hP n1.tb (Rd.var rfl) (n1.seqL hA) (fun x => rfl) fun H2 n2 i x m N stop hx hN => ?_)) fun H3 n3 => q _ (n1.trans n3)
    rw [List.getElem?_map] at hx
    cases e : as[i]? with
    | none => rw [e] at hx; cases hx
    | some a =>
      rw [e] at hx
      cases hx
      obtain ⟨ns, h1, h2⟩ := hAs a (List.mem_of_getElem? e)
      have n12 := n1.trans n2
      obtain ⟨ta, la, hs, hM, hL⟩ := n12.sg hS
      obtain ⟨xs, hx, hxl⟩ := hM.len
      dsimp only [GX.tEl, tNotV, tCall, tCons]
      refine Rd.len (Rd.fst hs (Rd.var rfl)) (.inr hx) hxl _ ⟨_, rfl, M.length, a, ns, rfl, n12.seqT h1, h2, n12.tb, fun H3 n3 => ⟨true, rfl, false, rfl, iteF (hN _ (n2.trans n3))⟩⟩
end
end K37
set_option Elab.async false
set_option linter.all false
set_option maxRecDepth 100000
set_option maxHeartbeats 4000000
namespace K37
open PySem PySem.Spec PyProof.Rows L2
open C8 (Cal pe_c)
section
variable {P : Program} {w : World} {K : PySem.W.Frag} {mg : Str → Option Value} {base : Heap} {T : List Addr}
theorem ivs_at {ns : List Nat} {i : Nat} {x : V} (h : (ivs ns)[i]? = some x) : x = .int (ns.getD i 0 : Nat) ∧ i < ns.length := by
  have hi : i < ns.length := by
    have := (List.getElem?_eq_some_iff.mp h).1
    simpa using this
  rw [List.getElem?_map, List.getElem?_eq_getElem hi] at h
  refine ⟨?_, hi⟩
  simp [hi]
  exact (Option.some.inj h).symm
/-- a word of that value -/
structure Wd (M : List (List Nat)) (L : List Nat) (v : Nat) (w : List Nat) : Prop where
  ne : w ≠ []
  ls : ∀ l ∈ w, l < L.length
  val : vOf M L w = some v
  len : w.length ≤ 4
/-- the pair (value, word) -/
def ItW (H : Hp) (fa p : Addr) (it : Nat × List Nat) : Prop := ∃ wa, H p = some (.tup [.int (it.1 : Nat), .ref wa]) ∧ H wa = some (.lst (ivs it.2)) ∧ wa ≠ fa
/-- what first_words gives -/
def FL (M : List (List Nat)) (L : List Nat) (H : Hp) (fa : Addr) (its : List (Nat × List Nat)) : Prop := ∃ ps : List Addr, H fa = some (.lst (ps.map V.ref)) ∧ Paired (fun p it => ItW H fa p it) ps its ∧ (∀ it ∈ its, it.1 < M.length ∧ Wd M L it.1 it.2) ∧ its.length ≤ 4
theorem ItW.nx {T : List Addr} {H H' : Hp} {fa p : Addr} {it : Nat × List Nat} (h : ItW H fa p it) (n : Nx T H H') : ItW H' fa p it := by
  obtain ⟨wa, h1, h2, h3⟩ := h
  exact ⟨wa, n.tup h1, n.lst h2, h3⟩
theorem FL.nx {T : List Addr} {M : List (List Nat)} {L : List Nat} {H H' : Hp} {fa : Addr} {its : List (Nat × List Nat)} (h : FL M L H fa its) (n : Nx T H H') : FL M L H' fa its := by
  obtain ⟨ps, h1, h2, h3, h4⟩ := h
  exact ⟨ps, n.lst h1, paired_map h2 fun _ _ z => z.nx n, h3, h4⟩
theorem nodup_le : ∀ {n : Nat} {l : List Nat}, l.Nodup → (∀ x ∈ l, x < n) → l.length ≤ n
  | 0, l, _, h => by
    cases l with
    | nil => exact Nat.le_refl _
    | cons a _ => exact absurd (h a (List.mem_cons_self ..)) (Nat.not_lt_zero _)
  | n + 1, l, hd, h => by
    have h1 : (l.erase n).Nodup := hd.erase n
    have h2 : ∀ x ∈ l.erase n, x < n := fun x hx => by
      have hm := (hd.mem_erase_iff.mp hx)
      have := h x hm.2
      omega
    have h3 := nodup_le h1 h2
    have h4 : l.length ≤ (l.erase n).length + 1 := by
      rw [List.length_erase]
      split <;> omega
    omega
theorem sz0 : (0 : Nat) ≤ sizeLine := Nat.zero_le _
theorem sz1 : (1 : Nat) ≤ sizeLine := by decide
theorem sz2 : (2 : Nat) ≤ sizeLine := by decide
theorem sz6 : (6 : Nat) ≤ sizeLine := by decide
theorem upd_keep {H : Hp} {p b : Addr} {o u : HO} (h : H b = some u) (hp : H p = none) : upd H p o b = some u := by rw [upd_ne (ne_of_none h hp)]; exact h
theorem paired_append {α β : Type} {F : α → β → Prop} : ∀ {a c : List α} {b d : List β}, Paired F a b → Paired F c d → Paired F (a ++ c) (b ++ d)
  | _, _, _, _, .nil, h => h
  | _, _, _, _, .cons r t, h => .cons r (paired_append t h)
/-- the search's state: found at fa, seen at se -/
structure FW (w : World) (T : List Addr) (M : List (List Nat)) (L : List Nat) (H0 : Hp) (fa se : Addr) (its : List (Nat × List Nat)) (sv : List Nat) (S : Int → Bool) (n : Nat) (H : Hp) : Prop where
  nx : Nx T H0 H
  f0 : H0 fa = none
  s0 : H0 se = none
  fd : ∃ ps : List Addr, H fa = some (.lst (ps.map V.ref)) ∧ Paired (fun p it => ItW H fa p it) ps its
  sn : H se = some (SetO w se S n)
  mem : ∀ v : Nat, S v = true ↔ v ∈ sv
  nd : (its.map (·.1)).Nodup
  ok : ∀ it ∈ its, it.1 < M.length ∧ Wd M L it.1 it.2 ∧ it.2.length ≤ its.length
section
variable {M : List (List Nat)} {L : List Nat} {H0 H : Hp} {fa se : Addr} {its : List (Nat × List Nat)} {sv : List Nat} {S : Int → Bool} {n v : Nat}
theorem ItW.upd_ {H : Hp} {fa p x : Addr} {o : HO} {it : Nat × List Nat} (h : ItW H fa p it) (hx : (∀ l, H x ≠ some (.tup l)) ∧ ((∀ l, H x ≠ some (.lst l)) ∨ x = fa)) : ItW (upd H x o) fa p it := by
  obtain ⟨wa, h1, h2, h3⟩ := h
  have e1 : p ≠ x := fun z => hx.1 _ (z ▸ h1)
  have e2 : wa ≠ x := fun z => by
    rcases hx.2 with q | q
    · exact q _ (z ▸ h2)
    · exact h3 (z.trans q)
  exact ⟨wa, by rw [upd_ne e1]; exact h1, by rw [upd_ne e2]; exact h2, h3⟩
theorem FW.len (F : FW w T M L H0 fa se its sv S n H) : its.length ≤ M.length := by
  have := nodup_le F.nd (n := M.length) fun x hx => by
    obtain ⟨it, h1, rfl⟩ := List.mem_map.mp hx
    exact (F.ok it h1).1
  simpa using this
theorem FW.new (F : FW w T M L H0 fa se its sv S n H) {p : Addr} {o : HO} (hp : H p = none) : FW w T M L H0 fa se its sv S n (upd H p o) := by
  obtain ⟨ps, h1, h2⟩ := F.fd
  have np : ∀ {u : HO}, H p ≠ some u := fun {u} z => by rw [hp] at z; cases z
  exact ⟨F.nx.new hp, F.f0, F.s0, ⟨ps, by rw [upd_ne (ne_of_none h1 hp)]; exact h1, paired_map h2 fun _ _ z => z.upd_ ⟨fun l => np, Or.inl fun l => np⟩⟩,
    by rw [upd_ne (ne_of_none F.sn hp)]; exact F.sn, F.mem, F.nd, F.ok⟩
theorem FW.seen (F : FW w T M L H0 fa se its sv S n H) {v : Nat} (hv : v ∉ sv) : FW w T M L H0 fa se its (v :: sv) (fun j => S j || decide (j = (v : Int))) (n + 1) (upd H se (SetO w se (fun j => S j || decide (j = (v : Int))) (if S v = true then n else n + 1))) := by
  obtain ⟨ps, h1, h2⟩ := F.fd
  have h3 := F.sn
  have hs : ¬ S v = true := fun z => hv ((F.mem v).mp z)
  have ne : fa ≠ se := fun z => by rw [z, h3] at h1; cases h1
  have nl : ∀ l, H se ≠ some (.lst l) := fun l z => by rw [h3] at z; cases z
  have nt : ∀ l, H se ≠ some (.tup l) := fun l z => by rw [h3] at z; cases z
  refine ⟨F.nx.upd_ F.s0 (fun ps z => by rw [h3] at z; cases z), F.f0, F.s0, ⟨ps, by rw [upd_ne ne]; exact h1, paired_map h2 fun _ _ z => z.upd_ ⟨nt, Or.inl nl⟩⟩, by rw [upd_same, if_neg hs], fun u => ?_, F.nd, F.ok⟩
  rw [Bool.or_eq_true, F.mem u, decide_eq_true_iff, List.mem_cons]
  constructor
  · rintro (h | h)
    · exact .inr h
    · exact .inl (by omega)
  · rintro (h | h)
    · exact .inr (by omega)
    · exact .inl h
theorem FW.app (F : FW w T M L H0 fa se its (v :: its.map (·.1)) S (its.length + 1) H) (hv : v ∉ its.map (·.1)) (hl : v < M.length) {wd : List Nat} (hw : Wd M L v wd) (hlen : wd.length ≤ its.length + 1) {p : Addr} (hp : ItW H fa p (v, wd)) {xs : List V} (hx : H fa = some (.lst xs)) :
    FW w T M L H0 fa se (its ++ [(v, wd)]) ((its ++ [(v, wd)]).map (·.1)) S (its ++ [(v, wd)]).length (upd H fa (.lst (xs ++ [.ref p]))) := by
  obtain ⟨ps, h1, h2⟩ := F.fd
  have h3 := F.sn
  have e : xs = ps.map V.ref := by rw [hx] at h1; cases h1; rfl
  subst e
  have ne : se ≠ fa := fun z => by rw [← z, h3] at h1; cases h1
  have nt : ∀ l, H fa ≠ some (.tup l) := fun l z => by rw [h1] at z; cases z
  have up : ∀ {q it}, ItW H fa q it → ItW (upd H fa (.lst (ps.map V.ref ++ [.ref p]))) fa q it := fun z => z.upd_ ⟨nt, Or.inr rfl⟩
  refine ⟨F.nx.upd_ F.f0 (fun ps z => by rw [h1] at z; cases z), F.f0, F.s0, ⟨ps ++ [p], by rw [upd_same, List.map_append]; rfl, paired_append (paired_map h2 fun _ _ z => up z) (.cons (up hp) .nil)⟩, by rw [upd_ne ne, List.length_append]; exact h3, fun u => ?_, ?_, fun it hit => ?_⟩
  · rw [F.mem u, List.map_append, List.mem_append, List.mem_cons]
    simp [or_comm]
  · rw [List.map_append, List.nodup_append]
    refine ⟨F.nd, by simp, fun a ha b hb => ?_⟩
    simp at hb
    subst hb
    exact fun z => hv (z ▸ ha)
  · rw [List.length_append]
    rcases List.mem_append.mp hit with h | h
    · obtain ⟨a, b, c⟩ := F.ok it h
      exact ⟨a, b, by simp; omega⟩
    · simp at h
      subst h
      exact ⟨hl, hw, hlen⟩
theorem FW.fl (F : FW w T M L H0 fa se its sv S n H) (hV : Val M L) : FL M L H fa its := by
  obtain ⟨ps, h1, h2⟩ := F.fd
  exact ⟨ps, h1, h2, fun it h => ⟨(F.ok it h).1, (F.ok it h).2.1⟩, Nat.le_trans F.len hV.n4⟩
end
theorem scFirst : FnScope ["semigroup", "table", "letters", "found", "seen", "letter", "value", "at", "word", "behind", "product"] ["semigroup"] (defScope sFirst) := ⟨rfl, rfl, rfl, by decide +kernel, rfl, by decide +kernel, by decide +kernel⟩
def spFirst (T : List Addr) (K : PySem.W.Frag) : Sp := fun vs H Q _ => ∃ (sa : Addr) (M : List (List Nat)) (L : List Nat), vs = [.ref sa] ∧ SgT K H sa M L ∧ Val M L ∧ Tb T H ∧ ∀ H' fa its, Nx T H H' → FL M L H' fa its → Q (.ref fa) H'
theorem ok_first (D : Dn K mg "first_words" sFirst) (B : Bn mg) : Cal P w K mg base 1 "first_words" (spFirst T K) [] := by
  refine cal_of D scFirst (fun _ _ _ _ _ _ us h => by match us, h with | [_], _ => rfl) (fun vs H Q E h => ?_) (fun f cdv A outer s H vs Q E hr h => ?_)
  · obtain ⟨sa, M, L, rfl, _⟩ := h
    rfl
  · obtain ⟨sa, M, L, rfl, hS, hV, hT, q⟩ := h
    refine ⟨_, (pss_cons (ps_asg (pv 0) (pg_tup rfl (pgs_cons (pg_name (i := 1) scFirst.nd rfl (by first | exact .inl rfl | exact .inr rfl)) (pgs_cons (pg_name (i := 2) scFirst.nd rfl (by first | exact .inl rfl | exact .inr rfl)) pgs_nil))))
      (pss_cons (ps_set (i := 3) scFirst.nd rfl (by first | exact .inl rfl | exact .inr rfl) (pe_lst pa_nil))
      (pss_cons (ps_set (i := 4) scFirst.nd rfl (by first | exact .inl rfl | exact .inr rfl) (pe_callTy0 cr_set0 (by rfl) B.set (by decide +kernel)))
      (pss_cons (ps_for PassesOwn.never rfl (EnT.pi_enum (by rfl) B.enum (pa_cons (pv 2) pa_nil)) (pg_tup rfl (pgs_cons (pg_name (i := 5) scFirst.nd rfl (by first | exact .inl rfl | exact .inr rfl)) (pgs_cons (pg_name (i := 6) scFirst.nd rfl (by first | exact .inl rfl | exact .inr rfl)) pgs_nil))) (pss_one (ps_if (pt_cmpR or_snotin (pv 6) (pv 4) (by with_unfolding_all rfl)) (pss_cons (ps_expr (pe_sadd (pv 4) (pa_cons (pv 6) pa_nil)))
      (pss_one (ps_expr (pe_bm PySem.F.plainAttrs_list PySem.F.slot_list_append PySem.F.type_list_append mt_append (pv 3) (pa_cons (pe_tup (pa_cons (pv 6) (pa_cons (pe_lst (pa_cons (pv 5) pa_nil)) pa_nil))) pa_nil))))) pss_nil)))
      (pss_cons (ps_set (i := 7) scFirst.nd rfl (by first | exact .inl rfl | exact .inr rfl) pe_int)
      (pss_cons (ps_while PassesOwn.never (pt_cmpR op_lt (pv 7) (pe_callB call_len_seq (by rfl) B.len PySem.boot_len (pa_cons (pv 3) pa_nil)) (nomark _)) (pss_cons (ps_asg (pe_ix ix_list (pv 3) (pv 7) (fun _ _ => rfl)) (pg_tup rfl (pgs_cons (pg_name (i := 6) scFirst.nd rfl (by first | exact .inl rfl | exact .inr rfl)) (pgs_cons (pg_name (i := 8) scFirst.nd rfl (by first | exact .inl rfl | exact .inr rfl)) pgs_nil))))
      (pss_cons (ps_aug (i := 7) scFirst.nd rfl (by first | exact .inl rfl | exact .inr rfl) pe_int ip_add)
      (pss_one (ps_for PassesOwn.never rfl (EnT.pi_enum (by rfl) B.enum (pa_cons (pv 2) pa_nil)) (pg_tup rfl (pgs_cons (pg_name (i := 5) scFirst.nd rfl (by first | exact .inl rfl | exact .inr rfl)) (pgs_cons (pg_name (i := 9) scFirst.nd rfl (by first | exact .inl rfl | exact .inr rfl)) pgs_nil))) (pss_cons (ps_set (i := 10) scFirst.nd rfl (by first | exact .inl rfl | exact .inr rfl) (pe_ix ix_tup (pe_ix ix_tup (pv 1) (pv 6) (fun _ _ => rfl)) (pv 9) (fun _ _ => rfl)))
      (pss_one (ps_if (pt_cmpR or_snotin (pv 10) (pv 4) (by with_unfolding_all rfl)) (pss_cons (ps_expr (pe_sadd (pv 4) (pa_cons (pv 10) pa_nil)))
      (pss_one (ps_expr (pe_bm PySem.F.plainAttrs_list PySem.F.slot_list_append PySem.F.type_list_append mt_append (pv 3) (pa_cons (pe_tup (pa_cons (pv 10) (pa_cons (pe_op op_cat (pv 8) (pe_lst (pa_cons (pv 5) pa_nil))) pa_nil))) pa_nil))))) pss_nil))))))))
      (pss_one (ps_ret (pv 3))))))))), ?_⟩
    obtain ⟨ta, la, hs, hM, hL⟩ := hS
    refine ⟨_, rfl, sa, _, rfl, hs, rfl, _, _, rfl, _, _, rfl, rfl, ?_⟩
    refine ⟨by decide, fun fa hfa => ?_⟩
    refine ⟨rfl, fun se hse => ?_⟩
    have f0 : H fa = none := hfa
    have s0 : H se = none := ((Nx.refl hT).new hfa).free hse
    have hw0 : se ≠ fa := fun z => by rw [z, upd_same] at hse; cases hse
    have F0 : FW w T M L H fa se [] [] (fun _ => false) 0 (upd (upd H fa (.lst [])) se (SetO w se (fun _ => false) 0)) :=
      ⟨((Nx.refl hT).new hfa).new hse, f0, s0, ⟨[], by rw [upd_ne hw0.symm]; exact upd_same, .nil⟩, upd_same, fun v => by simp, by simp, fun it h => by cases h⟩
    -- the letters' values
    refine ⟨_, rfl, la, _, rfl, F0.nx.seqT hL, ?_⟩
    refine for_it (n := (ivs L).length) EnT.walk_enum (fun i σ' H' => ∃ its S x5 x6, FW w T M L H fa se its (its.map (·.1)) S its.length H' ∧ its.length ≤ i ∧ (1 ≤ i → 1 ≤ its.length) ∧
        σ' = [some (.ref sa), some (.ref ta), some (.ref la), some (.ref fa), some (.ref se), x5, x6, none, none, none, none]) ⟨[], _, none, none, F0, Nat.le_refl _, fun h => absurd h (by omega), rfl⟩
      (fun i σ' H' _ h => let ⟨_, _, _, _, F, _⟩ := h; F.nx.seqT hL) (fun i x σ' H' H'' hi h y => ?_) (fun σ' H' h => ?_)
    · obtain ⟨its, S, x5, x6, F, hle, h1, rfl⟩ := h
      obtain ⟨Tt, x, yv, rfl, hTt, rfl, hx, hy⟩ := y
      cases hx
      obtain ⟨rfl, hi'⟩ := ivs_at hy
      have F1 := F.new hTt (o := .tup [.int (i : Nat), .int (L.getD i 0 : Nat)])
      refine ⟨Tt, _, rfl, .inl (.inl upd_same), rfl, _, _, rfl, _, _, rfl, rfl, ?_⟩
      generalize upd H' Tt (.tup [.int (i : Nat), .int (L.getD i 0 : Nat)]) = H1 at F1
      refine ⟨_, rfl, _, rfl, _, se, S, _, rfl, rfl, F1.sn, _, rfl, ?_⟩
      have hlv : L.getD i 0 < M.length := getD_lt hV.ls hi'
      cases e : S (L.getD i 0 : Nat) with
      | true =>
        refine iteF ⟨its, S, _, _, F1, by omega, fun _ => ?_, rfl⟩
        have hm := (F1.mem (L.getD i 0)).mp e
        cases its with
        | nil => cases hm
        | cons _ _ => simp
      | false =>
        refine iteT ?_
        have hn : L.getD i 0 ∉ its.map (·.1) := fun z => by rw [(F1.mem (L.getD i 0)).mpr z] at e; cases e
        have F2 := F1.seen hn
        have hlen := F1.len
        have h4 := hV.n4
        refine ⟨_, rfl, ⟨se, S, its.length, rfl, F1.sn⟩, _, rfl, se, _, S, its.length, rfl, rfl, F1.sn, by unfold scanBound; omega, ?_⟩
        have hwd : Wd M L (L.getD i 0) [i] := ⟨by simp, by simpa using hi', rfl, by simp⟩
        obtain ⟨ps, hfd, hps⟩ := F2.fd
        refine ⟨_, rfl, .inl ⟨rfl, _, .inl (.inl hfd)⟩, _, rfl, _, rfl, sz1, fun wa hwa => ⟨sz2, fun p hp => ?_⟩⟩
        have F4 := (F2.new hwa (o := .lst [.int (i : Nat)])).new hp (o := .tup [.int (L.getD i 0 : Nat), .ref wa])
        have hfd4 := upd_keep (upd_keep hfd hwa (o := .lst [.int (i : Nat)])) hp (o := .tup [.int (L.getD i 0 : Nat), .ref wa])
        refine ⟨fa, _, .ref p, rfl, rfl, hfd4, small1000 (by have := hps.length; rw [List.length_map]; omega), ?_⟩
        exact ⟨its ++ [(L.getD i 0, [i])], _, _, _, F4.app hn hlv hwd (by simp) ⟨wa, upd_same, upd_keep upd_same hp, (ne_of_none hfd hwa).symm⟩ hfd4, by simp; omega, fun _ => by simp, rfl⟩
    · obtain ⟨its, S, x5, x6, F, hle, h1, rfl⟩ := h
      have i1 : 1 ≤ its.length := h1 (by rw [List.length_map]; exact hV.l1)
      refine ⟨fun m σ' H' => ∃ (at_ : Nat) (its : List (Nat × List Nat)) (S : Int → Bool) (x5 x6 x8 x9 x10 : Option V), FW w T M L H fa se its (its.map (·.1)) S its.length H' ∧ at_ ≤ its.length ∧ 1 ≤ its.length ∧ m = 5 - at_ ∧
        σ' = [some (.ref sa), some (.ref ta), some (.ref la), some (.ref fa), some (.ref se), x5, x6, some (.int (at_ : Nat)), x8, x9, x10], ⟨_, 0, its, S, x5, x6, none, none, none, F, Nat.zero_le _, i1, rfl, rfl⟩, ?_⟩
      clear F hle h1 i1
      rintro m σ' H1 ⟨at_, its, S, x5, x6, x8, x9, x10, F, hle, i1, rfl, rfl⟩
      obtain ⟨ps, hfd, hps⟩ := F.fd
      have hpl : (ps.map V.ref).length = its.length := by rw [List.length_map, hps.length]
      refine ⟨_, rfl, _, rfl, fa, _, rfl, .inl (.inl (.inl hfd)), _, _, rfl, rfl, _, rfl, ?_⟩
      rw [hpl]
      by_cases hlt : at_ < its.length
      · have h4 := hV.n4
        have hlen := F.len
        obtain ⟨p, hpa, wa, hp, hwa, hne⟩ := paired_get hps (List.getElem?_eq_getElem hlt)
        obtain ⟨ok1, ok2, ok3⟩ := F.ok _ (List.getElem_mem hlt)
        generalize hit : its[at_] = it at hp hwa ok1 ok2 ok3
        obtain ⟨v, wd⟩ := it
        rw [decide_eq_true (by omega : ((at_ : Nat) : Int) < (its.length : Nat))]
        refine iteT ⟨_, fun _ _ h => h, ?_⟩
        refine ⟨_, rfl, _, rfl, fa, _, at_, .ref p, rfl, rfl, .inl (.inl hfd), atI_nat (by rw [List.getElem?_map, hpa]; rfl), p, _, rfl, .inl (.inl hp), rfl, _, _, rfl, _, _, rfl, rfl, ?_⟩
        refine ⟨_, rfl, _, _, rfl, rfl, ?_⟩
        refine ⟨_, rfl, la, _, rfl, F.nx.seqT hL, ?_⟩
        refine for_it (n := (ivs L).length) EnT.walk_enum (fun i σ' H' => ∃ (its : List (Nat × List Nat)) (S : Int → Bool) (x5 x9 x10 : Option V), FW w T M L H fa se its (its.map (·.1)) S its.length H' ∧ at_ + 1 ≤ its.length ∧ wd.length ≤ its.length ∧ H' wa = some (.lst (ivs wd)) ∧
          σ' = [some (.ref sa), some (.ref ta), some (.ref la), some (.ref fa), some (.ref se), x5, some (.int (v : Nat)), some (.int ((at_ : Nat) + 1 : Int)), some (.ref wa), x9, x10]) ⟨its, S, x5, x9, x10, F, hlt, ok3, hwa, rfl⟩
          (fun i σ' H' _ h => let ⟨_, _, _, _, _, F, _⟩ := h; F.nx.seqT hL) (fun i x σ' H' H'' hi h y => ?_) (fun σ' H' h => ?_)
        · clear F hle i1 hpl hlt hit hp hpa hps hfd hlen ok3 hwa
          obtain ⟨its, S, x5, x9, x10, F, hle, hwl, hwa, rfl⟩ := h
          obtain ⟨Tt, x, yv, rfl, hTt, rfl, hx, hy⟩ := y
          cases hx
          obtain ⟨rfl, hi'⟩ := ivs_at hy
          have F1 := F.new hTt (o := .tup [.int (i : Nat), .int (L.getD i 0 : Nat)])
          have hwa1 := upd_keep hwa hTt (o := .tup [.int (i : Nat), .int (L.getD i 0 : Nat)])
          refine ⟨Tt, _, rfl, .inl (.inl upd_same), rfl, _, _, rfl, _, _, rfl, rfl, ?_⟩
          generalize upd H' Tt (.tup [.int (i : Nat), .int (L.getD i 0 : Nat)]) = H1 at F1 hwa1
          have hlv : L.getD i 0 < M.length := getD_lt hV.ls hi'
          refine Rd.prod (F1.nx.tbl hM) hV (Rd.var rfl) (Rd.var rfl) (Rd.var rfl) ok1 hlv _ ?_
          have hgv : g M v (L.getD i 0) < M.length := hV.g_lt ok1 hlv
          have hvo : vOf M L (wd ++ [i]) = some (g M v (L.getD i 0)) := by rw [vOf_snoc, ok2.val]
          generalize g M v (L.getD i 0) = u at hgv hvo
          refine ⟨_, rfl, _, rfl, _, se, S, _, rfl, rfl, F1.sn, _, rfl, ?_⟩
          cases e : S (u : Nat) with
          | true => exact iteF ⟨its, S, _, _, _, F1, hle, hwl, hwa1, rfl⟩
          | false =>
            refine iteT ?_
            have hn : u ∉ its.map (·.1) := fun z => by rw [(F1.mem u).mpr z] at e; cases e
            have F2 := F1.seen hn
            have hlen : its.length + 1 ≤ M.length := by
              have := nodup_le (l := u :: its.map (·.1)) (n := M.length) (List.nodup_cons.mpr ⟨hn, F1.nd⟩) fun x hx => by
                rcases List.mem_cons.mp hx with h | h
                · omega
                · obtain ⟨it, h1, rfl⟩ := List.mem_map.mp h
                  exact (F1.ok it h1).1
              simpa using this
            refine ⟨_, rfl, ⟨se, S, its.length, rfl, F1.sn⟩, _, rfl, se, _, S, its.length, rfl, rfl, F1.sn, by unfold scanBound; omega, ?_⟩
            have hwd : Wd M L u (wd ++ [i]) := ⟨by simp, fun l hl => by
              rcases List.mem_append.mp hl with h | h
              · exact ok2.ls l h
              · simp at h; omega, hvo, by simp; omega⟩
            obtain ⟨ps, hfd, hps⟩ := F2.fd
            have nes : wa ≠ se := fun z => by rw [z, F1.sn] at hwa1; cases hwa1
            have hwa2 : upd H1 se (SetO w se (fun j => S j || decide (j = (u : Int))) (if S u = true then its.length else its.length + 1)) wa = some (.lst (ivs wd)) := by rw [upd_ne nes]; exact hwa1
            refine ⟨_, rfl, .inl ⟨rfl, _, .inl (.inl hfd)⟩, _, rfl, _, rfl, _, rfl, sz1, fun l1 hl1 => ?_⟩
            refine ⟨wa, l1, ivs wd, [.int (i : Nat)], rfl, rfl, upd_keep hwa2 hl1, upd_same, Nat.le_of_lt (small1000 (by simp; omega)), fun w2 hw2 => ⟨sz2, fun p hp => ?_⟩⟩
            have F4 := ((F2.new hl1 (o := .lst [.int (i : Nat)])).new hw2 (o := .lst (ivs wd ++ [V.int ((i : Nat) : Int)]))).new hp (o := .tup [.int (u : Nat), .ref w2])
            have hfd3 := upd_keep (upd_keep hfd hl1 (o := .lst [.int (i : Nat)])) hw2 (o := .lst (ivs wd ++ [V.int ((i : Nat) : Int)]))
            have hfd4 := upd_keep hfd3 hp (o := .tup [.int (u : Nat), .ref w2])
            have hwa4 := upd_keep (upd_keep (upd_keep hwa2 hl1 (o := .lst [.int (i : Nat)])) hw2 (o := .lst (ivs wd ++ [V.int ((i : Nat) : Int)]))) hp (o := .tup [.int (u : Nat), .ref w2])
            refine ⟨fa, _, .ref p, rfl, rfl, hfd4, small1000 (by have := hps.length; rw [List.length_map]; omega), ?_⟩
            have eiv : ivs wd ++ [V.int ((i : Nat) : Int)] = ivs (wd ++ [i]) := by simp
            refine ⟨its ++ [(u, wd ++ [i])], _, _, _, _, F4.app hn hgv hwd (by simp; omega) ⟨w2, upd_same, by rw [← eiv]; exact upd_keep upd_same hp, (ne_of_none hfd3 hp |> fun _ => (ne_of_none (upd_keep hfd hl1 (o := .lst [.int (i : Nat)])) hw2).symm)⟩ hfd4, by simp; omega, by simp; omega, ?_, rfl⟩
            rw [upd_ne hne]
            exact hwa4
        · obtain ⟨its, S, x5, x9, x10, F, hle, hwl, hwa, rfl⟩ := h
          exact ⟨5 - (at_ + 1), by omega, at_ + 1, its, S, x5, _, _, x9, x10, F, hle, by omega, rfl, rfl⟩
      · rw [decide_eq_false (by omega : ¬ ((at_ : Nat) : Int) < (its.length : Nat))]
        exact iteF ⟨_, rfl, q _ fa its F.nx (F.fl hV)⟩
end
end K37
set_option Elab.async false
set_option linter.all false
set_option maxRecDepth 100000
set_option maxHeartbeats 4000000
namespace K37
open PySem PySem.Spec PyProof.Rows L2
open C8 (Cal pe_c)
section
variable {P : Program} {w : World} {K : PySem.W.Frag} {mg : Str → Option Value} {base : Heap} {T : List Addr}
theorem kTruth {X : Cx} (K : PySem.W.Frag) {a : Expr} {ta : TE} (hK : X.K = K) (ha : PE X a ta) (he : ∀ whole, isTrue a X.env whole = (do let v ← whole; standAt a.pos; holding [v] (truthy v))) :
    PT X a (fun σ H Q => ta σ H fun x H' => ∃ k, TruV K x H' k ∧ Q k H') := hK ▸ pt_truth ha he
theorem scWords : FnScope ["letters", "size", "found", "row", "_", "word", "letter"] ["letters", "size"] (defScope sWords) := ⟨rfl, rfl, rfl, by decide +kernel, rfl, by decide +kernel, by decide +kernel⟩
def spWords (T : List Addr) : Sp := fun vs H Q _ => ∃ (l : Int) (n : Nat), vs = [.int l, .int (n : Nat)] ∧ Tb T H ∧ ((n = 0 ∧ ∀ H' a, Nx T H H' → H' a = some (.lst []) → Q (.ref a) H') ∨ (n = 1 ∧ ∀ H' a b, Nx T H H' → H' a = some (.lst [.ref b]) → H' b = some (.lst []) → Q (.ref a) H'))
theorem ok_words (D : Dn K mg "words_below" sWords) (B : Bn mg) : Cal P w K mg base 1 "words_below" (spWords T) [] := by
  refine cal_of D scWords (fun _ _ _ _ _ _ us h => by match us, h with | [_, _], _ => rfl) (fun vs H Q E h => ?_) (fun f cdv A outer s H vs Q E hr h => ?_)
  · obtain ⟨l, n, rfl, _⟩ := h
    rfl
  · obtain ⟨l, n, rfl, hT, hq⟩ := h
    refine ⟨_, (pss_cons (ps_set (i := 2) scWords.nd rfl (by first | exact .inl rfl | exact .inr rfl) (pe_lst (pa_cons (pe_lst pa_nil) pa_nil)))
      (pss_cons (ps_set (i := 3) scWords.nd rfl (by first | exact .inl rfl | exact .inr rfl) (pe_lst (pa_cons (pe_lst pa_nil) pa_nil)))
      (pss_cons (ps_for PassesOwn.never rfl (pi_range1 (by rfl) B.range (pa_cons (pe_op op_sub (pv 1) pe_int) pa_nil)) (pg_name (i := 4) scWords.nd rfl (by first | exact .inl rfl | exact .inr rfl)) pss_never)
      (pss_one (ps_ret (pe_ifExp (pt_cmpR op_gt (pv 1) pe_int (nomark _)) (pv 2) (pe_lst pa_nil))))))), ?_⟩
    refine ⟨sz0, fun b hb => ⟨sz1, fun a ha => ⟨sz0, fun b2 hb2 => ⟨sz1, fun a2 ha2 => ?_⟩⟩⟩⟩
    have N1 := (((((Nx.refl hT).new hb (o := .lst [])).new ha (o := .lst [.ref b])).new hb2 (o := .lst [])).new ha2 (o := .lst [.ref b2]))
    have e1 := upd_keep (upd_keep (upd_same (H := upd H b (.lst [])) (a := a) (o := .lst [.ref b])) hb2 (o := .lst [])) ha2 (o := .lst [.ref b2])
    have e2 := upd_keep (upd_keep (upd_keep (upd_same (H := H) (a := b) (o := .lst [])) ha (o := .lst [.ref b])) hb2 (o := .lst [])) ha2 (o := .lst [.ref b2])
    refine ⟨_, rfl, _, _, rfl, rfl, (n : Int) - 1, rfl, by omega, by omega, ?_⟩
    have hz : ((n : Int) - 1).toNat = 0 := by omega
    rw [hz]
    refine for_it (n := 0) walk_range (fun _ σ' H' => True ∧ H' = _ ∧ σ' = _) ⟨trivial, rfl, rfl⟩ (fun _ _ _ _ _ => trivial) (fun i x σ' H' H'' hi _ _ => absurd hi (Nat.not_lt_zero _)) (fun σ' H' h => ?_)
    obtain ⟨_, rfl, rfl⟩ := h
    refine ⟨_, rfl, _, _, rfl, rfl, _, rfl, ?_⟩
    rcases hq with ⟨rfl, hq⟩ | ⟨rfl, hq⟩
    · exact iteF ⟨sz0, fun a3 ha3 => hq _ _ (N1.new ha3) upd_same⟩
    · exact iteT ⟨_, rfl, hq _ _ _ N1 e1 e2⟩
theorem scEnds : FnScope ["semigroup", "one", "size", "letters", "found", "word", "middles", "_", "heads", "head", "tail", "middle"] ["semigroup", "one", "size"] (defScope sEnds) := ⟨rfl, rfl, rfl, by decide +kernel, rfl, by decide +kernel, by decide +kernel⟩
/-- the ends at length 0: none, or one pair of empty ones -/
def ER (H : Hp) (a : Addr) : Prop := H a = some (.lst []) ∨ ∃ p b c, H a = some (.lst [.ref p]) ∧ H p = some (.tup [.ref b, .ref c]) ∧ H b = some (.tup []) ∧ H c = some (.tup [])
def spEnds (T : List Addr) (K : PySem.W.Frag) : Sp := fun vs H Q _ => ∃ (sa oa : Addr) (M : List (List Nat)) (L ns : List Nat), vs = [.ref sa, .ref oa, .int 0] ∧ SgT K H sa M L ∧ Val M L ∧ SqT K H oa (ivs ns) ∧ Tb T H ∧ ∀ H' a, Nx T H H' → ER H' a → Q (.ref a) H'
theorem ok_ends (D : Tn K mg base T "ends_of" sEnds) (B : Bn mg) (c_words_below : Cal P w K mg base 1 "words_below" (spWords T) []) (c_first_words : Cal P w K mg base 1 "first_words" (spFirst T K) []) (c_value_of : Cal P w K mg base 1 "value_of" (spValue K) []) :
    Cal P w K mg base 3 "ends_of" (spEnds T K) [] := by
  refine cal_ofC D scEnds (fun _ _ _ _ _ _ us h => by match us, h with | [_, _, _], _ => rfl) (fun vs H Q E h => ?_) (fun f c Pt TB hP A outer s H vs Q E hr h => ?_)
  · obtain ⟨sa, oa, M, L, ns, rfl, _⟩ := h
    rfl
  · obtain ⟨sa, oa, M, L, ns, rfl, hS, hV, hO, hT, q⟩ := h
    refine ⟨_, (pss_cons (ps_set (i := 3) scEnds.nd rfl (by first | exact .inl rfl | exact .inr rfl) (pe_callB call_len_seq (by rfl) B.len PySem.boot_len (pa_cons (pe_ix ix_tup (pv 0) pe_int (fun _ _ => rfl)) pa_nil)))
      (pss_cons (ps_set (i := 4) scEnds.nd rfl (by first | exact .inl rfl | exact .inr rfl) (pe_lst pa_nil))
      (pss_cons (ps_for PassesOwn.never rfl (pi_list (pe_c c_words_below hr (by decide) (by rfl) (pa_cons (pv 3) (pa_cons (pe_op op_mul pe_int (pv 2)) pa_nil)))) (pg_name (i := 5) scEnds.nd rfl (by first | exact .inl rfl | exact .inr rfl)) pss_never)
      (pss_cons (ps_set (i := 6) scEnds.nd rfl (by first | exact .inl rfl | exact .inr rfl) (pe_op op_cat (pe_lst (pa_cons (pe_lst pa_nil) pa_nil)) (pe_lc (own := [("word", 5), ("_", 7)]) rfl scEnds.nd (pi_list (pe_c c_first_words hr (by decide) (by rfl) (pa_cons (pv 0) pa_nil))) (blkOk_by ?_) (fun _ _ _ _ _ => (kgTup K 2 rfl rfl (pgs_cons (pg_name (i := 7) scEnds.nd rfl (by first | exact .inl rfl | exact .inr rfl)) (pgs_cons (pg_name (i := 5) scEnds.nd rfl (by first | exact .inl rfl | exact .inr rfl)) pgs_nil)))) (fun _ _ _ _ _ => pts_nil) (fun _ _ _ _ _ => (pv 5)))))
      (pss_cons (ps_setLc (i := 8) (own := [("word", 5)]) rfl scEnds.nd rfl rfl (by rfl) (pi_list (pe_c c_words_below hr (by decide) (by rfl) (pa_cons (pv 3) (pa_cons (pe_op op_add (pv 2) pe_int) pa_nil)))) (blkOk_by ?_) (fun _ _ _ _ _ => (pg_name (i := 5) scEnds.nd rfl (by first | exact .inl rfl | exact .inr rfl))) (fun _ _ _ _ _ => (pts_one (pt_cmpR op_eq (pe_callB (kLen K rfl) (by rfl) B.len PySem.boot_len (pa_cons (pv 5) pa_nil)) (pv 2) (nomark _)))) (fun _ _ _ _ _ => (pv 5)))
      (pss_cons (ps_for PassesOwn.never rfl (pi_list (pv 8)) (pg_name (i := 9) scEnds.nd rfl (by first | exact .inl rfl | exact .inr rfl)) (pss_one (ps_for PassesOwn.never rfl (pi_list (pv 8)) (pg_name (i := 10) scEnds.nd rfl (by first | exact .inl rfl | exact .inr rfl)) (pss_one (ps_if (pt_val (GX.pe_gxB (k := 1) [("middle", 11)] [] (by decide) GX.cons_any (hr.mono (by decide)) scEnds.nd B.any (by decide +kernel) TB rfl ?_ (pi_list (pv 6))
        (fun _ _ _ _ _ _ _ _ hy => ⟨(pg_name (i := 11) scEnds.nd rfl (by first | exact .inl rfl | exact .inr rfl)), (pts_one (kTruth K rfl (pe_op op_cat (pe_op op_cat (pv 9) (pv 11)) (pv 10)) (fun _ => rfl))), (GX.pbE rfl rfl (pe_cmpR (kIn K rfl) (pe_c c_value_of hy (by decide) (by rfl) (pa_cons (pv 0) (pa_cons (pe_op op_cat (pe_op op_cat (pv 9) (pv 11)) (pv 10)) pa_nil))) (pv 1) (by with_unfolding_all rfl)))⟩))) (pss_one (ps_expr (pe_bm PySem.F.plainAttrs_list PySem.F.slot_list_append PySem.F.type_list_append mt_append (pv 4) (pa_cons (pe_tup (pa_cons (pe_tupleOf (by rfl) B.tuple (pv 9)) (pa_cons (pe_tupleOf (by rfl) B.tuple (pv 10)) pa_nil))) pa_nil)))) pss_nil)))))
      (pss_one (ps_ret (pv 4))))))))), ?_⟩
    any_goals (show blkC ["semigroup", "one", "size", "letters", "found", "word", "middles", "_", "heads", "head", "tail", "middle"] (defScope sEnds) _ _ = true; decide +kernel)
    · show gxC ["semigroup", "one", "size", "letters", "found", "word", "middles", "_", "heads", "head", "tail", "middle"] (defScope sEnds) _ _ = true
      decide +kernel
    obtain ⟨ta, la, hs, hM, hL⟩ := id hS
    refine ⟨_, rfl, sa, _, 1, .ref la, rfl, rfl, hs, rfl, la, _, rfl, .inr hL, ?_⟩
    refine ⟨sz0, fun fa hfa => ?_⟩
    have N1 := (Nx.refl hT).new hfa (o := .lst [])
    have e1 : upd H fa (.lst []) fa = some (.lst []) := upd_same
    generalize upd H fa (.lst []) = H1 at N1 e1
    refine ⟨_, rfl, _, rfl, _, _, rfl, rfl, .inl (by omega), _, 0, rfl, N1.tb, .inl ⟨rfl, fun H2 wa n2 hwa => ⟨wa, rfl, ⟨[], .inl (.inl hwa)⟩, ?_⟩⟩⟩
    refine for_it (n := ([] : List V).length) walk_list (fun _ σ' H' => H2 = H' ∧ σ' = _) ⟨rfl, rfl⟩ (fun _ _ _ _ h => h.1 ▸ .inl (.inl hwa)) (fun i x σ' H' H'' hi _ _ => absurd hi (Nat.not_lt_zero _)) (fun σ' H' h => ?_)
    obtain ⟨rfl, rfl⟩ := h
    have N2 := N1.trans n2
    have e2 := n2.lst e1
    clear n2 hwa e1 N1
    -- the middles
    refine ⟨sz0, fun b hb => ⟨sz1, fun a ha => ?_⟩⟩
    have N3 := (N2.new hb (o := .lst [])).new ha (o := .lst [.ref b])
    have e3 := upd_keep (upd_keep e2 hb (o := .lst [])) ha (o := .lst [.ref b])
    have a3 : upd (upd H2 b (.lst [])) a (.lst [.ref b]) a = some (.lst [.ref b]) := upd_same
    have b3 : upd (upd H2 b (.lst [])) a (.lst [.ref b]) b = some (.lst []) := upd_keep upd_same ha
    generalize upd (upd H2 b (.lst [])) a (.lst [.ref b]) = H3 at N3 e3 a3 b3
    clear e2 N2 hb ha
    refine ⟨_, rfl, sa, M, L, rfl, N3.sg hS, hV, N3.tb, fun H4 fw its n4 hFL => ⟨fw, rfl, ?_⟩⟩
    obtain ⟨ps, f1, f2, f3, f4⟩ := hFL
    refine ⟨⟨_, .inl (.inl f1)⟩, fun D hD => ?_⟩
    have N4 := N3.trans n4
    refine lc_it (n := (ps.map V.ref).length) walk_list (fun i H' => ∃ was : List Addr, Nx T H4 H' ∧ H' D = some (.lst (was.map V.ref)) ∧ was.length = i ∧ ∀ wa ∈ was, ∃ ws, H4 wa = some (.lst (ivs ws)) ∧ (∀ l ∈ ws, l < L.length) ∧ ws.length ≤ 4)
      ⟨[], (Nx.refl N4.tb).new hD, upd_same, rfl, fun _ h => by cases h⟩ (fun i H' _ h => let ⟨_, n, _⟩ := h; n.seqL (.inl (.inl f1))) (fun i x H' H'' hi h y => ?_) (fun H' h => ?_)
    · obtain ⟨was, n, hd, hw, hws⟩ := h
      obtain ⟨rfl, hx⟩ := y
      rw [List.getElem?_map] at hx
      cases hp : ps[i]? with
      | none => rw [hp] at hx; cases hx
      | some p =>
        rw [hp] at hx
        cases hx
        have hil : i < its.length := by
          have := f2.length
          have := (List.getElem?_eq_some_iff.mp hp).1
          omega
        obtain ⟨p', hp', wa, g1, g2, g3⟩ := paired_get f2 (List.getElem?_eq_getElem hil)
        rw [hp] at hp'
        cases hp'
        have wdd := (f3 _ (List.getElem_mem hil)).2
        have hpl : (ps.map V.ref).length ≤ 4 := by rw [List.length_map, f2.length]; exact f4
        refine ⟨p, _, rfl, .inl (.inl (n.tup g1)), rfl, _, _, rfl, _, _, rfl, rfl, rfl, ⟨_, rfl, _, hd, small1000 (by rw [List.length_map]; omega), was ++ [wa], n.upd_ hD (lst_ne_tbl hd), by rw [upd_same, List.map_append]; rfl, by simp [hw], fun w hw' => ?_⟩⟩
        rcases List.mem_append.mp hw' with h | h
        · exact hws w h
        · simp at h
          subst h
          exact ⟨_, g2, wdd.ls, wdd.len⟩
    obtain ⟨was, n, hd, hw, hws⟩ := h
    have hpl : (ps.map V.ref).length ≤ 4 := by rw [List.length_map, f2.length]; exact f4
    refine ⟨a, D, _, _, rfl, rfl, n.lst (n4.lst a3), hd, Nat.le_of_lt (small1000 (by simp; omega)), fun md hmd => ?_⟩
    have N5 := (N4.trans n).new hmd (o := .lst ([.ref b] ++ was.map V.ref))
    have e5 := upd_keep (n.lst (n4.lst e3)) hmd (o := .lst ([.ref b] ++ was.map V.ref))
    have m5 : upd H' md (.lst ([.ref b] ++ was.map V.ref)) md = some (.lst ((b :: was).map V.ref)) := upd_same
    have w5 : ∀ wa ∈ b :: was, ∃ ws, upd H' md (.lst ([.ref b] ++ was.map V.ref)) wa = some (.lst (ivs ws)) ∧ (∀ l ∈ ws, l < L.length) ∧ ws.length ≤ 4 := fun wa h => by
      rcases List.mem_cons.mp h with rfl | h
      · exact ⟨[], upd_keep (n.lst (n4.lst b3)) hmd, (fun _ h => absurd h List.not_mem_nil), Nat.zero_le _⟩
      · obtain ⟨ws, g1, g2, g3⟩ := hws wa h
        exact ⟨ws, upd_keep (n.lst g1) hmd, g2, g3⟩
    generalize upd H' md (.lst ([.ref b] ++ was.map V.ref)) = H5 at N5 e5 m5 w5
    clear hmd hd n hws hw hD f1 f2 f3 N4 n4 a3 b3 e3 N3 hpl f4
    -- the heads
    refine ⟨_, rfl, _, rfl, _, _, rfl, rfl, _, 1, rfl, N5.tb, .inr ⟨rfl, fun H6 a6 b6 n6 ha6 hb6 => ⟨a6, rfl, ⟨[.ref b6], .inl (.inl ha6)⟩, fun hd8 hhd => ?_⟩⟩⟩
    have N6 := N5.trans n6
    refine lc_it (n := [V.ref b6].length) walk_list (fun i H' => Nx T H6 H' ∧ H' hd8 = some (.lst ([V.ref b6].take i))) ⟨(Nx.refl N6.tb).new hhd, upd_same⟩ (fun i H' _ h => h.1.seqL (.inl (.inl ha6))) (fun i x H' H'' hi h y => ?_) (fun H8 h => ?_)
    · obtain ⟨n, hd⟩ := h
      obtain ⟨rfl, hx⟩ := y
      have hi0 : i = 0 := by simpa using hi
      subst hi0
      cases hx
      exact ⟨rfl, Rd.eqI (i := ((0 : Nat) : Int)) (j := 0) (Rd.len (xs := []) (Rd.var rfl) (.inl (.inl (.inl (n.lst hb6)))) rfl) (Rd.var rfl) _ ⟨true, rfl, ⟨_, rfl, [], hd, by decide, n.upd_ hhd (lst_ne_tbl hd), upd_same⟩⟩⟩
    obtain ⟨n, hh8⟩ := h
    have N8 := N6.trans n
    have e8 := n.lst (n6.lst e5)
    have m8 := n.lst (n6.lst m5)
    have hb8 := n.lst hb6
    have w8 : ∀ wa ∈ b :: was, ∃ ws, H8 wa = some (.lst (ivs ws)) ∧ (∀ l ∈ ws, l < L.length) ∧ ws.length ≤ 4 := fun wa h => by
      obtain ⟨ws, g1, g2, g3⟩ := w5 wa h
      exact ⟨ws, n.lst (n6.lst g1), g2, g3⟩
    have hh8 : H8 hd8 = some (.lst [V.ref b6]) := hh8
    clear n n6 e5 m5 w5 N5 N6 hhd ha6 hb6
    have ne8 : hd8 ≠ fa := fun z => by rw [z, e8] at hh8; cases hh8
    refine ⟨_, rfl, hd8, rfl, ⟨_, .inl (.inl hh8)⟩, ?_⟩
    refine for_it (n := [V.ref b6].length) walk_list (fun i σ' H' => ∃ x9 x10 : Option V, σ' = [some (.ref sa), some (.ref oa), some (.int 0), some (.int (ivs L).length), some (.ref fa), none, some (.ref md), none, some (.ref hd8), x9, x10, none] ∧
      Nx T H H' ∧ ER H' fa ∧ H' hd8 = some (.lst [V.ref b6]) ∧ (i = 0 → H8 = H')) ⟨none, none, rfl, N8, .inl e8, hh8, fun _ => rfl⟩ (fun i σ' H' _ h => let ⟨_, _, _, _, _, h, _⟩ := h; .inl (.inl h)) (fun i x σ' H' H'' hi h y => ?_) (fun σ' H' h => ?_)
    rotate_left
    · obtain ⟨x9, x10, rfl, n, er, hh, _⟩ := h
      exact ⟨_, rfl, q _ _ n er⟩
    obtain ⟨x9, x10, rfl, n, er, hh, he⟩ := h
    obtain ⟨rfl, hx⟩ := y
    have hi0 : i = 0 := by simpa using hi
    subst hi0
    obtain rfl := he rfl
    cases hx
    refine ⟨_, rfl, hd8, rfl, ⟨_, .inl (.inl hh8)⟩, ?_⟩
    refine for_it (n := [V.ref b6].length) walk_list (fun i σ' H' => ∃ x10 : Option V, σ' = [some (.ref sa), some (.ref oa), some (.int 0), some (.int (ivs L).length), some (.ref fa), none, some (.ref md), none, some (.ref hd8), some (.ref b6), x10, none] ∧
      Nx T H H' ∧ ER H' fa ∧ H' hd8 = some (.lst [V.ref b6]) ∧ (i = 0 → H8 = H')) ⟨x10, rfl, N8, .inl e8, hh8, fun _ => rfl⟩ (fun i σ' H' _ h => let ⟨_, _, _, _, h, _⟩ := h; .inl (.inl h)) (fun i x σ' H' H'' hi h y => ?_) (fun σ' H' h => ?_)
    rotate_left
    · obtain ⟨x10, rfl, n, er, hh, _⟩ := h
      exact ⟨_, _, rfl, n, er, hh, fun h => absurd h (by omega)⟩
    obtain ⟨x10, rfl, n, er, hh, he⟩ := h
    obtain ⟨rfl, hx⟩ := y
    have hi0 : i = 0 := by simpa using hi
    subst hi0
    obtain rfl := he rfl
    cases hx
    -- any(..), one way or the other
    refine ⟨_, rfl, md, rfl, ⟨_, .inl (.inl m8)⟩, N8.tb _ hP, fun H9 t9 => ?_⟩
    have n9 : Nx T H8 H9 := (Nx.refl N8.tb).tabbed hP t9
    refine gx_it (n := ((b :: was).map V.ref).length) walk_list 0 (fun _ H' => Nx T H8 H') n9 (fun i H' _ n => n.seqL (.inl (.inl m8))) (fun i x H' H'' hi n y => ?_) (fun H' n => ?_)
    · obtain ⟨rfl, hx⟩ := y
      rw [List.getElem?_map] at hx
      cases hw' : (b :: was)[i]? with
      | none => rw [hw'] at hx; cases hx
      | some wa =>
        rw [hw'] at hx
        cases hx
        obtain ⟨ws, g1, g2, g3⟩ := w8 wa (List.mem_of_getElem? hw')
        have g1' := n.lst g1
        have hb9 := n.lst hb8
        have ec : ([] : List V) ++ ivs ws ++ [] = ivs ws := by simp
        have small : (([] : List V) ++ ivs ws).length + ([] : List V).length ≤ sizeLine := Nat.le_of_lt (small1000 (by simp; omega))
        have small2 : ([] : List V).length + (ivs ws).length ≤ sizeLine := Nat.le_of_lt (small1000 (by simp; omega))
        refine ⟨rfl, _, rfl, _, rfl, b6, wa, [], ivs ws, rfl, rfl, hb9, g1', small2, fun p1 hp1 => ⟨_, rfl, p1, b6, _, _, rfl, rfl, upd_same, upd_keep hb9 hp1, small, fun p2 hp2 => ⟨!(([] : List V) ++ ivs ws ++ []).isEmpty, .inl ⟨_, .inl (.inl upd_same), rfl⟩, ?_⟩⟩⟩
        have n2 := (n.new hp1 (o := .lst ([] ++ ivs ws))).new hp2 (o := .lst (([] : List V) ++ ivs ws ++ []))
        have g2' := upd_keep (upd_keep g1' hp1 (o := .lst ([] ++ ivs ws))) hp2 (o := .lst (([] : List V) ++ ivs ws ++ []))
        have hb2' := upd_keep (upd_keep hb9 hp1 (o := .lst ([] ++ ivs ws))) hp2 (o := .lst (([] : List V) ++ ivs ws ++ []))
        generalize upd (upd H'' p1 (.lst ([] ++ ivs ws))) p2 (.lst (([] : List V) ++ ivs ws ++ [])) = H10 at n2 g2' hb2'
        cases (!(([] : List V) ++ ivs ws ++ []).isEmpty) with
        | false => exact iteF ⟨_, Nat.le_refl _, rfl, by omega, n2⟩
        | true =>
          refine iteT ⟨_, rfl, _, rfl, _, rfl, b6, wa, [], ivs ws, rfl, rfl, hb2', g2', small2, fun p3 hp3 => ⟨_, rfl, p3, b6, _, _, rfl, rfl, upd_same, upd_keep hb2' hp3, small, fun p4 hp4 => ?_⟩⟩
          have n4 := (n2.new hp3 (o := .lst ([] ++ ivs ws))).new hp4 (o := .lst (([] : List V) ++ ivs ws ++ []))
          have e4 : upd (upd H10 p3 (.lst ([] ++ ivs ws))) p4 (.lst (([] : List V) ++ ivs ws ++ [])) p4 = some (.lst (ivs ws)) := by rw [upd_same, ec]
          have n04 := N8.trans n4
          refine ⟨sa, p4, M, L, ws, rfl, n04.sg hS, hV, .inl (.inl e4), g2, ⟨_, rfl, oa, ivs ns, rfl, .inr (n04.seqT hO), ?_, ?_, ?_⟩⟩
          · cases vOf M L ws <;> rfl
          · rw [List.all_map, List.all_eq_true]
            intro _ _
            rfl
          · cases hin : inV (oV (vOf M L ws)) (ivs ns) with
            | false => exact ⟨false, rfl, iteF ⟨_, Nat.le_refl _, rfl, by omega, n4⟩⟩
            | true =>
              have e5 := n4.lst e8
              have b5 := n4.lst hb8
              have h5 := n4.lst hh8
              generalize upd (upd H10 p3 (.lst ([] ++ ivs ws))) p4 (.lst (([] : List V) ++ ivs ws ++ [])) = H12 at n4 n04 e5 b5 h5
              refine ⟨true, rfl, iteT ⟨true, rfl, iteT ⟨_, rfl, .inl ⟨rfl, _, .inl (.inl e5)⟩, _, rfl, .inl ⟨b6, [], rfl, .inl (.inl b5), fun q1 hq1 => ⟨_, rfl, .inl ⟨b6, [], rfl, .inl (.inl (upd_keep b5 hq1)), fun q2 hq2 => ⟨sz2, fun p hp => ?_⟩⟩⟩⟩⟩⟩⟩
              have n6 := ((n04.new hq1 (o := .tup [])).new hq2 (o := .tup [])).new hp (o := .tup [.ref q1, .ref q2])
              have e6 := upd_keep (upd_keep (upd_keep e5 hq1 (o := .tup [])) hq2 (o := .tup [])) hp (o := .tup [.ref q1, .ref q2])
              have h6 := upd_keep (upd_keep (upd_keep h5 hq1 (o := .tup [])) hq2 (o := .tup [])) hp (o := .tup [.ref q1, .ref q2])
              have p6 : upd (upd (upd H12 q1 (.tup [])) q2 (.tup [])) p (.tup [.ref q1, .ref q2]) p = some (.tup [.ref q1, .ref q2]) := upd_same
              have q16 : upd (upd (upd H12 q1 (.tup [])) q2 (.tup [])) p (.tup [.ref q1, .ref q2]) q1 = some (.tup []) := upd_keep (upd_keep upd_same hq2) hp
              have q26 : upd (upd (upd H12 q1 (.tup [])) q2 (.tup [])) p (.tup [.ref q1, .ref q2]) q2 = some (.tup []) := upd_keep upd_same hp
              generalize upd (upd (upd H12 q1 (.tup [])) q2 (.tup [])) p (.tup [.ref q1, .ref q2]) = H14 at n6 e6 h6 p6 q16 q26
              have nt : ∀ {a : Addr} {l : List V}, H14 a = some (.tup l) → a ≠ fa := fun h z => by rw [z, e6] at h; cases h
              refine ⟨fa, [], .ref p, rfl, rfl, e6, by decide, _, rfl, n6.upd_ hfa (lst_ne_tbl e6), .inr ⟨p, q1, q2, upd_same, by rw [upd_ne (nt p6)]; exact p6, by rw [upd_ne (nt q16)]; exact q16, by rw [upd_ne (nt q26)]; exact q26⟩, by rw [upd_ne ne8]; exact h6, fun h => absurd h (by omega)⟩
    · exact ⟨false, rfl, iteF ⟨_, rfl, N8.trans n, .inl (n.lst e8), n.lst hh8, fun h => absurd h (by omega)⟩⟩
end
end K37
set_option Elab.async false
set_option linter.all false
set_option maxRecDepth 100000
set_option maxHeartbeats 4000000
namespace K37
open PySem PySem.Spec PyProof.Rows L2
open C8 (Cal pe_c)
section
variable {P : Program} {w : World} {K : PySem.W.Frag} {mg : Str → Option Value} {base : Heap} {T : List Addr}
theorem scStay : FnScope ["semigroup", "ahead", "table", "words", "found", "value", "word", "other", "loop", "product"] ["semigroup", "ahead"] (defScope sStay) := ⟨rfl, rfl, rfl, by decide +kernel, rfl, by decide +kernel, by decide +kernel⟩
/-- (value, word, loop) -/
def ItS (H : Hp) (fa p : Addr) (it : Nat × List Nat × List Nat) : Prop := ∃ wa la, H p = some (.tup [.int (it.1 : Nat), .ref wa, .ref la]) ∧ H wa = some (.lst (ivs it.2.1)) ∧ H la = some (.lst (ivs it.2.2)) ∧ wa ≠ fa ∧ la ≠ fa
def StOk (M : List (List Nat)) (L : List Nat) (ah : Bool) (it : Nat × List Nat × List Nat) : Prop := it.1 < M.length ∧ Wd M L it.1 it.2.1 ∧ ∃ o, o < M.length ∧ Wd M L o it.2.2 ∧ (if ah = true then g M o it.1 else g M it.1 o) = it.1
def SL (M : List (List Nat)) (L : List Nat) (ah : Bool) (H : Hp) (fa : Addr) : Prop := ∃ (its : List (Nat × List Nat × List Nat)) (ps : List Addr), H fa = some (.lst (ps.map V.ref)) ∧ Paired (fun p it => ItS H fa p it) ps its ∧ (∀ it ∈ its, StOk M L ah it) ∧ its.length ≤ 4
theorem ItS.nx {T : List Addr} {H H' : Hp} {fa p : Addr} {it : Nat × List Nat × List Nat} (h : ItS H fa p it) (n : Nx T H H') : ItS H' fa p it := by
  obtain ⟨wa, la, h1, h2, h3, h4, h5⟩ := h
  exact ⟨wa, la, n.tup h1, n.lst h2, n.lst h3, h4, h5⟩
theorem ItS.upd_ {H : Hp} {fa p : Addr} {xs : List V} {o : HO} {it : Nat × List Nat × List Nat} (h : ItS H fa p it) (hx : H fa = some (.lst xs)) : ItS (upd H fa o) fa p it := by
  obtain ⟨wa, la, h1, h2, h3, h4, h5⟩ := h
  have e1 : p ≠ fa := fun z => by rw [z, hx] at h1; cases h1
  exact ⟨wa, la, by rw [upd_ne e1]; exact h1, by rw [upd_ne h4]; exact h2, by rw [upd_ne h5]; exact h3, h4, h5⟩
theorem ItW.ext {H H' : Hp} {fa p : Addr} {xs : List V} {it : Nat × List Nat} (h : ItW H fa p it) (hx : H fa = some (.lst xs)) (e : Ext (some fa) H H') : ItW H' fa p it := by
  obtain ⟨wa, h1, h2, h3⟩ := h
  have e1 : p ≠ fa := fun z => by rw [z, hx] at h1; cases h1
  exact ⟨wa, e.at_ h1 (fun _ z => by cases z) (fun z => e1 (Option.some.inj z)), e.at_ h2 (fun _ z => by cases z) (fun z => h3 (Option.some.inj z)), h3⟩
theorem sz3 : (3 : Nat) ≤ sizeLine := by decide
theorem Rd.ite {σ : L2.St} {H : Hp} {tc : TT} {ta tb : TE} {c : Bool} {v : V} (ht : ∀ Q : Bool → Hp → Prop, Q c H → tc σ H Q) (h1 : c = true → Rd ta σ H v) (h2 : c = false → Rd tb σ H v) : Rd (tIf tc ta tb) σ H v := fun Q q => ht _ (by
  cases e : c with
  | true => exact iteT (h1 e Q q)
  | false => exact iteF (h2 e Q q))
def spStay (T : List Addr) (K : PySem.W.Frag) : Sp := fun vs H Q _ => ∃ (sa : Addr) (ah : Bool) (M : List (List Nat)) (L : List Nat), vs = [.ref sa, .bl ah] ∧ SgT K H sa M L ∧ Val M L ∧ Tb T H ∧ ∀ H' fa, Nx T H H' → SL M L ah H' fa → Q (.ref fa) H'
theorem ok_stay (D : Dn K mg "stayers" sStay) (B : Bn mg) (c_first_words : Cal P w K mg base 1 "first_words" (spFirst T K) []) : Cal P w K mg base 2 "stayers" (spStay T K) [] := by
  refine cal_of D scStay (fun _ _ _ _ _ _ us h => by match us, h with | [_, _], _ => rfl) (fun vs H Q E h => ?_) (fun f cdv A outer s H vs Q E hr h => ?_)
  · obtain ⟨sa, ah, M, L, rfl, _⟩ := h
    rfl
  · obtain ⟨sa, ah, M, L, rfl, hS, hV, hT, q⟩ := h
    refine ⟨_, (pss_cons (ps_set (i := 2) scStay.nd rfl (by first | exact .inl rfl | exact .inr rfl) (pe_ix ix_tup (pv 0) pe_int (fun _ _ => rfl)))
      (pss_cons (ps_set (i := 3) scStay.nd rfl (by first | exact .inl rfl | exact .inr rfl) (pe_c c_first_words hr (by decide) (by rfl) (pa_cons (pv 0) pa_nil)))
      (pss_cons (ps_set (i := 4) scStay.nd rfl (by first | exact .inl rfl | exact .inr rfl) (pe_lst pa_nil))
      (pss_cons (ps_for PassesOwn.never rfl (pi_list (pv 3)) (pg_tup rfl (pgs_cons (pg_name (i := 5) scStay.nd rfl (by first | exact .inl rfl | exact .inr rfl)) (pgs_cons (pg_name (i := 6) scStay.nd rfl (by first | exact .inl rfl | exact .inr rfl)) pgs_nil))) (pss_one (ps_for PassesOwn.never rfl (pi_list (pv 3)) (pg_tup rfl (pgs_cons (pg_name (i := 7) scStay.nd rfl (by first | exact .inl rfl | exact .inr rfl)) (pgs_cons (pg_name (i := 8) scStay.nd rfl (by first | exact .inl rfl | exact .inr rfl)) pgs_nil))) (pss_cons (ps_set (i := 9) scStay.nd rfl (by first | exact .inl rfl | exact .inr rfl) (pe_ifExp (pt_val (pv 1)) (pe_ix ix_tup (pe_ix ix_tup (pv 2) (pv 7) (fun _ _ => rfl)) (pv 5) (fun _ _ => rfl)) (pe_ix ix_tup (pe_ix ix_tup (pv 2) (pv 5) (fun _ _ => rfl)) (pv 7) (fun _ _ => rfl))))
      (pss_one (ps_if (pt_cmpR op_eq (pv 9) (pv 5) (nomark _)) (pss_cons (ps_expr (pe_bm PySem.F.plainAttrs_list PySem.F.slot_list_append PySem.F.type_list_append mt_append (pv 4) (pa_cons (pe_tup (pa_cons (pv 5) (pa_cons (pv 6) (pa_cons (pv 8) pa_nil)))) pa_nil)))
      (pss_one ps_break)) pss_nil))))))
      (pss_one (ps_ret (pv 4))))))), ?_⟩
    obtain ⟨ta, la, hs, hM, hL⟩ := id hS
    refine ⟨_, rfl, sa, _, 0, .ref ta, rfl, rfl, hs, rfl, ?_⟩
    refine ⟨_, rfl, sa, M, L, rfl, hS, hV, hT, fun H1 fw its n1 hFL => ⟨sz0, fun fa hfa => ?_⟩⟩
    obtain ⟨ps, f1, f2, f3, f4⟩ := hFL
    have N1 := n1.new hfa (o := .lst [])
    have hfa0 : H fa = none := n1.free hfa
    have g1 := upd_keep f1 hfa (o := .lst [])
    have e1 : upd H1 fa (.lst []) fa = some (.lst []) := upd_same
    have f2' : Paired (fun p it => ItW (upd H1 fa (.lst [])) fa p it) ps its := paired_map f2 fun _ _ z => by
      obtain ⟨wa, z1, z2, _⟩ := z
      exact ⟨wa, upd_keep z1 hfa, upd_keep z2 hfa, ne_of_none z2 hfa⟩
    have gne : fw ≠ fa := ne_of_none f1 hfa
    generalize upd H1 fa (.lst []) = H2 at N1 g1 e1 f2'
    clear f1 f2 hfa n1
    have hpl : (ps.map V.ref).length ≤ 4 := by rw [List.length_map, f2'.length]; exact f4
    have gx : ∀ {H'}, Ext (some fa) H2 H' → H' fw = some (.lst (ps.map V.ref)) := fun e => e.at_ g1 (fun _ z => by cases z) (fun z => gne (Option.some.inj z))
    -- found grows
    refine ⟨_, rfl, fw, rfl, ⟨_, .inl (.inl g1)⟩, ?_⟩
    refine for_it (n := (ps.map V.ref).length) walk_list (fun i σ' H' => ∃ (x5 x6 x7 x8 x9 : Option V) (is : List (Nat × List Nat × List Nat)) (qs : List Addr), σ' = [some (.ref sa), some (.bl ah), some (.ref ta), some (.ref fw), some (.ref fa), x5, x6, x7, x8, x9] ∧
      Nx T H H' ∧ Ext (some fa) H2 H' ∧ H' fa = some (.lst (qs.map V.ref)) ∧ Paired (fun p it => ItS H' fa p it) qs is ∧ (∀ it ∈ is, StOk M L ah it) ∧ is.length ≤ i)
      ⟨none, none, none, none, none, [], [], rfl, N1, Ext.refl _ _, e1, .nil, (fun _ h => absurd h List.not_mem_nil), Nat.le_refl _⟩
      (fun i σ' H' _ h => let ⟨_, _, _, _, _, _, _, _, _, e, _⟩ := h; .inl (.inl (gx e))) (fun i x σ' H' H'' hi h y => ?_) (fun σ' H' h => ?_)
    rotate_left
    · obtain ⟨x5, x6, x7, x8, x9, is, qs, rfl, n, e, h1, h2, h3, h4⟩ := h
      exact ⟨_, rfl, q _ _ n ⟨is, qs, h1, h2, h3, by omega⟩⟩
    obtain ⟨x5, x6, x7, x8, x9, is, qs, rfl, n, e, h1, h2, h3, h4⟩ := h
    obtain ⟨rfl, hx⟩ := y
    rw [List.getElem?_map] at hx
    cases hp : ps[i]? with
    | none => rw [hp] at hx; cases hx
    | some p =>
    rw [hp] at hx
    cases hx
    have hil : i < its.length := by
      have := f2'.length
      have := (List.getElem?_eq_some_iff.mp hp).1
      omega
    obtain ⟨p', hp', iw⟩ := paired_get f2' (List.getElem?_eq_getElem hil)
    rw [hp] at hp'
    cases hp'
    obtain ⟨wa, w1, w2, w3⟩ := iw.ext e1 e
    obtain ⟨v1, v2⟩ := f3 _ (List.getElem_mem hil)
    generalize its[i] = it at w1 w2 v1 v2
    obtain ⟨v, wd⟩ := it
    refine ⟨p, _, rfl, .inl (.inl w1), rfl, _, _, rfl, _, _, rfl, rfl, ?_⟩
    refine ⟨_, rfl, fw, rfl, ⟨_, .inl (.inl (gx e))⟩, ?_⟩
    refine for_it (n := (ps.map V.ref).length) walk_list (fun _ σ' H' => ∃ (x7 x8 x9 : Option V), σ' = [some (.ref sa), some (.bl ah), some (.ref ta), some (.ref fw), some (.ref fa), some (.int (v : Nat)), some (.ref wa), x7, x8, x9] ∧ H'' = H')
      ⟨x7, x8, x9, rfl, rfl⟩ (fun _ _ _ _ h => let ⟨_, _, _, _, h⟩ := h; h ▸ .inl (.inl (gx e))) (fun j x σ' H3 H4 hj h y => ?_) (fun σ' H' h => ?_)
    rotate_left
    · obtain ⟨x7, x8, x9, rfl, rfl⟩ := h
      exact ⟨_, _, _, _, _, is, qs, rfl, n, e, h1, h2, h3, by omega⟩
    obtain ⟨x7, x8, x9, rfl, rfl⟩ := h
    obtain ⟨rfl, hx⟩ := y
    rw [List.getElem?_map] at hx
    cases hp2 : ps[j]? with
    | none => rw [hp2] at hx; cases hx
    | some p2 =>
    rw [hp2] at hx
    cases hx
    have hjl : j < its.length := by
      have := f2'.length
      have := (List.getElem?_eq_some_iff.mp hp2).1
      omega
    obtain ⟨p', hp', iw2⟩ := paired_get f2' (List.getElem?_eq_getElem hjl)
    rw [hp2] at hp'
    cases hp'
    obtain ⟨lo, o1, o2, o3⟩ := iw2.ext e1 e
    obtain ⟨u1, u2⟩ := f3 _ (List.getElem_mem hjl)
    generalize its[j] = it at o1 o2 u1 u2
    obtain ⟨o, wl⟩ := it
    refine ⟨p2, _, rfl, .inl (.inl o1), rfl, _, _, rfl, _, _, rfl, rfl, ?_⟩
    have hM' := n.tbl hM
    refine Rd.ite (c := ah) (v := .int ((if ah = true then g M o v else g M v o : Nat) : Int)) (fun Q q => ⟨_, rfl, ah, rfl, q⟩) (fun z => by subst z; exact Rd.prod hM' hV (Rd.var rfl) (Rd.var rfl) (Rd.var rfl) u1 v1) (fun z => by subst z; exact Rd.prod hM' hV (Rd.var rfl) (Rd.var rfl) (Rd.var rfl) v1 u1) _ ?_
    generalize hu : (if ah = true then g M o v else g M v o : Nat) = u
    refine Rd.eqI (i := (u : Nat)) (j := (v : Nat)) (Rd.var rfl) (Rd.var rfl) _ ⟨_, rfl, ?_⟩
    by_cases huv : u = v
    · rw [show (((u : Nat) : Int) == ((v : Nat) : Int)) = true by simp [huv]]
      refine iteT ⟨_, rfl, .inl ⟨rfl, _, .inl (.inl h1)⟩, _, rfl, _, rfl, _, rfl, sz3, fun q1 hq1 => ?_⟩
      have k1 := upd_keep h1 hq1 (o := .tup [.int (v : Nat), .ref wa, .ref lo])
      have nq : q1 ≠ fa := (ne_of_none h1 hq1).symm
      have up : ∀ {p it}, ItS H4 fa p it → ItS (upd (upd H4 q1 (.tup [.int (v : Nat), .ref wa, .ref lo])) fa (.lst (qs.map V.ref ++ [.ref q1]))) fa p it := fun z => (z.nx ((Nx.refl n.tb).new hq1)).upd_ k1
      have new : ItS (upd (upd H4 q1 (.tup [.int (v : Nat), .ref wa, .ref lo])) fa (.lst (qs.map V.ref ++ [.ref q1]))) fa q1 (v, wd, wl) :=
        ItS.upd_ (xs := qs.map V.ref) ⟨wa, lo, upd_same, upd_keep w2 hq1, upd_keep o2 hq1, w3, o3⟩ k1
      refine ⟨fa, _, .ref q1, rfl, rfl, k1, small1000 (by have := h2.length; rw [List.length_map]; omega), ?_⟩
      refine ⟨_, _, _, _, _, is ++ [(v, wd, wl)], qs ++ [q1], rfl, (n.new hq1).upd_ hfa0 (lst_ne_tbl k1), (e.upd_ (e.free hq1)).updX, by rw [upd_same, List.map_append]; rfl, paired_append (paired_map h2 fun _ _ z => up z) (.cons new .nil), fun it hit => ?_, by simp; omega⟩
      rcases List.mem_append.mp hit with h | h
      · exact h3 it h
      · simp at h
        subst h
        exact ⟨v1, v2, o, u1, u2, by show (if ah = true then g M o v else g M v o) = v; rw [hu]; exact huv⟩
    · rw [show (((u : Nat) : Int) == ((v : Nat) : Int)) = false by simp; omega]
      exact iteF ⟨_, _, _, rfl, rfl⟩
theorem scMid : FnScope ["semigroup", "head", "tail", "one", "table", "value", "word"] ["semigroup", "head", "tail", "one"] (defScope sMid) := ⟨rfl, rfl, rfl, by decide +kernel, rfl, by decide +kernel, by decide +kernel⟩
def Mid (M : List (List Nat)) (L ns : List Nat) (h t : Nat) (m : List Nat) : Prop := (∀ l ∈ m, l < L.length) ∧ m.length ≤ 4 ∧ (match vOf M L m with | none => g M h t | some v => g M (g M h v) t) ∈ ns
/-- what middle_for gives -/
def MV (M : List (List Nat)) (L ns : List Nat) (h t : Nat) (H : Hp) (v : V) : Prop := v = .non ∨ ∃ ma m, v = .ref ma ∧ H ma = some (.lst (ivs m)) ∧ Mid M L ns h t m
theorem MV.nx {M : List (List Nat)} {L ns : List Nat} {h t : Nat} {H H' : Hp} {v : V} (m : MV M L ns h t H v) (n : Nx T H H') : MV M L ns h t H' v := by
  rcases m with m | ⟨ma, m, h1, h2, h3⟩
  · exact .inl m
  · exact .inr ⟨ma, m, h1, n.lst h2, h3⟩
def spMid (T : List Addr) (K : PySem.W.Frag) : Sp := fun vs H Q _ => ∃ (sa oa : Addr) (h t : Nat) (M : List (List Nat)) (L ns : List Nat), vs = [.ref sa, .int (h : Nat), .int (t : Nat), .ref oa] ∧ SgT K H sa M L ∧ Val M L ∧ SqT K H oa (ivs ns) ∧ h < M.length ∧ t < M.length ∧ Tb T H ∧
  ∀ H' v, Nx T H H' → MV M L ns h t H' v → Q v H'
theorem inV_ivs {n : Nat} {ns : List Nat} (h : inV (.int (n : Nat)) (ivs ns) = true) : n ∈ ns := by
  unfold inV at h
  rw [List.any_eq_true] at h
  obtain ⟨y, h1, h2⟩ := h
  obtain ⟨m, hm, rfl⟩ := List.mem_map.mp h1
  have : m = n := by
    simp [eqV] at h2
    omega
  exact this ▸ hm
theorem flat_ivs (ns : List Nat) : (ivs ns).all flatV = true := by
  rw [List.all_map, List.all_eq_true]
  intro _ _
  rfl
theorem ok_mid (D : Dn K mg "middle_for" sMid) (B : Bn mg) (c_first_words : Cal P w K mg base 1 "first_words" (spFirst T K) []) : Cal P w K mg base 2 "middle_for" (spMid T K) [] := by
  refine cal_of D scMid (fun _ _ _ _ _ _ us h => by match us, h with | [_, _, _, _], _ => rfl) (fun vs H Q E h => ?_) (fun f cdv A outer s H vs Q E hr h => ?_)
  · obtain ⟨sa, oa, h, t, M, L, ns, rfl, _⟩ := h
    rfl
  · obtain ⟨sa, oa, h, t, M, L, ns, rfl, hS, hV, hO, hh, ht, hT, q0⟩ := h
    have qn : ∀ H', Nx T H H' → Q .non H' := fun H' n => q0 H' _ n (.inl rfl)
    have q : ∀ H' ma m, Nx T H H' → H' ma = some (.lst (ivs m)) → Mid M L ns h t m → Q (.ref ma) H' := fun H' ma m n h1 h2 => q0 H' _ n (.inr ⟨ma, m, rfl, h1, h2⟩)
    refine ⟨_, (pss_cons (ps_set (i := 4) scMid.nd rfl (by first | exact .inl rfl | exact .inr rfl) (pe_ix ix_tup (pv 0) pe_int (fun _ _ => rfl)))
      (pss_cons (ps_if (pt_cmpR op_in_seq (pe_ix ix_tup (pe_ix ix_tup (pv 4) (pv 1) (fun _ _ => rfl)) (pv 2) (fun _ _ => rfl)) (pv 3) (by with_unfolding_all rfl)) (pss_one (ps_ret (pe_lst pa_nil))) pss_nil)
      (pss_cons (ps_for PassesOwn.never rfl (pi_list (pe_c c_first_words hr (by decide) (by rfl) (pa_cons (pv 0) pa_nil))) (pg_tup rfl (pgs_cons (pg_name (i := 5) scMid.nd rfl (by first | exact .inl rfl | exact .inr rfl)) (pgs_cons (pg_name (i := 6) scMid.nd rfl (by first | exact .inl rfl | exact .inr rfl)) pgs_nil))) (pss_one (ps_if (pt_cmpR op_in_seq (pe_ix ix_tup (pe_ix ix_tup (pv 4) (pe_ix ix_tup (pe_ix ix_tup (pv 4) (pv 1) (fun _ _ => rfl)) (pv 5) (fun _ _ => rfl)) (fun _ _ => rfl)) (pv 2) (fun _ _ => rfl)) (pv 3) (by with_unfolding_all rfl)) (pss_one (ps_ret (pv 6))) pss_nil)))
      (pss_one (ps_ret pe_non))))), ?_⟩
    obtain ⟨ta, la, hs, hM, hL⟩ := id hS
    refine ⟨_, rfl, sa, _, 0, .ref ta, rfl, rfl, hs, rfl, ?_⟩
    refine Rd.prod hM hV (Rd.var rfl) (Rd.var rfl) (Rd.var rfl) hh ht _ ⟨_, rfl, oa, _, rfl, .inr hO, rfl, flat_ivs ns, _, rfl, ?_⟩
    cases hin : inV (.int (g M h t : Nat)) (ivs ns) with
    | true => exact iteT ⟨sz0, fun ma hma => q _ ma [] ((Nx.refl hT).new hma) upd_same ⟨(fun _ h => absurd h List.not_mem_nil), Nat.zero_le _, inV_ivs hin⟩⟩
    | false =>
      refine iteF ⟨_, rfl, sa, M, L, rfl, hS, hV, hT, fun H1 fw its n1 hFL => ?_⟩
      obtain ⟨ps, f1, f2, f3, f4⟩ := hFL
      refine ⟨fw, rfl, ⟨_, .inl (.inl f1)⟩, ?_⟩
      refine for_it (n := (ps.map V.ref).length) walk_list (fun _ σ' H' => ∃ (x5 x6 : Option V), σ' = [some (.ref sa), some (.int (h : Nat)), some (.int (t : Nat)), some (.ref oa), some (.ref ta), x5, x6] ∧ H1 = H')
        ⟨none, none, rfl, rfl⟩ (fun _ _ _ _ h => let ⟨_, _, _, h⟩ := h; h ▸ .inl (.inl f1)) (fun j x σ' H3 H4 hj h y => ?_) (fun σ' H' h => ?_)
      rotate_left
      · obtain ⟨x5, x6, rfl, rfl⟩ := h
        exact qn _ n1
      obtain ⟨x5, x6, rfl, rfl⟩ := h
      obtain ⟨rfl, hx⟩ := y
      rw [List.getElem?_map] at hx
      cases hp2 : ps[j]? with
      | none => rw [hp2] at hx; cases hx
      | some p2 =>
      rw [hp2] at hx
      cases hx
      have hjl : j < its.length := by
        have := f2.length
        have := (List.getElem?_eq_some_iff.mp hp2).1
        omega
      obtain ⟨p', hp', wa, o1, o2, o3⟩ := paired_get f2 (List.getElem?_eq_getElem hjl)
      rw [hp2] at hp'
      cases hp'
      obtain ⟨u1, u2⟩ := f3 _ (List.getElem_mem hjl)
      generalize its[j] = it at o1 o2 u1 u2
      obtain ⟨v, wd⟩ := it
      refine ⟨p2, _, rfl, .inl (.inl o1), rfl, _, _, rfl, _, _, rfl, rfl, ?_⟩
      have hM' := n1.tbl hM
      refine Rd.prod hM' hV (Rd.var rfl) (Rd.prod hM' hV (Rd.var rfl) (Rd.var rfl) (Rd.var rfl) hh u1) (Rd.var rfl) (hV.g_lt hh u1) ht _ ⟨_, rfl, oa, _, rfl, .inr (n1.seqT hO), rfl, flat_ivs ns, _, rfl, ?_⟩
      cases hin2 : inV (.int (g M (g M h v) t : Nat)) (ivs ns) with
      | true => exact iteT ⟨_, rfl, q _ wa wd n1 o2 ⟨u2.ls, u2.len, by rw [u2.val]; exact inV_ivs hin2⟩⟩
      | false => exact iteF ⟨_, _, rfl, rfl⟩
theorem scRounds : FnScope ["semigroup", "first", "second", "head", "before", "loop", "tail", "behind", "back", "left", "right"] ["semigroup", "first", "second"] (defScope sRounds) := ⟨rfl, rfl, rfl, by decide +kernel, rfl, by decide +kernel, by decide +kernel⟩
/-- the six words at r -/
def RT (H : Hp) (r : Addr) (ws : List (List Nat)) : Prop := ∃ as : List Addr, H r = some (.tup (as.map V.ref)) ∧ Paired (fun a w => H a = some (.lst (ivs w))) as ws
def RO (M : List (List Nat)) (L n1 n2 : List Nat) (ws : List (List Nat)) : Prop := ∃ (be lo le ri ba bh : List Nat) (hv tv o1 o2 : Nat), ws = [be, lo, le, ri, ba, bh] ∧ hv < M.length ∧ tv < M.length ∧ o1 < M.length ∧ o2 < M.length ∧
  Wd M L hv be ∧ Wd M L o1 lo ∧ g M hv o1 = hv ∧ Wd M L tv bh ∧ Wd M L o2 ba ∧ g M o2 tv = tv ∧ Mid M L n1 hv tv le ∧ Mid M L n2 hv tv ri
def spRounds (T : List Addr) (K : PySem.W.Frag) : Sp := fun vs H Q _ => ∃ (sa fa ga : Addr) (M : List (List Nat)) (L n1 n2 : List Nat), vs = [.ref sa, .ref fa, .ref ga] ∧ SgT K H sa M L ∧ Val M L ∧ SqT K H fa (ivs n1) ∧ SqT K H ga (ivs n2) ∧ Tb T H ∧
  (∀ H', Nx T H H' → Q .non H') ∧ ∀ H' r ws, Nx T H H' → RT H' r ws → RO M L n1 n2 ws → Q (.ref r) H'
theorem ok_rounds (D : Dn K mg "rounds_of" sRounds) (B : Bn mg) (c_stayers : Cal P w K mg base 2 "stayers" (spStay T K) []) (c_middle_for : Cal P w K mg base 2 "middle_for" (spMid T K) []) : Cal P w K mg base 3 "rounds_of" (spRounds T K) [] := by
  refine cal_of D scRounds (fun _ _ _ _ _ _ us h => by match us, h with | [_, _, _], _ => rfl) (fun vs H Q E h => ?_) (fun f cdv A outer s H vs Q E hr h => ?_)
  · obtain ⟨sa, fa, ga, M, L, n1, n2, rfl, _⟩ := h
    rfl
  · obtain ⟨sa, fa, ga, M, L, n1, n2, rfl, hS, hV, hF, hG, hT, qn, q⟩ := h
    refine ⟨_, (pss_cons (ps_for PassesOwn.never rfl (pi_list (pe_c c_stayers hr (by decide) (by rfl) (pa_cons (pv 0) (pa_cons pe_bl pa_nil)))) (pg_tup rfl (pgs_cons (pg_name (i := 3) scRounds.nd rfl (by first | exact .inl rfl | exact .inr rfl)) (pgs_cons (pg_name (i := 4) scRounds.nd rfl (by first | exact .inl rfl | exact .inr rfl)) (pgs_cons (pg_name (i := 5) scRounds.nd rfl (by first | exact .inl rfl | exact .inr rfl)) pgs_nil)))) (pss_one (ps_for PassesOwn.never rfl (pi_list (pe_c c_stayers hr (by decide) (by rfl) (pa_cons (pv 0) (pa_cons pe_bl pa_nil)))) (pg_tup rfl (pgs_cons (pg_name (i := 6) scRounds.nd rfl (by first | exact .inl rfl | exact .inr rfl)) (pgs_cons (pg_name (i := 7) scRounds.nd rfl (by first | exact .inl rfl | exact .inr rfl)) (pgs_cons (pg_name (i := 8) scRounds.nd rfl (by first | exact .inl rfl | exact .inr rfl)) pgs_nil)))) (pss_cons (ps_set (i := 9) scRounds.nd rfl (by first | exact .inl rfl | exact .inr rfl) (pe_c c_middle_for hr (by decide) (by rfl) (pa_cons (pv 0) (pa_cons (pv 3) (pa_cons (pv 6) (pa_cons (pv 1) pa_nil))))))
      (pss_cons (ps_set (i := 10) scRounds.nd rfl (by first | exact .inl rfl | exact .inr rfl) (pe_c c_middle_for hr (by decide) (by rfl) (pa_cons (pv 0) (pa_cons (pv 3) (pa_cons (pv 6) (pa_cons (pv 2) pa_nil))))))
      (pss_one (ps_if (PW.pt (pw_and (pt_cmp (pc_notN (pv 9))) (pw_and1 (pt_cmp (pc_notN (pv 10)))))) (pss_one (ps_ret (pe_tup (pa_cons (pv 4) (pa_cons (pv 5) (pa_cons (pv 9) (pa_cons (pv 10) (pa_cons (pv 8) (pa_cons (pv 7) pa_nil))))))))) pss_nil)))))))
      (pss_one (ps_ret pe_non))), ?_⟩
    refine ⟨_, rfl, sa, false, M, L, rfl, hS, hV, hT, fun H1 sf N1 hSL => ?_⟩
    obtain ⟨is, ps, h1, h2, h3, h4⟩ := hSL
    refine ⟨sf, rfl, ⟨_, .inl (.inl h1)⟩, ?_⟩
    refine for_it (n := (ps.map V.ref).length) walk_list (fun _ σ' H' => ∃ (x3 x4 x5 x6 x7 x8 x9 x10 : Option V), σ' = [some (.ref sa), some (.ref fa), some (.ref ga), x3, x4, x5, x6, x7, x8, x9, x10] ∧ Nx T H1 H')
      ⟨none, none, none, none, none, none, none, none, rfl, Nx.refl N1.tb⟩ (fun _ _ _ _ h => let ⟨_, _, _, _, _, _, _, _, _, n⟩ := h; n.seqL (.inl (.inl h1))) (fun j x σ' H' H'' hj h y => ?_) (fun σ' H' h => ?_)
    rotate_left
    · obtain ⟨x3, x4, x5, x6, x7, x8, x9, x10, rfl, n⟩ := h
      exact qn _ (N1.trans n)
    obtain ⟨x3, x4, x5, x6, x7, x8, x9, x10, rfl, n⟩ := h
    obtain ⟨rfl, hx⟩ := y
    rw [List.getElem?_map] at hx
    cases hp : ps[j]? with
    | none => rw [hp] at hx; cases hx
    | some p =>
    rw [hp] at hx
    cases hx
    have hjl : j < is.length := by
      have := h2.length
      have := (List.getElem?_eq_some_iff.mp hp).1
      omega
    obtain ⟨p', hp', wa, lo, s1, s2, s3, _, _⟩ := paired_get h2 (List.getElem?_eq_getElem hjl)
    rw [hp] at hp'
    cases hp'
    obtain ⟨k1, k2, o1, k3, k4, k5⟩ := h3 _ (List.getElem_mem hjl)
    generalize is[j] = it at s1 s2 s3 k1 k2 k4 k5
    obtain ⟨hv, bw, lw⟩ := it
    have N2 := N1.trans n
    refine ⟨p, _, rfl, .inl (.inl (n.tup s1)), rfl, _, _, rfl, _, _, rfl, _, _, rfl, rfl, ?_⟩
    have s2 := n.lst s2
    have s3 := n.lst s3
    have n0 := n
    clear n
    -- the tails
    refine ⟨_, rfl, sa, true, M, L, rfl, N2.sg hS, hV, N2.tb, fun H3 sb n3 hSL => ?_⟩
    obtain ⟨js, rs, g1, g2, g3, g4⟩ := hSL
    refine ⟨sb, rfl, ⟨_, .inl (.inl g1)⟩, ?_⟩
    have N3 := N2.trans n3
    refine for_it (n := (rs.map V.ref).length) walk_list (fun _ σ' H' => ∃ (x6 x7 x8 x9 x10 : Option V), σ' = [some (.ref sa), some (.ref fa), some (.ref ga), some (.int (hv : Nat)), some (.ref wa), some (.ref lo), x6, x7, x8, x9, x10] ∧ Nx T H3 H')
      ⟨x6, x7, x8, x9, x10, rfl, Nx.refl N3.tb⟩ (fun _ _ _ _ h => let ⟨_, _, _, _, _, _, n⟩ := h; n.seqL (.inl (.inl g1))) (fun j x σ' H' H'' hj h y => ?_) (fun σ' H' h => ?_)
    rotate_left
    · obtain ⟨x6, x7, x8, x9, x10, rfl, n⟩ := h
      exact ⟨_, _, _, _, _, _, _, _, rfl, n0.trans (n3.trans n)⟩
    obtain ⟨x6, x7, x8, x9, x10, rfl, n⟩ := h
    obtain ⟨rfl, hx⟩ := y
    rw [List.getElem?_map] at hx
    cases hp2 : rs[j]? with
    | none => rw [hp2] at hx; cases hx
    | some p2 =>
    rw [hp2] at hx
    cases hx
    have hjl : j < js.length := by
      have := g2.length
      have := (List.getElem?_eq_some_iff.mp hp2).1
      omega
    obtain ⟨p', hp', ta, bk, t1, t2, t3, _, _⟩ := paired_get g2 (List.getElem?_eq_getElem hjl)
    rw [hp2] at hp'
    cases hp'
    obtain ⟨m1, m2, o2, m3, m4, m5⟩ := g3 _ (List.getElem_mem hjl)
    generalize js[j] = it at t1 t2 t3 m1 m2 m4 m5
    obtain ⟨tv, tw, kw⟩ := it
    have N4 := N3.trans n
    refine ⟨p2, _, rfl, .inl (.inl (n.tup t1)), rfl, _, _, rfl, _, _, rfl, _, _, rfl, rfl, ?_⟩
    have t2 := n.lst t2
    have t3 := n.lst t3
    refine ⟨_, rfl, _, rfl, _, rfl, _, rfl, sa, fa, hv, tv, M, L, n1, rfl, N4.sg hS, hV, N4.seqT hF, k1, m1, N4.tb, fun H5 lv n5 hl => ?_⟩
    have N5 := N4.trans n5
    refine ⟨_, rfl, _, rfl, _, rfl, _, rfl, sa, ga, hv, tv, M, L, n2, rfl, N5.sg hS, hV, N5.seqT hG, k1, m1, N5.tb, fun H6 rv n6 hr => ?_⟩
    have N6 := N5.trans n6
    have nxt := ((n.trans n5).trans n6)
    rcases hl with rfl | ⟨la, lm, rfl, l1, l2⟩
    · exact ⟨_, rfl, false, rfl, iteF (iteF ⟨_, _, _, _, _, rfl, nxt⟩)⟩
    rcases hr with rfl | ⟨ra, rm, rfl, r1, r2⟩
    · exact ⟨_, rfl, true, rfl, iteT ⟨_, rfl, false, rfl, iteF ⟨_, _, _, _, _, rfl, nxt⟩⟩⟩
    have n36 := n3.trans nxt
    refine ⟨_, rfl, true, rfl, iteT ⟨_, rfl, true, rfl, iteT ⟨_, rfl, _, rfl, _, rfl, _, rfl, _, rfl, _, rfl, sz6, fun r hr6 => ?_⟩⟩⟩
    refine q _ r [bw, lw, lm, rm, kw, tw] (N6.new hr6) ⟨[wa, lo, la, ra, bk, ta], upd_same, .cons (upd_keep (n36.lst s2) hr6) (.cons (upd_keep (n36.lst s3) hr6) (.cons (upd_keep (n6.lst l1) hr6) (.cons (upd_keep r1 hr6) (.cons (upd_keep ((n5.trans n6).lst t3) hr6) (.cons (upd_keep ((n5.trans n6).lst t2) hr6) .nil)))))⟩
      ⟨bw, lw, lm, rm, kw, tw, hv, tv, o1, o2, rfl, k1, m1, k3, m3, k2, k4, k5, m2, m4, m5, l2, r2⟩
theorem scRW : FnScope ["rounds", "times", "head", "loop", "left", "right", "back", "tail", "begun", "ended"] ["rounds", "times"] (defScope sRW) := ⟨rfl, rfl, rfl, by decide +kernel, rfl, by decide +kernel, by decide +kernel⟩
def rp (n : Nat) (l : List Nat) : List Nat := (List.replicate n l).flatten
theorem rp_ivs (n : Nat) (l : List Nat) : (List.replicate n (ivs l)).flatten = ivs (rp n l) := by
  unfold rp ivs
  rw [List.map_flatten, List.map_replicate]
theorem ivs_app (a b : List Nat) : ivs a ++ ivs b = ivs (a ++ b) := by simp
theorem rp_len (n : Nat) (l : List Nat) : (rp n l).length = n * l.length := by
  unfold rp
  rw [List.length_flatten, List.map_replicate, List.sum_replicate_nat]
theorem ivs_len (l : List Nat) : (ivs l).length = l.length := by simp
/-- the two words of rounds -/
def rwd (n : Nat) (h lo m ba ta : List Nat) : List Nat := h ++ rp n lo ++ m ++ (rp n ba ++ ta)
def spRW (T : List Addr) : Sp := fun vs H Q _ => ∃ (r : Addr) (n : Nat) (h lo le ri ba ta : List Nat), vs = [.ref r, .int (n : Nat)] ∧ RT H r [h, lo, le, ri, ba, ta] ∧ (∀ w ∈ [h, lo, le, ri, ba, ta], w.length ≤ 100) ∧ n ≤ 20 ∧ Tb T H ∧
  ∀ H' t a b, Nx T H H' → H' t = some (.tup [.ref a, .ref b]) → H' a = some (.lst (ivs (rwd n h lo le ba ta))) → H' b = some (.lst (ivs (rwd n h lo ri ba ta))) → H t = none → H a = none → H b = none → a ≠ b → Q (.ref t) H'
theorem ok_rw (D : Dn K mg "round_words" sRW) (B : Bn mg) : Cal P w K mg base 1 "round_words" (spRW T) [] := by
  refine cal_of D scRW (fun _ _ _ _ _ _ us h => by match us, h with | [_, _], _ => rfl) (fun vs H Q E h => ?_) (fun f cdv A outer s H vs Q E hr h => ?_)
  · obtain ⟨r, n, h, lo, le, ri, ba, ta, rfl, _⟩ := h
    rfl
  · obtain ⟨r, n, h, lo, le, ri, ba, ta, rfl, hR, hl, hn, hT, q⟩ := h
    refine ⟨_, (pss_cons (ps_asg (pv 0) (pg_tup rfl (pgs_cons (pg_name (i := 2) scRW.nd rfl (by first | exact .inl rfl | exact .inr rfl)) (pgs_cons (pg_name (i := 3) scRW.nd rfl (by first | exact .inl rfl | exact .inr rfl)) (pgs_cons (pg_name (i := 4) scRW.nd rfl (by first | exact .inl rfl | exact .inr rfl)) (pgs_cons (pg_name (i := 5) scRW.nd rfl (by first | exact .inl rfl | exact .inr rfl)) (pgs_cons (pg_name (i := 6) scRW.nd rfl (by first | exact .inl rfl | exact .inr rfl)) (pgs_cons (pg_name (i := 7) scRW.nd rfl (by first | exact .inl rfl | exact .inr rfl)) pgs_nil))))))))
      (pss_cons (ps_set (i := 8) scRW.nd rfl (by first | exact .inl rfl | exact .inr rfl) (pe_op op_cat (pv 2) (pe_op op_rep (pv 3) (pv 1))))
      (pss_cons (ps_set (i := 9) scRW.nd rfl (by first | exact .inl rfl | exact .inr rfl) (pe_op op_cat (pe_op op_rep (pv 6) (pv 1)) (pv 7)))
      (pss_one (ps_ret (pe_tup (pa_cons (pe_op op_cat (pe_op op_cat (pv 8) (pv 4)) (pv 9)) (pa_cons (pe_op op_cat (pe_op op_cat (pv 8) (pv 5)) (pv 9)) pa_nil)))))))), ?_⟩
    obtain ⟨as, r1, r2⟩ := hR
    cases r2 with
    | @cons a1 _ _ _ w1 r2 =>
    cases r2 with
    | @cons a2 _ _ _ w2 r2 =>
    cases r2 with
    | @cons a3 _ _ _ w3 r2 =>
    cases r2 with
    | @cons a4 _ _ _ w4 r2 =>
    cases r2 with
    | @cons a5 _ _ _ w5 r2 =>
    cases r2 with
    | @cons a6 _ _ _ w6 r2 =>
    cases r2
    have l1 := hl h (by simp)
    have l2 := hl lo (by simp)
    have l3 := hl le (by simp)
    have l4 := hl ri (by simp)
    have l5 := hl ba (by simp)
    have l6 := hl ta (by simp)
    have m2 : n * lo.length ≤ 20 * 100 := Nat.mul_le_mul hn l2
    have m5 : n * ba.length ≤ 20 * 100 := Nat.mul_le_mul hn l5
    have sz : (10000 : Nat) ≤ sizeLine := by decide
    refine ⟨_, rfl, r, _, rfl, .inl (.inl r1), rfl, _, _, rfl, _, _, rfl, _, _, rfl, _, _, rfl, _, _, rfl, _, _, rfl, rfl, ?_⟩
    refine ⟨_, rfl, _, rfl, _, rfl, a2, n, _, rfl, rfl, w2, by omega, by omega, ?_, fun p1 hp1 => ?_⟩
    · rw [ivs_len, Int.toNat_natCast, Nat.mul_comm]; omega
    rw [Int.toNat_natCast, rp_ivs]
    have N1 := (Nx.refl hT).new hp1 (o := .lst (ivs (rp n lo)))
    have e1 : upd H p1 (.lst (ivs (rp n lo))) p1 = some (.lst (ivs (rp n lo))) := upd_same
    refine ⟨a1, p1, _, _, rfl, rfl, N1.lst w1, e1, by rw [ivs_len, ivs_len, rp_len]; omega, fun p2 hp2 => ?_⟩
    rw [ivs_app]
    have N2 := N1.new hp2 (o := .lst (ivs (h ++ rp n lo)))
    have e2 : upd (upd H p1 (.lst (ivs (rp n lo)))) p2 (.lst (ivs (h ++ rp n lo))) p2 = some (.lst (ivs (h ++ rp n lo))) := upd_same
    generalize upd (upd H p1 (.lst (ivs (rp n lo)))) p2 (.lst (ivs (h ++ rp n lo))) = H2 at N2 e2
    refine ⟨_, rfl, _, rfl, a5, n, _, rfl, rfl, N2.lst w5, by omega, by omega, ?_, fun p3 hp3 => ?_⟩
    · rw [ivs_len, Int.toNat_natCast, Nat.mul_comm]; omega
    rw [Int.toNat_natCast, rp_ivs]
    have N3 := N2.new hp3 (o := .lst (ivs (rp n ba)))
    have e3 : upd H2 p3 (.lst (ivs (rp n ba))) p3 = some (.lst (ivs (rp n ba))) := upd_same
    have e2 := upd_keep e2 hp3 (o := .lst (ivs (rp n ba)))
    generalize upd H2 p3 (.lst (ivs (rp n ba))) = H3 at N3 e3 e2
    refine ⟨_, rfl, p3, a6, _, _, rfl, rfl, e3, N3.lst w6, by rw [ivs_len, ivs_len, rp_len]; omega, fun p4 hp4 => ?_⟩
    rw [ivs_app]
    have N4 := N3.new hp4 (o := .lst (ivs (rp n ba ++ ta)))
    have e4 : upd H3 p4 (.lst (ivs (rp n ba ++ ta))) p4 = some (.lst (ivs (rp n ba ++ ta))) := upd_same
    have e2 := upd_keep e2 hp4 (o := .lst (ivs (rp n ba ++ ta)))
    generalize upd H3 p4 (.lst (ivs (rp n ba ++ ta))) = H4 at N4 e4 e2
    -- begun + left + ended
    refine ⟨_, rfl, _, rfl, p2, a3, _, _, rfl, rfl, e2, N4.lst w3, by rw [ivs_len, ivs_len, List.length_append, rp_len]; omega, fun p5 hp5 => ?_⟩
    rw [ivs_app]
    have N5 := N4.new hp5 (o := .lst (ivs (h ++ rp n lo ++ le)))
    have e5 : upd H4 p5 (.lst (ivs (h ++ rp n lo ++ le))) p5 = some (.lst (ivs (h ++ rp n lo ++ le))) := upd_same
    have e2 := upd_keep e2 hp5 (o := .lst (ivs (h ++ rp n lo ++ le)))
    have e4 := upd_keep e4 hp5 (o := .lst (ivs (h ++ rp n lo ++ le)))
    generalize upd H4 p5 (.lst (ivs (h ++ rp n lo ++ le))) = H5 at N5 e5 e4 e2
    refine ⟨_, rfl, p5, p4, _, _, rfl, rfl, e5, e4, by simp only [ivs_len, List.length_append, rp_len]; omega, fun p6 hp6 => ?_⟩
    rw [ivs_app]
    have N6 := N5.new hp6 (o := .lst (ivs (h ++ rp n lo ++ le ++ (rp n ba ++ ta))))
    have e6 : upd H5 p6 (.lst (ivs (h ++ rp n lo ++ le ++ (rp n ba ++ ta)))) p6 = some (.lst (ivs (h ++ rp n lo ++ le ++ (rp n ba ++ ta)))) := upd_same
    have e2 := upd_keep e2 hp6 (o := .lst (ivs (h ++ rp n lo ++ le ++ (rp n ba ++ ta))))
    have e4 := upd_keep e4 hp6 (o := .lst (ivs (h ++ rp n lo ++ le ++ (rp n ba ++ ta))))
    have f6 : H p6 = none := N5.free hp6
    generalize upd H5 p6 (.lst (ivs (h ++ rp n lo ++ le ++ (rp n ba ++ ta)))) = H6 at N6 e6 e4 e2
    -- begun + right + ended
    refine ⟨_, rfl, _, rfl, p2, a4, _, _, rfl, rfl, e2, N6.lst w4, by rw [ivs_len, ivs_len, List.length_append, rp_len]; omega, fun p7 hp7 => ?_⟩
    rw [ivs_app]
    have N7 := N6.new hp7 (o := .lst (ivs (h ++ rp n lo ++ ri)))
    have e7 : upd H6 p7 (.lst (ivs (h ++ rp n lo ++ ri))) p7 = some (.lst (ivs (h ++ rp n lo ++ ri))) := upd_same
    have e6 := upd_keep e6 hp7 (o := .lst (ivs (h ++ rp n lo ++ ri)))
    have e4 := upd_keep e4 hp7 (o := .lst (ivs (h ++ rp n lo ++ ri)))
    generalize upd H6 p7 (.lst (ivs (h ++ rp n lo ++ ri))) = H7 at N7 e7 e4 e6
    refine ⟨_, rfl, p7, p4, _, _, rfl, rfl, e7, e4, by simp only [ivs_len, List.length_append, rp_len]; omega, fun p8 hp8 => ?_⟩
    rw [ivs_app]
    have N8 := N7.new hp8 (o := .lst (ivs (h ++ rp n lo ++ ri ++ (rp n ba ++ ta))))
    have e8 : upd H7 p8 (.lst (ivs (h ++ rp n lo ++ ri ++ (rp n ba ++ ta)))) p8 = some (.lst (ivs (h ++ rp n lo ++ ri ++ (rp n ba ++ ta)))) := upd_same
    have f8 : H p8 = none := N7.free hp8
    have ne : p6 ≠ p8 := ne_of_none e6 hp8
    have e6 := upd_keep e6 hp8 (o := .lst (ivs (h ++ rp n lo ++ ri ++ (rp n ba ++ ta))))
    generalize upd H7 p8 (.lst (ivs (h ++ rp n lo ++ ri ++ (rp n ba ++ ta)))) = H8 at N8 e8 e6
    refine ⟨sz2, fun t ht => q _ t p6 p8 (N8.new ht) upd_same (upd_keep e6 ht) (upd_keep e8 ht) (N8.free ht) f6 f8 ne⟩
end
end K37
set_option Elab.async false
set_option linter.all false
set_option maxRecDepth 100000
set_option maxHeartbeats 4000000
/-! set(xs), x not in it: xs a list of at most one pair of empty tuples. -/
namespace PS
open PySem PySem.Spec PyProof.Rows L2
def h0 : Int := reduceHash (Builtin.Tuple.tupleHashOf [])
def hh : Int := reduceHash (Builtin.Tuple.tupleHashOf [h0, h0])
def t0 (led : Bool) : SetTable := .fresh 0 0 led
def sl : Nat := SetTable.bits hh % 8
def t1 (led : Bool) : SetTable := ((t0 led).put sl).1
theorem hash0 (P : Program) (w : World) : tupleKeyHash (intKind P w) [] = h0 := rfl
theorem probe0 (led : Bool) : (t0 led).probe (fun i => (((#[] : Array (Int × Value))[i]?).map (·.1)).getD 0) hh ((t0 led).probeStart hh) = some (.empty sl none) := by cases led <;> decide +kernel
theorem put0 (led : Bool) : (t0 led).put sl = (t1 led, 0) := by cases led <;> decide +kernel
theorem full1 (led : Bool) : (t1 led).tooFull = false := by cases led <;> decide +kernel
theorem gw0 (led : Bool) : (t0 led).gaveWay = false := by cases led <;> decide +kernel
theorem gw1 (led : Bool) : (t1 led).gaveWay = false := by cases led <;> decide +kernel
theorem plain0 (led : Bool) : (t0 led).plain = true := by cases led <;> decide +kernel
theorem plain1 (led : Bool) : (t1 led).plain = true := by cases led <;> decide +kernel
theorem fits0 (led : Bool) : (t0 led).fits 0 = true := by cases led <;> decide +kernel
theorem fits1 (led : Bool) : (t1 led).fits 1 = true := by cases led <;> decide +kernel
theorem ins0 (x : Value) : SetTable.insertAt (#[] : Array (Int × Value)) 0 (hh, x) = #[(hh, x)] := by rfl
theorem slot1 (led : Bool) : (t1 led).slot sl = .live 0 := by cases led <;> decide +kernel
theorem same1 (led : Bool) : (t1 led).sameMemory (t1 led).moves (t1 led).mask = some true := sameMem _
theorem hashAt1 (x : Value) : (fun i => (((#[(hh, x)] : Array (Int × Value))[i]?).map (·.1)).getD 0) = fun i => if i = 0 then hh else 0 := by
  funext i
  cases i with
  | zero => rfl
  | succ i => rfl
theorem probe1 (led : Bool) : ∃ nx, (t1 led).probe (fun i => if i = 0 then hh else 0) hh ((t1 led).probeStart hh) = some (.candidate sl 0 nx) := by
  have h : (match (t1 led).probe (fun i => if i = 0 then hh else 0) hh ((t1 led).probeStart hh) with | some (.candidate j i _) => decide (j = sl ∧ i = 0) | _ => false) = true := by cases led <;> decide +kernel
  revert h
  cases (t1 led).probe (fun i => if i = 0 then hh else 0) hh ((t1 led).probeStart hh) with
  | none => intro h; cases h
  | some m =>
    cases m with
    | empty _ _ => intro h; cases h
    | candidate j i nx =>
      intro h
      obtain ⟨rfl, rfl⟩ := of_decide_eq_true h
      exact ⟨nx, rfl⟩

/-! ### a pair of empty tuples -/
def NP (h : Heap) (p : Addr) : Prop := ∃ a b, IsTup h p #[.ref a, .ref b] ∧ IsTup h a #[] ∧ IsTup h b #[]
theorem NP.keeps {h h' : Heap} {p : Addr} (n : NP h p) (hk : ∀ b o, h.get? b = some o → h'.get? b = some o) : NP h' p := by
  obtain ⟨a, b, h1, h2, h3⟩ := n
  exact ⟨a, b, h1.keeps hk, h2.keeps hk, h3.keeps hk⟩
def dP : PyData := .tuple [.tuple [], .tuple []]
theorem NP.reads {h : Heap} {p : Addr} (n : NP h p) : ∃ as, Reads h (.ref p) dP as := by
  obtain ⟨a, b, ⟨o, ho, hc, k, hd⟩, ⟨oa, ha, hca, ka, hda⟩, ⟨ob, hb, hcb, kb, hdb⟩⟩ := n
  have ra : Reads h (.ref a) (.tuple []) [] := Reads.tuple ha hca hda ReadsAll.nil
  have rb : Reads h (.ref b) (.tuple []) [] := Reads.tuple hb hcb hdb ReadsAll.nil
  exact ⟨_, Reads.tuple ho hc hd (ReadsAll.cons ra (ReadsAll.cons rb ReadsAll.nil))⟩
section
variable {P : Program} {w : World} {A : Around} {E : Value → Shared → Prop} {s : Shared}
theorem emptyKey {h : Heap} {a : Addr} (x : IsTup h a #[]) : IsTupleKey (intKind P w) h [] a := by
  obtain ⟨o, ho, hc, n, hd⟩ := x
  exact ⟨o, #[], n, ho, hc, hd, .nil⟩
theorem isTup_is {s : Shared} {a : Addr} {its : Array Value} (x : IsTup s.heap a its) : s.TypeIs (.ref a) "tuple" := let ⟨o, ho, hc, _⟩ := x; ⟨o, ho, hc⟩
theorem hash_pair {p : Addr} {Q : Int → Shared → Prop} (hu : A.units + 8 < cLine) (n : NP s.heap p) (h : Q hh { s with toks := s.toks + 3 }) : wpAny (model P w) A (pyHash (.ref p)) Q E s := by
  obtain ⟨a, b, hp, ha, hb⟩ := n
  have hT := isTup_is hp
  obtain ⟨o, ho, hc, k, hd⟩ := hp
  unfold pyHash
  first | unfold pyHashByItsType | skip
  first | refine wpAny_bind (wpAny_cRoomFor_or (.inr (by omega)) ?_) | skip
  refine wpAny_bind (wpAny_specialOf hT F.slot_tuple_hash.lookup ?_)
  show wpAny _ _ (if (some (Value.builtin "tuple.__hash__") == some Value.none) = true then _ else _) Q E s
  rw [if_neg (by rw [beq_builtin_none]; exact Bool.false_ne_true)]
  refine wpAny_bind (wpAny_specialOf hT F.slot_tuple_hash.lookup ?_)
  show wpAny _ _ (callSpecialIfBoundUnlessNone? (.ref p) "__hash__" _ >>= _) Q E s
  refine wpAny_bind (wpAny_callSpecialIfBoundUnlessNone?_slot hT F.slot_tuple_hash (wpAny_call_entry F.slot_tuple_hash hT F.entry_tuple_hash ?_ (F.args_tuple_hash_1 _)))
  show wpAny _ _ (Builtin.Tuple.tupleItemsOf (.ref p) >>= _) _ _ s
  refine wpAny_bind (wpAny_tupleItemsOf ho hd ?_)
  refine wpAny_bind ?_
  rw [← Array.forIn_toList]
  refine wpAny_forIn_list _
    (fun rest (b' : Array Int) s' => ∃ k, (k = 0 ∧ rest = [Value.ref a, .ref b] ∨ k = 1 ∧ rest = [Value.ref b] ∨ k = 2 ∧ rest = []) ∧ b'.toList = List.replicate k h0 ∧ s' = { s with toks := s.toks + k })
    _ ?_ ?_ _ _ ⟨0, .inl ⟨rfl, rfl⟩, rfl, rfl⟩
  · rintro x rest b' s' ⟨k, hk, hb', rfl⟩
    have step : ∀ y, IsTup s.heap y #[] → wpAny (model P w) A.in1 (pyHash (.ref y)) (fun r s'' => r = h0 ∧ s'' = { s with toks := s.toks + (k + 1) }) (fun e s' => E e s') { s with toks := s.toks + k } := fun y hy =>
      wpAny_pyHash_tuple (knd := intKind P w) (ks := []) (s := { s with toks := s.toks + k }) (by show A.units + 1 < cLine; omega) (emptyKey hy) ⟨rfl, rfl⟩
    rcases hk with ⟨rfl, hk⟩ | ⟨rfl, hk⟩ | ⟨rfl, hk⟩
    · cases hk
      refine wpAny_bind (m := pyHash (.ref a)) (wpAny_mono (step a ha) (fun r s'' hr => ?_) fun _ _ z => z)
      obtain ⟨rfl, rfl⟩ := hr
      exact wpAny_pure ⟨1, .inr (.inl ⟨rfl, rfl⟩), by simp [hb'], rfl⟩
    · cases hk
      refine wpAny_bind (m := pyHash (.ref b)) (wpAny_mono (step b hb) (fun r s'' hr => ?_) fun _ _ z => z)
      obtain ⟨rfl, rfl⟩ := hr
      exact wpAny_pure ⟨2, .inr (.inr ⟨rfl, rfl⟩), by simp [hb'], rfl⟩
    · cases hk
  · rintro b' s' ⟨k, hk, hb', rfl⟩
    rcases hk with ⟨_, hk⟩ | ⟨_, hk⟩ | ⟨rfl, _⟩
    · cases hk
    · cases hk
    show wpAny _ _ (retInt (Builtin.Tuple.tupleHashOf b'.toList)) _ _ _
    rw [hb']
    refine wpAny_ret_mkInt ?_
    show wpAny _ _ (if (decide (-(2 : Int) ^ 63 ≤ Builtin.Tuple.tupleHashOf [h0, h0]) && decide (Builtin.Tuple.tupleHashOf [h0, h0] < 2 ^ 63)) = true then _ else _) Q E _
    have hhv : hh = reduceHash (Builtin.Tuple.tupleHashOf [h0, h0]) := rfl
    rw [hhv] at h
    unfold reduceHash at h
    by_cases hr : (decide (-(2 : Int) ^ 63 ≤ Builtin.Tuple.tupleHashOf [h0, h0]) && decide (Builtin.Tuple.tupleHashOf [h0, h0] < 2 ^ 63)) = true
    · rw [if_pos hr]
      rw [if_pos hr] at h
      exact wpAny_pure h
    · rw [if_neg hr]
      rw [if_neg hr] at h
      exact wpAny_bind (wpAny_rule (wpAny_pure h))
/-- a tuple of tuples is of no class statement -/
theorem class_empty {a : Addr} {n : Nat} {Q : Bool → Shared → Prop} (x : IsTup s.heap a #[]) (h : Q false s) : wpAny (model P w) A (ofAClassStatement (n + 1) (.ref a)) Q E s := by
  have hT := isTup_is x
  obtain ⟨o, ho, hc, k, hd⟩ := x
  unfold ofAClassStatement
  refine wpAny_bind (wpAny_typeOf hT ?_)
  dsimp only
  have e : (("tuple" : String) == "tuple") = true := by decide
  simp only [e, if_true, Bool.not_true, Bool.false_eq_true, if_false]
  try refine wpAny_bind (wpAny_pure ?_)
  try simp only [Bool.not_true, Bool.false_eq_true, if_false]
  show wpAny _ _ (seqItems? (.ref a) >>= _) _ _ s
  refine wpAny_bind (wpAny_seqItems ho hd ?_)
  dsimp only
  exact wpAny_bind (wpAny_pure (wpAny_pure h))
theorem class_pair {p : Addr} {Q : Bool → Shared → Prop} (n : NP s.heap p) (h : Q false s) : wpAny (model P w) A (ofAClassStatement 8 (.ref p)) Q E s := by
  obtain ⟨a, b, hp, ha, hb⟩ := n
  have hT := isTup_is hp
  obtain ⟨o, ho, hc, k, hd⟩ := hp
  unfold ofAClassStatement
  refine wpAny_bind (wpAny_typeOf hT ?_)
  dsimp only
  have e : (("tuple" : String) == "tuple") = true := by decide
  simp only [e, if_true, Bool.not_true, Bool.false_eq_true, if_false]
  try refine wpAny_bind (wpAny_pure ?_)
  try simp only [Bool.not_true, Bool.false_eq_true, if_false]
  show wpAny _ _ (seqItems? (.ref p) >>= _) _ _ s
  refine wpAny_bind (wpAny_seqItems ho hd ?_)
  dsimp only
  refine wpAny_bind ?_
  show wpAny _ _ (forIn #[Value.ref a, .ref b] _ _) _ _ s
  rw [← Array.forIn_toList]
  refine wpAny_forIn_list _ (fun rest r s' => r.1 = none ∧ s' = s ∧ ∀ v ∈ rest, ∃ y, v = Value.ref y ∧ IsTup s.heap y #[]) _ ?_ ?_ _ _ ⟨rfl, rfl, fun v hv => ?_⟩
  · rintro v rest r s' ⟨hr, rfl, hall⟩
    obtain ⟨y, rfl, hy⟩ := hall v List.mem_cons_self
    refine wpAny_bind (class_empty hy ?_)
    simp only [Bool.false_eq_true, if_false]
    exact wpAny_pure ⟨rfl, rfl, fun u hu' => hall u (List.mem_cons_of_mem _ hu')⟩
  · rintro ⟨r1, r2⟩ s' ⟨hr, rfl, _⟩
    simp only at hr
    subst hr
    exact wpAny_pure h
  · have hv : v = .ref a ∨ v = .ref b := by simpa using hv
    rcases hv with rfl | rfl
    · exact ⟨a, rfl, ha⟩
    · exact ⟨b, rfl, hb⟩
theorem hashBy_empty {a : Addr} {n : Nat} {Q : Bool → Shared → Prop} (x : IsTup s.heap a #[]) (h : Q true s) : wpAny (model P w) A (hashByValue (n + 1) (.ref a)) Q E s := by
  have hT := isTup_is x
  obtain ⟨o, ho, hc, k, hd⟩ := x
  unfold hashByValue
  refine wpAny_bind (wpAny_specialOf hT F.slot_tuple_hash.lookup ?_)
  show wpAny _ _ (seqItems? (.ref a) >>= _) _ _ s
  refine wpAny_bind (wpAny_seqItems ho hd ?_)
  exact wpAny_bind (wpAny_pure (wpAny_pure h))
theorem hashBy_pair {p : Addr} {Q : Bool → Shared → Prop} (n : NP s.heap p) (h : Q true s) : wpAny (model P w) A (hashByValue 8 (.ref p)) Q E s := by
  obtain ⟨a, b, hp, ha, hb⟩ := n
  have hT := isTup_is hp
  obtain ⟨o, ho, hc, k, hd⟩ := hp
  unfold hashByValue
  refine wpAny_bind (wpAny_specialOf hT F.slot_tuple_hash.lookup ?_)
  show wpAny _ _ (seqItems? (.ref p) >>= _) _ _ s
  refine wpAny_bind (wpAny_seqItems ho hd ?_)
  refine wpAny_bind ?_
  show wpAny _ _ (forIn #[Value.ref a, .ref b] _ _) _ _ s
  rw [← Array.forIn_toList]
  refine wpAny_forIn_list _ (fun rest r s' => r.1 = none ∧ s' = s ∧ ∀ v ∈ rest, ∃ y, v = Value.ref y ∧ IsTup s.heap y #[]) _ ?_ ?_ _ _ ⟨rfl, rfl, fun v hv => ?_⟩
  · rintro v rest r s' ⟨hr, rfl, hall⟩
    obtain ⟨y, rfl, hy⟩ := hall v List.mem_cons_self
    refine wpAny_bind (hashBy_empty hy ?_)
    simp only [Bool.not_true, Bool.false_eq_true, if_false]
    exact wpAny_pure ⟨rfl, rfl, fun u hu' => hall u (List.mem_cons_of_mem _ hu')⟩
  · rintro ⟨r1, r2⟩ s' ⟨hr, rfl, _⟩
    simp only at hr
    subst hr
    exact wpAny_pure h
  · have hv : v = .ref a ∨ v = .ref b := by simpa using hv
    rcases hv with rfl | rfl
    · exact ⟨a, rfl, ha⟩
    · exact ⟨b, rfl, hb⟩
theorem quiet_empty {a : Addr} {n : Nat} {Q : Bool → Shared → Prop} (x : IsTup s.heap a #[]) (h : Q true s) : wpAny (model P w) A (eqIsQuiet (n + 1) (.ref a)) Q E s := by
  have hT := isTup_is x
  obtain ⟨o, ho, hc, k, hd⟩ := x
  unfold eqIsQuiet
  refine wpAny_bind (wpAny_specialOf hT F.slot_tuple_eq.lookup ?_)
  show wpAny _ _ (isInstance (.ref a) (.type "tuple") >>= _) _ _ s
  refine wpAny_bind (wpAny_isInstance hT isSubtype_tuple_tuple ?_)
  simp only [Bool.not_true, Bool.false_eq_true, if_false]
  refine wpAny_bind (wpAny_seqItems ho hd ?_)
  exact wpAny_bind (wpAny_pure (wpAny_pure h))
theorem quiet_pair {p : Addr} {Q : Bool → Shared → Prop} (n : NP s.heap p) (h : Q true s) : wpAny (model P w) A (eqIsQuiet 8 (.ref p)) Q E s := by
  obtain ⟨a, b, hp, ha, hb⟩ := n
  have hT := isTup_is hp
  obtain ⟨o, ho, hc, k, hd⟩ := hp
  unfold eqIsQuiet
  refine wpAny_bind (wpAny_specialOf hT F.slot_tuple_eq.lookup ?_)
  show wpAny _ _ (isInstance (.ref p) (.type "tuple") >>= _) _ _ s
  refine wpAny_bind (wpAny_isInstance hT isSubtype_tuple_tuple ?_)
  simp only [Bool.not_true, Bool.false_eq_true, if_false]
  refine wpAny_bind (wpAny_seqItems ho hd ?_)
  refine wpAny_bind ?_
  show wpAny _ _ (forIn #[Value.ref a, .ref b] _ _) _ _ s
  rw [← Array.forIn_toList]
  refine wpAny_forIn_list _ (fun rest r s' => r.1 = none ∧ s' = s ∧ ∀ v ∈ rest, ∃ y, v = Value.ref y ∧ IsTup s.heap y #[]) _ ?_ ?_ _ _ ⟨rfl, rfl, fun v hv => ?_⟩
  · rintro v rest r s' ⟨hr, rfl, hall⟩
    obtain ⟨y, rfl, hy⟩ := hall v List.mem_cons_self
    refine wpAny_bind (quiet_empty hy ?_)
    simp only [Bool.not_true, Bool.false_eq_true, if_false]
    exact wpAny_pure ⟨rfl, rfl, fun u hu' => hall u (List.mem_cons_of_mem _ hu')⟩
  · rintro ⟨r1, r2⟩ s' ⟨hr, rfl, _⟩
    simp only at hr
    subst hr
    exact wpAny_pure h
  · have hv : v = .ref a ∨ v = .ref b := by simpa using hv
    rcases hv with rfl | rfl
    · exact ⟨a, rfl, ha⟩
    · exact ⟨b, rfl, hb⟩
/-- a search among pairs shows nothing -/
theorem seen_pair {p q : Addr} {Q : Bool → Shared → Prop} (hp : NP s.heap p) (hq : NP s.heap q) (h : Q false s) : wpAny (model P w) A (searchCouldBeSeen (.ref p) [.ref q]) Q E s := by
  unfold searchCouldBeSeen
  refine wpAny_bind ?_
  refine wpAny_forIn_list _ (fun rest r s' => r.1 = none ∧ s' = s ∧ ∀ y ∈ rest, y = Value.ref q) _ ?_ ?_ _ _ ⟨rfl, rfl, fun y hy => by simpa using hy⟩
  · rintro v rest r s' ⟨hr, rfl, hall⟩
    obtain rfl := hall v List.mem_cons_self
    have rest' : ∀ y ∈ rest, y = Value.ref q := fun u hu' => hall u (List.mem_cons_of_mem _ hu')
    dsimp only
    by_cases hv : (p == q || (carriedByValue (.ref p) && carriedByValue (.ref q))) = true
    · refine wp_if_pos hv ?_
      exact wpAny_pure ⟨rfl, rfl, rest'⟩
    · refine wp_if_neg hv ?_
      refine wpAny_bind (quiet_pair hp ?_)
      simp only [Bool.not_true, Bool.false_eq_true, if_false]
      refine wpAny_bind (quiet_pair hq ?_)
      simp only [Bool.not_true, Bool.false_eq_true, if_false]
      refine wpAny_bind (class_pair hp ?_)
      simp only [Bool.false_eq_true, if_false]
      refine wpAny_bind (class_pair hq ?_)
      simp only [Bool.false_eq_true, if_false]
      exact wpAny_pure ⟨rfl, rfl, rest'⟩
  · rintro ⟨r1, r2⟩ s' ⟨hr, rfl, _⟩
    simp only at hr
    subst hr
    exact wpAny_pure h

/-! ### the set -/
def obj0 (led : Bool) : Obj := { cls := .type "set", dict := none, data := .set #[] 0 (t0 led) }
def obj1 (led : Bool) (p : Addr) : Obj := { cls := .type "set", dict := none, data := .set #[(hh, .ref p)] 1 (t1 led) }
def PSt (h : Heap) (d : Addr) (m : Option Addr) : Prop := ∃ led, h.get? d = some (match m with | none => obj0 led | some p => obj1 led p)
theorem eq_pair {p q : Addr} {Q : Bool → Shared → Prop} (hp : NP s.heap p) (hq : NP s.heap q) (hu : A.units + 8 < cLine) (h : Q true s) : wpAny (model P w) A (eqBool (.ref q) (.ref p)) Q E s := by
  obtain ⟨as, r1⟩ := hq.reads
  obtain ⟨bs, r2⟩ := hp.reads
  exact SeqAt.eqBoolOverData P w A E s (.ref q) (.ref p) dP dP as bs Q r1 r2 (by decide) (by decide) (by show A.units + 2 < cLine; omega) h
/-- the search in an empty set -/
theorem search0 {d : Addr} {led : Bool} {x : Value} {adding : Bool} {f : Nat} {Q : SetFound → Shared → Prop} (ho : s.heap.get? d = some (obj0 led)) (h : Q (.free sl false) s) : wpAny (model P w) A (setSearchFrom d x hh adding (f + 1) none) Q E s := by
  rw [setSearchFrom_succ]
  refine wpAny_bind (wpAny_setState_of ho rfl (fits0 led) ?_)
  dsimp only
  refine wp_if_neg (by rw [gw0]; decide) ?_
  try refine wpAny_bind (wpAny_pure ?_)
  have e : ((none : Option SetTable.Probe).getD ((t0 led).probeStart hh)).j = sl := by cases led <;> decide +kernel
  exact wpAny_pure (by rw [e]; exact h)
/-- .. where one stands -/
theorem search1 {d p q : Addr} {led : Bool} {f : Nat} {Q : SetFound → Shared → Prop} (ho : s.heap.get? d = some (obj1 led q)) (hp : NP s.heap p) (hq : NP s.heap q) (hu : A.units + 8 < cLine) (h : Q (.there (some 0)) s) :
    wpAny (model P w) A (setSearchFrom d (.ref p) hh false (f + 1) none) Q E s := by
  obtain ⟨nx, hpr⟩ := probe1 led
  rw [setSearchFrom_succ]
  refine wpAny_bind (wpAny_setState_of ho rfl (fits1 led) ?_)
  dsimp only
  refine wp_if_neg (by rw [gw1]; decide) ?_
  try refine wpAny_bind (wpAny_pure ?_)
  rw [show (none : Option SetTable.Probe).getD ((t1 led).probeStart hh) = (t1 led).probeStart hh from rfl, hashAt1, hpr]
  dsimp only
  have rest : wpAny (model P w) A (searchRest d (.ref p) hh false f #[(hh, .ref q)] (t1 led) sl 0 nx) Q E s := by
    unfold searchRest
    dsimp only [List.getElem?_toArray, List.getElem?_cons_zero]
    refine wpAny_bind (wpAny_holding (eq_pair hp hq hu ?_))
    refine wpAny_bind (wpAny_setState_of ho rfl (fits1 led) ?_)
    dsimp only
    refine wp_if_neg (by decide) ?_
    try refine wpAny_bind (wpAny_pure ?_)
    simp only [if_true, slot1]
    show wpAny _ _ (isSame (.ref q) (.ref q) >>= _) _ _ _
    refine wpAny_bind (wpAny_isSame_ref_self (wpAny_bind (wpAny_pure ?_)))
    simp only [if_true]
    exact wpAny_pure h
  cases hl : led with
  | true =>
    subst hl
    refine wp_if_neg (by decide +kernel) ?_
    try refine wpAny_bind (wpAny_pure ?_)
    exact rest
  | false =>
    subst hl
    refine wp_if_pos (by decide +kernel) ?_
    refine wpAny_bind (seen_pair hp hq ?_)
    refine wp_if_neg (by decide) ?_
    try refine wpAny_bind (wpAny_pure ?_)
    exact rest
theorem size1 (x : Value) : (#[(hh, x)] : Array (Int × Value)).size = 1 := rfl
/-- adding to the empty set -/
theorem add0 {d p : Addr} {led : Bool} {Q : Bool → Shared → Prop} (ho : s.heap.get? d = some (obj0 led)) (hp : NP s.heap p) (hu : A.units + 8 < cLine)
    (hQ : ∀ h', Heap.SameBut d s.heap h' → h'.get? d = some (obj1 led p) → Q true { s with heap := h' }) : wpAny (model P w) A (setAddHashed d (.ref p) hh) Q E s := by
  unfold setAddHashed
  refine wpAny_holding ?_
  rw [show (100000 : Nat) = 99999 + 1 from rfl, setAddHashedIn_succ]
  refine wpAny_bind (wpAny_setState_of ho rfl (fits0 led) ?_)
  dsimp only
  refine wp_if_neg (by simp [byScan, Value.scannable]) ?_
  try refine wpAny_bind (wpAny_pure ?_)
  unfold setSearch
  refine wpAny_bind (search0 ho ?_)
  dsimp only
  refine wpAny_bind (wpAny_setState_of ho rfl (fits0 led) ?_)
  dsimp only
  rw [put0]
  dsimp only
  first
    | (refine wpAny_bind ?_; refine wp_if_pos (plain1 led) ?_; refine hashBy_pair hp ?_)
    | refine wp_if_pos (plain1 led) (wpAny_bind (hashBy_pair hp ?_))
  simp only [if_true]
  rw [ins0]
  refine wpAny_bind (wpAny_storeSet_of ho rfl ?_ (by rw [size1]; decide))
  have sb : Heap.SameBut d s.heap (s.heap.update d (Obj.putSet #[(hh, .ref p)] (t1 led))) := Heap.SameBut.update ..
  have ho1 := store_at (es' := #[(hh, Value.ref p)]) (t' := t1 led) ho rfl
  generalize s.heap.update d (Obj.putSet #[(hh, .ref p)] (t1 led)) = h1 at sb ho1 ⊢
  first
    | refine wp_if_neg (by rw [full1]; decide) ?_
    | (refine wpAny_bind ?_; refine wp_if_neg (by rw [full1]; decide) ?_; refine wpAny_pure ?_)
  exact wpAny_pure (hQ h1 sb ho1)
end
end PS
set_option Elab.async false
set_option linter.all false
set_option maxRecDepth 100000
set_option maxHeartbeats 4000000
namespace PS
open PySem PySem.Spec PyProof.Rows L2
section
variable {P : Program} {w : World} {A : Around} {E : Value → Shared → Prop} {s : Shared}
theorem find_pair {d p : Addr} {m : Option Addr} {Q : Option Nat → Shared → Prop} (hS : PSt s.heap d m) (hp : NP s.heap p) (hm : ∀ q, m = some q → NP s.heap q) (hu : A.units + 8 < cLine) (h : ∀ r, Q r s) :
    wpAny (model P w) A (setFind d (.ref p) hh) Q E s := by
  obtain ⟨led, ho⟩ := hS
  unfold setFind
  rw [show (100000 : Nat) = 99999 + 1 from rfl]
  unfold setFindIn
  cases m with
  | none =>
    refine wpAny_bind (wpAny_setState_of ho rfl (fits0 led) ?_)
    dsimp only
    refine wp_if_neg (by simp [byScan, Value.scannable]) ?_
    try refine wpAny_bind (wpAny_pure ?_)
    unfold setSearch
    refine wpAny_bind (search0 ho ?_)
    exact wpAny_pure (h _)
  | some q =>
    refine wpAny_bind (wpAny_setState_of ho rfl (fits1 led) ?_)
    dsimp only
    refine wp_if_neg (by simp [byScan, Value.scannable]) ?_
    try refine wpAny_bind (wpAny_pure ?_)
    unfold setSearch
    refine wpAny_bind (search1 ho hp (hm q rfl) hu ?_)
    exact wpAny_pure (h _)
theorem pst_is {d : Addr} {m : Option Addr} (h : PSt s.heap d m) : s.TypeIs (.ref d) "set" := by
  obtain ⟨led, h⟩ := h
  cases m <;> exact ⟨_, h, rfl⟩
/-- k not in it -/
theorem notIn_pair {d p : Addr} {m : Option Addr} {Q : Value → Shared → Prop} (hS : PSt s.heap d m) (hp : NP s.heap p) (hm : ∀ q, m = some q → NP s.heap q) (hu : A.units + 30 < cLine)
    (h : ∀ b tk, Q (.bool b) { s with toks := tk }) : wpAny (model P w) A (compareOp .NotIn (.ref p) (.ref d)) Q E s := by
  show wpAny _ _ (do return .bool (!(← contains (.ref d) (.ref p)))) Q E s
  refine wpAny_bind ?_
  unfold contains
  try with_reducible refine wpAny_holding ?_
  refine wpAny_bind (wpAny_specialOf (pst_is hS) F.slot_set_contains.lookup ?_)
  show wpAny _ _ (if (some (Value.builtin "set.__contains__") == some Value.none) = true then _ else _) _ E s
  rw [if_neg (by rw [beq_builtin_none]; exact Bool.false_ne_true)]
  refine wpAny_bind (wpAny_callSpecialUnlessNone?_slot (name := Str.ofString "__contains__") (pst_is hS) F.slot_set_contains
    (wpAny_call_entry F.slot_set_contains (pst_is hS) entry_set_contains ?_ (F.args_set_contains_2 _ _)))
  unfold Builtin.«frozenset.__contains__» Builtin.Frozenset.oneOther
  simp only [List.isEmpty_nil, bind_assoc]
  unfold Builtin.Frozenset.addrOf Builtin.Frozenset.withSetAsKey setContains
  refine wpAny_bind (wpAny_pure ?_)
  try dsimp only
  refine wpAny_bind (wpAny_pure ?_)
  try dsimp only
  refine wpAny_bind (wpAny_tryCatch ?_)
  refine wpAny_holding ?_
  refine wpAny_bind (hash_pair (by show A.units + 1 + 8 < cLine; omega) hp ?_)
  refine wpAny_bind (find_pair (s := { s with toks := s.toks + 3 }) hS hp hm (by show A.units + 1 + 8 < cLine; omega) fun r => ?_)
  refine wpAny_pure ?_
  exact wpAny_pure ⟨_, rfl, wpAny_truthy_bool (wpAny_pure (h _ _))⟩
/-! ### set(xs) -/
section
variable {I : Addr} {fp wr : List Addr} {G : Array GenState → Array GenState → Prop} {n : Nat} {Pv : Nat → Value → Prop} {St : Nat → Shared → Prop} {R : Result → Shared → Prop}
theorem loop_done (W : WalksS P w A.in1 I fp wr G n Pv St) (S : Addr) {s : Shared} (hst : St n s) (hR : ∀ s', Moved wr G s s' → R (.ok (.ret .none)) s') :
    codeAny (model P w) A (.builtin "set.update.loop" ⟨[.ref S, .ref I], []⟩) R s := by
  refine codeAny_builtin F.entry_set_update_loop ?_
  rw [Around.under_plainId F.plain_set_update_loop _]
  show wpAny _ A.in1 (pyNext (.ref I) >>= _) _ _ s
  refine wpAny_bind (W.done s _ _ hst fun s' hm => ?_)
  show wpAny _ A.in1 (ret Value.none) _ _ s'
  exact wpAny_pure (hR s' hm)
theorem loop_one (W : WalksS P w A.in1 I fp wr G 1 Pv St) (S : Addr) (hSf : S ∉ fp) {p : Addr} {led : Bool} {s : Shared} (hval : ∀ v, Pv 0 v → v = .ref p) (hst : St 0 s) (ho : s.heap.get? S = some (obj0 led)) (hp : NP s.heap p) (hpw : ∀ s', Moved wr G s s' → NP s'.heap p) (hu : A.units + 12 < cLine)
    (hR : ∀ s', Moved (S :: wr) G s s' → s'.heap.get? S = some (obj1 led p) → R (.ok (.ret .none)) s') :
    codeAny (model P w) A (.builtin "set.update.loop" ⟨[.ref S, .ref I], []⟩) R s := by
  have hSw : S ∉ wr := fun h => hSf (W.sub _ h)
  have hsub : ∀ b ∈ wr, b ∈ S :: wr := fun b hb => List.mem_cons_of_mem _ hb
  refine codeAny_builtin F.entry_set_update_loop ?_
  rw [Around.under_plainId F.plain_set_update_loop _]
  show wpAny _ A.in1 (pyNext (.ref I) >>= _) _ _ s
  refine wpAny_bind (W.item 0 s _ _ (by omega) hst fun v s' hP hst' hm => ?_)
  obtain rfl := hval v hP
  have ho' := hm.heap S _ hSw ho
  have hp' := hpw s' hm
  show wpAny _ A.in1 (holding [Value.ref p] (setAdd S (.ref p)) >>= _) _ _ s'
  refine wpAny_bind (wpAny_holding ?_)
  unfold setAdd
  refine wpAny_holding ?_
  refine wpAny_bind (hash_pair (by show A.units + 1 + 8 < cLine; omega) hp' ?_)
  refine add0 (s := { s' with toks := s'.toks + 3 }) ho' hp' (by show A.units + 1 + 8 < cLine; omega) fun h' hsb hS2 => ?_
  refine wpAny_pure ⟨plainId_quiet F.plain_set_update_loop _, loop_done W S (W.frame _ s' _ _ hst' (Nat.le_add_right _ _) fun b hb o e => ?_) fun s'' hm'' => ?_⟩
  · rw [hsb.2 b (fun h : b = S => hSf (by rw [← h]; exact hb))]; exact e
  · refine hR s'' (Moved.trans W.gtrans ((hm.mono hsub).then_heap (Nat.le_add_right _ _) fun b o hb e => ?_) (hm''.mono hsub)) (hm''.heap S _ hSw hS2)
    rw [hsb.2 b (fun h : b = S => hb (by rw [h]; exact List.mem_cons_self))]; exact e
end
/-- set.update's loop over such a list -/
theorem upd_loop {l S : Addr} {ps : List Addr} {led : Bool} {R : Result → Shared → Prop} (hh3 : A.in1.handled = none) (hS : s.heap.get? S = some (obj0 led)) (hl : s.heap.IsList l (ps.map Value.ref).toArray) (hne : S ≠ l) (hps : ∀ p ∈ ps, NP s.heap p) (h1 : ps.length ≤ 1) (hu : A.units + 12 < cLine)
    (hR : ∀ (h' : Heap) (tk : Nat), PSt h' S ps.head? → (∀ b o, b ≠ S → s.heap.get? b = some o → h'.get? b = some o) → R (.ok (.ret .none)) { s with heap := h', toks := tk }) :
    codeAny (model P w) A (.builtin "set.update.loop" ⟨[.ref S, .ref s.heap.objs.size], []⟩) R { s with heap := s.heap.push { cls := .type "list_iterator", data := .fields #[.ref l, .int 0 0] } } := by
  have hlS : l < s.heap.objs.size := by
    obtain ⟨o, ho, _⟩ := hl
    exact Heap.lt_size ho
  have hSS : S < s.heap.objs.size := Heap.lt_size hS
  have hneI : l ≠ s.heap.objs.size := Nat.ne_of_lt hlS
  have hSf : S ∉ [s.heap.objs.size, l] := by
    simp only [List.mem_cons, List.mem_singleton, List.not_mem_nil, or_false, not_or]
    exact ⟨Nat.ne_of_lt hSS, hne⟩
  have st0 : ({ s with heap := s.heap.push { cls := .type "list_iterator", data := .fields #[.ref l, .int 0 0] } } : Shared).heap.IsListIter s.heap.objs.size l 0 ∧ (s.heap.push { cls := .type "list_iterator", data := .fields #[.ref l, .int 0 0] }).IsList l (ps.map Value.ref).toArray :=
    ⟨⟨_, Heap.get?_push_size _ rfl, rfl, rfl⟩, hl.push _⟩
  have hS' : (s.heap.push { cls := .type "list_iterator", data := .fields #[.ref l, .int 0 0] }).get? S = some (obj0 led) := Heap.get?_push_of_some _ hS
  have keep : ∀ {s' : Shared} {b : Addr} {o : Obj}, Moved [s.heap.objs.size] (fun a b => b = a) { s with heap := s.heap.push { cls := .type "list_iterator", data := .fields #[.ref l, .int 0 0] } } s' → s.heap.get? b = some o → s'.heap.get? b = some o := fun {s' b o} hm e =>
    hm.heap b o (by simp; exact Nat.ne_of_lt (Heap.lt_size e)) (Heap.get?_push_of_some _ e)
  rcases ps with _ | ⟨p, _ | ⟨p2, rest⟩⟩
  · have W := (Walks.list (prog := P) (w := w) hh3 s.heap.objs.size l hneI (([] : List Addr).map Value.ref).toArray).toS
    refine loop_done W S st0 fun s' hm => ?_
    have e2 := keep (b := S) hm hS
    obtain ⟨h', g', d', tk', os'⟩ := s'
    have eg : g' = s.gens := hm.gens
    have ed : d' = s.drawn := hm.drawn
    have eo : os' = s.os := hm.os
    subst eg; subst ed; subst eo
    exact hR h' tk' ⟨led, e2⟩ fun b o _ e => keep hm e
  · have W := (Walks.list (prog := P) (w := w) hh3 s.heap.objs.size l hneI (([p] : List Addr).map Value.ref).toArray).toS
    have np := hps p (by simp)
    refine loop_one W S hSf (p := p) (led := led) (fun v hv => ?_) st0 hS' (np.keeps fun b o e => Heap.get?_push_of_some _ e) (fun s' hm => np.keeps fun b o e => keep hm e) hu fun s' hm e2 => ?_
    · have hv : some (Value.ref p) = some v := hv
      exact (Option.some.inj hv).symm
    · have k2 : ∀ b o, b ≠ S → s.heap.get? b = some o → s'.heap.get? b = some o := fun b o nb e => hm.heap b o (by simp only [List.mem_cons, List.mem_singleton, List.not_mem_nil, or_false, not_or]; exact ⟨nb, Nat.ne_of_lt (Heap.lt_size e)⟩) (Heap.get?_push_of_some _ e)
      obtain ⟨h', g', d', tk', os'⟩ := s'
      have eg : g' = s.gens := hm.gens
      have ed : d' = s.drawn := hm.drawn
      have eo : os' = s.os := hm.os
      subst eg; subst ed; subst eo
      exact hR h' tk' ⟨led, e2⟩ k2
  · simp at h1
end
end PS
set_option Elab.async false
set_option linter.all false
set_option maxRecDepth 100000
set_option maxHeartbeats 4000000
namespace PS
open PySem PySem.Spec PyProof.Rows L2
section
variable {P : Program} {w : World} {A : Around} {E : Value → Shared → Prop} {s : Shared}
set_option maxHeartbeats 3200000 in
/-- set(xs) -/
theorem call_set_pair {l : Addr} {ps : List Addr} {Q : Value → Shared → Prop} (hh : A.handled = none) (hl : s.heap.IsList l (ps.map Value.ref).toArray) (hps : ∀ p ∈ ps, NP s.heap p) (h1p : ps.length ≤ 1) (hu : A.units + 30 < cLine)
    (h : ∀ (h' : Heap) (tk : Nat), PSt h' s.heap.objs.size ps.head? → (∀ b o, b < s.heap.objs.size → s.heap.get? b = some o → h'.get? b = some o) → Q (.ref s.heap.objs.size) { s with heap := h', toks := tk }) :
    wpAny (model P w) A (call (.type "set") [.ref l]) Q E s := by
  obtain ⟨c, tl, hmro⟩ := F.called_set.mro
  have hmade := F.called_set.made
  have hsub := F.called_set.sub
  refine wpAny_call (codeAny_of_tree ?_)
  show wpAny _ _ (callAny (.type "set") _) _ _ _
  refine wpAny_pure ⟨Code.quiet_builtin _ (by decide +kernel), codeAny_builtin F.entry_type_call ?_⟩
  rw [Around.under_plain (weight_type_call_type "set" [.ref l] []) rfl]
  have h1 := F.called_set.notType
  have h2 := F.called_set.canCreate
  have hct := F.typeCall_set_1 (.ref l)
  repeat (any_goals (first | assumption | wp_step))
  refine codeAny_mono (code_set_new_1 (.ref l) (E := E) (Q₁ := fun obj s₁ => ∃ led : Bool, obj = .ref s.heap.objs.size ∧ s₁ = { s with heap := s.heap.push { cls := .type "set", dict := none, data := .set #[] 0 (.fresh 0 0 led) } }) fun led => ⟨led, rfl, rfl⟩) fun r s₁ hr => ?_
  cases r with
  | error e => exact hr
  | ok fl =>
    cases fl with
    | ret obj =>
      obtain ⟨led, rfl, rfl⟩ := hr
      have hS : (s.heap.push { cls := .type "set", dict := none, data := .set #[] 0 (.fresh 0 0 led) }).get? s.heap.objs.size = some { cls := .type "set", dict := none, data := .set #[] 0 (.fresh 0 0 led) } := Heap.get?_push_size _ rfl
      have hT : Shared.TypeIs { s with heap := s.heap.push { cls := .type "set", dict := none, data := .set #[] 0 (.fresh 0 0 led) } } (.ref s.heap.objs.size) "set" := ⟨_, hS, rfl⟩
      have hli := F.called_set.init.lookup
      have hbi := F.called_set.init.bind (.ref s.heap.objs.size)
      repeat (any_goals (first | assumption | wp_step))
      refine codeAny_mono (codeAny_call_builtin (R := wants (fun r s₂ => r = .none ∧ ∃ h' tk, s₂ = { s with heap := h', toks := tk } ∧ PSt h' s.heap.objs.size ps.head? ∧
          (∀ b o, b < s.heap.objs.size → s.heap.get? b = some o → h'.get? b = some o)) E) F.called_set.init.plain F.entry_set_init (check_set_init_1 hT ?_)) fun r₂ s₂ hr₂ => ?_
      · obtain ⟨ol, hol, hcl, nl, hdl⟩ := hl
        obtain ⟨ocls, odict, odata, oslots⟩ := ol
        simp only at hcl hdl
        subst hcl; subst hdl
        have hol' : (s.heap.push { cls := .type "set", dict := none, data := .set #[] 0 (.fresh 0 0 led) }).get? l = some { cls := .type "list", dict := odict, data := .seq (ps.map Value.ref).toArray nl, slots := oslots } := Heap.get?_push_of_some _ hol
        have hsls := F.sub_list_set
        have hslf := F.sub_list_frozenset
        have hne : (Value.type "list" == Value.type "dict") = false := by decide
        have hl1 : (s.heap.push { cls := .type "set", dict := none, data := .set #[] 0 (.fresh 0 0 led) }).IsList l (ps.map Value.ref).toArray := ⟨_, hol', rfl, nl, rfl⟩
        unfold Builtin.«set.__init__» noKeywords Builtin.Frozenset.updateFrom
        generalize hPI : pyIter = PI
        wp_walk
        subst hPI
        refine wpAny_pyIter_list hl1 ?_
        refine wpAny_bind (wpAny_runValue ?_)
        have hlS : l < s.heap.objs.size := Heap.lt_size hol
        refine upd_loop (s := { s with heap := s.heap.push { cls := .type "set", dict := none, data := .set #[] 0 (.fresh 0 0 led) } }) (by simp [hh]) hS hl1 (Nat.ne_of_gt hlS) (fun p hp => (hps p hp).keeps fun b o e => Heap.get?_push_of_some _ e) h1p (by show A.units + 1 + 1 + 12 < cLine; omega) fun h' tk hS' hk => ?_
        refine wpAny_pure ?_
        show wpAny _ _ (ret Value.none) _ _ _
        exact wpAny_pure ⟨rfl, h', tk, rfl, hS', fun b o hb e => hk b o (Nat.ne_of_lt hb) (Heap.get?_push_of_some _ e)⟩
      · cases r₂ with
        | error e => exact hr₂
        | ok fl₂ =>
          cases fl₂ with
          | ret r =>
            obtain ⟨rfl, h', tk, rfl, hS', hk'⟩ := hr₂
            repeat (any_goals (first | assumption | wp_step))
            exact h _ _ hS' hk'
          | _ => exact hr₂.elim
    | _ => exact hr.elim
end
end PS
namespace PS
open PySem PySem.Spec PyProof.Rows L2
section
variable {X : Cx}
def PSO (d : Addr) (m : Option Addr) : HO := .ext fun h => PSt h d m
theorem pso_new {w : World} {P : Program} {H : Hp} {h : Heap} {d : Addr} {m : Option Addr} (R : PSt h d m) : ObjOk P w H h d (PSO d m) := by
  have ⟨led, ho⟩ := R
  exact ⟨R, ⟨_, ho⟩, fun h1 h2 p k => let ⟨led, ho⟩ := p; ⟨led, k _ ho⟩⟩
theorem pso_get {pins : List (Addr × Obj)} {σ : L2.St} {H : Hp} {s : Shared} {d : Addr} {m : Option Addr} (I : Inv X pins σ H s) (h : H d = some (PSO d m)) : PSt s.heap d m := (I.hok d _ h).1
/-- a pair of empty tuples -/
def NPV (K : PySem.W.Frag) (H : Hp) (p : Addr) : Prop := ∃ a b, SqT K H p [.ref a, .ref b] ∧ SqT K H a [] ∧ SqT K H b []
theorem np_of {pins : List (Addr × Obj)} {σ : L2.St} {H : Hp} {s : Shared} {p : Addr} (I : Inv X pins σ H s) (h : NPV X.K H p) : NP s.heap p := by
  obtain ⟨a, b, h1, h2, h3⟩ := h
  obtain ⟨i1, r1, p1, _⟩ := I.tuple h1
  obtain ⟨i2, r2, p2, _⟩ := I.tuple h2
  obtain ⟨i3, r3, p3, _⟩ := I.tuple h3
  cases r2
  cases r3
  cases r1 with
  | cons ra r1 =>
  cases r1 with
  | cons rb r1 =>
  cases r1
  cases ra
  cases rb
  exact ⟨a, b, p1, p2, p3⟩
def rSetP (K : PySem.W.Frag) : List V → Hp → VK → Prop := fun xs H Q => ∃ (l : Addr) (ps : List Addr), xs = [V.ref l] ∧ SqL K H l (ps.map V.ref) ∧ ps.length ≤ 1 ∧ (∀ p ∈ ps, NPV K H p) ∧ ∀ d, H d = none → Q (.ref d) (upd H d (PSO d ps.head?))
theorem refs_of : ∀ {ps : List Addr} {us : List Value}, Vals (ps.map V.ref) us → us = ps.map Value.ref
  | [], _, .nil => rfl
  | p :: ks, _, .cons r t => by
    cases r
    rw [refs_of t] <;> rfl
theorem cr_setP (hc : X.calm = true) {k : Nat} (hr : Room k X.A) : CallR X (.type "set") (rSetP X.K) := by
  intro pins s σ H xs us Q I r h
  obtain ⟨l, ps, rfl, hl, h1, hp, q⟩ := h
  rw [Vals.ref1 r]
  obtain ⟨its, rv, pl, hz⟩ := I.list hl
  have e := refs_of rv
  subst e
  have hn : H s.heap.objs.size = none := I.hok.fresh (Nat.le_refl _)
  refine call_set_pair (P := X.prog) (w := X.w) (I.ok.hd hc) pl.isList (fun p h => np_of I (hp p h)) h1 (by have := hr.units; omega) fun h' tk R k => ?_
  exact ⟨.ref s.heap.objs.size, upd H s.heap.objs.size (PSO s.heap.objs.size ps.head?), I.laid (t' := tk) (fun b o e => k b o (Heap.lt_size e) e) (Nat.le_refl _) (pso_new R), rfl, q _ hn⟩
def rNotInP (K : PySem.W.Frag) : R2 := fun x y H Q => ∃ p d m, x = V.ref p ∧ y = V.ref d ∧ H d = some (PSO d m) ∧ NPV K H p ∧ (∀ q, m = some q → NPV K H q) ∧ ∀ b, Q (.bl b) H
theorem or_notinP (K : PySem.W.Frag) (hK : X.K = K) {k : Nat} (hr : Room k X.A) : OpR X (compareOp .NotIn) (rNotInP K) := by
  subst hK
  intro pins s σ H x y v u Q I rx ry h
  obtain ⟨p, d, m, rfl, rfl, hd, hp, hm, q⟩ := h
  cases rx
  cases ry
  exact notIn_pair (pso_get I hd) (np_of I hp) (fun q h => np_of I (hm q h)) (by have := hr.units; omega) fun b tk => ⟨.bl b, H, I.tok _, rfl, q b⟩
end
end PS
set_option Elab.async false
set_option linter.all false
set_option maxRecDepth 100000
set_option maxHeartbeats 4000000
namespace K37
open PySem PySem.Spec PyProof.Rows L2
open C8 (Cal pe_c)
section
variable {P : Program} {w : World} {K : PySem.W.Frag} {mg : Str → Option Value} {base : Heap} {T : List Addr}
theorem scTells : FnScope ["semigroup", "first", "second", "size", "two", "pair"] ["semigroup", "first", "second", "size"] (defScope sTells) := ⟨rfl, rfl, rfl, by decide +kernel, rfl, by decide +kernel, by decide +kernel⟩
def spTells (T : List Addr) (K : PySem.W.Frag) : Sp := fun vs H Q _ => ∃ (sa fa ga : Addr) (M : List (List Nat)) (L n1 n2 : List Nat), vs = [.ref sa, .ref fa, .ref ga, .int 0] ∧ SgT K H sa M L ∧ Val M L ∧ SqT K H fa (ivs n1) ∧ SqT K H ga (ivs n2) ∧ Tb T H ∧ ∀ H' b, Nx T H H' → Q (.bl b) H'
theorem er_np {K : PySem.W.Frag} {H : Hp} {a : Addr} (h : ER H a) : ∃ ps : List Addr, H a = some (.lst (ps.map V.ref)) ∧ ps.length ≤ 1 ∧ ∀ p ∈ ps, PS.NPV K H p := by
  rcases h with h | ⟨p, b, c, h1, h2, h3, h4⟩
  · exact ⟨[], h, by decide, (fun _ h => absurd h List.not_mem_nil)⟩
  · refine ⟨[p], h1, by simp, fun q hq => ?_⟩
    have e : q = p := by simpa using hq
    subst e
    exact ⟨b, c, .inl (.inl h2), .inl (.inl h3), .inl (.inl h4)⟩
theorem npv_nx {K : PySem.W.Frag} {H H' : Hp} {p : Addr} (h : PS.NPV K H p) (n : Nx T H H') : PS.NPV K H' p := by
  obtain ⟨a, b, h1, h2, h3⟩ := h
  exact ⟨a, b, n.seqT h1, n.seqT h2, n.seqT h3⟩
theorem ok_tells (D : Tn K mg base T "tells_apart" sTells) (B : Bn mg) (c_ends_of : Cal P w K mg base 3 "ends_of" (spEnds T K) []) : Cal P w K mg base 4 "tells_apart" (spTells T K) [] := by
  refine cal_ofC D scTells (fun _ _ _ _ _ _ us h => by match us, h with | [_, _, _, _], _ => rfl) (fun vs H Q E h => ?_) (fun f c Pt TB hP A outer s H vs Q E hr h => ?_)
  · obtain ⟨sa, fa, ga, M, L, n1, n2, rfl, _⟩ := h
    rfl
  · obtain ⟨sa, fa, ga, M, L, n1, n2, rfl, hS, hV, hF, hG, hT, q⟩ := h
    refine ⟨_, (pss_cons (ps_set (i := 4) scTells.nd rfl (by first | exact .inl rfl | exact .inr rfl) (pe_callTy (PS.cr_setP rfl hr) (by rfl) B.set (by decide +kernel) (pa_cons (pe_c c_ends_of hr (by decide) (by rfl) (pa_cons (pv 0) (pa_cons (pv 2) (pa_cons (pv 3) pa_nil)))) pa_nil)))
      (pss_one (ps_ret (GX.pe_gxB (k := 1) [("pair", 5)] [] (by decide) GX.cons_all (hr.mono (by decide)) scTells.nd B.all (by decide +kernel) TB rfl ?_ (pi_list (pe_c c_ends_of hr (by decide) (by rfl) (pa_cons (pv 0) (pa_cons (pv 1) (pa_cons (pv 3) pa_nil)))))
        (fun _ _ _ _ _ _ _ _ hy => ⟨(pg_name (i := 5) scTells.nd rfl (by first | exact .inl rfl | exact .inr rfl)), pts_nil, (GX.pbE rfl rfl (pe_cmpR (PS.or_notinP K rfl hy) (pv 5) (pv 4) (by with_unfolding_all rfl)))⟩))))), ?_⟩
    · show gxC ["semigroup", "first", "second", "size", "two", "pair"] (defScope sTells) _ _ = true
      decide +kernel
    refine ⟨_, rfl, _, rfl, _, rfl, sa, ga, M, L, n2, rfl, hS, hV, hG, hT, fun H1 a1 N1 er1 => ?_⟩
    obtain ⟨ps, p1, p2, p3⟩ := er_np (K := K) er1
    refine ⟨a1, ps, rfl, .inl (.inl p1), p2, p3, fun d hd => ?_⟩
    have N2 := N1.new hd (o := PS.PSO d ps.head?)
    have e2 : upd H1 d (PS.PSO d ps.head?) d = some (PS.PSO d ps.head?) := upd_same
    have p3 : ∀ p ∈ ps, PS.NPV K (upd H1 d (PS.PSO d ps.head?)) p := fun p h => npv_nx (p3 p h) ((Nx.refl N1.tb).new hd)
    generalize upd H1 d (PS.PSO d ps.head?) = H2 at N2 e2 p3
    refine ⟨_, rfl, _, rfl, _, rfl, sa, fa, M, L, n1, rfl, N2.sg hS, hV, N2.seqT hF, N2.tb, fun H3 a3 n3 er3 => ?_⟩
    obtain ⟨qs, q1, q2, q3⟩ := er_np (K := K) er3
    have N3 := N2.trans n3
    refine ⟨a3, rfl, ⟨_, .inl (.inl q1)⟩, N3.tb _ hP, fun H4 t4 => ?_⟩
    have n4 : Nx T H3 H4 := (Nx.refl N3.tb).tabbed hP t4
    have N4 := N3.trans n4
    refine gx_it (n := (qs.map V.ref).length) walk_list 0 (fun _ H' => H4 = H') rfl (fun i H' _ e => by subst e; exact .inl (.inl (n4.lst q1))) (fun i x H' H'' hi e y => ?_) (fun H' e => by subst e; exact q _ _ N4)
    subst e
    obtain ⟨rfl, hx⟩ := y
    rw [List.getElem?_map] at hx
    cases hq : qs[i]? with
    | none => rw [hq] at hx; cases hx
    | some p =>
    rw [hq] at hx
    cases hx
    have e4 : H'' d = some (PS.PSO d ps.head?) := (n3.trans n4).ext.at_ e2 (fun _ z => by cases z) (fun z => by cases z)
    refine ⟨rfl, _, rfl, _, rfl, p, d, ps.head?, rfl, rfl, e4, npv_nx (q3 p (List.mem_of_getElem? hq)) n4, fun r hr' => npv_nx (p3 r (List.mem_of_mem_head? hr')) (n3.trans n4), fun b => ⟨b, rfl, ?_⟩⟩
    cases b with
    | true => exact ⟨_, Nat.le_refl _, rfl, by omega, rfl⟩
    | false => exact q _ _ N4
end
end K37
set_option Elab.async false
set_option linter.all false
set_option maxRecDepth 100000
set_option maxHeartbeats 4000000
namespace K37
open PySem PySem.Spec PyProof.Rows L2
open C8 (Cal pe_c)
section
variable {P : Program} {w : World} {K : PySem.W.Frag} {mg : Str → Option Value} {base : Heap} {T : List Addr}
/-- the error's class -/
structure ExD (K : PySem.W.Frag) (mg : Str → Option Value) (C Fe : Addr) : Prop where
  q : PySem.W.excIn K C He.veBase "ValueError.__new__" = true
  gC : mg "NoLength" = some (.ref C)
  kC : PySem.W.keepIn K (.ref C) = true
  h1 : PySem.W.subIn K (.ref C) (.type "BaseException") = some true
  h2 : PySem.W.typeIn K (.ref C) = some (.type "type")
  ec : ExcC K C
  gF : mg "FilterError" = some (.ref Fe)
  kit : PySem.W.kitOne K (.ref C) (.ref Fe) = some true
  exm : PySem.W.exmOne K (.ref C) (.ref C) = some true
theorem scEA : FnScope ["semigroup", "first", "second", "most", "value", "word", "rounds", "size"] ["semigroup", "first", "second", "most"] (defScope sEA) := ⟨rfl, rfl, rfl, by decide +kernel, rfl, by decide +kernel, by decide +kernel⟩
def spEA (T : List Addr) (K : PySem.W.Frag) (C : Addr) : Sp := fun vs H Q E => ∃ (sa fa ga : Addr) (M : List (List Nat)) (L n1 n2 : List Nat), vs = [.ref sa, .ref fa, .ref ga, .int 0] ∧ SgT K H sa M L ∧ Val M L ∧ SqT K H fa (ivs n1) ∧ SqT K H ga (ivs n2) ∧ VS M.length n1 ∧ VS M.length n2 ∧ (∀ x ∈ n1, x ∉ n2) ∧ Tb T H ∧
  (∀ H' t r ws, Nx T H H' → H' t = some (.tup [.str "rounds", .ref r]) → RT H' r ws → RO M L n1 n2 ws → Q (.ref t) H') ∧ (∀ H' t, Nx T H H' → H' t = some (.tup [.str "apart", .int 0]) → Q (.ref t) H') ∧ ∀ H', Nx T H H' → E (.ref C) none H'
theorem ok_ea {C Fe f : Addr} {fd : FuncData} (F : FnP K "ends_apart" sEA f fd) (B : Bn mg) (Ex : ExD K mg C Fe) (c_check_sets : Cal P w K mg base 6 "check_sets" (spChkSets T K) []) (c_first_words : Cal P w K mg base 1 "first_words" (spFirst T K) [])
    (c_rounds_of : Cal P w K mg base 3 "rounds_of" (spRounds T K) []) (c_tells_apart : Cal P w K mg base 4 "tells_apart" (spTells T K) []) : FnOk P w K mg base (L2.CX P w) 7 f fd ["semigroup", "first", "second", "most"] (spEA T K C) := by
  refine F.ok scEA (fun vs H Q E h => ?_) (fun cdv A outer s H vs Q E hr h => ?_)
  · obtain ⟨sa, fa, ga, M, L, n1, n2, rfl, _⟩ := h
    rfl
  · obtain ⟨sa, fa, ga, M, L, n1, n2, rfl, hS, hV, hF, hG, v1, v2, dj, hT, qr, qa, qe⟩ := h
    refine ⟨_, (pss_cons (ps_expr (pe_c c_check_sets hr (by decide) (by rfl) (pa_cons (pv 0) (pa_cons (pe_lst (pa_cons (pv 1) (pa_cons (pv 2) pa_nil))) pa_nil))))
      (pss_cons (ps_for (passes_of rfl) rfl (pi_list (pe_c c_first_words hr (by decide) (by rfl) (pa_cons (pv 0) pa_nil))) (pg_tup rfl (pgs_cons (pg_name (i := 4) scEA.nd rfl (by first | exact .inl rfl | exact .inr rfl)) (pgs_cons (pg_name (i := 5) scEA.nd rfl (by first | exact .inl rfl | exact .inr rfl)) pgs_nil))) (pss_one (ps_if (PW.pt (pw_and (pt_cmpR op_in_seq (pv 4) (pv 1) (by with_unfolding_all rfl)) (pw_and1 (pt_cmpR op_in_seq (pv 4) (pv 2) (by with_unfolding_all rfl))))) (pss_one (ps_ret (pe_tup (pa_cons pe_str (pa_cons (pv 5) pa_nil))))) pss_nil)))
      (pss_cons (ps_set (i := 6) scEA.nd rfl (by first | exact .inl rfl | exact .inr rfl) (pe_c c_rounds_of hr (by decide) (by rfl) (pa_cons (pv 0) (pa_cons (pv 1) (pa_cons (pv 2) pa_nil)))))
      (pss_cons (ps_if (pt_cmp (pc_notN (pv 6))) (pss_one (ps_ret (pe_tup (pa_cons pe_str (pa_cons (pv 6) pa_nil))))) pss_nil)
      (pss_cons (ps_for (passes_of rfl) rfl (pi_range1 (by rfl) B.range (pa_cons (pe_op op_add (pv 3) pe_int) pa_nil)) (pg_name (i := 7) scEA.nd rfl (by first | exact .inl rfl | exact .inr rfl)) (pss_one (ps_if (pt_val (pe_c c_tells_apart hr (by decide) (by rfl) (pa_cons (pv 0) (pa_cons (pv 1) (pa_cons (pv 2) (pa_cons (pv 7) pa_nil)))))) (pss_one (ps_ret (pe_tup (pa_cons pe_str (pa_cons (pv 7) pa_nil))))) pss_nil)))
      (pss_one (ps_raise rfl (takes_of rfl rfl rfl rfl) (SkE.pmk_own1 PySem.F.excBase_ValueError Ex.q Ex.gC Ex.kC (raises_own Ex.h1 Ex.h2) (by rfl) (pe_joined (PJ.cons pe_str (PJ.cons (pe_fmt (pv 3)) (PJ.cons pe_str PJ.nil)))))))))))), ?_⟩
    -- the sets are sets
    refine ⟨_, rfl, _, rfl, _, rfl, sz2, fun p hp => ?_⟩
    have N1 := (Nx.refl hT).new hp (o := .lst [.ref fa, .ref ga])
    have e1 : upd H p (.lst [.ref fa, .ref ga]) p = some (.lst [.ref fa, .ref ga]) := upd_same
    generalize upd H p (.lst [.ref fa, .ref ga]) = H1 at N1 e1
    refine ⟨sa, p, M, L, [fa, ga], rfl, N1.sg hS, hV, .inl (.inl e1), fun a ha => ?_, N1.tb, fun H2 n2' => ?_⟩
    · have ha : a = fa ∨ a = ga := by simpa using ha
      rcases ha with rfl | rfl
      · exact ⟨n1, N1.seqT hF, v1⟩
      · exact ⟨n2, N1.seqT hG, v2⟩
    have N2 := N1.trans n2'
    -- no word's value in both
    refine ⟨_, rfl, sa, M, L, rfl, N2.sg hS, hV, N2.tb, fun H3 fw its n3 hFL => ?_⟩
    have N3 := N2.trans n3
    obtain ⟨ps, f1, f2, f3, f4⟩ := hFL
    refine ⟨fw, rfl, ⟨_, .inl (.inl f1)⟩, ?_⟩
    refine for_it (n := (ps.map V.ref).length) walk_list (fun _ σ' H' => ∃ (x4 x5 : Option V), σ' = [some (.ref sa), some (.ref fa), some (.ref ga), some (.int 0), x4, x5, none, none] ∧ H3 = H')
      ⟨none, none, rfl, rfl⟩ (fun _ _ _ _ h => let ⟨_, _, _, h⟩ := h; h ▸ .inl (.inl f1)) (fun j x σ' H' H'' hj h y => ?_) (fun σ' H' h => ?_)
    · obtain ⟨x4, x5, rfl, rfl⟩ := h
      obtain ⟨rfl, hx⟩ := y
      rw [List.getElem?_map] at hx
      cases hp2 : ps[j]? with
      | none => rw [hp2] at hx; cases hx
      | some p2 =>
      rw [hp2] at hx
      cases hx
      have hjl : j < its.length := by
        have := f2.length
        have := (List.getElem?_eq_some_iff.mp hp2).1
        omega
      obtain ⟨p', hp', wa, o1, o2, o3⟩ := paired_get f2 (List.getElem?_eq_getElem hjl)
      rw [hp2] at hp'
      cases hp'
      generalize its[j] = it at o1 o2
      obtain ⟨v, wd⟩ := it
      refine ⟨p2, _, rfl, .inl (.inl o1), rfl, _, _, rfl, _, _, rfl, rfl, ?_⟩
      refine ⟨_, rfl, _, rfl, fa, _, rfl, .inr (N3.seqT hF), rfl, flat_ivs n1, _, rfl, ?_⟩
      cases h1 : inV (.int (v : Nat)) (ivs n1) with
      | false => exact iteF (iteF ⟨_, _, rfl, rfl⟩)
      | true =>
        refine iteT ⟨_, rfl, _, rfl, ga, _, rfl, .inr (N3.seqT hG), rfl, flat_ivs n2, _, rfl, ?_⟩
        cases h2 : inV (.int (v : Nat)) (ivs n2) with
        | false => exact iteF ⟨_, _, rfl, rfl⟩
        | true => exact absurd (inV_ivs h2) (dj _ (inV_ivs h1))
    obtain ⟨x4, x5, rfl, rfl⟩ := h
    -- the rounds
    refine ⟨_, rfl, _, rfl, _, rfl, sa, fa, ga, M, L, n1, n2, rfl, N3.sg hS, hV, N3.seqT hF, N3.seqT hG, N3.tb, fun H4 n4 => ?_, fun H4 r ws n4 hR hO => ?_⟩
    · have N4 := N3.trans n4
      refine ⟨_, rfl, false, rfl, iteF ⟨_, rfl, _, _, rfl, rfl, (0 : Int) + 1, rfl, by omega, by omega, ?_⟩⟩
      refine for_it (n := ((0 : Int) + 1).toNat) walk_range (fun i σ' H' => ∃ x7 : Option V, σ' = [some (.ref sa), some (.ref fa), some (.ref ga), some (.int 0), x4, x5, some .non, x7] ∧ Nx T H4 H') ⟨none, rfl, Nx.refl N4.tb⟩ (fun _ _ _ _ _ => trivial) (fun i x σ' H' H'' hi h y => ?_) (fun σ' H' h => ?_)
      · obtain ⟨x7, rfl, n⟩ := h
        obtain ⟨rfl, rfl⟩ := y
        have hi0 : i = 0 := by omega
        subst hi0
        have N5 := N4.trans n
        refine ⟨_, rfl, _, rfl, _, rfl, _, rfl, sa, fa, ga, M, L, n1, n2, rfl, N5.sg hS, hV, N5.seqT hF, N5.seqT hG, N5.tb, fun H6 b n6 => ⟨b, rfl, ?_⟩⟩
        cases b with
        | true => exact iteT ⟨_, rfl, sz2, fun t ht => qa _ t ((N5.trans n6).new ht) upd_same⟩
        | false => exact iteF ⟨_, rfl, n.trans n6⟩
      · obtain ⟨x7, rfl, n⟩ := h
        exact ⟨_, rfl, by decide +kernel, _, rfl, .inr ⟨0, rfl, by decide, _, rfl, by decide +kernel, _, rfl, by decide +kernel, qe _ (N4.trans n)⟩⟩
    · have N4 := N3.trans n4
      exact ⟨_, rfl, true, rfl, iteT ⟨_, rfl, sz2, fun t ht => qr _ t r ws (N4.new ht) upd_same (by
        obtain ⟨as, g1, g2⟩ := hR
        exact ⟨as, upd_keep g1 ht, paired_map g2 fun _ _ z => upd_keep z ht⟩) hO⟩⟩
end
end K37
set_option Elab.async false
set_option linter.all false
set_option maxRecDepth 100000
set_option maxHeartbeats 4000000
namespace K37
open PySem PySem.Spec PyProof.Rows L2
open C8 (Cal pe_c)
section
variable {P : Program} {w : World} {K : PySem.W.Frag} {mg : Str → Option Value} {base : Heap} {T : List Addr}
/-! ### the box -/
structure BX where
  bx : Addr
  ra : Addr
  row : List Int
def BoxAt (H : Hp) (b : BX) : Prop := ∃ n : Nat, H b.bx = some (.dK [(.inr "row", .ref b.ra), (.inr "at", .int (n : Nat))]) ∧ H b.ra = some (.lst (b.row.map V.int)) ∧ b.row ≠ [] ∧ b.row.length ≤ 400
/-- a step of the law: the box may be turned on -/
structure Bs (T : List Addr) (bx : BX) (H H' : Hp) : Prop where
  ext : Ext (some bx.bx) H H'
  tb : Tb T H'
  b0 : BoxAt H bx
  bx : BoxAt H' bx
section
variable {bx : BX} {H H' H1 : Hp}
theorem Bs.refl (t : Tb T H) (b : BoxAt H bx) : Bs T bx H H := ⟨Ext.refl _ _, t, b, b⟩
theorem Bs.trans (a : Bs T bx H H1) (b : Bs T bx H1 H') : Bs T bx H H' := ⟨a.ext.trans b.ext, b.tb, a.b0, b.bx⟩
theorem BoxAt.nx (b : BoxAt H bx) (n : Nx T H H') : BoxAt H' bx := by
  obtain ⟨k, h1, h2, h3, h4⟩ := b
  exact ⟨k, n.ext.at_ h1 (fun _ z => by cases z) (fun z => by cases z), n.lst h2, h3, h4⟩
theorem Bs.of (n : Nx T H H') (b : BoxAt H bx) : Bs T bx H H' := ⟨n.ext.wide, n.tb, b, b.nx n⟩
theorem Bs.nx (a : Bs T bx H H1) (n : Nx T H1 H') : Bs T bx H H' := a.trans (Bs.of n a.bx)
theorem Bs.free (a : Bs T bx H H') {p : Addr} (h : H' p = none) : H p = none := a.ext.free h
theorem Bs.new (a : Bs T bx H H') {p : Addr} {o : HO} (h : H' p = none) : Bs T bx H (upd H' p o) := a.nx ((Nx.refl a.tb).new h)
theorem Bs.lst (a : Bs T bx H H') {p : Addr} {xs : List V} (h : H p = some (.lst xs)) : H' p = some (.lst xs) := by
  obtain ⟨k, h1, _⟩ := a.b0
  exact a.ext.at_ h (fun _ z => by cases z) (fun z => by rw [Option.some.inj z, h1] at h; cases h)
theorem Bs.tup (a : Bs T bx H H') {p : Addr} {xs : List V} (h : H p = some (.tup xs)) : H' p = some (.tup xs) := by
  obtain ⟨k, h1, _⟩ := a.b0
  exact a.ext.at_ h (fun _ z => by cases z) (fun z => by rw [Option.some.inj z, h1] at h; cases h)
theorem BoxAt.upd_ (b : BoxAt H bx) {p : Addr} {o : HO} (h1 : p ≠ bx.bx) (h2 : p ≠ bx.ra) : BoxAt (upd H p o) bx := by
  obtain ⟨k, e1, e2, e3⟩ := b
  exact ⟨k, by rw [L2.upd_ne h1.symm]; exact e1, by rw [L2.upd_ne h2.symm]; exact e2, e3⟩
theorem BoxAt.ne (b : BoxAt H bx) {p : Addr} (h : H p = none) : p ≠ bx.bx ∧ p ≠ bx.ra := by
  obtain ⟨k, e1, e2, e3⟩ := b
  exact ⟨(ne_of_none e1 h).symm, (ne_of_none e2 h).symm⟩
/-- a list of one's own is written -/
theorem Bs.own (a : Bs T bx H H') {p : Addr} {xs ys : List V} (h0 : H p = none) (h : H' p = some (.lst xs)) : Bs T bx H (upd H' p (.lst ys)) :=
  ⟨a.ext.upd_ h0, a.tb.upd_ (lst_ne_tbl h), a.b0, a.bx.upd_ (a.b0.ne h0).1 (a.b0.ne h0).2⟩
end
/-! ### ints, whatever they are -/
def RdI (t : TE) (σ : L2.St) (H : Hp) : Prop := ∃ i : Int, Rd t σ H (.int i)
section
variable {σ : L2.St} {H : Hp} {t ta tb : TE}
theorem RdI.use {Q : VK} (h : RdI t σ H) (k : ∀ i : Int, Q (.int i) H) : t σ H Q := let ⟨i, r⟩ := h; r _ (k i)
theorem RdI.var {j : Nat} {i : Int} (h : σ[j]? = some (some (.int i))) : RdI (tVar j) σ H := ⟨i, Rd.var h⟩
theorem RdI.c {i : Int} : RdI (tC (.int i)) σ H := ⟨i, Rd.c⟩
theorem RdI.rI0 {f : Int → Int → Int} (h1 : RdI ta σ H) (h2 : RdI tb σ H) : RdI (tOp (L2.rI0 fun i j => .int (f i j)) ta tb) σ H := let ⟨i, r1⟩ := h1; let ⟨j, r2⟩ := h2; ⟨f i j, fun Q q => r1 _ (r2 _ ⟨i, j, rfl, rfl, q⟩)⟩
theorem RdI.rIl {f : Int → Int → Int} {C : Int → Int → Prop} {c : Int} (h : ∀ j, C c j) (h2 : RdI tb σ H) : RdI (tOp (L2.rI C fun i j => .int (f i j)) (tC (.int c)) tb) σ H := let ⟨j, r2⟩ := h2; ⟨f c j, fun Q q => r2 _ ⟨c, j, rfl, rfl, h j, q⟩⟩
theorem RdI.rIr {f : Int → Int → Int} {C : Int → Int → Prop} {c : Int} (h : ∀ i, C i c) (h1 : RdI ta σ H) : RdI (tOp (L2.rI C fun i j => .int (f i j)) ta (tC (.int c))) σ H := let ⟨i, r1⟩ := h1; ⟨f i c, fun Q q => r1 _ ⟨i, c, rfl, rfl, h i, q⟩⟩
theorem RdI.rIv {f : Int → Int → Int} {C : Int → Int → Prop} {c : Int} (h : ∀ i, C i c) (h1 : RdI ta σ H) (h2 : Rd tb σ H (.int c)) : RdI (tOp (L2.rI C fun i j => .int (f i j)) ta tb) σ H := let ⟨i, r1⟩ := h1; ⟨f i c, fun Q q => r1 _ (h2 _ ⟨i, c, rfl, rfl, h i, q⟩)⟩
theorem RdI.modQ {m : Int} {Q : VK} (h1 : RdI ta σ H) (h2 : Rd tb σ H (.int m)) (hm : 0 < m) (k : ∀ u : Int, 0 ≤ u → u < m → Q (.int u) H) : tOp (L2.rI (fun _ j => 0 < j) fun i j => .int (i % j)) ta tb σ H Q := let ⟨i, r1⟩ := h1; r1 _ (h2 _ ⟨i, m, rfl, rfl, hm, k _ (Int.emod_nonneg _ (by omega)) (Int.emod_lt_of_pos _ hm)⟩)
theorem RdI.intc (h : RdI t σ H) : RdI (tCB (fun xs H Q => (∃ i, xs = [.int i] ∧ Q (.int i) H) ∨ ∃ k, xs = [.bl k] ∧ Q (.int (if k then 1 else 0)) H) (tCons t tNil)) σ H := let ⟨i, r⟩ := h; ⟨i, fun Q q => r _ (.inl ⟨i, rfl, q⟩)⟩
end
theorem scDraws : FnScope ["_law_cell", "_law_modulus", "_law_count", "_law_number", "_law_row", "_law_k", "_law_mixed"] ["_law_cell", "_law_modulus", "_law_count"] (defScope sDraws) := ⟨rfl, rfl, rfl, by decide +kernel, rfl, by decide +kernel, by decide +kernel⟩
def spDraws (T : List Addr) : Sp := fun vs H Q _ => ∃ z : Int, vs = [.int z, .int 1000003, .int 6] ∧ Tb T H ∧ ∀ H' a (xs : List Int), Nx T H H' → H' a = some (.lst (xs.map V.int)) → xs.length = 6 → Q (.ref a) H'
theorem ok_draws (D : Dn K mg "_law_draws" sDraws) (B : Bn mg) : Cal P w K mg base 1 "_law_draws" (spDraws T) [] := by
  refine cal_of D scDraws (fun _ _ _ _ _ _ us h => by match us, h with | [_, _, _], _ => rfl) (fun vs H Q E h => ?_) (fun f cdv A outer s H vs Q E hr h => ?_)
  · obtain ⟨z, rfl, _⟩ := h
    rfl
  · obtain ⟨z, rfl, hT, q⟩ := h
    refine ⟨_, (pss_cons (ps_set (i := 3) scDraws.nd rfl (by first | exact .inl rfl | exact .inr rfl) (pv 0))
      (pss_cons (ps_if (pt_cmpR op_lt (pv 3) pe_int (nomark _)) (pss_one (ps_set (i := 3) scDraws.nd rfl (by first | exact .inl rfl | exact .inr rfl) (pe_op op_sub pe_int (pv 3)))) pss_nil)
      (pss_cons (ps_set (i := 4) scDraws.nd rfl (by first | exact .inl rfl | exact .inr rfl) (pe_lst pa_nil))
      (pss_cons (ps_if (pt_cmpR op_ge (pv 3) (pe_op op_pow pe_int pe_int) (nomark _)) (pss_cons (ps_for PassesOwn.never rfl (pi_range1 (by rfl) B.range (pa_cons (pv 2) pa_nil)) (pg_name (i := 5) scDraws.nd rfl (by first | exact .inl rfl | exact .inr rfl)) (pss_cons (ps_expr (pe_bm PySem.F.plainAttrs_list PySem.F.slot_list_append PySem.F.type_list_append mt_append (pv 4) (pa_cons (pe_op op_mod (pe_callTy call_int1 (by rfl) B.int (by decide +kernel) (pa_cons (pv 3) pa_nil)) (pv 1)) pa_nil)))
      (pss_one (ps_set (i := 3) scDraws.nd rfl (by first | exact .inl rfl | exact .inr rfl) (pe_op op_fdiv (pv 3) (pv 1))))))
      (pss_one (ps_ret (pv 4)))) pss_nil)
      (pss_cons (ps_for PassesOwn.never rfl (pi_range1 (by rfl) B.range (pa_cons (pv 2) pa_nil)) (pg_name (i := 5) scDraws.nd rfl (by first | exact .inl rfl | exact .inr rfl)) (pss_cons (ps_set (i := 6) scDraws.nd rfl (by first | exact .inl rfl | exact .inr rfl) (pe_op op_mod (pe_callTy call_int1 (by rfl) B.int (by decide +kernel) (pa_cons (pe_op op_mul (pe_op op_add (pe_op op_add (pv 3) (pe_op op_mul pe_int (pv 5))) pe_int) pe_int) pa_nil)) pe_int))
      (pss_cons (ps_set (i := 6) scDraws.nd rfl (by first | exact .inl rfl | exact .inr rfl) (pe_op op_mod (pe_callTy call_int1 (by rfl) B.int (by decide +kernel) (pa_cons (pe_op op_add (pe_op op_mul (pv 6) pe_int) (pe_op op_mul pe_int (pv 5))) pa_nil)) pe_int))
      (pss_one (ps_expr (pe_bm PySem.F.plainAttrs_list PySem.F.slot_list_append PySem.F.type_list_append mt_append (pv 4) (pa_cons (pe_op op_mod (pe_callTy call_int1 (by rfl) B.int (by decide +kernel) (pa_cons (pe_op op_fdiv (pv 6) pe_int) pa_nil)) (pv 1)) pa_nil)))))))
      (pss_one (ps_ret (pv 4)))))))), ?_⟩
    refine ⟨_, rfl, ?_⟩
    refine ⟨_, rfl, _, _, rfl, rfl, _, rfl, ite2 (fun _ => ⟨_, rfl, _, _, rfl, rfl, ?_⟩) (fun _ => ?_)⟩
    all_goals
      refine ⟨sz0, fun ra hra => ?_⟩
      have N1 := (Nx.refl hT).new hra (o := .lst [])
      have e1 : upd H ra (.lst []) ra = some (.lst (([] : List Int).map V.int)) := upd_same
      generalize upd H ra (.lst []) = H1 at N1 e1
      refine ⟨_, rfl, 10, 18, rfl, rfl, ⟨by decide, by decide, by decide⟩, _, _, rfl, rfl, _, rfl, ite2 (fun _ => ?_) (fun _ => ?_)⟩
      · refine ⟨_, rfl, 6, rfl, by omega, by omega, ?_⟩
        refine for_it (n := (6 : Int).toNat) walk_range (fun i σ' H' => ∃ (y : Int) (x5 : Option V) (xs : List Int), σ' = [some (.int z), some (.int 1000003), some (.int 6), some (.int y), some (.ref ra), x5, none] ∧ Nx T H H' ∧ H' ra = some (.lst (xs.map V.int)) ∧ xs.length = i)
          ⟨_, none, [], rfl, N1, e1, rfl⟩ (fun _ _ _ _ _ => trivial) (fun i x σ' H' H'' hi h y => ?_) (fun σ' H' h => ?_)
        · obtain ⟨v, x5, xs, rfl, n, e, hx⟩ := h
          obtain ⟨rfl, rfl⟩ := y
          refine ⟨_, rfl, .inl ⟨rfl, _, .inl (.inl e)⟩, ?_⟩
          refine RdI.use (RdI.rIv (c := 1000003) (fun _ => by decide) (RdI.intc (RdI.var rfl)) (Rd.var rfl)) fun u => ?_
          refine ⟨ra, _, _, rfl, rfl, e, small1000 (by rw [List.length_map]; omega), ?_⟩
          refine RdI.use (RdI.rIv (c := 1000003) (fun _ => ⟨by decide, by decide⟩) (RdI.var rfl) (Rd.var rfl)) fun u2 => ?_
          exact ⟨_, _, xs ++ [u], rfl, n.upd_ hra (lst_ne_tbl e), by rw [upd_same, List.map_append]; rfl, by simp [hx]⟩
        · obtain ⟨v, x5, xs, rfl, n, e, hx⟩ := h
          exact ⟨_, rfl, q _ ra xs n e hx⟩
      · refine ⟨_, rfl, 6, rfl, by omega, by omega, ?_⟩
        refine for_it (n := (6 : Int).toNat) walk_range (fun i σ' H' => ∃ (y : Int) (x5 x6 : Option V) (xs : List Int), σ' = [some (.int z), some (.int 1000003), some (.int 6), some (.int y), some (.ref ra), x5, x6] ∧ Nx T H H' ∧ H' ra = some (.lst (xs.map V.int)) ∧ xs.length = i)
          ⟨_, none, none, [], rfl, N1, e1, rfl⟩ (fun _ _ _ _ _ => trivial) (fun i x σ' H' H'' hi h y => ?_) (fun σ' H' h => ?_)
        · obtain ⟨v, x5, x6, xs, rfl, n, e, hx⟩ := h
          obtain ⟨rfl, rfl⟩ := y
          refine RdI.use (RdI.rIr (fun _ => by decide) (RdI.intc (RdI.rIr (fun _ => .inr (by decide)) (RdI.rI0 (RdI.rI0 (RdI.var rfl) (RdI.rIl (fun _ => .inl (by decide)) (RdI.var rfl))) RdI.c)))) fun m1 => ?_
          refine RdI.use (RdI.rIr (fun _ => by decide) (RdI.intc (RdI.rI0 (RdI.rIr (fun _ => .inr (by decide)) (RdI.var rfl)) (RdI.rIl (fun _ => .inl (by decide)) (RdI.var rfl))))) fun m2 => ?_
          refine ⟨_, rfl, .inl ⟨rfl, _, .inl (.inl e)⟩, ?_⟩
          refine RdI.use (RdI.rIv (c := 1000003) (fun _ => by decide) (RdI.intc (RdI.rIr (fun _ => ⟨by decide, by decide⟩) (RdI.var rfl))) (Rd.var rfl)) fun u => ?_
          refine ⟨ra, _, _, rfl, rfl, e, small1000 (by rw [List.length_map]; omega), ?_⟩
          exact ⟨_, _, _, xs ++ [u], rfl, n.upd_ hra (lst_ne_tbl e), by rw [upd_same, List.map_append]; rfl, by simp [hx]⟩
        · obtain ⟨v, x5, x6, xs, rfl, n, e, hx⟩ := h
          exact ⟨_, rfl, q _ ra xs n e hx⟩
theorem scBox : FnScope ["_law_script", "_law_row", "_law_cell"] ["_law_script"] (defScope sBox) := ⟨rfl, rfl, rfl, by decide +kernel, rfl, by decide +kernel, by decide +kernel⟩
def spBox (T : List Addr) (K : PySem.W.Frag) : Sp := fun vs H Q _ => ∃ (a : Addr) (ns : List Int), vs = [.ref a] ∧ SqL K H a (ns.map V.int) ∧ ns.length ≤ 63 ∧ Tb T H ∧ ∀ H' (b : BX), Nx T H H' → BoxAt H' b → Q (.ref b.bx) H'
theorem ok_box (D : Dn K mg "_law_box" sBox) (B : Bn mg) (c__law_draws : Cal P w K mg base 1 "_law_draws" (spDraws T) []) : Cal P w K mg base 2 "_law_box" (spBox T K) [] := by
  refine cal_of D scBox (fun _ _ _ _ _ _ us h => by match us, h with | [_], _ => rfl) (fun vs H Q E h => ?_) (fun f cdv A outer s H vs Q E hr h => ?_)
  · obtain ⟨a, ns, rfl, _⟩ := h
    rfl
  · obtain ⟨a, ns, rfl, hA, hl, hT, q⟩ := h
    refine ⟨_, (pss_cons (ps_set (i := 1) scBox.nd rfl (by first | exact .inl rfl | exact .inr rfl) (pe_lst pa_nil))
      (pss_cons (ps_for PassesOwn.never rfl (pi_list (pv 0)) (pg_name (i := 2) scBox.nd rfl (by first | exact .inl rfl | exact .inr rfl)) (pss_one (ps_set (i := 1) scBox.nd rfl (by first | exact .inl rfl | exact .inr rfl) (pe_op op_cat (pv 1) (pe_c c__law_draws hr (by decide) (by rfl) (pa_cons (pv 2) (pa_cons pe_int (pa_cons pe_int pa_nil))))))))
      (pss_cons (ps_if (pt_cmpR op_eq (pe_callB call_len_seq (by rfl) B.len PySem.boot_len (pa_cons (pv 1) pa_nil)) pe_int (nomark _)) (pss_one (ps_set (i := 1) scBox.nd rfl (by first | exact .inl rfl | exact .inr rfl) (pe_lst (pa_cons pe_int (pa_cons pe_int (pa_cons pe_int (pa_cons pe_int (pa_cons pe_int (pa_cons pe_int (pa_cons pe_int pa_nil)))))))))) pss_nil)
      (pss_one (ps_ret (pe_disp (pps_cons pe_str (pv 1) (pps_cons pe_str pe_int pps_nil)) (by rfl) (by rfl) (by decide) (by decide))))))), ?_⟩
    refine ⟨sz0, fun r0 hr0 => ?_⟩
    refine ⟨_, rfl, a, rfl, ⟨_, ((Nx.refl hT).new hr0).seqL hA⟩, ?_⟩
    refine for_it (n := (ns.map V.int).length) walk_list (fun i σ' H' => ∃ (ra : Addr) (xs : List Int) (x2 : Option V), σ' = [some (.ref a), some (.ref ra), x2] ∧ Nx T H H' ∧ H' ra = some (.lst (xs.map V.int)) ∧ xs.length = 6 * i)
      ⟨r0, [], none, rfl, (Nx.refl hT).new hr0, upd_same, rfl⟩ (fun _ _ _ _ h => let ⟨_, _, _, _, n, _⟩ := h; n.seqL hA) (fun i x σ' H' H'' hi h y => ?_) (fun σ' H' h => ?_)
    · obtain ⟨ra, xs, x2, rfl, n, e, hx⟩ := h
      obtain ⟨rfl, hy⟩ := y
      rw [List.getElem?_map] at hy
      cases hz : ns[i]? with
      | none => rw [hz] at hy; cases hy
      | some z =>
      rw [hz] at hy
      cases hy
      have hi' : i < 63 := by
        rw [List.length_map] at hi
        omega
      refine ⟨_, rfl, _, rfl, z, rfl, n.tb, fun H2 b ys n2 hb hy => ⟨ra, b, _, _, rfl, rfl, n2.lst e, hb, Nat.le_of_lt (small1000 (by simp; omega)), fun p hp => ?_⟩⟩
      exact ⟨p, xs ++ ys, _, rfl, (n.trans n2).new hp, by rw [upd_same, List.map_append], by simp; omega⟩
    · obtain ⟨ra, xs, x2, rfl, n, e, hx⟩ := h
      rw [List.length_map] at hx
      have fin : ∀ (H' : Hp) (ra : Addr) (xs : List Int), Nx T H H' → H' ra = some (.lst (xs.map V.int)) → xs ≠ [] → xs.length ≤ 400 → ∀ p, H' p = none →
          Q (.ref p) (upd (upd H' p (.dK [])) p (.dK (mergeK [] [(.inr "row", .ref ra), (.inr "at", .int 0)]))) := fun H' ra xs n e h1 h2 p hp => by
        have ne : ra ≠ p := ne_of_none e hp
        refine q _ ⟨p, ra, xs⟩ ((n.new hp).upd_ (n.free hp) (fun ps z => by rw [upd_same] at z; cases z)) ⟨0, by rw [upd_same]; rfl, by rw [upd_ne ne, upd_ne ne]; exact e, h1, h2⟩
      refine Rd.eqI (i := ((xs.length : Nat) : Int)) (j := 0) (Rd.len (Rd.var rfl) (.inl (.inl (.inl e))) (by rw [List.length_map])) Rd.c _ ⟨_, rfl, ?_⟩
      cases xs with
      | nil => exact iteT ⟨Nat.le_of_lt (small1000 (by decide)), fun r7 hr7 p hp => ⟨_, rfl, upd_same, [(.inr "row", .ref r7), (.inr "at", .int 0)], rfl, (show (2 : Nat) ≤ 15 by decide), fin _ r7 [11, 5, 2, 7, 31, 101, 997] (n.new hr7) upd_same (by decide) (by decide) p hp⟩⟩
      | cons x0 xr =>
        rw [show ((((x0 :: xr).length : Nat) : Int) == 0) = false by simp; omega]
        exact iteF fun p hp => ⟨_, rfl, upd_same, [(.inr "row", .ref ra), (.inr "at", .int 0)], rfl, (show (2 : Nat) ≤ 15 by decide), fin _ ra (x0 :: xr) n e (by simp) (by omega) p hp⟩
theorem scNext : FnScope ["_law_box_here", "_law_modulus", "_law_at", "_law_number"] ["_law_box_here", "_law_modulus"] (defScope sNext) := ⟨rfl, rfl, rfl, by decide +kernel, rfl, by decide +kernel, by decide +kernel⟩
def spNext (T : List Addr) : Sp := fun vs H Q _ => ∃ (b : BX) (m : Nat), vs = [.ref b.bx, .int (m : Nat)] ∧ 1 ≤ m ∧ Tb T H ∧ BoxAt H b ∧ ∀ H' (v : Nat), Bs T b H H' → v < m → Q (.int (v : Nat)) H'
theorem ok_next (D : Dn K mg "_law_next" sNext) (B : Bn mg) : Cal P w K mg base 1 "_law_next" (spNext T) [] := by
  refine cal_of D scNext (fun _ _ _ _ _ _ us h => by match us, h with | [_, _], _ => rfl) (fun vs H Q E h => ?_) (fun f cdv A outer s H vs Q E hr h => ?_)
  · obtain ⟨bx, m, rfl, _⟩ := h
    rfl
  · obtain ⟨⟨bx, ra, row⟩, m, rfl, hm, hT, hB, q⟩ := h
    refine ⟨_, (pss_cons (ps_set (i := 2) scNext.nd rfl (by first | exact .inl rfl | exact .inr rfl) (pe_dget (hu_of hr) (pv 0) pe_str (fun _ _ => rfl)))
      (pss_cons (ps_dput (hu_of hr) (pv 0) pe_str (pe_op op_add (pv 2) pe_int) (by rfl))
      (pss_cons (ps_set (i := 3) scNext.nd rfl (by first | exact .inl rfl | exact .inr rfl) (pe_ix ix_list (pe_dget (hu_of hr) (pv 0) pe_str (fun _ _ => rfl)) (pe_op op_mod (pv 2) (pe_callB call_len_seq (by rfl) B.len PySem.boot_len (pa_cons (pe_dget (hu_of hr) (pv 0) pe_str (fun _ _ => rfl)) pa_nil))) (fun _ _ => rfl)))
      (pss_one (ps_ret (pe_op op_mod (pe_callTy call_int1 (by rfl) B.int (by decide +kernel) (pa_cons (pe_op op_add (pv 3) (pe_op op_mul pe_int (pe_op op_fdiv (pv 2) (pe_callB call_len_seq (by rfl) B.len PySem.boot_len (pa_cons (pe_dget (hu_of hr) (pv 0) pe_str (fun _ _ => rfl)) pa_nil))))) pa_nil)) (pv 1))))))), ?_⟩
    obtain ⟨n, b1, b2, b3, b4⟩ := id hB
    have b1 : H bx = some (.dK [(.inr "row", .ref ra), (.inr "at", .int (n : Nat))]) := b1
    have b2 : H ra = some (.lst (row.map V.int)) := b2
    have b3 : row ≠ [] := b3
    have b4 : row.length ≤ 400 := b4
    have l0 : 0 < row.length := List.length_pos_iff.mpr b3
    refine ⟨_, rfl, bx, .int (n : Nat), rfl, (show valV [((.inr "row" : Key), V.ref ra), (.inr "at", .int (n : Nat))] (.inr "at") = some (.int (n : Nat)) from rfl) ▸ DGet.k (k := .inr "at") b1, ?_⟩
    refine ⟨_, rfl, _, _, rfl, rfl, _, rfl, bx, _, rfl, DPut.k (k := .inr "at") b1 (show (2 : Nat) < sizeLine by decide), ?_⟩
    have c1 : upd H bx (.dK (putK [((.inr "row" : Key), V.ref ra), (.inr "at", .int (n : Nat))] (.inr "at") (.int ((n : Nat) + 1 : Int)))) bx = some (.dK [((.inr "row" : Key), V.ref ra), (.inr "at", .int ((n + 1 : Nat) : Int))]) := by rw [upd_same]; rfl
    have ne : ra ≠ bx := fun z => by rw [z, b1] at b2; cases b2
    have c2 : upd H bx (.dK (putK [((.inr "row" : Key), V.ref ra), (.inr "at", .int (n : Nat))] (.inr "at") (.int ((n : Nat) + 1 : Int)))) ra = some (.lst (row.map V.int)) := by rw [upd_ne ne]; exact b2
    have S : Bs T ⟨bx, ra, row⟩ H (upd H bx (.dK (putK [((.inr "row" : Key), V.ref ra), (.inr "at", .int (n : Nat))] (.inr "at") (.int ((n : Nat) + 1 : Int))))) := ⟨(Ext.refl _ _).updX, hT.upd_ (fun ps z => by rw [b1] at z; cases z), hB, n + 1, c1, c2, b3, b4⟩
    generalize upd H bx (.dK (putK [((.inr "row" : Key), V.ref ra), (.inr "at", .int (n : Nat))] (.inr "at") (.int ((n : Nat) + 1 : Int)))) = H1 at S c1 c2
    have hrow : ∀ {σ : L2.St}, σ[0]? = some (some (.ref bx)) → Rd (tDGet (tVar 0) (tC (.str "row"))) σ H1 (.ref ra) := fun h Q q => ⟨_, h, bx, .ref ra, rfl, (show valV [((.inr "row" : Key), V.ref ra), (.inr "at", .int ((n + 1 : Nat) : Int))] (.inr "row") = some (.ref ra) from rfl) ▸ DGet.k (k := .inr "row") c1, q⟩
    have hlen : (row.map V.int).length = row.length := List.length_map ..
    -- number = row[at % len(row)]
    refine hrow rfl _ ⟨_, rfl, ?_⟩
    refine Rd.len (n := row.length) (hrow rfl) (.inl (.inl (.inl c2))) hlen _ ⟨_, _, rfl, rfl, by omega, ?_⟩
    have hm0 : n % row.length < row.length := Nat.mod_lt _ l0
    refine ⟨ra, _, _, _, rfl, rfl, .inl (.inl c2), (show atI (row.map V.int) ((n : Nat) % (row.length : Nat) : Int) = some (.int (row[n % row.length])) from ?_), ?_⟩
    · rw [← Int.natCast_emod]
      refine atI_nat ?_
      rw [List.getElem?_map, List.getElem?_eq_getElem hm0]
      rfl
    refine RdI.modQ (m := (m : Nat)) (RdI.intc (RdI.rI0 (RdI.var rfl) (RdI.rIl (fun _ => .inl (by decide)) (RdI.rIv (c := (row.length : Nat)) (fun _ => ⟨by omega, by omega⟩) (RdI.var rfl) (Rd.len (hrow rfl) (.inl (.inl (.inl c2))) hlen))))) (Rd.var rfl) (by omega) fun u h1 h2 => ?_
    have e : u = (u.toNat : Int) := by omega
    rw [e]
    exact q _ _ S (by omega)
end
end K37
set_option Elab.async false
set_option linter.all false
set_option maxRecDepth 100000
set_option maxHeartbeats 4000000
namespace K37
open PySem PySem.Spec PyProof.Rows L2
open C8 (Cal pe_c)
section
variable {P : Program} {w : World} {K : PySem.W.Frag} {mg : Str → Option Value} {base : Heap} {T : List Addr}
theorem walk_r0 {n : Nat} : Walk (Itr 0 n) n (fun _ => True) (YFn fun i => .int (i : Nat)) := walk_range.mono (fun _ h => h) fun i H x H' _ _ y => ⟨y.1, y.2.trans (congrArg V.int (Int.zero_add _))⟩
def simpN (k n a b : Nat) : Nat := if k = 0 then max a b else if k = 1 then (a + b) % n else if k = 2 then a else if k = 3 then b else if k = 4 then min (a + b + 1) (n - 1) else if k = 5 then (a * b) % n else if k = 6 ∧ a = b then a else 0
theorem simp_all : ((List.range 8).all fun k => (List.range 5).all fun n => (List.range n).all fun a => (List.range n).all fun b => decide (simpN k n a b < n) && (List.range n).all fun c => decide (simpN k n (simpN k n a b) c = simpN k n a (simpN k n b c))) = true := by decide +kernel
theorem simp_lt {k n a b : Nat} (hk : k < 8) (hn : n ≤ 4) (ha : a < n) (hb : b < n) : simpN k n a b < n := by
  have h := simp_all
  simp only [List.all_eq_true, List.mem_range, Bool.and_eq_true, decide_eq_true_eq] at h
  exact (h k hk n (by omega) a ha b hb).1
theorem simp_assoc {k n a b c : Nat} (hk : k < 8) (hn : n ≤ 4) (ha : a < n) (hb : b < n) (hc : c < n) : simpN k n (simpN k n a b) c = simpN k n a (simpN k n b c) := by
  have h := simp_all
  simp only [List.all_eq_true, List.mem_range, Bool.and_eq_true, decide_eq_true_eq] at h
  exact (h k hk n (by omega) a ha b hb).2 c hc
theorem kind_if {D : Ends} {σ : L2.St} {H : Hp} {k : Nat} {c : Int} {t u : TS} (hσ : σ[0]? = some (some (.int (k : Nat)))) (h1 : ((k : Nat) : Int) = c → t D σ H) (h2 : ((k : Nat) : Int) ≠ c → u D σ H) :
    tIfS (tTest (tOp rEq (tVar 0) (tC (.int c)))) t u D σ H := Rd.eqI (i := (k : Nat)) (j := c) (Rd.var hσ) Rd.c _ ⟨_, rfl, by
  by_cases h : ((k : Nat) : Int) = c
  · rw [beq_iff_eq.mpr h]
    exact iteT (h1 h)
  · rw [beq_eq_false_iff_ne.mpr h]
    exact iteF (h2 h)⟩
theorem scSimple : FnScope ["_law_kind", "_law_size", "_law_a", "_law_b"] ["_law_kind", "_law_size", "_law_a", "_law_b"] (defScope sSimple) := ⟨rfl, rfl, rfl, by decide +kernel, rfl, by decide +kernel, by decide +kernel⟩
def spSimple : Sp := fun vs H Q _ => ∃ (k n a b : Nat), vs = [.int (k : Nat), .int (n : Nat), .int (a : Nat), .int (b : Nat)] ∧ n ≤ 4 ∧ a < n ∧ b < n ∧ Q (.int (simpN k n a b : Nat)) H
theorem ok_simple (D : Dn K mg "_law_simple" sSimple) (B : Bn mg) : Cal P w K mg base 1 "_law_simple" spSimple [] := by
  refine cal_of D scSimple (fun _ _ _ _ _ _ us h => by match us, h with | [_, _, _, _], _ => rfl) (fun vs H Q E h => ?_) (fun f cdv A outer s H vs Q E hr h => ?_)
  · obtain ⟨k, n, a, b, rfl, _⟩ := h
    rfl
  · obtain ⟨k, n, a, b, rfl, hn, ha, hb, q⟩ := h
    refine ⟨_, (pss_cons (ps_if (pt_cmpR op_eq (pv 0) pe_int (nomark _)) (pss_one (ps_ret (pe_callB (call_max2 rfl) (by rfl) B.max (by decide +kernel) (pa_cons (pv 2) (pa_cons (pv 3) pa_nil))))) pss_nil)
      (pss_cons (ps_if (pt_cmpR op_eq (pv 0) pe_int (nomark _)) (pss_one (ps_ret (pe_op op_mod (pe_callTy call_int1 (by rfl) B.int (by decide +kernel) (pa_cons (pe_op op_add (pv 2) (pv 3)) pa_nil)) (pv 1)))) pss_nil)
      (pss_cons (ps_if (pt_cmpR op_eq (pv 0) pe_int (nomark _)) (pss_one (ps_ret (pv 2))) pss_nil)
      (pss_cons (ps_if (pt_cmpR op_eq (pv 0) pe_int (nomark _)) (pss_one (ps_ret (pv 3))) pss_nil)
      (pss_cons (ps_if (pt_cmpR op_eq (pv 0) pe_int (nomark _)) (pss_one (ps_ret (pe_callB (call_min2 rfl) (by rfl) B.min (by decide +kernel) (pa_cons (pe_op op_add (pe_op op_add (pv 2) (pv 3)) pe_int) (pa_cons (pe_op op_sub (pv 1) pe_int) pa_nil))))) pss_nil)
      (pss_cons (ps_if (pt_cmpR op_eq (pv 0) pe_int (nomark _)) (pss_one (ps_ret (pe_op op_mod (pe_callTy call_int1 (by rfl) B.int (by decide +kernel) (pa_cons (pe_op op_mul (pv 2) (pv 3)) pa_nil)) (pv 1)))) pss_nil)
      (pss_cons (ps_if (PW.pt (pw_and (pt_cmpR op_eq (pv 0) pe_int (nomark _)) (pw_and1 (pt_cmpR op_eq (pv 2) (pv 3) (nomark _))))) (pss_one (ps_ret (pv 2))) pss_nil)
      (pss_one (ps_ret pe_int))))))))), ?_⟩
    have q : ∀ x : Int, x = (simpN k n a b : Nat) → Q (.int x) H := fun x e => e ▸ q
    unfold simpN at q
    refine kind_if rfl (fun e => ?_) (fun e0 => ?_)
    · have e : k = 0 := by omega
      subst e
      refine ⟨_, rfl, _, rfl, _, _, rfl, q _ ?_⟩
      rw [if_pos rfl]
      split <;> omega
    refine kind_if rfl (fun e => ?_) (fun e1 => ?_)
    · have e : k = 1 := by omega
      subst e
      refine ⟨_, rfl, _, rfl, _, _, rfl, rfl, .inl ⟨_, rfl, _, rfl, _, _, rfl, rfl, by omega, q _ ?_⟩⟩
      simp
    refine kind_if rfl (fun e => ?_) (fun e2 => ?_)
    · have e : k = 2 := by omega
      subst e
      exact ⟨_, rfl, q _ (by simp)⟩
    refine kind_if rfl (fun e => ?_) (fun e3 => ?_)
    · have e : k = 3 := by omega
      subst e
      exact ⟨_, rfl, q _ (by simp)⟩
    refine kind_if rfl (fun e => ?_) (fun e4 => ?_)
    · have e : k = 4 := by omega
      subst e
      refine ⟨_, rfl, _, rfl, _, _, rfl, rfl, _, _, rfl, rfl, _, rfl, _, _, rfl, rfl, _, _, rfl, q _ ?_⟩
      simp
      split <;> omega
    refine kind_if rfl (fun e => ?_) (fun e5 => ?_)
    · have e : k = 5 := by omega
      subst e
      refine ⟨_, rfl, _, rfl, _, _, rfl, rfl, ?_, .inl ⟨_, rfl, _, rfl, _, _, rfl, rfl, by omega, q _ ?_⟩⟩
      · exact .inl ⟨by omega, by omega⟩
      · simp
    by_cases h6 : ((k : Nat) : Int) = 6
    · refine Rd.eqI (i := (k : Nat)) (j := 6) (Rd.var rfl) Rd.c _ ⟨_, rfl, ?_⟩
      rw [beq_iff_eq.mpr h6]
      refine iteT (Rd.eqI (i := (a : Nat)) (j := (b : Nat)) (Rd.var rfl) (Rd.var rfl) _ ⟨_, rfl, ?_⟩)
      have e : k = 6 := by omega
      subst e
      by_cases hab : a = b
      · rw [beq_iff_eq.mpr (by rw [hab] : ((a : Nat) : Int) = (b : Nat))]
        exact iteT ⟨_, rfl, q _ (by simp [hab])⟩
      · rw [beq_eq_false_iff_ne.mpr (by omega : ((a : Nat) : Int) ≠ (b : Nat))]
        exact iteF (q _ (by simp [hab]))
    · refine Rd.eqI (i := (k : Nat)) (j := 6) (Rd.var rfl) Rd.c _ ⟨_, rfl, ?_⟩
      rw [beq_eq_false_iff_ne.mpr h6]
      refine iteF (iteF (q _ ?_))
      have z0 : k ≠ 0 := by omega
      have z1 : k ≠ 1 := by omega
      have z2 : k ≠ 2 := by omega
      have z3 : k ≠ 3 := by omega
      have z4 : k ≠ 4 := by omega
      have z5 : k ≠ 5 := by omega
      have z6 : ¬ (k = 6 ∧ a = b) := by omega
      rw [if_neg z0, if_neg z1, if_neg z2, if_neg z3, if_neg z4, if_neg z5, if_neg z6]
      rfl
theorem scLAssoc : FnScope ["_law_table_here", "_law_size", "_law_a", "_law_b", "_law_c"] ["_law_table_here"] (defScope sLAssoc) := ⟨rfl, rfl, rfl, by decide +kernel, rfl, by decide +kernel, by decide +kernel⟩
/-- a list of rows, lists too -/
def LL (H : Hp) (ta : Addr) (M : List (List Nat)) : Prop := ∃ rs : List Addr, H ta = some (.lst (rs.map V.ref)) ∧ Paired (fun r row => H r = some (.lst (ivs row))) rs M
def Sq (M : List (List Nat)) (n : Nat) : Prop := M.length = n ∧ ∀ row ∈ M, row.length = n ∧ ∀ x ∈ row, x < n
def AssocN (M : List (List Nat)) (n : Nat) : Prop := ∀ a b c, a < n → b < n → c < n → g M (g M a b) c = g M a (g M b c)
theorem LL.nxR {K : PySem.W.Frag} {H : Hp} {ta : Addr} {M : List (List Nat)} {a : Nat} {Q : VK} (hM : LL H ta M) (ha : a < M.length) (q : ∀ r, H r = some (.lst (ivs (M.getD a []))) → Q (.ref r) H) : rIxL K (.ref ta) (.int (a : Nat)) H Q := by
  obtain ⟨rs, h1, h2⟩ := hM
  obtain ⟨r, hr, hq⟩ := paired_get h2 (List.getElem?_eq_getElem ha)
  refine ⟨ta, rs.map V.ref, a, .ref r, rfl, rfl, .inl (.inl h1), atI_nat ?_, q r ?_⟩
  · rw [List.getElem?_map, hr]
    rfl
  · have e : M.getD a [] = M[a] := by simp [ha]
    rw [e]
    exact hq
theorem Sq.row {M : List (List Nat)} {n a : Nat} (h : Sq M n) (ha : a < n) : (M.getD a []).length = n ∧ ∀ x ∈ M.getD a [], x < n := by
  have ha' : a < M.length := by rw [h.1]; exact ha
  have e : M.getD a [] = M[a] := by simp [ha']
  rw [e]
  exact h.2 _ (List.getElem_mem ha')
theorem Sq.lt {M : List (List Nat)} {n a b : Nat} (h : Sq M n) (ha : a < n) (hb : b < n) : g M a b < n := by
  obtain ⟨h1, h2⟩ := h.row ha
  unfold g
  exact getD_lt h2 (by omega)
theorem Rd.prodL {σ : L2.St} {ta tb tc : TE} {K : PySem.W.Frag} {H : Hp} {T : Addr} {M : List (List Nat)} {n a b : Nat} (hM : LL H T M) (hq : Sq M n) (h1 : Rd ta σ H (.ref T)) (h2 : Rd tb σ H (.int (a : Nat))) (h3 : Rd tc σ H (.int (b : Nat))) (ha : a < n) (hb : b < n) :
    Rd (tOp (rIxL K) (tOp (rIxL K) ta tb) tc) σ H (.int (g M a b : Nat)) :=
  fun Q q => h1 _ (h2 _ (hM.nxR (by rw [hq.1]; exact ha) fun r hr => h3 _ ⟨r, _, b, _, rfl, rfl, .inl (.inl hr), at_ivs (by rw [(hq.row ha).1]; exact hb), q⟩))
def spLAssoc : Sp := fun vs H Q _ => ∃ (ta : Addr) (M : List (List Nat)) (n : Nat), vs = [.ref ta] ∧ LL H ta M ∧ Sq M n ∧ n ≤ 4 ∧ (AssocN M n → Q (.bl true) H) ∧ Q (.bl false) H
theorem ok_lassoc (D : Dn K mg "_law_associative" sLAssoc) (B : Bn mg) : Cal P w K mg base 1 "_law_associative" spLAssoc [] := by
  refine cal_of D scLAssoc (fun _ _ _ _ _ _ us h => by match us, h with | [_], _ => rfl) (fun vs H Q E h => ?_) (fun f cdv A outer s H vs Q E hr h => ?_)
  · obtain ⟨ta, M, n, rfl, _⟩ := h
    rfl
  · obtain ⟨ta, M, n, rfl, hM, hq, hn, q1, q2⟩ := h
    refine ⟨_, (pss_cons (ps_set (i := 1) scLAssoc.nd rfl (by first | exact .inl rfl | exact .inr rfl) (pe_callB call_len_seq (by rfl) B.len PySem.boot_len (pa_cons (pv 0) pa_nil)))
      (pss_cons (ps_for PassesOwn.never rfl (pi_range1 (by rfl) B.range (pa_cons (pv 1) pa_nil)) (pg_name (i := 2) scLAssoc.nd rfl (by first | exact .inl rfl | exact .inr rfl)) (pss_one (ps_for PassesOwn.never rfl (pi_range1 (by rfl) B.range (pa_cons (pv 1) pa_nil)) (pg_name (i := 3) scLAssoc.nd rfl (by first | exact .inl rfl | exact .inr rfl)) (pss_one (ps_for PassesOwn.never rfl (pi_range1 (by rfl) B.range (pa_cons (pv 1) pa_nil)) (pg_name (i := 4) scLAssoc.nd rfl (by first | exact .inl rfl | exact .inr rfl)) (pss_one (ps_if (pt_cmpR op_ne (pe_ix (kIxL K rfl) (pe_ix (kIxL K rfl) (pv 0) (pe_ix (kIxL K rfl) (pe_ix (kIxL K rfl) (pv 0) (pv 2) (fun _ _ => rfl)) (pv 3) (fun _ _ => rfl)) (fun _ _ => rfl)) (pv 4) (fun _ _ => rfl)) (pe_ix (kIxL K rfl) (pe_ix (kIxL K rfl) (pv 0) (pv 2) (fun _ _ => rfl)) (pe_ix (kIxL K rfl) (pe_ix (kIxL K rfl) (pv 0) (pv 3) (fun _ _ => rfl)) (pv 4) (fun _ _ => rfl)) (fun _ _ => rfl)) (nomark _)) (pss_one (ps_ret pe_bl)) pss_nil)))))))
      (pss_one (ps_ret pe_bl)))), ?_⟩
    obtain ⟨rs, m1, m2⟩ := id hM
    have hml : (rs.map V.ref).length = n := by rw [List.length_map, m2.length, hq.1]
    refine ⟨_, rfl, ta, _, rfl, .inl (.inl (.inl m1)), ?_⟩
    rw [hml]
    refine ⟨_, rfl, (n : Nat), rfl, by omega, by omega, ?_⟩
    rw [Int.toNat_natCast]
    refine for_it (n := n) walk_r0 (fun i σ' H' => H = H' ∧ (∃ x2 x3 x4 : Option V, σ' = [some (.ref ta), some (.int (n : Nat)), x2, x3, x4]) ∧ ∀ a b c, a < i → b < n → c < n → g M (g M a b) c = g M a (g M b c)) ⟨rfl, ⟨none, none, none, rfl⟩, fun a b c h => absurd h (Nat.not_lt_zero _)⟩ (fun _ _ _ _ _ => trivial) (fun i x σ' H' H'' hi h y => ?_) (fun σ' H' h => ?_)
    rotate_left
    · obtain ⟨rfl, ⟨x2, x3, x4, rfl⟩, ha⟩ := h
      exact q1 ha
    obtain ⟨rfl, ⟨x2, x3, x4, rfl⟩, ha⟩ := h
    obtain ⟨rfl, rfl⟩ := y
    refine ⟨_, rfl, (n : Nat), rfl, by omega, by omega, ?_⟩
    rw [Int.toNat_natCast]
    refine for_it (n := n) walk_r0 (fun j σ' H' => H'' = H' ∧ (∃ x3 x4 : Option V, σ' = [some (.ref ta), some (.int (n : Nat)), some (.int (i : Nat)), x3, x4]) ∧ ∀ b c, b < j → c < n → g M (g M i b) c = g M i (g M b c)) ⟨rfl, ⟨x3, x4, rfl⟩, fun b c h => absurd h (Nat.not_lt_zero _)⟩ (fun _ _ _ _ _ => trivial) (fun j x σ' H' H3 hj h y => ?_) (fun σ' H' h => ?_)
    rotate_left
    · obtain ⟨rfl, ⟨x3, x4, rfl⟩, hb⟩ := h
      refine ⟨rfl, ⟨_, _, _, rfl⟩, fun a b c h1 h2 h3 => ?_⟩
      rcases Nat.lt_or_ge a i with z | z
      · exact ha a b c z h2 h3
      · have e : a = i := by omega
        subst e
        exact hb b c h2 h3
    obtain ⟨rfl, ⟨x3, x4, rfl⟩, hb⟩ := h
    obtain ⟨rfl, rfl⟩ := y
    refine ⟨_, rfl, (n : Nat), rfl, by omega, by omega, ?_⟩
    rw [Int.toNat_natCast]
    refine for_it (n := n) walk_r0 (fun k σ' H' => H3 = H' ∧ (∃ x4 : Option V, σ' = [some (.ref ta), some (.int (n : Nat)), some (.int (i : Nat)), some (.int (j : Nat)), x4]) ∧ ∀ c, c < k → g M (g M i j) c = g M i (g M j c)) ⟨rfl, ⟨x4, rfl⟩, fun c h => absurd h (Nat.not_lt_zero _)⟩ (fun _ _ _ _ _ => trivial) (fun k x σ' H' H4 hk h y => ?_) (fun σ' H' h => ?_)
    rotate_left
    · obtain ⟨rfl, ⟨x4, rfl⟩, hc⟩ := h
      refine ⟨rfl, ⟨_, _, rfl⟩, fun b c h2 h3 => ?_⟩
      rcases Nat.lt_or_ge b j with z | z
      · exact hb b c z h3
      · have e : b = j := by omega
        subst e
        exact hc c h3
    obtain ⟨rfl, ⟨x4, rfl⟩, hc⟩ := h
    obtain ⟨rfl, rfl⟩ := y
    refine Rd.neI (Rd.prodL hM hq (Rd.var rfl) (Rd.prodL hM hq (Rd.var rfl) (Rd.var rfl) (Rd.var rfl) hi hj) (Rd.var rfl) (hq.lt hi hj) hk) (Rd.prodL hM hq (Rd.var rfl) (Rd.var rfl) (Rd.prodL hM hq (Rd.var rfl) (Rd.var rfl) (Rd.var rfl) hj hk) hi (hq.lt hj hk)) _ ⟨_, rfl, ?_⟩
    by_cases e : g M (g M i j) k = g M i (g M j k)
    · rw [show (!(((g M (g M i j) k : Nat) : Int) == ((g M i (g M j k) : Nat) : Int))) = false by simp [e]]
      refine iteF ⟨rfl, ⟨_, rfl⟩, fun c h => ?_⟩
      rcases Nat.lt_or_ge c k with z | z
      · exact hc c z
      · have e2 : c = k := by omega
        subst e2
        exact e
    · rw [show (!(((g M (g M i j) k : Nat) : Int) == ((g M i (g M j k) : Nat) : Int))) = true by simp; omega]
      exact iteT q2
end
end K37
set_option Elab.async false
set_option linter.all false
set_option maxRecDepth 100000
set_option maxHeartbeats 4000000
namespace K37
open PySem PySem.Spec PyProof.Rows L2
open C8 (Cal pe_c)
section
variable {P : Program} {w : World} {K : PySem.W.Frag} {mg : Str → Option Value} {base : Heap} {T : List Addr}
theorem kTupleOf {X : Cx} (K : PySem.W.Frag) {a : Expr} {ta : TE} {p pos : Pos} (hK : X.K = K) (hg : Gl X "tuple") (hm : X.mg "tuple" = none) (ha : PE X a ta) (na : starEach [a] X.env = (false, eval a X.env) :: starEach [] X.env := by rfl) :
    PE X (.Call (.Name "tuple" p) [a] [] pos) (tThen ta (L2.kTup K)) := hK ▸ pe_tupleOf hg hm ha na
theorem Bs.seqT {bx : BX} {H H' : Hp} (a : Bs T bx H H') {p : Addr} {xs : List V} (h : SqT K H p xs) : SqT K H' p xs := by
  rcases h with (h | ⟨o, h⟩) | h
  · exact .inl (.inl (a.tup h))
  · refine .inl (.inr ⟨o, ?_⟩)
    obtain ⟨k, h1, _⟩ := a.b0
    exact a.ext.at_ h (fun _ z => by cases z) (fun z => by rw [Option.some.inj z, h1] at h; cases h)
  · exact .inr h
theorem TblT.bs {bx : BX} {H H' : Hp} {a : Addr} {M : List (List Nat)} (h : TblT K H a M) (n : Bs T bx H H') : TblT K H' a M := by
  obtain ⟨rs, h1, h2⟩ := h
  exact ⟨rs, n.seqT h1, paired_map h2 fun _ _ z => n.seqT z⟩
theorem SgT.bs {bx : BX} {H H' : Hp} {a : Addr} {M : List (List Nat)} {L : List Nat} (h : SgT K H a M L) (n : Bs T bx H H') : SgT K H' a M L := by
  obtain ⟨ta, la, h1, h2, h3⟩ := h
  exact ⟨ta, la, n.seqT h1, h2.bs n, n.seqT h3⟩
theorem scSubset : FnScope ["_law_box_here", "_law_size", "_law_k"] ["_law_box_here", "_law_size"] (defScope sSubset) := ⟨rfl, rfl, rfl, by decide +kernel, rfl, by decide +kernel, by decide +kernel⟩
/-- an ascending tuple below n -/
def spSubset (T : List Addr) (K : PySem.W.Frag) : Sp := fun vs H Q _ => ∃ (b : BX) (n : Nat), vs = [.ref b.bx, .int (n : Nat)] ∧ n ≤ 4 ∧ Tb T H ∧ BoxAt H b ∧ ∀ H' a ns, Bs T b H H' → H' a = some (.tup (ivs ns)) → VS n ns → Q (.ref a) H'
theorem ok_subset (D : Dn K mg "_law_subset" sSubset) (B : Bn mg) (c__law_next : Cal P w K mg base 1 "_law_next" (spNext T) []) : Cal P w K mg base 2 "_law_subset" (spSubset T K) [] := by
  refine cal_of D scSubset (fun _ _ _ _ _ _ us h => by match us, h with | [_, _], _ => rfl) (fun vs H Q E h => ?_) (fun f cdv A outer s H vs Q E hr h => ?_)
  · obtain ⟨b, n, rfl, _⟩ := h
    rfl
  · obtain ⟨b, n, rfl, hn, hT, hB, q⟩ := h
    refine ⟨_, (pss_one (ps_ret (pe_tupleOf (by rfl) B.tuple (pe_lc (own := [("_law_k", 2)]) rfl scSubset.nd (pi_range1 (by rfl) B.range (pa_cons (pv 1) pa_nil)) (blkOk_by ?_) (fun _ _ _ _ _ => (pg_name (i := 2) scSubset.nd rfl (by first | exact .inl rfl | exact .inr rfl))) (fun _ _ _ _ _ => (pts_one (pt_cmpR op_eq (pe_c c__law_next hr (by decide) (by rfl) (pa_cons (pv 0) (pa_cons pe_int pa_nil))) pe_int (nomark _)))) (fun _ _ _ _ _ => (pv 2)))))), ?_⟩
    · show blkC ["_law_box_here", "_law_size", "_law_k"] (defScope sSubset) _ _ = true
      decide +kernel
    refine ⟨_, rfl, (n : Nat), rfl, by omega, by omega, fun D hD => ?_⟩
    rw [Int.toNat_natCast]
    refine lc_it (n := n) walk_r0 (fun i H' => ∃ ns : List Nat, Bs T b H H' ∧ H' D = some (.lst (ivs ns)) ∧ ns.Pairwise (· < ·) ∧ (∀ x ∈ ns, x < i) ∧ ns.length ≤ i) ⟨[], (Bs.refl hT hB).new hD, upd_same, List.Pairwise.nil, (fun _ h => absurd h List.not_mem_nil), Nat.le_refl _⟩
      (fun _ _ _ _ => trivial) (fun i x H' H'' hi h y => ?_) (fun H' h => ?_)
    · obtain ⟨ns, n1, e, p1, p2, p3⟩ := h
      obtain ⟨rfl, rfl⟩ := y
      refine ⟨rfl, _, rfl, b, 2, rfl, by omega, n1.tb, n1.bx, fun H2 v n2 hv => ⟨rfl, _, rfl, ?_⟩⟩
      have e2 := n2.lst e
      have n12 := n1.trans n2
      refine ite2 (fun _ => ⟨_, rfl, _, e2, small1000 (by simp; omega), ns ++ [i], n12.own hD e2, by rw [upd_same]; simp, ?_, ?_, by simp; omega⟩) (fun _ => ⟨ns, n12, e2, p1, fun x hx => Nat.lt_succ_of_lt (p2 x hx), by omega⟩)
      · rw [List.pairwise_append]
        refine ⟨p1, by simp, fun x hx y hy => ?_⟩
        simp at hy
        subst hy
        exact p2 x hx
      · intro x hx
        rcases List.mem_append.mp hx with h | h
        · exact Nat.lt_succ_of_lt (p2 x h)
        · simp at h
          omega
    · obtain ⟨ns, n1, e, p1, p2, p3⟩ := h
      exact .inl ⟨D, _, rfl, .inl (.inl e), fun t ht => q _ t ns (n1.new ht) upd_same ⟨p1, p2, by omega⟩⟩
def spTable (T : List Addr) (K : PySem.W.Frag) : Sp := fun vs H Q _ => ∃ (b : BX) (n : Nat), vs = [.ref b.bx, .int (n : Nat)] ∧ 1 ≤ n ∧ n ≤ 4 ∧ Tb T H ∧ BoxAt H b ∧ ∀ H' a M, Bs T b H H' → TblT K H' a M → Sq M n → AssocN M n → Q (.ref a) H'
theorem scSemi : FnScope ["_law_box_here", "_law_most", "_law_size", "_law_table_here", "_law_letters", "_law_k"] ["_law_box_here", "_law_most"] (defScope sSemi) := ⟨rfl, rfl, rfl, by decide +kernel, rfl, by decide +kernel, by decide +kernel⟩
def spSemi (T : List Addr) (K : PySem.W.Frag) : Sp := fun vs H Q _ => ∃ (b : BX), vs = [.ref b.bx, .int 4] ∧ Tb T H ∧ BoxAt H b ∧ ∀ H' sa M L, Bs T b H H' → SgT K H' sa M L → Val M L → Q (.ref sa) H'
theorem ok_semi (D : Dn K mg "_law_semigroup" sSemi) (B : Bn mg) (c__law_next : Cal P w K mg base 1 "_law_next" (spNext T) []) (c__law_table : Cal P w K mg base 2 "_law_table" (spTable T K) []) : Cal P w K mg base 3 "_law_semigroup" (spSemi T K) [] := by
  refine cal_of D scSemi (fun _ _ _ _ _ _ us h => by match us, h with | [_, _], _ => rfl) (fun vs H Q E h => ?_) (fun f cdv A outer s H vs Q E hr h => ?_)
  · obtain ⟨b, rfl, _⟩ := h
    rfl
  · obtain ⟨b, rfl, hT, hB, q⟩ := h
    refine ⟨_, (pss_cons (ps_set (i := 2) scSemi.nd rfl (by first | exact .inl rfl | exact .inr rfl) (pe_op op_add pe_int (pe_c c__law_next hr (by decide) (by rfl) (pa_cons (pv 0) (pa_cons (pv 1) pa_nil)))))
      (pss_cons (ps_set (i := 3) scSemi.nd rfl (by first | exact .inl rfl | exact .inr rfl) (pe_c c__law_table hr (by decide) (by rfl) (pa_cons (pv 0) (pa_cons (pv 2) pa_nil))))
      (pss_cons (ps_set (i := 4) scSemi.nd rfl (by first | exact .inl rfl | exact .inr rfl) (pe_tupleOf (by rfl) B.tuple (pe_lc (own := [("_law_k", 5)]) rfl scSemi.nd (pi_range1 (by rfl) B.range (pa_cons (pe_op op_add pe_int (pe_c c__law_next hr (by decide) (by rfl) (pa_cons (pv 0) (pa_cons pe_int pa_nil)))) pa_nil)) (blkOk_by ?_) (fun _ _ _ _ _ => (pg_name (i := 5) scSemi.nd rfl (by first | exact .inl rfl | exact .inr rfl))) (fun _ _ _ _ _ => pts_nil) (fun _ _ _ _ _ => (pe_c c__law_next hr (by decide) (by rfl) (pa_cons (pv 0) (pa_cons (pv 2) pa_nil)))))))
      (pss_one (ps_ret (pe_tup (pa_cons (pv 3) (pa_cons (pv 4) pa_nil)))))))), ?_⟩
    · show blkC ["_law_box_here", "_law_most", "_law_size", "_law_table_here", "_law_letters", "_law_k"] (defScope sSemi) _ _ = true
      decide +kernel
    -- size
    refine ⟨_, rfl, _, rfl, b, 4, rfl, by omega, hT, hB, fun H1 v n1 hv => ⟨1, _, rfl, rfl, ?_⟩⟩
    have hs : (1 : Int) + (v : Nat) = ((v + 1 : Nat) : Int) := by omega
    dsimp only
    rw [hs]
    refine ⟨_, rfl, _, rfl, b, v + 1, rfl, by omega, by omega, n1.tb, n1.bx, fun H2 ta M n2 hM hq ha => ?_⟩
    have n12 := n1.trans n2
    -- letters
    refine ⟨_, rfl, b, 3, rfl, by omega, n12.tb, n12.bx, fun H3 u n3 hu => ⟨1, _, rfl, rfl, _, rfl, by omega, by omega, fun D hD => ?_⟩⟩
    have n13 := n12.trans n3
    have hs2 : ((1 : Int) + (u : Nat)).toNat = u + 1 := by omega
    rw [hs2]
    refine lc_it (n := u + 1) walk_r0 (fun i H' => ∃ ns : List Nat, Bs T b H3 H' ∧ H' D = some (.lst (ivs ns)) ∧ (∀ x ∈ ns, x < v + 1) ∧ ns.length = i) ⟨[], (Bs.refl n13.tb n13.bx).new hD, upd_same, (fun _ h => absurd h List.not_mem_nil), rfl⟩
      (fun _ _ _ _ => trivial) (fun i x H' H'' hi h y => ?_) (fun H' h => ?_)
    · obtain ⟨ns, n4, e, p2, p3⟩ := h
      obtain ⟨rfl, rfl⟩ := y
      refine ⟨rfl, ⟨_, rfl, _, rfl, b, v + 1, rfl, by omega, n4.tb, n4.bx, fun H5 l n5 hl => ?_⟩⟩
      have e2 := n5.lst e
      refine ⟨_, e2, small1000 (by simp; omega), ns ++ [l], (n4.trans n5).own hD e2, by rw [upd_same]; simp, fun x hx => ?_, by simp [p3]⟩
      rcases List.mem_append.mp hx with h | h
      · exact p2 x h
      · simp at h
        omega
    · obtain ⟨ns, n4, e, p2, p3⟩ := h
      refine .inl ⟨D, _, rfl, .inl (.inl e), fun la hla => ?_⟩
      have n5 := n4.new hla (o := .tup (ivs ns))
      refine ⟨_, rfl, _, rfl, sz2, fun sa hsa => ?_⟩
      have n6 := n5.new hsa (o := .tup [.ref ta, .ref la])
      have nn := n3.trans n6
      have hM' : TblT K (upd (upd H' la (.tup (ivs ns))) sa (.tup [.ref ta, .ref la])) ta M := hM.bs nn
      refine q _ sa M ns (n12.trans nn) ⟨ta, la, .inl (.inl upd_same), hM', .inl (.inl (upd_keep upd_same hsa))⟩ ?_
      exact ⟨by rw [hq.1]; omega, by rw [hq.1]; omega, fun row hr => by rw [hq.1]; exact hq.2 row hr, fun a b' c h1 h2 h3 => by rw [hq.1] at h1 h2 h3; exact ha a b' c h1 h2 h3, by omega, by omega, fun x hx => by rw [hq.1]; exact p2 x hx⟩
end
end K37
set_option Elab.async false
set_option linter.all false
set_option maxRecDepth 100000
set_option maxHeartbeats 4000000
namespace K37
open PySem PySem.Spec PyProof.Rows L2
/-! ### permuted tables -/
structure Pm (ns : List Nat) (n : Nat) : Prop where
  len : ns.length = n
  lt : ∀ x ∈ ns, x < n
  nd : ns.Nodup
theorem getD_get {ns : List Nat} {i : Nat} (h : i < ns.length) : ns.getD i 0 = ns[i] := by simp [h]
theorem Pm.at_lt {ns : List Nat} {n i : Nat} (p : Pm ns n) (h : i < n) : ns.getD i 0 < n := getD_lt p.lt (by rw [p.len]; exact h)
theorem Pm.init (n : Nat) : Pm (List.range n) n := ⟨List.length_range, fun x h => List.mem_range.mp h, List.nodup_range⟩
theorem Pm.swap {ns : List Nat} {n i j : Nat} (p : Pm ns n) (hi : i < n) (hj : j < n) : Pm ((ns.set i (ns.getD j 0)).set j (ns.getD i 0)) n := by
  have hi' : i < ns.length := by rw [p.len]; exact hi
  have hj' : j < ns.length := by rw [p.len]; exact hj
  rw [getD_get hi', getD_get hj']
  have pm := List.set_set_perm hi' hj'
  exact ⟨by rw [pm.length_eq]; exact p.len, fun x h => p.lt x (pm.mem_iff.mp h), pm.nodup_iff.mpr p.nd⟩
theorem Pm.inj {ns : List Nat} {n i j : Nat} (p : Pm ns n) (hi : i < n) (hj : j < n) (h : ns.getD i 0 = ns.getD j 0) : i = j := by
  have hi' : i < ns.length := by rw [p.len]; exact hi
  have hj' : j < ns.length := by rw [p.len]; exact hj
  rw [getD_get hi', getD_get hj'] at h
  rcases Nat.lt_trichotomy i j with z | z | z
  · exact absurd h ((List.pairwise_iff_getElem.mp p.nd) i j hi' hj' z)
  · exact z
  · exact absurd h.symm ((List.pairwise_iff_getElem.mp p.nd) j i hj' hi' z)
theorem Pm.surj {ns : List Nat} {n x : Nat} (p : Pm ns n) (hx : x < n) : ∃ a, a < n ∧ ns.getD a 0 = x := by
  by_cases h : x ∈ ns
  · obtain ⟨a, ha, e⟩ := List.getElem_of_mem h
    exact ⟨a, by rw [← p.len]; exact ha, by rw [getD_get ha]; exact e⟩
  · have := nodup_le (l := x :: ns) (n := n) (List.nodup_cons.mpr ⟨h, p.nd⟩) fun y hy => by
      rcases List.mem_cons.mp hy with z | z
      · omega
      · exact p.lt y z
    rw [List.length_cons, p.len] at this
    omega
/-- the table has the law's products on those before (i, j) -/
def Done (M : List (List Nat)) (ns : List Nat) (k n i j : Nat) : Prop := ∀ a b, a < n → b < n → (a < i ∨ a = i ∧ b < j) → g M (ns.getD a 0) (ns.getD b 0) = ns.getD (simpN k n a b) 0
theorem done_assoc {M : List (List Nat)} {ns : List Nat} {k n : Nat} (p : Pm ns n) (hk : k < 8) (hn : n ≤ 4) (d : Done M ns k n n 0) : AssocN M n := by
  intro x y z hx hy hz
  obtain ⟨a, ha, rfl⟩ := p.surj hx
  obtain ⟨b, hb, rfl⟩ := p.surj hy
  obtain ⟨c, hc, rfl⟩ := p.surj hz
  have hab := simp_lt hk hn ha hb
  have hbc := simp_lt hk hn hb hc
  rw [d a b ha hb (.inl ha), d _ c hab hc (.inl hab), d b c hb hc (.inl hb), d a _ ha hbc (.inl ha), simp_assoc hk hn ha hb hc]
/-- one product written -/
def put (M : List (List Nat)) (x y v : Nat) : List (List Nat) := M.set x ((M.getD x []).set y v)
theorem getD_set {α : Type} {l : List α} {i j : Nat} {a d : α} (h : i < l.length) : (l.set i a).getD j d = if i = j then a else l.getD j d := by
  rw [List.getD_eq_getElem?_getD, List.getElem?_set]
  by_cases e : i = j
  · subst e
    simp [h]
  · simp [e]
theorem g_put {M : List (List Nat)} {n x y v a b : Nat} (h : Sq M n) (hx : x < n) (hy : y < n) : g (put M x y v) a b = if a = x ∧ b = y then v else g M a b := by
  unfold g put
  rw [getD_set (by rw [h.1]; exact hx)]
  by_cases e : x = a
  · subst e
    rw [if_pos rfl, getD_set (by rw [(h.row hx).1]; exact hy)]
    by_cases e2 : y = b
    · subst e2
      simp
    · rw [if_neg e2, if_neg (by omega)]
  · rw [if_neg e, if_neg (by omega)]
theorem Sq.put {M : List (List Nat)} {n x y v : Nat} (h : Sq M n) (hx : x < n) (hv : v < n) : Sq (K37.put M x y v) n := by
  refine ⟨by unfold K37.put; rw [List.length_set]; exact h.1, fun row hr => ?_⟩
  unfold K37.put at hr
  rcases List.mem_or_eq_of_mem_set hr with z | z
  · exact h.2 row z
  · subst z
    obtain ⟨h1, h2⟩ := h.row hx
    refine ⟨by rw [List.length_set]; exact h1, fun u hu => ?_⟩
    rcases List.mem_or_eq_of_mem_set hu with z | z
    · exact h2 u z
    · omega
theorem Done.put {M : List (List Nat)} {ns : List Nat} {k n i j : Nat} (p : Pm ns n) (h : Sq M n) (hi : i < n) (hj : j < n) (d : Done M ns k n i j) : Done (K37.put M (ns.getD i 0) (ns.getD j 0) (ns.getD (simpN k n i j) 0)) ns k n i (j + 1) := by
  intro a b ha hb hab
  rw [g_put h (p.at_lt hi) (p.at_lt hj)]
  by_cases e : a = i ∧ b = j
  · obtain ⟨rfl, rfl⟩ := e
    rw [if_pos ⟨rfl, rfl⟩]
  · rw [if_neg fun z => e ⟨p.inj ha hi z.1, p.inj hb hj z.2⟩]
    exact d a b ha hb (by omega)
theorem sq_zero (n : Nat) (hn : 1 ≤ n) : Sq (List.replicate n (List.replicate n 0)) n := by
  refine ⟨List.length_replicate, fun row h => ?_⟩
  obtain ⟨_, rfl⟩ := List.mem_replicate.mp h
  refine ⟨List.length_replicate, fun x hx => ?_⟩
  obtain ⟨_, rfl⟩ := List.mem_replicate.mp hx
  omega
theorem ixN_n {n j : Nat} (hj : j < n) : ixN n (j : Int) = some j := by
  unfold ixN
  rw [if_pos (by omega), if_pos (by omega)]
  simp
/-! ### lists of lists -/
theorem Rd.atL {K : PySem.W.Frag} {σ : L2.St} {ta tb : TE} {H : Hp} {l : Addr} {ns : List Nat} {a : Nat} (hL : H l = some (.lst (ivs ns))) (h1 : Rd ta σ H (.ref l)) (h2 : Rd tb σ H (.int (a : Nat))) (ha : a < ns.length) : Rd (tOp (rIxL K) ta tb) σ H (.int (ns.getD a 0 : Nat)) :=
  fun Q q => h1 _ (h2 _ ⟨l, ivs ns, a, _, rfl, rfl, .inl (.inl hL), at_ivs ha, q⟩)
theorem ivs_set (ns : List Nat) (i v : Nat) : (ivs ns).set i (V.int (v : Nat)) = ivs (ns.set i v) := by
  unfold ivs
  rw [List.map_set]
/-- a row is written -/
theorem LL_wr {H : Hp} {ta r : Addr} {rs : List Addr} {M : List (List Nat)} {n x y v : Nat} (h1 : H ta = some (.lst (rs.map V.ref))) (h2 : Paired (fun r row => H r = some (.lst (ivs row))) rs M) (nd : rs.Nodup) (hr : rs[x]? = some r) (ht : ta ≠ r) :
    upd H r (.lst (ivs ((M.getD x []).set y v))) ta = some (.lst (rs.map V.ref)) ∧ Paired (fun r' row => upd H r (.lst (ivs ((M.getD x []).set y v))) r' = some (.lst (ivs row))) rs (K37.put M x y v) := by
  refine ⟨by rw [upd_ne ht]; exact h1, ?_⟩
  unfold K37.put
  generalize hrow : (M.getD x []).set y v = row
  clear hrow h1 ht
  induction h2 generalizing x with
  | nil => simp at hr
  | @cons r0 row0 rs M e t ih =>
    obtain ⟨nd1, nd2⟩ := List.nodup_cons.mp nd
    cases x with
    | zero =>
      simp at hr
      subst hr
      refine .cons upd_same (paired_in t fun r' row' hm z => ?_)
      have ne : r' ≠ r0 := fun q => nd1 (by rw [← q]; exact hm)
      rw [upd_ne ne]
      exact z
    | succ x =>
      simp at hr
      have hm : r ∈ rs := List.mem_of_getElem? hr
      have ne : r0 ≠ r := fun q => nd1 (by rw [q]; exact hm)
      exact .cons (by rw [upd_ne ne]; exact e) (ih nd2 hr)
where
  paired_in {rs : List Addr} {M : List (List Nat)} {F G : Addr → List Nat → Prop} (t : Paired F rs M) (h : ∀ r row, r ∈ rs → F r row → G r row) : Paired G rs M := by
    induction t with
    | nil => exact .nil
    | cons e t ih => exact .cons (h _ _ List.mem_cons_self e) (ih fun r row hm z => h r row (List.mem_cons_of_mem _ hm) z)
end K37
set_option Elab.async false
set_option linter.all false
set_option maxRecDepth 100000
set_option maxHeartbeats 4000000
namespace K37
open PySem PySem.Spec PyProof.Rows L2
open C8 (Cal pe_c)
section
variable {P : Program} {w : World} {K : PySem.W.Frag} {mg : Str → Option Value} {base : Heap} {T : List Addr}
theorem tupRows {σ : L2.St} {sl : Nat} {H1 : Hp} {ra : Addr} {M : List (List Nat)} (hσ : σ[sl]? = some (some (.ref ra))) (hw : ∀ x, wipe ((wipe σ [5]).set 5 (some x)) [5] = wipe σ [5]) (hv : ∀ x : V, ((wipe σ [5]).set 5 (some x))[5]? = some (some x))
    (hT : Tb T H1) (hM : LL H1 ra M) (hl : M.length ≤ 4) {Q : VK} (q : ∀ H' a, Nx T H1 H' → TblT K H' a M → Q (.ref a) H') : tThen (tLc (iList K (tVar sl)) (gName 5) tYes (tThen (tVar 5) (L2.kTup K)) [5]) (L2.kTup K) σ H1 Q := by
  obtain ⟨rs, m1, m2⟩ := hM
  have hrl := m2.length
  refine ⟨_, hσ, ra, rfl, ⟨_, .inl (.inl m1)⟩, fun D hD => ?_⟩
  refine lc_it (n := (rs.map V.ref).length) walk_list (fun i H' => ∃ ts : List Addr, Nx T H1 H' ∧ H' D = some (.lst (ts.map V.ref)) ∧ ts.length = i ∧ Paired (fun t row => H' t = some (.tup (ivs row))) ts (M.take i)) ⟨[], (Nx.refl hT).new hD, upd_same, rfl, .nil⟩
    (fun i H' _ h => let ⟨_, n, _⟩ := h; .inl (.inl (n.lst m1))) (fun i x H' H'' hi h y => ?_) (fun H' h => ?_)
  · obtain ⟨ts, n, e, e2, e3⟩ := h
    obtain ⟨rfl, hx⟩ := y
    rw [List.getElem?_map] at hx
    cases hp : rs[i]? with
    | none => rw [hp] at hx; cases hx
    | some r =>
    rw [hp] at hx
    cases hx
    have hil : i < M.length := by
      have := (List.getElem?_eq_some_iff.mp hp).1
      omega
    obtain ⟨r', hr', hrow⟩ := paired_get m2 (List.getElem?_eq_getElem hil)
    rw [hp] at hr'
    cases hr'
    refine ⟨hw _, _, hv _, .inl ⟨r, _, rfl, .inl (.inl (n.lst hrow)), fun t ht => ?_⟩⟩
    have eD := upd_keep e ht (o := .tup (ivs M[i]))
    have ne : t ≠ D := (ne_of_none e ht).symm
    refine ⟨_, eD, small1000 (by rw [List.length_map]; omega), ts ++ [t], (n.new ht).upd_ hD (lst_ne_tbl eD), by rw [upd_same, List.map_append]; rfl, by simp [e2], ?_⟩
    rw [List.take_succ_eq_append_getElem hil]
    refine paired_append (paired_map e3 fun u row z => ?_) (.cons (by rw [upd_ne ne]; exact upd_same) .nil)
    have z2 := upd_keep z ht (o := .tup (ivs M[i]))
    have ne2 : u ≠ D := fun w' => by rw [w', e] at z; cases z
    rw [upd_ne ne2]
    exact z2
  · obtain ⟨ts, n, e, e2, e3⟩ := h
    refine .inl ⟨D, _, rfl, .inl (.inl e), fun a ha => q _ a (n.new ha) ⟨ts, .inl (.inl upd_same), ?_⟩⟩
    rw [List.length_map, hrl, List.take_length] at e3
    exact paired_map e3 fun u row z => .inl (.inl (upd_keep z ha))
abbrev NT : List Str := ["_law_box_here", "_law_size", "_law_drawn_here", "_law_a", "_law_b", "_law_row", "_law_kind", "_law_names", "_law_k", "_law_other", "_law_kept", "_law_rows"]
theorem scTab : FnScope ["_law_box_here", "_law_size", "_law_drawn_here", "_law_a", "_law_b", "_law_row", "_law_kind", "_law_names", "_law_k", "_law_other", "_law_kept", "_law_rows"] ["_law_box_here", "_law_size"] (defScope sTable) := ⟨rfl, rfl, rfl, by decide +kernel, rfl, by decide +kernel, by decide +kernel⟩
theorem table_rest (B : Bn mg) (c__law_next : Cal P w K mg base 1 "_law_next" (spNext T) []) (c__law_simple : Cal P w K mg base 1 "_law_simple" spSimple []) (f : Addr) (cdv : Value) (A : Around) (outer : List Env) (s : Shared) (H : Hp) (Q : VK) (E : XK)
    (hr : Room 1 (A.deeper (envOfC "_law_table" (defScope sTable) s.heap.objs.size f cdv))) (b : BX) (n : Nat) (h1 : 1 ≤ n) (h4 : n ≤ 4) (q : ∀ H' a M, Bs T b H H' → TblT K H' a M → Sq M n → AssocN M n → Q (.ref a) H') :
    ∃ t, PSs (cxOf CX0 P w K mg base NT "_law_table" (defScope sTable) f cdv A outer s H E).nox (defBody sTable).tail t ∧ ∀ H1 x2, Bs T b H H1 →
      t { nx := fun _ H' => Q .non H', rt := Q } [some (.ref b.bx), some (.int (n : Nat)), x2, none, none, none, none, none, none, none, none, none] H1 := by
  refine ⟨_, (pss_cons (ps_set (i := 6) scTab.nd rfl (by first | exact .inl rfl | exact .inr rfl) (pe_c c__law_next hr (by decide) (by rfl) (pa_cons (pv 0) (pa_cons pe_int pa_nil))))
      (pss_cons (ps_setLc (i := 7) (own := [("_law_k", 8)]) rfl scTab.nd rfl rfl (by rfl) (pi_range1 (by rfl) B.range (pa_cons (pv 1) pa_nil)) (blkOk_by ?_) (fun _ _ _ _ _ => (pg_name (i := 8) scTab.nd rfl (by first | exact .inl rfl | exact .inr rfl))) (fun _ _ _ _ _ => pts_nil) (fun _ _ _ _ _ => (pv 8)))
      (pss_cons (ps_for PassesOwn.never rfl (pi_range1 (by rfl) B.range (pa_cons (pe_op op_sub (pv 1) pe_int) pa_nil)) (pg_name (i := 8) scTab.nd rfl (by first | exact .inl rfl | exact .inr rfl)) (pss_cons (ps_set (i := 9) scTab.nd rfl (by first | exact .inl rfl | exact .inr rfl) (pe_op op_add (pv 8) (pe_c c__law_next hr (by decide) (by rfl) (pa_cons (pv 0) (pa_cons (pe_op op_sub (pv 1) (pv 8)) pa_nil)))))
      (pss_cons (ps_set (i := 10) scTab.nd rfl (by first | exact .inl rfl | exact .inr rfl) (pe_ix ix_list (pv 7) (pv 8) (fun _ _ => rfl)))
      (pss_cons (ps_asg (pe_ix ix_list (pv 7) (pv 9) (fun _ _ => rfl)) (pg_sub (pv 7) (pv 8) set_list))
      (pss_one (ps_asg (pv 10) (pg_sub (pv 7) (pv 9) set_list)))))))
      (pss_cons (ps_setLc (i := 11) (own := [("_law_a", 3)]) rfl scTab.nd rfl rfl (by rfl) (pi_range1 (by rfl) B.range (pa_cons (pv 1) pa_nil)) (blkOk_by ?_) (fun _ _ _ _ _ => (pg_name (i := 3) scTab.nd rfl (by first | exact .inl rfl | exact .inr rfl))) (fun _ _ _ _ _ => pts_nil) (fun _ _ _ _ _ => (pe_lc (own := [("_law_b", 4)]) rfl scTab.nd (pi_range1 (by rfl) B.range (pa_cons (pv 1) pa_nil)) (blkOk_by ?_) (fun _ _ _ _ _ => (pg_name (i := 4) scTab.nd rfl (by first | exact .inl rfl | exact .inr rfl))) (fun _ _ _ _ _ => pts_nil) (fun _ _ _ _ _ => pe_int))))
      (pss_cons (ps_for PassesOwn.never rfl (pi_range1 (by rfl) B.range (pa_cons (pv 1) pa_nil)) (pg_name (i := 3) scTab.nd rfl (by first | exact .inl rfl | exact .inr rfl)) (pss_one (ps_for PassesOwn.never rfl (pi_range1 (by rfl) B.range (pa_cons (pv 1) pa_nil)) (pg_name (i := 4) scTab.nd rfl (by first | exact .inl rfl | exact .inr rfl)) (pss_one (ps_asg (pe_ix ix_list (pv 7) (pe_c c__law_simple hr (by decide) (by rfl) (pa_cons (pv 6) (pa_cons (pv 1) (pa_cons (pv 3) (pa_cons (pv 4) pa_nil))))) (fun _ _ => rfl)) (pg_sub (pe_ix ix_list (pv 11) (pe_ix ix_list (pv 7) (pv 3) (fun _ _ => rfl)) (fun _ _ => rfl)) (pe_ix ix_list (pv 7) (pv 4) (fun _ _ => rfl)) set_list))))))
      (pss_one (ps_ret (pe_tupleOf (by rfl) B.tuple (pe_lc (own := [("_law_row", 5)]) rfl scTab.nd (pi_list (pv 11)) (blkOk_by ?_) (fun _ _ _ _ _ => (pg_name (i := 5) scTab.nd rfl (by first | exact .inl rfl | exact .inr rfl))) (fun _ _ _ _ _ => pts_nil) (fun _ _ _ _ _ => (kTupleOf K rfl (by rfl) B.tuple (pv 5)))))))))))), ?_⟩
  any_goals first
    | (show blkC NT (defScope sTable) _ _ = true; decide +kernel)
    | (intros; show blkC NT (relS _ (defScope sTable)) _ _ = true; decide +kernel)
  intro H1 x2 n1
  refine ⟨_, rfl, b, 8, rfl, by omega, n1.tb, n1.bx, fun H2 kd n2 hk => ?_⟩
  have N2 := n1.trans n2
  -- names
  refine ⟨_, rfl, (n : Nat), rfl, by omega, by omega, fun na hna => ?_⟩
  rw [Int.toNat_natCast]
  refine lc_it (n := n) walk_r0 (fun i H' => Nx T H2 H' ∧ H' na = some (.lst (ivs (List.range i)))) ⟨(Nx.refl N2.tb).new hna, upd_same⟩ (fun _ _ _ _ => trivial) (fun i x H' H'' hi h y => ?_) (fun H3 h => ?_)
  · obtain ⟨n3, e3⟩ := h
    obtain ⟨rfl, rfl⟩ := y
    exact ⟨rfl, ⟨_, rfl, _, e3, small1000 (by simp; omega), n3.upd_ hna (lst_ne_tbl e3), by rw [upd_same, List.range_succ]; simp⟩⟩
  obtain ⟨n3, e3⟩ := h
  have N3 := N2.nx n3
  have hna0 : H na = none := N2.free hna
  clear hna n3 n2 n1
  -- they are permuted
  refine ⟨_, rfl, _, _, rfl, rfl, (n : Int) - 1, rfl, by omega, by omega, ?_⟩
  refine for_it (n := ((n : Int) - 1).toNat) walk_r0 (fun i σ' H' => ∃ (x8 x9 x10 : Option V) (ns : List Nat), σ' = [some (.ref b.bx), some (.int (n : Nat)), x2, none, none, none, some (.int (kd : Nat)), some (.ref na), x8, x9, x10, none] ∧ Bs T b H H' ∧ H' na = some (.lst (ivs ns)) ∧ Pm ns n)
    ⟨none, none, none, List.range n, rfl, N3, e3, Pm.init n⟩ (fun _ _ _ _ _ => trivial) (fun i x σ' H' H'' hi h y => ?_) (fun σ' H4 h => ?_)
  · obtain ⟨x8, x9, x10, ns, rfl, n4, e4, pm⟩ := h
    obtain ⟨rfl, rfl⟩ := y
    have hi' : i < n := by omega
    refine ⟨_, rfl, _, rfl, _, rfl, _, rfl, _, _, rfl, rfl, b, n - i, (by show [V.ref b.bx, V.int (((n : Nat) : Int) - (i : Nat))] = _; rw [show ((n : Nat) : Int) - (i : Nat) = ((n - i : Nat) : Int) by omega]), by omega, n4.tb, n4.bx, fun H5 o n5 ho => ⟨_, _, rfl, rfl, ?_⟩⟩
    have n45 := n4.trans n5
    have e5 := n5.lst e4
    have hs : ((i : Nat) : Int) + (o : Nat) = ((i + o : Nat) : Int) := by omega
    dsimp only
    rw [hs]
    refine Rd.atL e5 (Rd.var rfl) (Rd.var rfl) (by rw [pm.len]; exact hi') _ ?_
    refine Rd.atL (a := i + o) e5 (Rd.var rfl) (Rd.var rfl) (by rw [pm.len]; omega) _ ?_
    refine ⟨_, rfl, _, rfl, na, _, _, i, rfl, rfl, e5, ixN_n (by rw [ivs_len, pm.len]; exact hi'), ?_⟩
    rw [ivs_set]
    refine ⟨_, rfl, _, rfl, _, rfl, na, _, _, i + o, rfl, rfl, upd_same, ixN_n (by rw [ivs_len, List.length_set, pm.len]; omega), ?_⟩
    rw [ivs_set]
    exact ⟨_, _, _, _, rfl, (n45.own hna0 e5).own hna0 upd_same, upd_same, pm.swap hi' (by omega)⟩
  obtain ⟨x8, x9, x10, ns, rfl, N4, e4, pm⟩ := h
  clear N3 e3
  -- rows of zeros
  refine ⟨_, rfl, (n : Nat), rfl, by omega, by omega, fun ra hra => ?_⟩
  rw [Int.toNat_natCast]
  have hra0 : H ra = none := N4.free hra
  have nera : na ≠ ra := ne_of_none e4 hra
  refine lc_it (n := n) walk_r0 (fun i H' => ∃ rs : List Addr, Bs T b H H' ∧ H' ra = some (.lst (rs.map V.ref)) ∧ rs.length = i ∧ rs.Nodup ∧ (∀ r ∈ rs, H' r = some (.lst (ivs (List.replicate n 0))) ∧ H r = none ∧ r ≠ ra ∧ r ≠ na) ∧ H' na = some (.lst (ivs ns)))
    ⟨[], N4.new hra, upd_same, rfl, List.nodup_nil, (fun _ h => absurd h List.not_mem_nil), upd_keep e4 hra⟩ (fun _ _ _ _ => trivial) (fun i x H' H'' hi h y => ?_) (fun H5 h => ?_)
  · obtain ⟨rs, n5, e5, l5, nd5, r5, a5⟩ := h
    obtain ⟨rfl, rfl⟩ := y
    refine ⟨rfl, ⟨_, rfl, (n : Nat), rfl, by omega, by omega, fun r hr => ?_⟩⟩
    rw [Int.toNat_natCast]
    refine lc_it (n := n) walk_r0 (fun j H2 => Nx T H'' H2 ∧ H2 r = some (.lst (ivs (List.replicate j 0)))) ⟨(Nx.refl n5.tb).new hr, upd_same⟩ (fun _ _ _ _ => trivial) (fun j x H2 H3 hj h y => ?_) (fun H2 h => ?_)
    · obtain ⟨n6, e6⟩ := h
      obtain ⟨rfl, rfl⟩ := y
      exact ⟨rfl, ⟨_, e6, small1000 (by simp; omega), n6.upd_ hr (lst_ne_tbl e6), by rw [upd_same, List.replicate_succ']; simp⟩⟩
    · obtain ⟨n6, e6⟩ := h
      have e7 := n6.lst e5
      have ner : r ≠ ra := (ne_of_none e5 hr).symm
      have nen : r ≠ na := (ne_of_none a5 hr).symm
      have hr0 : H r = none := n5.free hr
      refine ⟨_, e7, small1000 (by rw [List.length_map]; omega), rs ++ [r], (n5.nx n6).own hra0 e7, by rw [upd_same, List.map_append]; rfl, by simp [l5], ?_, fun r' hr' => ?_, by rw [upd_ne nera]; exact n6.lst a5⟩
      · rw [List.nodup_append]
        refine ⟨nd5, by simp, fun u hu v hv => ?_⟩
        simp at hv
        subst hv
        exact fun z => by
          have := (r5 u hu).1
          rw [z, hr] at this
          cases this
      · rcases List.mem_append.mp hr' with h | h
        · obtain ⟨g1, g2, g3, g4⟩ := r5 r' h
          exact ⟨by rw [upd_ne g3]; exact n6.lst g1, g2, g3, g4⟩
        · simp at h
          subst h
          exact ⟨by rw [upd_ne ner]; exact e6, hr0, ner, nen⟩
  obtain ⟨rs, N5, e5, l5, nd5, r5, a5⟩ := h
  clear N4 e4 hra
  -- the products
  have p0 : Paired (fun r row => H5 r = some (.lst (ivs row))) rs (List.replicate n (List.replicate n 0)) := by
    rw [← l5]
    have h : ∀ (rs' : List Addr), (∀ r ∈ rs', H5 r = some (.lst (ivs (List.replicate n 0)))) → Paired (fun r row => H5 r = some (.lst (ivs row))) rs' (List.replicate rs'.length (List.replicate n 0)) := fun rs' => by
      induction rs' with
      | nil => intro _; exact .nil
      | cons r rs' ih => intro h; exact .cons (h r List.mem_cons_self) (ih fun r' h' => h r' (List.mem_cons_of_mem _ h'))
    have := h rs fun r hr => (r5 r hr).1
    rw [l5] at this ⊢
    exact this
  have r0 : ∀ r ∈ rs, H r = none ∧ r ≠ ra ∧ r ≠ na := fun r hr => (r5 r hr).2
  clear r5
  refine ⟨_, rfl, (n : Nat), rfl, by omega, by omega, ?_⟩
  rw [Int.toNat_natCast]
  refine for_it (n := n) walk_r0 (fun i σ' H' => ∃ (x3 x4 : Option V) (M : List (List Nat)), σ' = [some (.ref b.bx), some (.int (n : Nat)), x2, x3, x4, none, some (.int (kd : Nat)), some (.ref na), x8, x9, x10, some (.ref ra)] ∧ Bs T b H H' ∧ H' na = some (.lst (ivs ns)) ∧ H' ra = some (.lst (rs.map V.ref)) ∧
    Paired (fun r row => H' r = some (.lst (ivs row))) rs M ∧ Sq M n ∧ Done M ns kd n i 0) ⟨none, none, _, rfl, N5, a5, e5, p0, sq_zero n h1, fun a c _ _ h => by omega⟩ (fun _ _ _ _ _ => trivial) (fun i x σ' H' H'' hi h y => ?_) (fun σ' H6 h => ?_)
  rotate_left
  · obtain ⟨x3, x4, M, rfl, n6, c1, c2, c3, sq, dn⟩ := h
    refine tupRows (sl := 11) rfl (fun _ => rfl) (fun _ => rfl) n6.tb ⟨rs, c2, c3⟩ (by rw [sq.1]; exact h4) fun H7 a n7 hM => q _ a M (n6.nx n7) hM sq (done_assoc pm hk h4 dn)
  obtain ⟨x3, x4, M, rfl, n6, c1, c2, c3, sq, dn⟩ := h
  obtain ⟨rfl, rfl⟩ := y
  refine ⟨_, rfl, (n : Nat), rfl, by omega, by omega, ?_⟩
  rw [Int.toNat_natCast]
  refine for_it (n := n) walk_r0 (fun j σ' H' => ∃ (x4 : Option V) (M : List (List Nat)), σ' = [some (.ref b.bx), some (.int (n : Nat)), x2, some (.int (i : Nat)), x4, none, some (.int (kd : Nat)), some (.ref na), x8, x9, x10, some (.ref ra)] ∧ Bs T b H H' ∧ H' na = some (.lst (ivs ns)) ∧ H' ra = some (.lst (rs.map V.ref)) ∧
    Paired (fun r row => H' r = some (.lst (ivs row))) rs M ∧ Sq M n ∧ Done M ns kd n i j) ⟨x4, M, rfl, n6, c1, c2, c3, sq, dn⟩ (fun _ _ _ _ _ => trivial) (fun j x σ' H' H7 hj h y => ?_) (fun σ' H6 h => ?_)
  rotate_left
  · obtain ⟨x4, M, rfl, n6, c1, c2, c3, sq, dn⟩ := h
    exact ⟨_, _, M, rfl, n6, c1, c2, c3, sq, fun a c ha hc h => dn a c ha hc (by omega)⟩
  clear c1 c2 c3 sq dn n6 M
  obtain ⟨x4, M, rfl, n6, c1, c2, c3, sq, dn⟩ := h
  obtain ⟨rfl, rfl⟩ := y
  have hx := pm.at_lt hi
  have hy := pm.at_lt hj
  have hsm := simp_lt hk h4 hi hj
  have hv := pm.at_lt hsm
  refine Rd.atL (a := simpN kd n i j) c1 (Rd.var rfl) (fun Q q => ⟨_, rfl, _, rfl, _, rfl, _, rfl, kd, n, i, j, rfl, h4, hi, hj, q⟩) (by rw [pm.len]; exact hsm) _ ?_
  obtain ⟨r, hr, hrow⟩ := paired_get c3 (List.getElem?_eq_getElem (by rw [sq.1]; exact hx : ns.getD i 0 < M.length))
  have hrow : H7 r = some (.lst (ivs (M.getD (ns.getD i 0) []))) := by
    have hxl : ns.getD i 0 < M.length := by rw [sq.1]; exact hx
    rw [List.getD_eq_getElem?_getD, List.getElem?_eq_getElem hxl]
    exact hrow
  have hrm := List.mem_of_getElem? hr
  obtain ⟨z1, z2, z3⟩ := r0 r hrm
  refine ⟨_, rfl, ?_⟩
  refine Rd.atL (a := i) c1 (Rd.var rfl) (Rd.var rfl) (by rw [pm.len]; exact hi) _ ?_
  refine ⟨ra, rs.map V.ref, _, .ref r, rfl, rfl, .inl (.inl c2), atI_nat (by rw [List.getElem?_map, hr]; rfl), ?_⟩
  refine Rd.atL (a := j) c1 (Rd.var rfl) (Rd.var rfl) (by rw [pm.len]; exact hj) _ ?_
  refine ⟨r, _, _, ns.getD j 0, rfl, rfl, hrow, ixN_n (by rw [ivs_len, (sq.row hx).1]; exact hy), ?_⟩
  rw [ivs_set]
  obtain ⟨w1, w2⟩ := LL_wr (n := n) (y := ns.getD j 0) (v := ns.getD (simpN kd n i j) 0) c2 c3 nd5 hr z2.symm
  exact ⟨_, _, rfl, n6.own z1 hrow, by rw [upd_ne z3.symm]; exact c1, w1, w2, sq.put hx hv, Done.put pm sq hi hj dn⟩
theorem ok_table (D : Dn K mg "_law_table" sTable) (B : Bn mg) (c__law_next : Cal P w K mg base 1 "_law_next" (spNext T) []) (c__law_associative : Cal P w K mg base 1 "_law_associative" spLAssoc []) (c__law_simple : Cal P w K mg base 1 "_law_simple" spSimple []) : Cal P w K mg base 2 "_law_table" (spTable T K) [] := by
  refine cal_of (N := NT) D scTab (fun _ _ _ _ _ _ us h => by match us, h with | [_, _], _ => rfl) (fun vs H Q E h => ?_) (fun f cdv A outer s H vs Q E hr h => ?_)
  · obtain ⟨b, n, rfl, _⟩ := h
    rfl
  · obtain ⟨b, n, rfl, h1, h4, hT, hB, q⟩ := h
    obtain ⟨t, ht, hq⟩ := table_rest B c__law_next c__law_simple f cdv A outer s H Q E hr b n h1 h4 q
    refine ⟨_, pss_cons (ps_if (pt_cmpR op_eq (pe_c c__law_next hr (by decide) (by rfl) (pa_cons (pv 0) (pa_cons pe_int pa_nil))) pe_int (nomark _)) (pss_cons (ps_setLc (i := 2) (own := [("_law_a", 3)]) rfl scTab.nd rfl rfl (by rfl) (pi_range1 (by rfl) B.range (pa_cons (pv 1) pa_nil)) (blkOk_by ?_) (fun _ _ _ _ _ => (pg_name (i := 3) scTab.nd rfl (by first | exact .inl rfl | exact .inr rfl))) (fun _ _ _ _ _ => pts_nil) (fun _ _ _ _ _ => (pe_lc (own := [("_law_b", 4)]) rfl scTab.nd (pi_range1 (by rfl) B.range (pa_cons (pv 1) pa_nil)) (blkOk_by ?_) (fun _ _ _ _ _ => (pg_name (i := 4) scTab.nd rfl (by first | exact .inl rfl | exact .inr rfl))) (fun _ _ _ _ _ => pts_nil) (fun _ _ _ _ _ => (pe_c c__law_next hr (by decide) (by rfl) (pa_cons (pv 0) (pa_cons (pv 1) pa_nil)))))))
      (pss_one (ps_if (pt_val (pe_c c__law_associative hr (by decide) (by rfl) (pa_cons (pv 2) pa_nil))) (pss_one (ps_ret (pe_tupleOf (by rfl) B.tuple (pe_lc (own := [("_law_row", 5)]) rfl scTab.nd (pi_list (pv 2)) (blkOk_by ?_) (fun _ _ _ _ _ => (pg_name (i := 5) scTab.nd rfl (by first | exact .inl rfl | exact .inr rfl))) (fun _ _ _ _ _ => pts_nil) (fun _ _ _ _ _ => (kTupleOf K rfl (by rfl) B.tuple (pv 5))))))) pss_nil))) pss_nil) ht, ?_⟩
    any_goals first
      | (show blkC NT (defScope sTable) _ _ = true; decide +kernel)
      | (intros; show blkC NT (relS _ (defScope sTable)) _ _ = true; decide +kernel)
    refine ⟨_, rfl, b, 3, rfl, by omega, hT, hB, fun H1 v n1 hv => ⟨rfl, _, rfl, ite2 (fun _ => ?_) (fun _ => hq H1 none n1)⟩⟩
    refine ⟨_, rfl, (n : Nat), rfl, by omega, by omega, fun D hD => ?_⟩
    rw [Int.toNat_natCast]
    have hD0 : H D = none := n1.free hD
    refine lc_it (n := n) walk_r0 (fun i H' => ∃ (rs : List Addr) (M : List (List Nat)), Bs T b H H' ∧ H' D = some (.lst (rs.map V.ref)) ∧ Paired (fun r row => r ≠ D ∧ H' r = some (.lst (ivs row))) rs M ∧ M.length = i ∧ ∀ row ∈ M, row.length = n ∧ ∀ x ∈ row, x < n)
      ⟨[], [], n1.new hD, upd_same, .nil, rfl, (fun _ h => absurd h List.not_mem_nil)⟩ (fun _ _ _ _ => trivial) (fun i x H' H'' hi h y => ?_) (fun H2 h => ?_)
    · obtain ⟨rs, M, n2, e2, p2, l2, s2⟩ := h
      obtain ⟨rfl, rfl⟩ := y
      refine ⟨rfl, ⟨_, rfl, (n : Nat), rfl, by omega, by omega, fun r hr => ?_⟩⟩
      rw [Int.toNat_natCast]
      have ner : r ≠ D := (ne_of_none e2 hr).symm
      refine lc_it (n := n) walk_r0 (fun j H2 => ∃ xs : List Nat, Bs T b H'' H2 ∧ H2 r = some (.lst (ivs xs)) ∧ xs.length = j ∧ ∀ x ∈ xs, x < n) ⟨[], (Bs.refl n2.tb n2.bx).new hr, upd_same, rfl, (fun _ h => absurd h List.not_mem_nil)⟩ (fun _ _ _ _ => trivial) (fun j x H2 H3 hj h y => ?_) (fun H2 h => ?_)
      · obtain ⟨xs, n3, e3, l3, s3⟩ := h
        obtain ⟨rfl, rfl⟩ := y
        refine ⟨rfl, ⟨_, rfl, _, rfl, b, n, rfl, h1, n3.tb, n3.bx, fun H4 u n4 hu => ⟨_, n4.lst e3, small1000 (by simp; omega), xs ++ [u], (n3.trans n4).own hr (n4.lst e3), by rw [upd_same]; simp, by simp [l3], fun x hx => ?_⟩⟩⟩
        rcases List.mem_append.mp hx with h | h
        · exact s3 x h
        · simp at h
          omega
      · obtain ⟨xs, n3, e3, l3, s3⟩ := h
        have e4 := n3.lst e2
        refine ⟨_, e4, small1000 (by rw [List.length_map, p2.length]; omega), rs ++ [r], M ++ [xs], (n2.trans n3).own hD0 e4, by rw [upd_same, List.map_append]; rfl, paired_append (paired_map p2 fun r' row z => ⟨z.1, by rw [upd_ne z.1]; exact n3.lst z.2⟩) (.cons ⟨ner, by rw [upd_ne ner]; exact e3⟩ .nil), by simp [l2], fun row hrow => ?_⟩
        rcases List.mem_append.mp hrow with h | h
        · exact s2 row h
        · simp at h
          subst h
          exact ⟨l3, s3⟩
    · obtain ⟨rs, M, n2, e2, p2, l2, s2⟩ := h
      have hLL : LL H2 D M := ⟨rs, e2, paired_map p2 fun r' row z => z.2⟩
      refine ⟨_, rfl, D, M, n, rfl, hLL, ⟨l2, s2⟩, h4, fun ha => ⟨true, rfl, iteT ?_⟩, ⟨false, rfl, iteF (hq H2 _ n2)⟩⟩
      exact tupRows (sl := 2) rfl (fun _ => rfl) (fun _ => rfl) n2.tb hLL (by omega) fun H7 a n7 hM => q _ a M (n2.nx n7) hM ⟨l2, s2⟩ ha
end
end K37
set_option Elab.async false
set_option linter.all false
set_option maxRecDepth 100000
set_option maxHeartbeats 4000000
namespace K37
open PySem PySem.Spec PyProof.Rows L2
open C8 (Cal pe_c)
section
variable {P : Program} {w : World} {K : PySem.W.Frag} {mg : Str → Option Value} {base : Heap} {T : List Addr}
theorem scLValue : FnScope ["_law_semigroup_here", "_law_word_here", "_law_value_here", "_law_letter", "_law_behind"] ["_law_semigroup_here", "_law_word_here"] (defScope sLValue) := ⟨rfl, rfl, rfl, by decide +kernel, rfl, by decide +kernel, by decide +kernel⟩
theorem ok_lvalue (D : Dn K mg "_law_value" sLValue) : Cal P w K mg base 1 "_law_value" (spValue K) [] := by
  refine cal_of D scLValue (fun _ _ _ _ _ _ us h => by match us, h with | [_, _], _ => rfl) (fun vs H Q E h => ?_) (fun f cdv A outer s H vs Q E hr h => ?_)
  · obtain ⟨sa, wa, M, L, ws, rfl, _⟩ := h
    rfl
  · obtain ⟨sa, wa, M, L, ws, rfl, hS, hV, hW, hl, q⟩ := h
    refine ⟨_, (pss_cons (ps_set (i := 2) scLValue.nd rfl (by first | exact .inl rfl | exact .inr rfl) pe_non)
      (pss_cons (ps_for PassesOwn.never rfl (pi_list (pv 1)) (pg_name (i := 3) scLValue.nd rfl (by first | exact .inl rfl | exact .inr rfl)) (pss_cons (ps_set (i := 4) scLValue.nd rfl (by first | exact .inl rfl | exact .inr rfl) (pe_ix ix_tup (pe_ix ix_tup (pv 0) pe_int (fun _ _ => rfl)) (pv 3) (fun _ _ => rfl)))
      (pss_one (ps_if (pt_cmp (pc_isN (pv 2))) (pss_one (ps_set (i := 2) scLValue.nd rfl (by first | exact .inl rfl | exact .inr rfl) (pv 4))) (pss_one (ps_set (i := 2) scLValue.nd rfl (by first | exact .inl rfl | exact .inr rfl) (pe_ix ix_tup (pe_ix ix_tup (pe_ix ix_tup (pv 0) pe_int (fun _ _ => rfl)) (pv 2) (fun _ _ => rfl)) (pv 4) (fun _ _ => rfl))))))))
      (pss_one (ps_ret (pv 2))))), ?_⟩
    obtain ⟨ta, la, hs, hM, hL⟩ := hS
    refine ⟨_, rfl, wa, rfl, ⟨_, hW⟩, ?_⟩
    refine for_it (n := (ivs ws).length) walk_list (fun i σ' H' => H = H' ∧ ∃ x3 x4 : Option V, σ' = [some (.ref sa), some (.ref wa), some (oV (vOf M L (ws.take i))), x3, x4]) ⟨rfl, none, none, rfl⟩ (fun i σ' H' _ h => h.1 ▸ hW)
      (fun i x σ' H' H'' hi h y => ?_) (fun σ' H' h => ?_)
    · obtain ⟨rfl, x3, x4, rfl⟩ := h
      obtain ⟨rfl, hx⟩ := y
      obtain ⟨rfl, hi'⟩ := ivs_at hx
      have hli : ws.getD i 0 < L.length := getD_lt hl hi'
      have et : vOf M L (ws.take (i + 1)) = some (match vOf M L (ws.take i) with | none => L.getD (ws.getD i 0) 0 | some v => g M v (L.getD (ws.getD i 0) 0)) := by
        rw [List.take_succ_eq_append_getElem hi', vOf_snoc, getD_get hi'] <;> rfl
      refine Rd.at_ hL (Rd.snd hs (Rd.var rfl)) (Rd.var rfl) hli _ ?_
      cases e : vOf M L (ws.take i) with
      | none =>
        rw [e] at et
        refine ⟨_, rfl, true, rfl, iteT ⟨_, rfl, rfl, some (.int (ws.getD i 0 : Nat)), some (.int (L.getD (ws.getD i 0) 0 : Nat)), ?_⟩⟩
        rw [et]
        rfl
      | some v =>
        rw [e] at et
        have hv : v < M.length := vOf_lt hV (fun l hl' => hl l (List.mem_of_mem_take hl')) v e
        refine ⟨_, rfl, false, rfl, iteF (Rd.prod hM hV (Rd.fst hs (Rd.var rfl)) (Rd.var rfl) (Rd.var rfl) hv (getD_lt hV.ls hli) _ ⟨rfl, some (.int (ws.getD i 0 : Nat)), some (.int (L.getD (ws.getD i 0) 0 : Nat)), ?_⟩)⟩
        rw [et]
        rfl
    · obtain ⟨rfl, x3, x4, rfl⟩ := h
      refine ⟨_, rfl, ?_⟩
      have : ws.take (ivs ws).length = ws := by simp
      rw [this]
      exact q
theorem scTimes : FnScope ["_law_word_here", "_law_times_here", "_law_found", "_law_k"] ["_law_word_here", "_law_times_here"] (defScope sTimes) := ⟨rfl, rfl, rfl, by decide +kernel, rfl, by decide +kernel, by decide +kernel⟩
def spTimes (T : List Addr) : Sp := fun vs H Q _ => ∃ (a : Addr) (n : Nat) (ws : List Nat), vs = [.ref a, .int (n : Nat)] ∧ H a = some (.lst (ivs ws)) ∧ ws.length ≤ 100 ∧ n ≤ 20 ∧ Tb T H ∧ ∀ H' p, Nx T H H' → H' p = some (.lst (ivs (rp n ws))) → H p = none → Q (.ref p) H'
theorem rp_succ (n : Nat) (ws : List Nat) : rp (n + 1) ws = rp n ws ++ ws := by
  unfold rp
  rw [List.replicate_succ', List.flatten_append]
  simp
theorem ok_times (D : Dn K mg "_law_times" sTimes) (B : Bn mg) : Cal P w K mg base 1 "_law_times" (spTimes T) [] := by
  refine cal_of D scTimes (fun _ _ _ _ _ _ us h => by match us, h with | [_, _], _ => rfl) (fun vs H Q E h => ?_) (fun f cdv A outer s H vs Q E hr h => ?_)
  · obtain ⟨a, n, ws, rfl, _⟩ := h
    rfl
  · obtain ⟨a, n, ws, rfl, ha, hl, hn, hT, q⟩ := h
    refine ⟨_, (pss_cons (ps_set (i := 2) scTimes.nd rfl (by first | exact .inl rfl | exact .inr rfl) (pe_lst pa_nil))
      (pss_cons (ps_for PassesOwn.never rfl (pi_range1 (by rfl) B.range (pa_cons (pv 1) pa_nil)) (pg_name (i := 3) scTimes.nd rfl (by first | exact .inl rfl | exact .inr rfl)) (pss_one (ps_set (i := 2) scTimes.nd rfl (by first | exact .inl rfl | exact .inr rfl) (pe_op op_cat (pv 2) (pv 0)))))
      (pss_one (ps_ret (pv 2))))), ?_⟩
    refine ⟨sz0, fun r0 hr0 => ⟨_, rfl, (n : Nat), rfl, by omega, by omega, ?_⟩⟩
    rw [Int.toNat_natCast]
    refine for_it (n := n) walk_r0 (fun i σ' H' => ∃ (p : Addr) (x3 : Option V), σ' = [some (.ref a), some (.int (n : Nat)), some (.ref p), x3] ∧ Nx T H H' ∧ H' p = some (.lst (ivs (rp i ws))) ∧ H p = none) ⟨r0, none, rfl, (Nx.refl hT).new hr0, upd_same, hr0⟩ (fun _ _ _ _ _ => trivial) (fun i x σ' H' H'' hi h y => ?_) (fun σ' H' h => ?_)
    · obtain ⟨p, x3, rfl, n1, e1, _⟩ := h
      obtain ⟨rfl, rfl⟩ := y
      have m2 : i * ws.length ≤ 20 * 100 := Nat.mul_le_mul (by omega) hl
      have sz : (10000 : Nat) ≤ sizeLine := by decide
      refine ⟨_, rfl, _, rfl, p, a, _, _, rfl, rfl, e1, n1.lst ha, by rw [ivs_len, ivs_len, rp_len]; omega, fun p2 hp2 => ?_⟩
      exact ⟨p2, _, rfl, n1.new hp2, by rw [upd_same, ivs_app, rp_succ], n1.free hp2⟩
    · obtain ⟨p, x3, rfl, n1, e1, e2⟩ := h
      exact ⟨_, rfl, q _ p n1 e1 e2⟩
/-! ### equal data -/
def dI (ws : List Nat) : PyData := .list (ws.map fun n => .int (n : Nat))
def dLL (wss : List (List Nat)) : PyData := .list (wss.map dI)
def dT2 (a b : List Nat) : PyData := .tuple [dI a, dI b]
theorem lay_ints : ∀ ws : List Nat, PyData.canLayAll0 (ws.map fun n => PyData.int (n : Nat)) = true
  | [] => rfl
  | _ :: ws => lay_ints ws
theorem deep_ints : ∀ ws : List Nat, PyData.depthAll (ws.map fun n => PyData.int (n : Nat)) = 0
  | [] => rfl
  | n :: ws => by
    show max (PyData.depth (.int (n : Nat))) (PyData.depthAll (ws.map fun n => PyData.int (n : Nat))) = 0
    rw [deep_ints ws]
    rfl
theorem deep_dI (ws : List Nat) : (dI ws).depth = 1 := by
  show PyData.depthAll (ws.map fun n => PyData.int (n : Nat)) + 1 = 1
  rw [deep_ints]
theorem sh_dI (ws : List Nat) : SeqAt.shaped (dI ws) = true := by
  unfold SeqAt.shaped
  rw [deep_dI, show (dI ws).canLay0 = true from lay_ints ws]
  rfl
theorem lay_dIs : ∀ wss : List (List Nat), PyData.canLayAll0 (wss.map dI) = true
  | [] => rfl
  | w :: wss => by
    show (PyData.canLay0 (dI w) && PyData.canLayAll0 (wss.map dI)) = true
    rw [show (dI w).canLay0 = true from lay_ints w, lay_dIs wss]
    rfl
theorem deep_dIs : ∀ wss : List (List Nat), PyData.depthAll (wss.map dI) ≤ 1
  | [] => Nat.zero_le _
  | w :: wss => by
    show max (PyData.depth (dI w)) (PyData.depthAll (wss.map dI)) ≤ 1
    have := deep_dIs wss
    rw [deep_dI]
    omega
theorem sh_dLL (wss : List (List Nat)) : SeqAt.shaped (dLL wss) = true := by
  unfold SeqAt.shaped
  rw [show (dLL wss).canLay0 = true from lay_dIs wss]
  have h : (dLL wss).depth = PyData.depthAll (wss.map dI) + 1 := rfl
  have := deep_dIs wss
  simp
  omega
theorem sh_dT2 (a b : List Nat) : SeqAt.shaped (dT2 a b) = true := by
  unfold SeqAt.shaped
  rw [show (dT2 a b).canLay0 = true from lay_dIs [a, b]]
  have h : (dT2 a b).depth = PyData.depthAll ([a, b].map dI) + 1 := rfl
  have := deep_dIs [a, b]
  simp
  omega
theorem eqv_same {d : PyData} (h : SeqAt.shaped d = true) : PyData.eqv d d = true := SeqAt.eqv_refl d (SeqAt.canLay_of_shaped h)
theorem dpAll_ints {H : Hp} : ∀ ws : List Nat, DpAll K H (ivs ws) (ws.map fun n => PyData.int (n : Nat))
  | [] => .nil
  | n :: ws => .cons (.int _) (dpAll_ints ws)
theorem dp_ivs {H : Hp} {a : Addr} {ws : List Nat} (h : SqL K H a (ivs ws)) : Dp K H (.ref a) (dI ws) := .lst h (dpAll_ints ws)
theorem dpAll_rows {H : Hp} {as : List Addr} {wss : List (List Nat)} (h : Paired (fun a ws => H a = some (.lst (ivs ws))) as wss) : DpAll K H (as.map V.ref) (wss.map dI) := by
  induction h with
  | nil => exact .nil
  | cons e t ih => exact .cons (dp_ivs (.inl (.inl e))) ih
theorem dp_LL {H : Hp} {a : Addr} {wss : List (List Nat)} (h : LL H a wss) : Dp K H (.ref a) (dLL wss) := by
  obtain ⟨rs, h1, h2⟩ := h
  exact .lst (.inl (.inl h1)) (dpAll_rows h2)
theorem dp_T2 {H : Hp} {t a b : Addr} {u v : List Nat} (ht : H t = some (.tup [.ref a, .ref b])) (ha : H a = some (.lst (ivs u))) (hb : H b = some (.lst (ivs v))) : Dp K H (.ref t) (dT2 u v) :=
  .tup (.inl (.inl ht)) (.cons (dp_ivs (.inl (.inl ha))) (.cons (dp_ivs (.inl (.inl hb))) .nil))
theorem cut_take (ws : List Nat) {n : Nat} (h : n ≤ ws.length) : cutV (ivs ws) none (some (n : Nat)) = ivs (ws.take n) := by
  unfold cutV
  rw [HT.sIx_none, HT.sIx_nat, ivs_len, Nat.min_eq_left h]
  simp
theorem cut_drop (ws : List Nat) {n : Nat} (h : n ≤ ws.length) : cutV (ivs ws) (some (n : Nat)) none = ivs (ws.drop n) := by
  unfold cutV
  rw [HT.sIx_none, HT.sIx_nat, ivs_len, Nat.min_eq_left h]
  rw [← List.map_drop]
  rw [List.take_of_length_le (by simp)]
theorem scSame : FnScope ["_law_one", "_law_two", "_law_size"] ["_law_one", "_law_two", "_law_size"] (defScope sSame) := ⟨rfl, rfl, rfl, by decide +kernel, rfl, by decide +kernel, by decide +kernel⟩
def spSame (K : PySem.W.Frag) (T : List Addr) : Sp := fun vs H Q _ => ∃ (a b : Addr) (n : Nat) (u v : List Nat), vs = [.ref a, .ref b, .int (n : Nat)] ∧ SqL K H a (ivs u) ∧ SqL K H b (ivs v) ∧ n ≤ u.length ∧ n ≤ v.length ∧ u.take n = v.take n ∧ u.drop (u.length - n) = v.drop (v.length - n) ∧ Tb T H ∧ ∀ H', Nx T H H' → Q (.bl true) H'
theorem ok_same (D : Dn K mg "_law_same_ends" sSame) (B : Bn mg) : Cal P w K mg base 1 "_law_same_ends" (spSame K T) [] := by
  refine cal_of D scSame (fun _ _ _ _ _ _ us h => by match us, h with | [_, _, _], _ => rfl) (fun vs H Q E h => ?_) (fun f cdv A outer s H vs Q E hr h => ?_)
  · obtain ⟨a, b, n, u, v, rfl, _⟩ := h
    rfl
  · obtain ⟨a, b, n, u, v, rfl, ha, hb, h1, h2, h3, h4, hT, q⟩ := h
    refine ⟨_, (pss_cons (ps_if (pt_cmpR (op_eqD hr.units) (pv 0) (pv 1) (nomark _)) (pss_one (ps_ret pe_bl)) pss_nil)
      (pss_cons (ps_if (PW.pt (pw_or (pt_cmpR op_lt (pe_callB call_len_seq (by rfl) B.len PySem.boot_len (pa_cons (pv 0) pa_nil)) (pv 2) (nomark _)) (pw_or1 (pt_cmpR op_lt (pe_callB call_len_seq (by rfl) B.len PySem.boot_len (pa_cons (pv 1) pa_nil)) (pv 2) (nomark _))))) (pss_one (ps_ret pe_bl)) pss_nil)
      (pss_one (ps_ret (pe_and (pe_cmpR (op_eqD hr.units) (pe_slice sl_list (pv 0) po_none (po_some (pv 2))) (pe_slice sl_list (pv 1) po_none (po_some (pv 2))) (nomark _)) (pe_one (pe_cmpR (op_eqD hr.units) (pe_slice sl_list (pv 0) (po_some (pe_op op_sub (pe_callB call_len_seq (by rfl) B.len PySem.boot_len (pa_cons (pv 0) pa_nil)) (pv 2))) po_none) (pe_slice sl_list (pv 1) (po_some (pe_op op_sub (pe_callB call_len_seq (by rfl) B.len PySem.boot_len (pa_cons (pv 1) pa_nil)) (pv 2))) po_none) (nomark _)))))))), ?_⟩
    refine ⟨_, rfl, _, rfl, dI u, dI v, dp_ivs ha, dp_ivs hb, sh_dI u, sh_dI v, _, rfl, ite2 (fun _ => q _ (Nx.refl hT)) (fun _ => ?_)⟩
    have lu : ¬ (((u.length : Nat) : Int) < (n : Nat)) := by omega
    have lv : ¬ (((v.length : Nat) : Int) < (n : Nat)) := by omega
    dsimp only [tNext, tSeq, tIfS, tOr, tTest, tOp]
    refine Rd.len (Rd.var rfl) (.inl ha) (ivs_len u) _ ⟨_, rfl, _, _, rfl, rfl, _, rfl, ?_⟩
    rw [decide_eq_false lu]
    refine iteF (Rd.len (Rd.var rfl) (.inl hb) (ivs_len v) _ ⟨_, rfl, _, _, rfl, rfl, _, rfl, ?_⟩)
    rw [decide_eq_false lv]
    refine iteF ?_
    -- the first letters
    refine ⟨_, rfl, _, rfl, _, rfl, a, _, rfl, ha, fun p hp => ?_⟩
    rw [cut_take u h1]
    have N1 := (Nx.refl hT).new hp (o := .lst (ivs (u.take n)))
    have e1 : upd H p (.lst (ivs (u.take n))) p = some (.lst (ivs (u.take n))) := upd_same
    generalize upd H p (.lst (ivs (u.take n))) = H1 at N1 e1
    refine ⟨_, rfl, _, rfl, _, rfl, b, _, rfl, N1.seqL hb, fun p2 hp2 => ?_⟩
    rw [cut_take v h2]
    have N2 := N1.new hp2 (o := .lst (ivs (v.take n)))
    have e2 : upd H1 p2 (.lst (ivs (v.take n))) p2 = some (.lst (ivs (v.take n))) := upd_same
    have e1 := upd_keep e1 hp2 (o := .lst (ivs (v.take n)))
    generalize upd H1 p2 (.lst (ivs (v.take n))) = H2 at N2 e1 e2
    refine ⟨dI (u.take n), dI (v.take n), dp_ivs (.inl (.inl e1)), dp_ivs (.inl (.inl e2)), sh_dI _, sh_dI _, _, rfl, ?_⟩
    rw [h3, eqv_same (sh_dI _)]
    refine iteT ?_
    -- the last
    have su : ((u.length : Nat) : Int) - (n : Nat) = ((u.length - n : Nat) : Int) := by omega
    have sv : ((v.length : Nat) : Int) - (n : Nat) = ((v.length - n : Nat) : Int) := by omega
    refine ⟨_, rfl, ?_⟩
    dsimp only [tPart, tOp]
    refine Rd.len (Rd.var rfl) (.inl (N2.seqL ha)) (ivs_len u) _ ⟨_, rfl, _, _, rfl, rfl, ?_⟩
    dsimp only
    rw [su]
    refine ⟨_, rfl, a, _, rfl, N2.seqL ha, fun p3 hp3 => ?_⟩
    rw [cut_drop u (Nat.sub_le _ _)]
    have N3 := N2.new hp3 (o := .lst (ivs (u.drop (u.length - n))))
    have e3 : upd H2 p3 (.lst (ivs (u.drop (u.length - n)))) p3 = some (.lst (ivs (u.drop (u.length - n)))) := upd_same
    generalize upd H2 p3 (.lst (ivs (u.drop (u.length - n)))) = H3 at N3 e3
    refine ⟨_, rfl, ?_⟩
    dsimp only [tPart, tOp]
    refine Rd.len (Rd.var rfl) (.inl (N3.seqL hb)) (ivs_len v) _ ⟨_, rfl, _, _, rfl, rfl, ?_⟩
    dsimp only
    rw [sv]
    refine ⟨_, rfl, b, _, rfl, N3.seqL hb, fun p4 hp4 => ?_⟩
    rw [cut_drop v (Nat.sub_le _ _)]
    have N4 := N3.new hp4 (o := .lst (ivs (v.drop (v.length - n))))
    have e4 : upd H3 p4 (.lst (ivs (v.drop (v.length - n)))) p4 = some (.lst (ivs (v.drop (v.length - n)))) := upd_same
    have e3 := upd_keep e3 hp4 (o := .lst (ivs (v.drop (v.length - n))))
    generalize upd H3 p4 (.lst (ivs (v.drop (v.length - n)))) = H4 at N4 e3 e4
    refine ⟨dI (u.drop (u.length - n)), dI (v.drop (v.length - n)), dp_ivs (.inl (.inl e3)), dp_ivs (.inl (.inl e4)), sh_dI _, sh_dI _, ?_⟩
    rw [h4, eqv_same (sh_dI _)]
    exact q _ N4
end
end K37
set_option Elab.async false
set_option linter.all false
set_option maxRecDepth 100000
set_option maxHeartbeats 4000000
namespace K37
open PySem PySem.Spec PyProof.Rows L2
open C8 (Cal pe_c)
section
variable {P : Program} {w : World} {K : PySem.W.Frag} {mg : Str → Option Value} {base : Heap} {T : List Addr}
theorem call_isE2 {X : Cx} {a C : Addr} {oe : Obj} {cls : Value} {d : Option Addr} {pn : List (Addr × Obj)} (Ec : ExcC X.K C) (hz : Zc cls d oe) (hf : ∃ vs, oe.data = .fields vs) : CallR (X.suite a ((a, oe) :: pn)) (.builtin "isinstance") (fun xs H Q => cls = .ref C ∧ d = none ∧ rIsE X.K C a xs H Q) := by
  intro pins s σ H xs us Q I r h
  obtain ⟨rfl, rfl, h⟩ := h
  exact call_isE Ec hz hf pins s σ H xs us Q I r h
theorem kListOf {X : Cx} (K : PySem.W.Frag) (hK : X.K = K) : CallR X (.type "list") (fun xs H Q => ∃ p ys, xs = [.ref p] ∧ (SqL K H p ys ∨ SqT K H p ys) ∧ ∀ l, H l = none → Q (.ref l) (upd H l (.lst ys))) := hK ▸ call_list_of
theorem scRefused : FnScope ["_law_semigroup_here", "_law_first", "_law_second", "_law_most", "e"] ["_law_semigroup_here", "_law_first", "_law_second", "_law_most"] (defScope sRefused) := ⟨rfl, rfl, rfl, by decide +kernel, rfl, by decide +kernel, by decide +kernel⟩
def spRefused (T : List Addr) (K : PySem.W.Frag) : Sp := fun vs H Q _ => ∃ (sa fa ga : Addr) (M : List (List Nat)) (L n1 n2 : List Nat), vs = [.ref sa, .ref fa, .ref ga, .int 0] ∧ SgT K H sa M L ∧ Val M L ∧ SqT K H fa (ivs n1) ∧ SqT K H ga (ivs n2) ∧ VS M.length n1 ∧ VS M.length n2 ∧ (∀ x ∈ n1, x ∉ n2) ∧ Tb T H ∧
  (∀ H' l t r ws, Nx T H H' → H' l = some (.lst [.str "told", .ref t]) → H' t = some (.tup [.str "rounds", .ref r]) → RT H' r ws → RO M L n1 n2 ws → Q (.ref l) H') ∧ (∀ H' l t, Nx T H H' → H' l = some (.lst [.str "told", .ref t]) → H' t = some (.tup [.str "apart", .int 0]) → Q (.ref l) H') ∧
  ∀ H' l, Nx T H H' → H' l = some (.lst [.str "refused", .bl true]) → Q (.ref l) H'
theorem ok_refused {C Fe fE : Addr} {fdE : FuncData} (D : Dn K mg "_law_refused" sRefused) (B : Bn mg) (Ex : ExD K mg C Fe) (F : FnOk P w K mg base (L2.CX P w) 7 fE fdE ["semigroup", "first", "second", "most"] (spEA T K C)) (gE : mg "ends_apart" = some (.ref fE))
    (kE : PySem.W.keepIn K (.ref fE) = true) (bE : Binds K fdE ["semigroup", "first", "second", "most"] []) : Cal P w K mg base 9 "_law_refused" (spRefused T K) [] := by
  refine cal_of D scRefused (fun _ _ _ _ _ _ us h => by match us, h with | [_, _, _, _], _ => rfl) (fun vs H Q E h => ?_) (fun f cdv A outer s H vs Q E hr h => ?_)
  · obtain ⟨sa, fa, ga, M, L, n1, n2, rfl, _⟩ := h
    rfl
  · obtain ⟨sa, fa, ga, M, L, n1, n2, rfl, hS, hV, hF, hG, v1, v2, dj, hT, qr, qa, qe⟩ := h
    have hr7 : Room 7 _ := hr.mono (by decide)
    refine ⟨_, pss_one (ps_try_as (i := 4) (tb := fun W => tRet (tLst (tCons (tC (.str "told")) (tCons (tCallS (spEA T K C) (WE W) (tCons (tVar 0) (tCons (tVar 1) (tCons (tVar 2) (tCons (tVar 3) tNil))))) tNil))))
      (ts := fun a cls d => tRet (tLst (tCons (tC (.str "refused")) (tCons (tCB (fun xs H Q => cls = .ref C ∧ d = none ∧ rIsE K C a xs H Q) (tCons (tVar 4) (tCons (tC (.ref Fe)) tNil))) tNil)))) (Wout := fun _ _ _ _ => False) rfl rfl scRefused.nd rfl rfl ⟨rfl, by decide, Or.inl Ex.gC⟩ takes0
      (fun W pn xe tk _ => pss_one (ps_ret (pe_lst (pa_cons pe_str (pa_cons (by exact (pe_callS F hr7 rfl gE kE bE (fun σ => passAt tk σ) (by exact (pa_cons (pv 0) (pa_cons (pv 1) (pa_cons (pv 2) (pa_cons (pv 3) pa_nil))))))) pa_nil)))))
      (fun a oe cls d pn hz hf => pss_one (ps_ret (pe_lst (pa_cons pe_str (pa_cons (by exact (pe_callB (call_isE2 Ex.ec hz hf) (by rfl) B.isi (by decide +kernel) (by exact (pa_cons (pv 4) (pa_cons (pe_glob (v := .ref Fe) (by rfl) Ex.gF rfl) pa_nil))))) pa_nil)))))), ?_⟩
    refine ⟨_, rfl, _, rfl, _, rfl, _, rfl, sa, fa, ga, M, L, n1, n2, rfl, hS, hV, hF, hG, v1, v2, dj, hT, fun H' t r ws n ht hR hO => ⟨sz2, fun l hl => ?_⟩, fun H' t n ht => ⟨sz2, fun l hl => ?_⟩, fun H' n => ⟨true, Ex.exm, fun _ a ha => ?_, fun h => nomatch h⟩⟩
    · refine qr _ l t r ws (n.new hl) upd_same (upd_keep ht hl) ?_ hO
      obtain ⟨as, g1, g2⟩ := hR
      exact ⟨as, upd_keep g1 hl, paired_map g2 fun _ _ z => upd_keep z hl⟩
    · exact qa _ l t (n.new hl) upd_same (upd_keep ht hl)
    · refine ⟨_, rfl, rfl, rfl, ⟨.ref Fe, .ref Fe, true, rfl, fun u hu => hu, Ex.kit, sz2, fun l hl => qe _ l (n.new hl) upd_same⟩⟩
end
end K37
set_option Elab.async false
set_option linter.all false
set_option maxRecDepth 100000
set_option maxHeartbeats 4000000
namespace K37
open PySem PySem.Spec PyProof.Rows L2
open C8 (Cal pe_c)
section
variable {P : Program} {w : World} {K : PySem.W.Frag} {mg : Str → Option Value} {base : Heap} {T : List Addr}
/-- new copies -/
def LLF (H0 H : Hp) (D : Addr) (M : List (List Nat)) : Prop := H0 D = none ∧ ∃ rs : List Addr, H D = some (.lst (rs.map V.ref)) ∧ Paired (fun r row => H0 r = none ∧ r ≠ D ∧ H r = some (.lst (ivs row))) rs M
theorem LLF.ll {H0 H : Hp} {D : Addr} {M : List (List Nat)} (h : LLF H0 H D M) : LL H D M := let ⟨_, rs, h1, h2⟩ := h; ⟨rs, h1, paired_map h2 fun _ _ z => z.2.2⟩
theorem listCopies {σ : L2.St} {sl : Nat} {H1 : Hp} {r : Addr} {M : List (List Nat)} (hσ : σ[sl]? = some (some (.ref r))) (hw : ∀ x, wipe ((wipe σ [10]).set 10 (some x)) [10] = wipe σ [10]) (hv : ∀ x : V, ((wipe σ [10]).set 10 (some x))[10]? = some (some x))
    (hT : Tb T H1) (hM : RT H1 r M) (hl : M.length ≤ 6) {Q : VK} (q : ∀ H' D, Nx T H1 H' → LLF H1 H' D M → Q (.ref D) H') :
    tLc (iTup K (tVar sl)) (gName 10) tYes (tCB (fun xs H Q => ∃ p ys, xs = [.ref p] ∧ (SqL K H p ys ∨ SqT K H p ys) ∧ ∀ l, H l = none → Q (.ref l) (upd H l (.lst ys))) (tCons (tVar 10) tNil)) [10] σ H1 Q := by
  obtain ⟨rs, m1, m2⟩ := hM
  have hrl := m2.length
  refine ⟨_, hσ, r, rfl, ⟨_, .inl (.inl m1)⟩, fun D hD => ?_⟩
  refine lc_it (n := (rs.map V.ref).length) walk_tup (fun i H' => ∃ ts : List Addr, Nx T H1 H' ∧ H' D = some (.lst (ts.map V.ref)) ∧ ts.length = i ∧ Paired (fun t row => H1 t = none ∧ t ≠ D ∧ H' t = some (.lst (ivs row))) ts (M.take i)) ⟨[], (Nx.refl hT).new hD, upd_same, rfl, .nil⟩
    (fun i H' _ h => let ⟨_, n, _⟩ := h; .inl (.inl (n.tup m1))) (fun i x H' H'' hi h y => ?_) (fun H' h => ?_)
  · obtain ⟨ts, n, e, e2, e3⟩ := h
    obtain ⟨rfl, hx⟩ := y
    rw [List.getElem?_map] at hx
    cases hp : rs[i]? with
    | none => rw [hp] at hx; cases hx
    | some r =>
    rw [hp] at hx
    cases hx
    have hil : i < M.length := by
      have := (List.getElem?_eq_some_iff.mp hp).1
      omega
    obtain ⟨r', hr', hrow⟩ := paired_get m2 (List.getElem?_eq_getElem hil)
    rw [hp] at hr'
    cases hr'
    refine ⟨hw _, _, hv _, r, _, rfl, .inl (.inl (.inl (n.lst hrow))), fun t ht => ?_⟩
    have eD := upd_keep e ht (o := .lst (ivs M[i]))
    have ne : t ≠ D := (ne_of_none e ht).symm
    refine ⟨_, eD, small1000 (by rw [List.length_map]; omega), ts ++ [t], (n.new ht).upd_ hD (lst_ne_tbl eD), by rw [upd_same, List.map_append]; rfl, by simp [e2], ?_⟩
    rw [List.take_succ_eq_append_getElem hil]
    refine paired_append (paired_map e3 fun u row z => ?_) (.cons ⟨n.free ht, ne, by rw [upd_ne ne]; exact upd_same⟩ .nil)
    have z2 := upd_keep z.2.2 ht (o := .lst (ivs M[i]))
    exact ⟨z.1, z.2.1, by rw [upd_ne z.2.1]; exact z2⟩
  · obtain ⟨ts, n, e, e2, e3⟩ := h
    refine q _ D n ⟨hD, ts, e, ?_⟩
    rw [List.length_map, hrl, List.take_length] at e3
    exact e3
theorem LL.nx {H H' : Hp} {D : Addr} {M : List (List Nat)} (h : LL H D M) (n : Nx T H H') : LL H' D M := let ⟨rs, h1, h2⟩ := h; ⟨rs, n.lst h1, paired_map h2 fun _ _ z => n.lst z⟩
/-- a copy stands where an older list is written -/
theorem LLF.wr {H0 H : Hp} {D x : Addr} {o o' : HO} {M : List (List Nat)} (h : LLF H0 H D M) (hx : H0 x = some o) : LLF H0 (upd H x o') D M := by
  obtain ⟨h1, rs, h2, h3⟩ := h
  refine ⟨h1, rs, by rw [upd_ne (ne_of_none hx h1).symm]; exact h2, paired_map h3 fun r row z => ⟨z.1, z.2.1, ?_⟩⟩
  rw [upd_ne (ne_of_none hx z.1).symm]
  exact z.2.2
theorem Rd.atT {σ : L2.St} {H : Hp} {ta : TE} {r : Addr} {xs : List V} {k : Nat} {v : V} (h : SqT K H r xs) (h1 : Rd ta σ H (.ref r)) (hk : xs[k]? = some v) : Rd (tOp (rIxT K) ta (tC (.int (k : Nat)))) σ H v := fun Q q => h1 _ ⟨r, xs, k, v, rfl, rfl, h, atI_nat hk, q⟩
theorem Rd.atLk {σ : L2.St} {H : Hp} {ta : TE} {r : Addr} {xs : List V} {k : Nat} {v : V} (h : SqL K H r xs) (h1 : Rd ta σ H (.ref r)) (hk : xs[k]? = some v) : Rd (tOp (rIxL K) ta (tC (.int (k : Nat)))) σ H v := fun Q q => h1 _ ⟨r, xs, k, v, rfl, rfl, h, atI_nat hk, q⟩
abbrev ND : List Str := ["_law_box_here", "_law_rounds", "_law_k", "_law_j", "_law_times_here", "_law_begun", "_law_ended", "_law_due", "_law_words", "_law_kept", "_law_word_here"]
theorem scDrawn : FnScope ["_law_box_here", "_law_rounds", "_law_k", "_law_j", "_law_times_here", "_law_begun", "_law_ended", "_law_due", "_law_words", "_law_kept", "_law_word_here"] ["_law_box_here"] (defScope sDrawn) := ⟨rfl, rfl, rfl, by decide +kernel, rfl, by decide +kernel, by decide +kernel⟩
def spDrawn (T : List Addr) : Sp := fun vs H Q _ => ∃ b : BX, vs = [.ref b.bx] ∧ Tb T H ∧ BoxAt H b ∧ ∀ H', Bs T b H H' → Q (.bl true) H'
theorem ok_drawn (D : Dn K mg "_law_drawn" sDrawn) (B : Bn mg) (c__law_next : Cal P w K mg base 1 "_law_next" (spNext T) []) (c__law_times : Cal P w K mg base 1 "_law_times" (spTimes T) []) (c_round_words : Cal P w K mg base 1 "round_words" (spRW T) []) : Cal P w K mg base 2 "_law_drawn" (spDrawn T) [] := by
  refine cal_of (N := ND) D scDrawn (fun _ _ _ _ _ _ us h => by match us, h with | [_], _ => rfl) (fun vs H Q E h => ?_) (fun f cdv A outer s H vs Q E hr h => ?_)
  · obtain ⟨b, rfl, _⟩ := h
    rfl
  · obtain ⟨b, rfl, hT, hB, q⟩ := h
    refine ⟨_, (pss_cons (ps_set (i := 1) scDrawn.nd rfl (by first | exact .inl rfl | exact .inr rfl) (pe_tupleOf (by rfl) B.tuple (pe_lc (own := [("_law_j", 3)]) rfl scDrawn.nd (pi_range1 (by rfl) B.range (pa_cons pe_int pa_nil)) (blkOk_by ?_) (fun _ _ _ _ _ => (pg_name (i := 3) scDrawn.nd rfl (by first | exact .inl rfl | exact .inr rfl))) (fun _ _ _ _ _ => pts_nil) (fun _ _ _ _ _ => (pe_lc (own := [("_law_k", 2)]) rfl scDrawn.nd (pi_range1 (by rfl) B.range (pa_cons (pe_c c__law_next hr (by decide) (by rfl) (pa_cons (pv 0) (pa_cons pe_int pa_nil))) pa_nil)) (blkOk_by ?_) (fun _ _ _ _ _ => (pg_name (i := 2) scDrawn.nd rfl (by first | exact .inl rfl | exact .inr rfl))) (fun _ _ _ _ _ => pts_nil) (fun _ _ _ _ _ => (pe_c c__law_next hr (by decide) (by rfl) (pa_cons (pv 0) (pa_cons pe_int pa_nil)))))))))
      (pss_cons (ps_set (i := 4) scDrawn.nd rfl (by first | exact .inl rfl | exact .inr rfl) (pe_c c__law_next hr (by decide) (by rfl) (pa_cons (pv 0) (pa_cons pe_int pa_nil))))
      (pss_cons (ps_set (i := 5) scDrawn.nd rfl (by first | exact .inl rfl | exact .inr rfl) (pe_op op_cat (pe_ix ix_tup (pv 1) pe_int (fun _ _ => rfl)) (pe_c c__law_times hr (by decide) (by rfl) (pa_cons (pe_ix ix_tup (pv 1) pe_int (fun _ _ => rfl)) (pa_cons (pv 4) pa_nil)))))
      (pss_cons (ps_set (i := 6) scDrawn.nd rfl (by first | exact .inl rfl | exact .inr rfl) (pe_op op_cat (pe_c c__law_times hr (by decide) (by rfl) (pa_cons (pe_ix ix_tup (pv 1) pe_int (fun _ _ => rfl)) (pa_cons (pv 4) pa_nil))) (pe_ix ix_tup (pv 1) pe_int (fun _ _ => rfl))))
      (pss_cons (ps_set (i := 7) scDrawn.nd rfl (by first | exact .inl rfl | exact .inr rfl) (pe_tup (pa_cons (pe_op op_cat (pe_op op_cat (pv 5) (pe_ix ix_tup (pv 1) pe_int (fun _ _ => rfl))) (pv 6)) (pa_cons (pe_op op_cat (pe_op op_cat (pv 5) (pe_ix ix_tup (pv 1) pe_int (fun _ _ => rfl))) (pv 6)) pa_nil))))
      (pss_cons (ps_set (i := 8) scDrawn.nd rfl (by first | exact .inl rfl | exact .inr rfl) (pe_c c_round_words hr (by decide) (by rfl) (pa_cons (pv 1) (pa_cons (pv 4) pa_nil))))
      (pss_cons (ps_setLc (i := 9) (own := [("_law_word_here", 10)]) rfl scDrawn.nd rfl rfl (by rfl) (pi_tup (pv 1)) (blkOk_by ?_) (fun _ _ _ _ _ => (pg_name (i := 10) scDrawn.nd rfl (by first | exact .inl rfl | exact .inr rfl))) (fun _ _ _ _ _ => pts_nil) (fun _ _ _ _ _ => (pe_callTy (kListOf K rfl) (by rfl) B.list (by decide +kernel) (pa_cons (pv 10) pa_nil))))
      (pss_cons (ps_if (pt_cmpR (op_neD hr.units) (pv 8) (pv 7) (nomark _)) (pss_one (ps_ret pe_bl)) pss_nil)
      (pss_cons (ps_expr (pe_bm PySem.F.plainAttrs_list PySem.F.slot_list_append PySem.F.type_list_append mt_append (pe_ix ix_tup (pv 8) pe_int (fun _ _ => rfl)) (pa_cons pe_int pa_nil)))
      (pss_cons (ps_expr (pe_bm PySem.F.plainAttrs_list PySem.F.slot_list_append PySem.F.type_list_append mt_append (pe_ix ix_tup (pv 8) pe_int (fun _ _ => rfl)) (pa_cons pe_int pa_nil)))
      (pss_one (ps_ret (pe_and (pe_cmpR (op_eqD hr.units) (pe_lc (own := [("_law_word_here", 10)]) rfl scDrawn.nd (pi_tup (pv 1)) (blkOk_by ?_) (fun _ _ _ _ _ => (pg_name (i := 10) scDrawn.nd rfl (by first | exact .inl rfl | exact .inr rfl))) (fun _ _ _ _ _ => pts_nil) (fun _ _ _ _ _ => (pe_callTy (kListOf K rfl) (by rfl) B.list (by decide +kernel) (pa_cons (pv 10) pa_nil)))) (pv 9) (nomark _)) (pe_one (pe_cmpR (op_eqD hr.units) (pe_c c_round_words hr (by decide) (by rfl) (pa_cons (pv 1) (pa_cons (pv 4) pa_nil))) (pv 7) (nomark _)))))))))))))))), ?_⟩
    any_goals first
      | (show blkC ND (defScope sDrawn) _ _ = true; decide +kernel)
      | (intros; show blkC ND (relS _ (defScope sDrawn)) _ _ = true; decide +kernel)
    refine ⟨6, rfl, by omega, by omega, fun D hD => ?_⟩
    refine lc_it (n := (6 : Int).toNat) walk_r0 (fun i H' => ∃ (rs : List Addr) (M : List (List Nat)), Bs T b H H' ∧ H' D = some (.lst (rs.map V.ref)) ∧ Paired (fun r row => r ≠ D ∧ H' r = some (.lst (ivs row))) rs M ∧ M.length = i ∧ ∀ row ∈ M, row.length ≤ 100)
      ⟨[], [], (Bs.refl hT hB).new hD, upd_same, .nil, rfl, (fun _ h => absurd h List.not_mem_nil)⟩ (fun _ _ _ _ => trivial) (fun i x H' H'' hi h y => ?_) (fun H2 h => ?_)
    · obtain ⟨rs, M, n2, e2, p2, l2, s2⟩ := h
      obtain ⟨rfl, rfl⟩ := y
      refine ⟨rfl, ⟨_, rfl, b, 6, rfl, by omega, n2.tb, n2.bx, fun H3 u n3 hu => ⟨(u : Nat), rfl, by omega, by omega, fun r hr => ?_⟩⟩⟩
      rw [Int.toNat_natCast]
      have e3 := n3.lst e2
      have ner : r ≠ D := (ne_of_none e3 hr).symm
      have n23 := n2.trans n3
      refine lc_it (n := u) walk_r0 (fun j H2 => ∃ xs : List Nat, Bs T b H3 H2 ∧ H2 r = some (.lst (ivs xs)) ∧ xs.length = j) ⟨[], (Bs.refl n23.tb n23.bx).new hr, upd_same, rfl⟩ (fun _ _ _ _ => trivial) (fun j x H2 H5 hj h y => ?_) (fun H2 h => ?_)
      · obtain ⟨xs, n4, e4, l4⟩ := h
        obtain ⟨rfl, rfl⟩ := y
        exact ⟨rfl, ⟨_, rfl, b, 3, rfl, by omega, n4.tb, n4.bx, fun H6 v n6 hv => ⟨_, n6.lst e4, small1000 (by simp; omega), xs ++ [v], (n4.trans n6).own hr (n6.lst e4), by rw [upd_same]; simp, by simp [l4]⟩⟩⟩
      · obtain ⟨xs, n4, e4, l4⟩ := h
        have e5 := n4.lst e3
        refine ⟨_, e5, small1000 (by rw [List.length_map, p2.length]; omega), rs ++ [r], M ++ [xs], (n23.trans n4).own hD e5, by rw [upd_same, List.map_append]; rfl, paired_append (paired_map p2 fun r' row z => ⟨z.1, by rw [upd_ne z.1]; exact n4.lst (n3.lst z.2)⟩) (.cons ⟨ner, by rw [upd_ne ner]; exact e4⟩ .nil), by simp [l2], fun row hrow => ?_⟩
        rcases List.mem_append.mp hrow with h | h
        · exact s2 row h
        · simp at h
          subst h
          omega
    obtain ⟨rs, M, n2, e2, p2, l2, s2⟩ := h
    refine .inl ⟨D, _, rfl, .inl (.inl e2), fun r hr => ?_⟩
    have N3 := n2.new hr (o := .tup (rs.map V.ref))
    have hR : RT (upd H2 r (.tup (rs.map V.ref))) r M := ⟨rs, upd_same, paired_map p2 fun r' row z => upd_keep z.2 hr⟩
    generalize upd H2 r (.tup (rs.map V.ref)) = H3 at N3 hR
    clear hr n2 e2 p2 hD
    have l6 : M.length = 6 := l2
    obtain ⟨w0, w1, w2, w3, w4, w5, rfl⟩ : ∃ a b c d e f, M = [a, b, c, d, e, f] := by
      match M, l6 with
      | [a, b, c, d, e, f], _ => exact ⟨a, b, c, d, e, f, rfl⟩
    obtain ⟨as, r1, r2⟩ := id hR
    cases r2 with
    | @cons a0 _ _ _ g0 r2 =>
    cases r2 with
    | @cons a1 _ _ _ g1 r2 =>
    cases r2 with
    | @cons a2 _ _ _ g2 r2 =>
    cases r2 with
    | @cons a3 _ _ _ g3 r2 =>
    cases r2 with
    | @cons a4 _ _ _ g4 r2 =>
    cases r2 with
    | @cons a5 _ _ _ g5 r2 =>
    cases r2
    have s0 := s2 w0 (by simp)
    have s1 := s2 w1 (by simp)
    have s2' := s2 w2 (by simp)
    have s3 := s2 w3 (by simp)
    have s4 := s2 w4 (by simp)
    have s5 := s2 w5 (by simp)
    have sz : (10000 : Nat) ≤ sizeLine := by decide
    -- times
    refine ⟨_, rfl, b, 21, rfl, by omega, N3.tb, N3.bx, fun H4 n n4 hn => ?_⟩
    have N4 := N3.trans n4
    have m1 : n * w1.length ≤ 20 * 100 := Nat.mul_le_mul (by omega) s1
    have m4 : n * w4.length ≤ 20 * 100 := Nat.mul_le_mul (by omega) s4
    have rt := n4.tup r1
    -- begun
    refine Rd.atT (k := 0) (.inl (.inl rt)) (Rd.var rfl) rfl _ ?_
    refine Rd.atT (k := 1) (.inl (.inl rt)) (Rd.var rfl) rfl _ ⟨_, rfl, a1, n, w1, rfl, n4.lst g1, s1, by omega, N4.tb, fun H5 p1 n5 e1 _ => ?_⟩
    have n45 := n4.nx n5
    refine ⟨a0, p1, _, _, rfl, rfl, n45.lst g0, e1, by rw [ivs_len, ivs_len, rp_len]; omega, fun p2 hp2 => ?_⟩
    rw [ivs_app]
    have n6 := n45.new hp2 (o := .lst (ivs (w0 ++ rp n w1)))
    have eb : upd H5 p2 (.lst (ivs (w0 ++ rp n w1))) p2 = some (.lst (ivs (w0 ++ rp n w1))) := upd_same
    generalize upd H5 p2 (.lst (ivs (w0 ++ rp n w1))) = H6 at n6 eb
    -- ended
    refine Rd.atT (k := 4) (.inl (.inl (n6.tup r1))) (Rd.var rfl) rfl _ ⟨_, rfl, a4, n, w4, rfl, n6.lst g4, s4, by omega, n6.tb, fun H7 p3 n7 e3 _ => ?_⟩
    have n67 := n6.nx n7
    refine Rd.atT (k := 5) (.inl (.inl (n67.tup r1))) (Rd.var rfl) rfl _ ⟨p3, a5, _, _, rfl, rfl, e3, n67.lst g5, by rw [ivs_len, ivs_len, rp_len]; omega, fun p4 hp4 => ?_⟩
    rw [ivs_app]
    have n8 := n67.new hp4 (o := .lst (ivs (rp n w4 ++ w5)))
    have ee : upd H7 p4 (.lst (ivs (rp n w4 ++ w5))) p4 = some (.lst (ivs (rp n w4 ++ w5))) := upd_same
    have eb := upd_keep (n7.lst eb) hp4 (o := .lst (ivs (rp n w4 ++ w5)))
    generalize upd H7 p4 (.lst (ivs (rp n w4 ++ w5))) = H8 at n8 ee eb
    -- due
    refine ⟨_, rfl, ?_⟩
    refine Rd.atT (k := 2) (.inl (.inl (n8.tup r1))) (Rd.var rfl) rfl _ ⟨p2, a2, _, _, rfl, rfl, eb, n8.lst g2, by rw [ivs_len, ivs_len, List.length_append, rp_len]; omega, fun p5 hp5 => ?_⟩
    rw [ivs_app]
    have n9 := n8.new hp5 (o := .lst (ivs (w0 ++ rp n w1 ++ w2)))
    have e5 : upd H8 p5 (.lst (ivs (w0 ++ rp n w1 ++ w2))) p5 = some (.lst (ivs (w0 ++ rp n w1 ++ w2))) := upd_same
    have ee := upd_keep ee hp5 (o := .lst (ivs (w0 ++ rp n w1 ++ w2)))
    have eb := upd_keep eb hp5 (o := .lst (ivs (w0 ++ rp n w1 ++ w2)))
    generalize upd H8 p5 (.lst (ivs (w0 ++ rp n w1 ++ w2))) = H9 at n9 e5 ee eb
    refine ⟨_, rfl, p5, p4, _, _, rfl, rfl, e5, ee, by simp only [ivs_len, List.length_append, rp_len]; omega, fun d1 hd1 => ?_⟩
    rw [ivs_app]
    have n10 := n9.new hd1 (o := .lst (ivs (w0 ++ rp n w1 ++ w2 ++ (rp n w4 ++ w5))))
    have f1 : upd H9 d1 (.lst (ivs (w0 ++ rp n w1 ++ w2 ++ (rp n w4 ++ w5)))) d1 = some (.lst (ivs (w0 ++ rp n w1 ++ w2 ++ (rp n w4 ++ w5)))) := upd_same
    have ee := upd_keep ee hd1 (o := .lst (ivs (w0 ++ rp n w1 ++ w2 ++ (rp n w4 ++ w5))))
    have eb := upd_keep eb hd1 (o := .lst (ivs (w0 ++ rp n w1 ++ w2 ++ (rp n w4 ++ w5))))
    generalize upd H9 d1 (.lst (ivs (w0 ++ rp n w1 ++ w2 ++ (rp n w4 ++ w5)))) = H10 at n10 f1 ee eb
    refine ⟨_, rfl, ?_⟩
    refine Rd.atT (k := 3) (.inl (.inl (n10.tup r1))) (Rd.var rfl) rfl _ ⟨p2, a3, _, _, rfl, rfl, eb, n10.lst g3, by rw [ivs_len, ivs_len, List.length_append, rp_len]; omega, fun p6 hp6 => ?_⟩
    rw [ivs_app]
    have n11 := n10.new hp6 (o := .lst (ivs (w0 ++ rp n w1 ++ w3)))
    have e6 : upd H10 p6 (.lst (ivs (w0 ++ rp n w1 ++ w3))) p6 = some (.lst (ivs (w0 ++ rp n w1 ++ w3))) := upd_same
    have ee := upd_keep ee hp6 (o := .lst (ivs (w0 ++ rp n w1 ++ w3)))
    have f1 := upd_keep f1 hp6 (o := .lst (ivs (w0 ++ rp n w1 ++ w3)))
    generalize upd H10 p6 (.lst (ivs (w0 ++ rp n w1 ++ w3))) = H11 at n11 e6 ee f1
    refine ⟨_, rfl, p6, p4, _, _, rfl, rfl, e6, ee, by simp only [ivs_len, List.length_append, rp_len]; omega, fun d2 hd2 => ⟨sz2, fun dt hdt => ?_⟩⟩
    rw [ivs_app] at hdt ⊢
    have n12 := (n11.new hd2 (o := .lst (ivs (w0 ++ rp n w1 ++ w3 ++ (rp n w4 ++ w5))))).new hdt (o := .tup [.ref d1, .ref d2])
    have f2 := upd_keep (upd_same (H := H11) (a := d2) (o := .lst (ivs (w0 ++ rp n w1 ++ w3 ++ (rp n w4 ++ w5))))) hdt (o := .tup [.ref d1, .ref d2])
    have f1 := upd_keep (upd_keep f1 hd2 (o := .lst (ivs (w0 ++ rp n w1 ++ w3 ++ (rp n w4 ++ w5))))) hdt (o := .tup [.ref d1, .ref d2])
    have fd : upd (upd H11 d2 (.lst (ivs (w0 ++ rp n w1 ++ w3 ++ (rp n w4 ++ w5))))) dt (.tup [.ref d1, .ref d2]) dt = some (.tup [.ref d1, .ref d2]) := upd_same
    generalize upd (upd H11 d2 (.lst (ivs (w0 ++ rp n w1 ++ w3 ++ (rp n w4 ++ w5))))) dt (.tup [.ref d1, .ref d2]) = H12 at n12 f1 f2 fd
    have R12 : ∀ {H'}, Bs T b H3 H' → RT H' r [w0, w1, w2, w3, w4, w5] := fun n => ⟨[a0, a1, a2, a3, a4, a5], n.tup r1, .cons (n.lst g0) (.cons (n.lst g1) (.cons (n.lst g2) (.cons (n.lst g3) (.cons (n.lst g4) (.cons (n.lst g5) .nil)))))⟩
    have l100 : ∀ w ∈ [w0, w1, w2, w3, w4, w5], w.length ≤ 100 := s2
    clear eb ee e5 e6
    -- round_words
    refine ⟨_, rfl, _, rfl, r, n, w0, w1, w2, w3, w4, w5, rfl, R12 n12, l100, by omega, n12.tb, fun H13 t x y n13 ht hx hy ft fx fy hxy => ?_⟩
    have n14 := n12.nx n13
    -- kept
    dsimp only [gName, tSeq, tAsg]
    refine listCopies (K := K) (sl := 1) ?_ ?_ ?_ n14.tb (R12 n14) (by simp) fun H14 Dk n15 hk => ?_
    · rfl
    · exact fun _ => rfl
    · exact fun _ => rfl
    have n16 := n14.nx n15
    have x1 := ne_of_none f1 fx
    have x2 := ne_of_none f2 fx
    have x3 := ne_of_none fd fx
    have y1 := ne_of_none f1 fy
    have y2 := ne_of_none f2 fy
    have y3 := ne_of_none fd fy
    have hx0 := hx
    have hy0 := hy
    have f1 := n15.lst (n13.lst f1)
    have f2 := n15.lst (n13.lst f2)
    have fd := n15.tup (n13.tup fd)
    have ht := n15.tup ht
    have hx := n15.lst hx
    have hy := n15.lst hy
    refine ⟨_, rfl, _, rfl, dT2 _ _, dT2 _ _, dp_T2 ht hx hy, dp_T2 fd f1 f2, sh_dT2 _ _, sh_dT2 _ _, ?_⟩
    rw [show (dT2 (rwd n w0 w1 w2 w4 w5) (rwd n w0 w1 w3 w4 w5)).eqv (dT2 (w0 ++ rp n w1 ++ w2 ++ (rp n w4 ++ w5)) (w0 ++ rp n w1 ++ w3 ++ (rp n w4 ++ w5))) = true from eqv_same (sh_dT2 _ _)]
    refine ⟨false, rfl, iteF ?_⟩
    refine Rd.atT (k := 0) (.inl (.inl ht)) (Rd.var rfl) rfl _ ⟨.inl ⟨rfl, _, .inl (.inl hx)⟩, x, _, _, rfl, rfl, hx, ?_, ?_⟩
    · rw [ivs_len]
      unfold rwd
      simp only [List.length_append, rp_len]
      have : (100000 : Nat) < sizeLine := by decide
      omega
    have tx : t ≠ x := fun z => by rw [z, hx] at ht; cases ht
    have ty : t ≠ y := fun z => by rw [z, hy] at ht; cases ht
    have n17 := n16.own (ys := ivs (rwd n w0 w1 w2 w4 w5) ++ [V.int 7]) (n12.free fx) hx
    have ht' : upd H14 x (.lst (ivs (rwd n w0 w1 w2 w4 w5) ++ [V.int 7])) t = some (.tup [.ref x, .ref y]) := by rw [upd_ne tx]; exact ht
    have hy' : upd H14 x (.lst (ivs (rwd n w0 w1 w2 w4 w5) ++ [V.int 7])) y = some (.lst (ivs (rwd n w0 w1 w3 w4 w5))) := by rw [upd_ne hxy.symm]; exact hy
    have g1 := (upd_ne (H := H14) (o := (.lst (ivs (rwd n w0 w1 w2 w4 w5) ++ [V.int 7]))) x1).trans f1
    have g2 := (upd_ne (H := H14) (o := (.lst (ivs (rwd n w0 w1 w2 w4 w5) ++ [V.int 7]))) x2).trans f2
    have g3 := (upd_ne (H := H14) (o := (.lst (ivs (rwd n w0 w1 w2 w4 w5) ++ [V.int 7]))) x3).trans fd
    have hk := hk.wr (o' := .lst (ivs (rwd n w0 w1 w2 w4 w5) ++ [V.int 7])) hx0
    generalize upd H14 x (.lst (ivs (rwd n w0 w1 w2 w4 w5) ++ [V.int 7])) = H15 at n17 ht' hy' g1 g2 g3 hk
    refine Rd.atT (k := 1) (.inl (.inl ht')) (Rd.var rfl) rfl _ ⟨.inl ⟨rfl, _, .inl (.inl hy')⟩, y, _, _, rfl, rfl, hy', ?_, ?_⟩
    · rw [ivs_len]
      unfold rwd
      simp only [List.length_append, rp_len]
      have : (100000 : Nat) < sizeLine := by decide
      omega
    have n18 := n17.own (ys := ivs (rwd n w0 w1 w3 w4 w5) ++ [V.int 8]) (n12.free fy) hy'
    have g1 := (upd_ne (H := H15) (o := (.lst (ivs (rwd n w0 w1 w3 w4 w5) ++ [V.int 8]))) y1).trans g1
    have g2 := (upd_ne (H := H15) (o := (.lst (ivs (rwd n w0 w1 w3 w4 w5) ++ [V.int 8]))) y2).trans g2
    have g3 := (upd_ne (H := H15) (o := (.lst (ivs (rwd n w0 w1 w3 w4 w5) ++ [V.int 8]))) y3).trans g3
    have hk := hk.wr (o' := .lst (ivs (rwd n w0 w1 w3 w4 w5) ++ [V.int 8])) hy0
    generalize upd H15 y (.lst (ivs (rwd n w0 w1 w3 w4 w5) ++ [V.int 8])) = H16 at n18 g1 g2 g3 hk
    have hkl := hk.ll
    dsimp only [tRet, tAndV, tOp]
    refine listCopies (K := K) (sl := 1) ?_ ?_ ?_ n18.tb (R12 n18) (by simp) fun H17 D2 n19 hk2 => ?_
    · rfl
    · exact fun _ => rfl
    · exact fun _ => rfl
    refine ⟨_, rfl, dLL _, dLL _, dp_LL hk2.ll, dp_LL (hkl.nx n19), sh_dLL _, sh_dLL _, ?_⟩
    rw [eqv_same (sh_dLL _)]
    refine ⟨true, rfl, iteT ?_⟩
    have n20 := n18.nx n19
    refine ⟨_, rfl, _, rfl, r, n, w0, w1, w2, w3, w4, w5, rfl, R12 n20, l100, by omega, n20.tb, fun H18 t2 u2 v2 n21 h1 h2 h3 _ _ _ _ => ?_⟩
    refine ⟨_, rfl, dT2 _ _, dT2 _ _, dp_T2 h1 h2 h3, dp_T2 (n21.tup (n19.tup g3)) (n21.lst (n19.lst g1)) (n21.lst (n19.lst g2)), sh_dT2 _ _, sh_dT2 _ _, ?_⟩
    rw [show (dT2 (rwd n w0 w1 w2 w4 w5) (rwd n w0 w1 w3 w4 w5)).eqv (dT2 (w0 ++ rp n w1 ++ w2 ++ (rp n w4 ++ w5)) (w0 ++ rp n w1 ++ w3 ++ (rp n w4 ++ w5))) = true from eqv_same (sh_dT2 _ _)]
    exact q _ (N3.trans (n20.nx n21))
end
end K37
set_option Elab.async false
set_option linter.all false
set_option maxRecDepth 100000
set_option maxHeartbeats 4000000
namespace K37
open PySem PySem.Spec PyProof.Rows L2
theorem vOf_some (M : List (List Nat)) (L : List Nat) {ws : List Nat} (h : ws ≠ []) : ∃ v, vOf M L ws = some v := by
  revert h
  refine snocInd (C := fun ws => ws ≠ [] → ∃ v, vOf M L ws = some v) (fun h => absurd rfl h) (fun ws l _ _ => ?_) ws
  exact ⟨_, vOf_snoc M L ws l⟩
theorem vOf_app {M : List (List Nat)} {L : List Nat} (hV : Val M L) {u : List Nat} (hu : ∀ l ∈ u, l < L.length) {x : Nat} (ex : vOf M L u = some x) {v : List Nat} : (∀ l ∈ v, l < L.length) → ∀ y, vOf M L v = some y → vOf M L (u ++ v) = some (g M x y) := by
  refine snocInd (C := fun v => (∀ l ∈ v, l < L.length) → ∀ y, vOf M L v = some y → vOf M L (u ++ v) = some (g M x y)) (fun _ y e => by cases e) (fun v l ih => ?_) v
  intro hv y ey
  have hx := vOf_lt hV hu x ex
  have hl : L.getD l 0 < M.length := getD_lt hV.ls (hv l (by simp))
  rw [vOf_snoc] at ey
  rw [← List.append_assoc, vOf_snoc]
  cases q : vOf M L v with
  | none =>
    have hv0 : v = [] := by
      by_cases h : v = []
      · exact h
      · obtain ⟨z, hz⟩ := vOf_some M L h
        rw [hz] at q
        cases q
    subst hv0
    rw [q] at ey
    cases ey
    rw [List.append_nil, ex]
  | some z =>
    rw [q] at ey
    cases ey
    have hz := vOf_lt hV (fun a ha => hv a (by simp [ha])) z q
    rw [ih (fun a ha => hv a (by simp [ha])) z q]
    show some (g M (g M x z) (L.getD l 0)) = _
    rw [hV.assoc x z _ hx hz hl]
theorem rp_mem {n : Nat} {w : List Nat} {l : Nat} (h : l ∈ rp n w) : l ∈ w := by
  unfold rp at h
  rw [List.mem_flatten] at h
  obtain ⟨a, ha, hl⟩ := h
  obtain ⟨_, rfl⟩ := List.mem_replicate.mp ha
  exact hl
theorem rp_succ' (n : Nat) (w : List Nat) : rp (n + 1) w = w ++ rp n w := by
  unfold rp
  rw [List.replicate_succ, List.flatten_cons]
theorem app_lt {n : Nat} {a b : List Nat} (ha : ∀ l ∈ a, l < n) (hb : ∀ l ∈ b, l < n) : ∀ l ∈ a ++ b, l < n := fun l h => (List.mem_append.mp h).elim (ha l) (hb l)
theorem pump_l {M : List (List Nat)} {L : List Nat} (hV : Val M L) {be lo : List Nat} {hv o : Nat} (h1 : Wd M L hv be) (h2 : Wd M L o lo) (e : g M hv o = hv) : ∀ n, vOf M L (be ++ rp n lo) = some hv
  | 0 => by
    show vOf M L (be ++ []) = _
    rw [List.append_nil]
    exact h1.val
  | n + 1 => by
    rw [rp_succ, ← List.append_assoc, vOf_app hV (app_lt h1.ls fun l h => h2.ls l (rp_mem h)) (pump_l hV h1 h2 e n) h2.ls o h2.val, e]
theorem pump_r {M : List (List Nat)} {L : List Nat} (hV : Val M L) {bh ba : List Nat} {tv o : Nat} (h1 : Wd M L tv bh) (h2 : Wd M L o ba) (e : g M o tv = tv) : ∀ n, vOf M L (rp n ba ++ bh) = some tv
  | 0 => h1.val
  | n + 1 => by
    rw [rp_succ', List.append_assoc, vOf_app hV h2.ls h2.val (app_lt (fun l h => h2.ls l (rp_mem h)) h1.ls) tv (pump_r hV h1 h2 e n), e]
/-- the words' values -/
theorem round_val {M : List (List Nat)} {L ns : List Nat} (hV : Val M L) {be lo m ba bh : List Nat} {hv tv o1 o2 : Nat} (h1 : Wd M L hv be) (h2 : Wd M L o1 lo) (e1 : g M hv o1 = hv) (h3 : Wd M L tv bh) (h4 : Wd M L o2 ba) (e2 : g M o2 tv = tv) (hm : Mid M L ns hv tv m) (n : Nat) :
    (∀ l ∈ rwd n be lo m ba bh, l < L.length) ∧ ∃ v, vOf M L (rwd n be lo m ba bh) = some v ∧ v ∈ ns := by
  obtain ⟨m1, m2, m3⟩ := hm
  have lp : ∀ l ∈ be ++ rp n lo, l < L.length := app_lt h1.ls fun l h => h2.ls l (rp_mem h)
  have ls : ∀ l ∈ rp n ba ++ bh, l < L.length := app_lt (fun l h => h4.ls l (rp_mem h)) h3.ls
  refine ⟨app_lt (app_lt lp m1) ls, ?_⟩
  have vp := pump_l hV h1 h2 e1 n
  have vs := pump_r hV h3 h4 e2 n
  unfold rwd
  cases q : vOf M L m with
  | none =>
    have hm0 : m = [] := by
      by_cases h : m = []
      · exact h
      · obtain ⟨z, hz⟩ := vOf_some M L h
        rw [hz] at q
        cases q
    subst hm0
    rw [q] at m3
    refine ⟨g M hv tv, ?_, m3⟩
    rw [List.append_nil, vOf_app hV lp vp ls tv vs]
  | some z =>
    rw [q] at m3
    refine ⟨g M (g M hv z) tv, ?_, m3⟩
    exact vOf_app hV (app_lt lp m1) (vOf_app hV lp vp m1 z q) ls tv vs
/-- the words' ends -/
theorem round_ends (n : Nat) (be lo m m' ba bh : List Nat) (h1 : lo ≠ []) (h2 : ba ≠ []) : n ≤ (rwd n be lo m ba bh).length ∧ n ≤ (rwd n be lo m' ba bh).length ∧ (rwd n be lo m ba bh).take n = (rwd n be lo m' ba bh).take n ∧
    (rwd n be lo m ba bh).drop ((rwd n be lo m ba bh).length - n) = (rwd n be lo m' ba bh).drop ((rwd n be lo m' ba bh).length - n) := by
  have l1 : 1 ≤ lo.length := List.length_pos_iff.mpr h1
  have l2 : 1 ≤ ba.length := List.length_pos_iff.mpr h2
  have p1 : n ≤ (be ++ rp n lo).length := by
    rw [List.length_append, rp_len]
    have : n * 1 ≤ n * lo.length := Nat.mul_le_mul_left n l1
    omega
  have p2 : n ≤ (rp n ba ++ bh).length := by
    rw [List.length_append, rp_len]
    have : n * 1 ≤ n * ba.length := Nat.mul_le_mul_left n l2
    omega
  unfold rwd
  generalize be ++ rp n lo = A at p1
  generalize rp n ba ++ bh = S at p2
  refine ⟨by simp; omega, by simp; omega, ?_, ?_⟩
  · rw [List.append_assoc, List.append_assoc, List.take_append_of_le_length p1, List.take_append_of_le_length p1]
  · have h : ∀ X : List Nat, (X ++ S).drop ((X ++ S).length - n) = S.drop (S.length - n) := fun X => by
      rw [List.length_append, List.drop_append_of_le_length_aux p2]
    rw [h, h]
where
  List.drop_append_of_le_length_aux {X S : List Nat} {n : Nat} (h : n ≤ S.length) : (X ++ S).drop (X.length + S.length - n) = S.drop (S.length - n) := by
    rw [List.drop_append]
    rw [List.drop_eq_nil_of_le (by omega)]
    rw [List.nil_append]
    congr 1
    omega
end K37
set_option Elab.async false
set_option linter.all false
set_option maxRecDepth 100000
set_option maxHeartbeats 4000000
namespace K37
open PySem PySem.Spec PyProof.Rows L2
open C8 (Cal pe_c)
section
variable {P : Program} {w : World} {K : PySem.W.Frag} {mg : Str → Option Value} {base : Heap} {T : List Addr}
theorem Rd.eqS {σ : L2.St} {H : Hp} {ta tb : TE} {x y : Str} {c : Bool} (h1 : Rd ta σ H (.str x)) (h2 : Rd tb σ H (.str y)) (e : (x == y) = c) : Rd (tOp rEq ta tb) σ H (.bl c) := fun Q q => h1 _ (h2 _ ⟨rfl, by rw [dec_str, e]; exact q⟩)
theorem Rd.neS {σ : L2.St} {H : Hp} {ta tb : TE} {x y : Str} {c : Bool} (h1 : Rd ta σ H (.str x)) (h2 : Rd tb σ H (.str y)) (e : (x == y) = c) : Rd (tOp rNe ta tb) σ H (.bl (!c)) := fun Q q => h1 _ (h2 _ ⟨rfl, by rw [dec_str, e]; exact q⟩)
theorem inV_mem {n : Nat} {ns : List Nat} (h : n ∈ ns) : inV (.int (n : Nat)) (ivs ns) = true := by
  unfold inV
  rw [List.any_eq_true]
  exact ⟨_, List.mem_map.mpr ⟨n, h, rfl⟩, by simp [eqV]⟩
abbrev NL : List Str := ["_law_script", "_law_box_here", "_law_semigroup_here", "_law_first", "_law_second", "_law_k", "_law_told", "_law_times_here", "_law_rounds", "_law_kept", "_law_word_here", "_law_words", "_law_begun", "_law_ended"]
theorem scLaw : FnScope ["_law_script", "_law_box_here", "_law_semigroup_here", "_law_first", "_law_second", "_law_k", "_law_told", "_law_times_here", "_law_rounds", "_law_kept", "_law_word_here", "_law_words", "_law_begun", "_law_ended"] ["_law_script"] (defScope sLaw) := ⟨rfl, rfl, rfl, by decide +kernel, rfl, by decide +kernel, by decide +kernel⟩
def spLaw (T : List Addr) (K : PySem.W.Frag) : Sp := fun vs H Q _ => ∃ (a : Addr) (ns : List Int), vs = [.ref a] ∧ SqL K H a (ns.map V.int) ∧ ns.length ≤ 63 ∧ Tb T H ∧ ∀ H', Q (.bl true) H'
theorem ok_law {f : Addr} {fd : FuncData} (F : FnP K "law" sLaw f fd) (B : Bn mg) (c__law_box : Cal P w K mg base 2 "_law_box" (spBox T K) []) (c__law_semigroup : Cal P w K mg base 3 "_law_semigroup" (spSemi T K) []) (c__law_subset : Cal P w K mg base 2 "_law_subset" (spSubset T K) [])
    (c__law_drawn : Cal P w K mg base 2 "_law_drawn" (spDrawn T) []) (c__law_refused : Cal P w K mg base 9 "_law_refused" (spRefused T K) []) (c__law_next : Cal P w K mg base 1 "_law_next" (spNext T) []) (c_round_words : Cal P w K mg base 1 "round_words" (spRW T) [])
    (c__law_times : Cal P w K mg base 1 "_law_times" (spTimes T) []) (c__law_value : Cal P w K mg base 1 "_law_value" (spValue K) []) (c__law_same_ends : Cal P w K mg base 1 "_law_same_ends" (spSame K T) []) : FnOk P w K mg base CX0 10 f fd ["_law_script"] (spLaw T K) := by
  refine ok0 (N := NL) F scLaw (fun vs H Q E h => ?_) (fun cdv A outer s H vs Q E hr h => ?_)
  · obtain ⟨a, ns, rfl, _⟩ := h
    rfl
  · obtain ⟨a, ns, rfl, hA, hl, hT, q⟩ := h
    refine ⟨_, (pss_cons (ps_set (i := 1) scLaw.nd rfl (by first | exact .inl rfl | exact .inr rfl) (pe_c c__law_box hr (by decide) (by rfl) (pa_cons (pv 0) pa_nil)))
      (pss_cons (ps_set (i := 2) scLaw.nd rfl (by first | exact .inl rfl | exact .inr rfl) (pe_c c__law_semigroup hr (by decide) (by rfl) (pa_cons (pv 1) (pa_cons pe_int pa_nil))))
      (pss_cons (ps_set (i := 3) scLaw.nd rfl (by first | exact .inl rfl | exact .inr rfl) (pe_c c__law_subset hr (by decide) (by rfl) (pa_cons (pv 1) (pa_cons (pe_callB call_len_seq (by rfl) B.len PySem.boot_len (pa_cons (pe_ix ix_tup (pv 2) pe_int (fun _ _ => rfl)) pa_nil)) pa_nil))))
      (pss_cons (ps_set (i := 4) scLaw.nd rfl (by first | exact .inl rfl | exact .inr rfl) (pe_tupleOf (by rfl) B.tuple (pe_lc (own := [("_law_k", 5)]) rfl scLaw.nd (pi_tup (pe_c c__law_subset hr (by decide) (by rfl) (pa_cons (pv 1) (pa_cons (pe_callB call_len_seq (by rfl) B.len PySem.boot_len (pa_cons (pe_ix ix_tup (pv 2) pe_int (fun _ _ => rfl)) pa_nil)) pa_nil)))) (blkOk_by ?_) (fun _ _ _ _ _ => (pg_name (i := 5) scLaw.nd rfl (by first | exact .inl rfl | exact .inr rfl))) (fun _ _ _ _ _ => (pts_one (pt_cmpR (kNotIn K rfl) (pv 5) (pv 3) (by with_unfolding_all rfl)))) (fun _ _ _ _ _ => (pv 5)))))
      (pss_cons (ps_if (pt_not (pt_val (pe_c c__law_drawn hr (by decide) (by rfl) (pa_cons (pv 1) pa_nil)))) (pss_one (ps_ret pe_bl)) pss_nil)
      (pss_cons (ps_set (i := 6) scLaw.nd rfl (by first | exact .inl rfl | exact .inr rfl) (pe_c c__law_refused hr (by decide) (by rfl) (pa_cons (pv 2) (pa_cons (pv 3) (pa_cons (pv 4) (pa_cons pe_int pa_nil))))))
      (pss_cons (ps_if (PW.pt (pw_or (pt_cmpR op_eq (pe_ix ix_list (pv 6) pe_int (fun _ _ => rfl)) pe_str (nomark _)) (pw_or1 (pt_cmpR op_ne (pe_ix ix_tup (pe_ix ix_list (pv 6) pe_int (fun _ _ => rfl)) pe_int (fun _ _ => rfl)) pe_str (nomark _))))) (pss_one (ps_ret (pe_or (pe_cmpR op_eq (pe_ix ix_list (pv 6) pe_int (fun _ _ => rfl)) pe_str (nomark _)) (pe_one (pe_cmpR op_eq (pe_ix ix_tup (pe_ix ix_list (pv 6) pe_int (fun _ _ => rfl)) pe_int (fun _ _ => rfl)) pe_str (nomark _)))))) pss_nil)
      (pss_cons (ps_set (i := 7) scLaw.nd rfl (by first | exact .inl rfl | exact .inr rfl) (pe_c c__law_next hr (by decide) (by rfl) (pa_cons (pv 1) (pa_cons pe_int pa_nil))))
      (pss_cons (ps_set (i := 8) scLaw.nd rfl (by first | exact .inl rfl | exact .inr rfl) (pe_ix ix_tup (pe_ix ix_list (pv 6) pe_int (fun _ _ => rfl)) pe_int (fun _ _ => rfl)))
      (pss_cons (ps_setLc (i := 9) (own := [("_law_word_here", 10)]) rfl scLaw.nd rfl rfl (by rfl) (pi_tup (pv 8)) (blkOk_by ?_) (fun _ _ _ _ _ => (pg_name (i := 10) scLaw.nd rfl (by first | exact .inl rfl | exact .inr rfl))) (fun _ _ _ _ _ => pts_nil) (fun _ _ _ _ _ => (pe_callTy (kListOf K rfl) (by rfl) B.list (by decide +kernel) (pa_cons (pv 10) pa_nil))))
      (pss_cons (ps_set (i := 11) scLaw.nd rfl (by first | exact .inl rfl | exact .inr rfl) (pe_c c_round_words hr (by decide) (by rfl) (pa_cons (pv 8) (pa_cons (pv 7) pa_nil))))
      (pss_cons (ps_if (PW.pt (pw_or (pt_cmpR (op_neD hr.units) (pe_lc (own := [("_law_word_here", 10)]) rfl scLaw.nd (pi_tup (pv 8)) (blkOk_by ?_) (fun _ _ _ _ _ => (pg_name (i := 10) scLaw.nd rfl (by first | exact .inl rfl | exact .inr rfl))) (fun _ _ _ _ _ => pts_nil) (fun _ _ _ _ _ => (pe_callTy (kListOf K rfl) (by rfl) B.list (by decide +kernel) (pa_cons (pv 10) pa_nil)))) (pv 9) (nomark _)) (pw_or (pt_not (pt_val (pe_callB call_isi (by rfl) B.isi (by decide +kernel) (pa_cons (pv 11) (pa_cons (pe_bltn (v := .ty "tuple") (by rfl) B.tuple (by decide +kernel) rfl) pa_nil))))) (pw_or1 (pt_cmpR op_ne (pe_callB call_len_seq (by rfl) B.len PySem.boot_len (pa_cons (pv 11) pa_nil)) pe_int (nomark _)))))) (pss_one (ps_ret pe_bl)) pss_nil)
      (pss_cons (ps_set (i := 12) scLaw.nd rfl (by first | exact .inl rfl | exact .inr rfl) (pe_op op_cat (pe_ix ix_list (pv 9) pe_int (fun _ _ => rfl)) (pe_c c__law_times hr (by decide) (by rfl) (pa_cons (pe_ix ix_list (pv 9) pe_int (fun _ _ => rfl)) (pa_cons (pv 7) pa_nil)))))
      (pss_cons (ps_set (i := 13) scLaw.nd rfl (by first | exact .inl rfl | exact .inr rfl) (pe_op op_cat (pe_c c__law_times hr (by decide) (by rfl) (pa_cons (pe_ix ix_list (pv 9) pe_int (fun _ _ => rfl)) (pa_cons (pv 7) pa_nil))) (pe_ix ix_list (pv 9) pe_int (fun _ _ => rfl))))
      (pss_cons (ps_if (PW.pt (pw_or (pt_cmpR (op_neD hr.units) (pe_ix ix_tup (pv 11) pe_int (fun _ _ => rfl)) (pe_op op_cat (pe_op op_cat (pv 12) (pe_ix ix_list (pv 9) pe_int (fun _ _ => rfl))) (pv 13)) (nomark _)) (pw_or1 (pt_cmpR (op_neD hr.units) (pe_ix ix_tup (pv 11) pe_int (fun _ _ => rfl)) (pe_op op_cat (pe_op op_cat (pv 12) (pe_ix ix_list (pv 9) pe_int (fun _ _ => rfl))) (pv 13)) (nomark _))))) (pss_one (ps_ret pe_bl)) pss_nil)
      (pss_cons (ps_if (PW.pt (pw_or (pt_cmpR op_notIn_seq (pe_c c__law_value hr (by decide) (by rfl) (pa_cons (pv 2) (pa_cons (pe_ix ix_tup (pv 11) pe_int (fun _ _ => rfl)) pa_nil))) (pv 3) (by with_unfolding_all rfl)) (pw_or1 (pt_cmpR op_notIn_seq (pe_c c__law_value hr (by decide) (by rfl) (pa_cons (pv 2) (pa_cons (pe_ix ix_tup (pv 11) pe_int (fun _ _ => rfl)) pa_nil))) (pv 4) (by with_unfolding_all rfl))))) (pss_one (ps_ret pe_bl)) pss_nil)
      (pss_one (ps_ret (pe_c c__law_same_ends hr (by decide) (by rfl) (pa_cons (pe_ix ix_tup (pv 11) pe_int (fun _ _ => rfl)) (pa_cons (pe_ix ix_tup (pv 11) pe_int (fun _ _ => rfl)) (pa_cons (pv 7) pa_nil)))))))))))))))))))))), ?_⟩
    any_goals (show blkC NL (defScope sLaw) _ _ = true; decide +kernel)
    refine ⟨_, rfl, a, ns, rfl, hA, hl, hT, fun H1 b n1 hB => ?_⟩
    refine ⟨_, rfl, b, rfl, n1.tb, hB, fun H2 sa M L n2 hS hV => ?_⟩
    obtain ⟨ta, la, s1, hM, hL⟩ := id hS
    obtain ⟨xs, hx, hxl⟩ := hM.len
    -- first
    dsimp only [tSeq, tAsg, tCall, tCons]
    refine ⟨_, rfl, ?_⟩
    refine Rd.len (Rd.fst s1 (Rd.var rfl)) (.inr hx) hxl _ ⟨b, M.length, rfl, hV.n4, n2.tb, n2.bx, fun H3 fa n1s n3 hf hv1 => ?_⟩
    -- second
    refine ⟨_, rfl, ?_⟩
    refine Rd.len (Rd.fst (n3.seqT s1) (Rd.var rfl)) (.inr (n3.seqT hx)) hxl _ ⟨b, M.length, rfl, hV.n4, n3.tb, n3.bx, fun H4 fa2 n2s n4 hf2 hv2 => ⟨fa2, rfl, ⟨_, .inl (.inl hf2)⟩, fun D hD => ?_⟩⟩
    have n34 := n3.trans n4
    refine lc_it (n := (ivs n2s).length) walk_tup (fun i H' => Nx T H4 H' ∧ H' D = some (.lst (ivs ((n2s.take i).filter fun x => decide (x ∉ n1s))))) ⟨(Nx.refl n4.tb).new hD, upd_same⟩ (fun i H' _ h => .inl (.inl (h.1.tup hf2))) (fun i x H' H'' hi h y => ?_) (fun H5 h => ?_)
    · obtain ⟨n5, e5⟩ := h
      obtain ⟨rfl, hx⟩ := y
      obtain ⟨rfl, hi'⟩ := ivs_at hx
      have ek : (n2s.take (i + 1)).filter (fun x => decide (x ∉ n1s)) = (n2s.take i).filter (fun x => decide (x ∉ n1s)) ++ (if n2s.getD i 0 ∈ n1s then [] else [n2s.getD i 0]) := by
        rw [List.take_succ_eq_append_getElem hi', List.filter_append, getD_get hi']
        by_cases h : n2s[i] ∈ n1s <;> simp [h]
      have hlen : ((n2s.take i).filter (fun x => decide (x ∉ n1s))).length ≤ 4 := by
        have h1 := List.length_filter_le (fun x => decide (x ∉ n1s)) (n2s.take i)
        have h2 := hv2.2.2
        rw [List.length_take] at h1
        omega
      refine ⟨rfl, _, rfl, _, rfl, fa, _, rfl, .inr (.inl (.inl (n5.tup (n4.tup hf)))), rfl, flat_ivs n1s, _, rfl, ?_⟩
      cases hin : inV (.int (n2s.getD i 0 : Nat)) (ivs n1s) with
      | true =>
        rw [if_pos (inV_ivs hin), List.append_nil] at ek
        exact ⟨n5, by rw [ek]; exact e5⟩
      | false =>
        rw [if_neg (fun z => by rw [inV_mem z] at hin; cases hin)] at ek
        exact ⟨_, rfl, _, e5, small1000 (by rw [ivs_len]; omega), n5.upd_ hD (lst_ne_tbl e5), by rw [upd_same, ek]; simp⟩
    obtain ⟨n5, e5⟩ := h
    rw [ivs_len, List.take_length] at e5
    refine .inl ⟨D, _, rfl, .inl (.inl e5), fun ga hga => ?_⟩
    have N5 := (n34.nx n5).new hga (o := .tup (ivs (n2s.filter fun x => decide (x ∉ n1s))))
    have hF : upd H5 ga (.tup (ivs (n2s.filter fun x => decide (x ∉ n1s)))) fa = some (.tup (ivs n1s)) := upd_keep (n5.tup (n4.tup hf)) hga
    have hG : upd H5 ga (.tup (ivs (n2s.filter fun x => decide (x ∉ n1s)))) ga = some (.tup (ivs (n2s.filter fun x => decide (x ∉ n1s)))) := upd_same
    generalize upd H5 ga (.tup (ivs (n2s.filter fun x => decide (x ∉ n1s)))) = H6 at N5 hF hG
    have hv3 : VS M.length (n2s.filter fun x => decide (x ∉ n1s)) := ⟨hv2.1.filter _, fun x hx => hv2.2.1 x (List.mem_filter.mp hx).1, Nat.le_trans (List.length_filter_le _ _) hv2.2.2⟩
    have dj : ∀ x ∈ n1s, x ∉ n2s.filter fun x => decide (x ∉ n1s) := fun x h1 h2 => by
      have := (List.mem_filter.mp h2).2
      simp at this
      exact this h1
    generalize n2s.filter (fun x => decide (x ∉ n1s)) = m2s at hG hv3 dj
    clear n5 e5 hga hD hf2 hv2 n4 hf
    -- the drawn rounds
    refine ⟨_, rfl, b, rfl, N5.tb, N5.bx, fun H7 n7 => ⟨true, rfl, iteF ?_⟩⟩
    have N7 := N5.trans n7
    have hS7 := hS.bs N7
    have hF := n7.tup hF
    have hG := n7.tup hG
    -- told
    refine ⟨_, rfl, _, rfl, _, rfl, sa, fa, ga, M, L, n1s, m2s, rfl, hS7, hV, .inl (.inl hF), .inl (.inl hG), hv1, hv3, dj, N7.tb, fun H8 l t r ws n8 hl8 ht8 hR hO => ?_, fun H8 l t n8 hl8 ht8 => ?_, fun H8 l n8 hl8 => ?_⟩
    rotate_left
    · dsimp only [gName, tIfS, tOr, tTest, tRet, tOrV]
      refine Rd.eqS (c := false) (Rd.atLk (k := 0) (.inl (.inl hl8)) (Rd.var rfl) rfl) Rd.c (by decide +kernel) _ ⟨_, rfl, iteF ?_⟩
      refine Rd.neS (c := false) (Rd.atT (k := 0) (.inl (.inl ht8)) (Rd.atLk (k := 1) (.inl (.inl hl8)) (Rd.var rfl) rfl) rfl) Rd.c (by decide +kernel) _ ⟨_, rfl, iteT ?_⟩
      refine Rd.eqS (c := false) (Rd.atLk (k := 0) (.inl (.inl hl8)) (Rd.var rfl) rfl) Rd.c (by decide +kernel) _ ⟨_, rfl, iteF ?_⟩
      exact Rd.eqS (c := true) (Rd.atT (k := 0) (.inl (.inl ht8)) (Rd.atLk (k := 1) (.inl (.inl hl8)) (Rd.var rfl) rfl) rfl) Rd.c (by decide +kernel) _ (q _)
    · dsimp only [gName, tIfS, tOr, tTest, tRet, tOrV]
      refine Rd.eqS (c := true) (Rd.atLk (k := 0) (.inl (.inl hl8)) (Rd.var rfl) rfl) Rd.c (by decide +kernel) _ ⟨_, rfl, iteT (iteT ?_)⟩
      exact Rd.eqS (c := true) (Rd.atLk (k := 0) (.inl (.inl hl8)) (Rd.var rfl) rfl) Rd.c (by decide +kernel) _ ⟨_, rfl, iteT (q _)⟩
    dsimp only [gName, tIfS, tOr, tTest, tRet, tOrV]
    refine Rd.eqS (c := false) (Rd.atLk (k := 0) (.inl (.inl hl8)) (Rd.var rfl) rfl) Rd.c (by decide +kernel) _ ⟨_, rfl, iteF ?_⟩
    refine Rd.neS (c := true) (Rd.atT (k := 0) (.inl (.inl ht8)) (Rd.atLk (k := 1) (.inl (.inl hl8)) (Rd.var rfl) rfl) rfl) Rd.c (by decide +kernel) _ ⟨_, rfl, iteF ?_⟩
    -- the rounds
    obtain ⟨be, lo, le, ri, ba, bh, hv, tv, o1, o2, rfl, _, _, _, _, k1, k2, k3, k4, k5, k6, k7, k8⟩ := hO
    have N8 := N7.nx n8
    refine ⟨_, rfl, b, 21, rfl, by omega, N8.tb, N8.bx, fun H9 n n9 hn => ?_⟩
    have N9 := N8.trans n9
    have hR9 : RT H9 r [be, lo, le, ri, ba, bh] := by
      obtain ⟨as, g1, g2⟩ := hR
      exact ⟨as, n9.tup g1, paired_map g2 fun _ _ z => n9.lst z⟩
    have l100 : ∀ w ∈ [be, lo, le, ri, ba, bh], w.length ≤ 100 := fun w hw => by
      have h1 := k1.len
      have h2 := k2.len
      have h3 := k4.len
      have h4 := k5.len
      have h5 := k7.2.1
      have h6 := k8.2.1
      simp at hw
      rcases hw with rfl | rfl | rfl | rfl | rfl | rfl <;> omega
    dsimp only [gName, tNext]
    refine Rd.atT (k := 1) (.inl (.inl (n9.tup ht8))) (Rd.atLk (k := 1) (.inl (.inl (n9.lst hl8))) (Rd.var rfl) rfl) rfl _ ?_
    dsimp only [gName, tSeq, tAsg]
    -- kept
    refine listCopies (K := K) (sl := 8) ?_ ?_ ?_ N9.tb hR9 (by simp) fun H10 Dk n10 hk => ?_
    · rfl
    · exact fun _ => rfl
    · exact fun _ => rfl
    have N10 := N9.nx n10
    have rtx : ∀ {H' : Hp}, Nx T H9 H' → RT H' r [be, lo, le, ri, ba, bh] := fun z => by
      obtain ⟨as, g1, g2⟩ := hR9
      exact ⟨as, z.tup g1, paired_map g2 fun _ _ y => z.lst y⟩
    -- round_words
    refine ⟨_, rfl, _, rfl, r, n, be, lo, le, ri, ba, bh, rfl, rtx n10, l100, by omega, N10.tb, fun H11 wt x y n11 ht hx hy _ _ _ _ => ?_⟩
    have N11 := N10.nx n11
    have hk11 := hk.ll.nx n11
    -- nothing has changed
    dsimp only [gName, tSeq, tAsg, tIfS, tOr, tTest, tOp, tNot]
    refine listCopies (K := K) (sl := 8) ?_ ?_ ?_ N11.tb (rtx (n10.trans n11)) (by simp) fun H12 D2 n12 hk2 => ?_
    · rfl
    · exact fun _ => rfl
    · exact fun _ => rfl
    have N12 := N11.nx n12
    refine ⟨_, rfl, dLL _, dLL _, dp_LL hk2.ll, dp_LL (hk11.nx n12), sh_dLL _, sh_dLL _, ?_⟩
    rw [eqv_same (sh_dLL _)]
    have ht := n12.tup ht
    have hx := n12.lst hx
    have hy := n12.lst hy
    refine ⟨false, rfl, iteF ?_⟩
    refine ⟨_, rfl, .ref wt, .ty "tuple", .type "tuple", .type "tuple", true, rfl, .ty _, .base (.tup ht), (by first | rfl | (unfold PySem.W.kitOne; rfl)), ⟨true, rfl, iteF ?_⟩⟩
    refine Rd.len (n := 2) (Rd.var rfl) (.inr (.inl (.inl ht))) rfl _ ⟨rfl, _, rfl, iteF ?_⟩
    obtain ⟨as, g0, gp⟩ := hk11.nx n12
    cases gp with
    | @cons c0 _ _ _ g1 gp =>
    cases gp with
    | @cons c1 _ _ _ g2 gp =>
    cases gp with
    | @cons c2 _ _ _ g3 gp =>
    cases gp with
    | @cons c3 _ _ _ g4 gp =>
    cases gp with
    | @cons c4 _ _ _ g5 gp =>
    cases gp with
    | @cons c5 _ _ _ g6 gp =>
    cases gp
    have s0 := l100 be (by simp)
    have s1' := l100 lo (by simp)
    have s2 := l100 le (by simp)
    have s3 := l100 ri (by simp)
    have s4 := l100 ba (by simp)
    have s5 := l100 bh (by simp)
    have sz : (10000 : Nat) ≤ sizeLine := by decide
    have m1 : n * lo.length ≤ 20 * 100 := Nat.mul_le_mul (by omega) s1'
    have m4 : n * ba.length ≤ 20 * 100 := Nat.mul_le_mul (by omega) s4
    -- begun
    refine ⟨_, rfl, Dk, _, 0, .ref c0, rfl, rfl, .inl (.inl g0), rfl, ?_⟩
    refine ⟨_, rfl, Dk, _, 1, .ref c1, rfl, rfl, .inl (.inl g0), rfl, _, rfl, c1, n, lo, rfl, g2, s1', by omega, N12.tb, fun H13 p1 n13 e13 _ => ?_⟩
    refine ⟨c0, p1, _, _, rfl, rfl, n13.lst g1, e13, by rw [ivs_len, ivs_len, rp_len]; omega, fun p2 hp2 => ?_⟩
    rw [ivs_app]
    have q14 := n13.new hp2 (o := .lst (ivs (be ++ rp n lo)))
    have eb : upd H13 p2 (.lst (ivs (be ++ rp n lo))) p2 = some (.lst (ivs (be ++ rp n lo))) := upd_same
    generalize upd H13 p2 (.lst (ivs (be ++ rp n lo))) = H14 at q14 eb
    -- ended
    refine ⟨_, rfl, Dk, _, 4, .ref c4, rfl, rfl, .inl (.inl (q14.lst g0)), rfl, _, rfl, c4, n, ba, rfl, q14.lst g5, s4, by omega, q14.tb, fun H15 p3 n15 e15 _ => ?_⟩
    have q15 := q14.trans n15
    refine ⟨_, rfl, Dk, _, 5, .ref c5, rfl, rfl, .inl (.inl (q15.lst g0)), rfl, p3, c5, _, _, rfl, rfl, e15, q15.lst g6, by rw [ivs_len, ivs_len, rp_len]; omega, fun p4 hp4 => ?_⟩
    rw [ivs_app]
    have q16 := q15.new hp4 (o := .lst (ivs (rp n ba ++ bh)))
    have ee : upd H15 p4 (.lst (ivs (rp n ba ++ bh))) p4 = some (.lst (ivs (rp n ba ++ bh))) := upd_same
    have eb := upd_keep (n15.lst eb) hp4 (o := .lst (ivs (rp n ba ++ bh)))
    generalize upd H15 p4 (.lst (ivs (rp n ba ++ bh))) = H16 at q16 ee eb
    -- words[0]
    refine ⟨_, rfl, wt, _, 0, .ref x, rfl, rfl, .inl (.inl (q16.tup ht)), rfl, _, rfl, _, rfl, Dk, _, 2, .ref c2, rfl, rfl, .inl (.inl (q16.lst g0)), rfl, p2, c2, _, _, rfl, rfl, eb, q16.lst g3, by rw [ivs_len, ivs_len, List.length_append, rp_len]; omega, fun p5 hp5 => ?_⟩
    rw [ivs_app]
    have q17 := q16.new hp5 (o := .lst (ivs (be ++ rp n lo ++ le)))
    have e5 : upd H16 p5 (.lst (ivs (be ++ rp n lo ++ le))) p5 = some (.lst (ivs (be ++ rp n lo ++ le))) := upd_same
    have ee := upd_keep ee hp5 (o := .lst (ivs (be ++ rp n lo ++ le)))
    have eb := upd_keep eb hp5 (o := .lst (ivs (be ++ rp n lo ++ le)))
    generalize upd H16 p5 (.lst (ivs (be ++ rp n lo ++ le))) = H17 at q17 e5 ee eb
    refine ⟨_, rfl, p5, p4, _, _, rfl, rfl, e5, ee, by simp only [ivs_len, List.length_append, rp_len]; omega, fun p6 hp6 => ?_⟩
    rw [ivs_app]
    have q18 := q17.new hp6 (o := .lst (ivs (be ++ rp n lo ++ le ++ (rp n ba ++ bh))))
    have e6 : upd H17 p6 (.lst (ivs (be ++ rp n lo ++ le ++ (rp n ba ++ bh)))) p6 = some (.lst (ivs (be ++ rp n lo ++ le ++ (rp n ba ++ bh)))) := upd_same
    have ee := upd_keep ee hp6 (o := .lst (ivs (be ++ rp n lo ++ le ++ (rp n ba ++ bh))))
    have eb := upd_keep eb hp6 (o := .lst (ivs (be ++ rp n lo ++ le ++ (rp n ba ++ bh))))
    generalize upd H17 p6 (.lst (ivs (be ++ rp n lo ++ le ++ (rp n ba ++ bh)))) = H18 at q18 e6 ee eb
    refine ⟨dI _, dI _, dp_ivs (.inl (.inl (q18.lst hx))), dp_ivs (.inl (.inl e6)), sh_dI _, sh_dI _, ?_⟩
    rw [show (dI (rwd n be lo le ba bh)).eqv (dI (be ++ rp n lo ++ le ++ (rp n ba ++ bh))) = true from eqv_same (sh_dI _)]
    refine ⟨false, rfl, iteF ?_⟩
    -- words[1]
    refine ⟨_, rfl, wt, _, 1, .ref y, rfl, rfl, .inl (.inl (q18.tup ht)), rfl, _, rfl, _, rfl, Dk, _, 3, .ref c3, rfl, rfl, .inl (.inl (q18.lst g0)), rfl, p2, c3, _, _, rfl, rfl, eb, q18.lst g4, by rw [ivs_len, ivs_len, List.length_append, rp_len]; omega, fun p7 hp7 => ?_⟩
    rw [ivs_app]
    have q19 := q18.new hp7 (o := .lst (ivs (be ++ rp n lo ++ ri)))
    have e7 : upd H18 p7 (.lst (ivs (be ++ rp n lo ++ ri))) p7 = some (.lst (ivs (be ++ rp n lo ++ ri))) := upd_same
    have ee := upd_keep ee hp7 (o := .lst (ivs (be ++ rp n lo ++ ri)))
    generalize upd H18 p7 (.lst (ivs (be ++ rp n lo ++ ri))) = H19 at q19 e7 ee
    refine ⟨_, rfl, p7, p4, _, _, rfl, rfl, e7, ee, by simp only [ivs_len, List.length_append, rp_len]; omega, fun p8 hp8 => ?_⟩
    rw [ivs_app]
    have q20 := q19.new hp8 (o := .lst (ivs (be ++ rp n lo ++ ri ++ (rp n ba ++ bh))))
    have e8 : upd H19 p8 (.lst (ivs (be ++ rp n lo ++ ri ++ (rp n ba ++ bh)))) p8 = some (.lst (ivs (be ++ rp n lo ++ ri ++ (rp n ba ++ bh)))) := upd_same
    generalize upd H19 p8 (.lst (ivs (be ++ rp n lo ++ ri ++ (rp n ba ++ bh)))) = H20 at q20 e8
    refine ⟨dI _, dI _, dp_ivs (.inl (.inl (q20.lst hy))), dp_ivs (.inl (.inl e8)), sh_dI _, sh_dI _, ?_⟩
    rw [show (dI (rwd n be lo ri ba bh)).eqv (dI (be ++ rp n lo ++ ri ++ (rp n ba ++ bh))) = true from eqv_same (sh_dI _)]
    refine ⟨false, rfl, iteF ?_⟩
    -- the values
    have B12 : Bs T b H2 H20 := N12.nx q20
    have nn := (n9.nx n10).nx ((n11.trans n12).trans q20)
    have hF20 : H20 fa = some (.tup (ivs n1s)) := nn.tup (n8.tup hF)
    have hG20 : H20 ga = some (.tup (ivs m2s)) := nn.tup (n8.tup hG)
    obtain ⟨l1, v1, z1, z2⟩ := round_val hV k1 k2 k3 k4 k5 k6 k7 n
    obtain ⟨l2, v2, z3, z4⟩ := round_val hV k1 k2 k3 k4 k5 k6 k8 n
    refine ⟨_, rfl, _, rfl, wt, _, 0, .ref x, rfl, rfl, .inl (.inl (q20.tup ht)), rfl, sa, x, M, L, _, rfl, hS.bs B12, hV, .inl (.inl (q20.lst hx)), l1, ?_⟩
    rw [z1]
    refine ⟨_, rfl, fa, _, rfl, .inr (.inl (.inl hF20)), rfl, flat_ivs n1s, _, rfl, ?_⟩
    rw [show inV (oV (some v1)) (ivs n1s) = true from inV_mem z2]
    refine iteF ?_
    refine ⟨_, rfl, _, rfl, wt, _, 1, .ref y, rfl, rfl, .inl (.inl (q20.tup ht)), rfl, sa, y, M, L, _, rfl, hS.bs B12, hV, .inl (.inl (q20.lst hy)), l2, ?_⟩
    rw [z3]
    refine ⟨_, rfl, ga, _, rfl, .inr (.inl (.inl hG20)), rfl, flat_ivs m2s, _, rfl, ?_⟩
    rw [show inV (oV (some v2)) (ivs m2s) = true from inV_mem z4]
    refine iteF ?_
    -- the ends
    obtain ⟨u1, u2, u3, u4⟩ := round_ends n be lo le ri ba bh k2.ne k5.ne
    exact ⟨_, rfl, wt, _, 0, .ref x, rfl, rfl, .inl (.inl (q20.tup ht)), rfl, _, rfl, wt, _, 1, .ref y, rfl, rfl, .inl (.inl (q20.tup ht)), rfl, _, rfl, x, y, n, _, _, rfl, .inl (.inl (q20.lst hx)), .inl (.inl (q20.lst hy)), u1, u2, u3, u4, q20.tb, fun H' _ => q _⟩
end
end K37
set_option Elab.async false
set_option linter.all false
set_option maxRecDepth 100000
set_option maxHeartbeats 0
namespace K37
open PySem PySem.Spec PyProof.Rows L2
def dfn (x : Str) (st : Stmt) : He.DefD := ⟨(x, none), x, x, defArgs st, defBody st, defScope st, [], []⟩
def fn : List He.DefD := [dfn "is_associative" sAssoc, dfn "fault_of" sFault, dfn "check" sCheck, dfn "value_of" sValue, dfn "is_value_set" sIsVS, dfn "first_words" sFirst, dfn "check_sets" sChkSets, dfn "words_below" sWords,
  dfn "ends_of" sEnds, dfn "tells_apart" sTells, dfn "stayers" sStay, dfn "middle_for" sMid, dfn "rounds_of" sRounds, dfn "round_words" sRW, dfn "ends_apart" sEA, dfn "_law_draws" sDraws, dfn "_law_box" sBox, dfn "_law_next" sNext,
  dfn "_law_simple" sSimple, dfn "_law_associative" sLAssoc, dfn "_law_table" sTable, dfn "_law_semigroup" sSemi, dfn "_law_subset" sSubset, dfn "_law_value" sLValue, dfn "_law_refused" sRefused, dfn "_law_same_ends" sSame,
  dfn "_law_times" sTimes, dfn "_law_drawn" sDrawn, dfn "law" sLaw]
def fa : List He.Fa := fn.map (fun d => He.Fa.glo d.at_.1) ++ [.glo "NoLength", .glo "FilterError", .int "MOST_VALUES" 4, .int "MOST_LETTERS" 3, .exc "NoLength", .exm "NoLength" "NoLength" true,
  .free "list", .free "range", .free "len", .free "all", .free "any", .free "set", .free "enumerate", .free "tuple", .free "max", .free "min", .free "int", .free "isinstance"]
def tf : List He.Defn := [("is_associative", none), ("fault_of", none), ("is_value_set", none), ("check_sets", none), ("ends_of", none), ("tells_apart", none)]
/-- what isinstance asks of the class NoLength -/
def exB (K : PySem.W.Frag) : Bool :=
  He.eqO (PySem.W.findIn K (.ref (He.ga K "NoLength")) "__getattribute__") (some (some (.builtin "BaseException.__getattribute__"))) &&
  (He.eqO (PySem.W.findIn K (.ref (He.ga K "NoLength")) "__getattr__") (some none) &&
  (decide (PySem.W.subIn K (.ref (He.ga K "NoLength")) (.type "BaseException") = some true) &&
  (PySem.W.hasDictIn K (He.ga K "NoLength") &&
  (He.eqO (PySem.W.findIn K (.ref (He.ga K "NoLength")) "__class__") (some (some (.builtin "object.__class__"))) &&
  (He.eqO (PySem.W.specialIn K (.builtin "object.__class__") "__get__") (some (some (.builtin "getset_descriptor.__get__"))) &&
  (decide (PySem.W.takesIn K (.builtin "object.__class__") = some true) &&
  (decide (PySem.W.mroIn K (He.ga K "NoLength") (.type "object") = some true) &&
  decide (PySem.W.kitOne K (.ref (He.ga K "NoLength")) (.ref (He.ga K "FilterError")) = some true))))))))
abbrev R : PySem.W.OpenRow := PySem.W.OpenLaw.row PySem.Challenge.rw_partfilter_k37_whole_rounds
abbrev hk : PySem.W.Hook := He.hookX 3 fa fn [] tf exB
def ob (s : PySem.W.SharedT) : He.AlX := He.obsX 3 fa fn [] tf exB (HandSHeadRun.getT s)
theorem ob_eq (s : PySem.W.SharedT) : ob s = hk.obs s.abs := He.obsX_eq (HandSHeadRun.getT_eq s)
def loose1 : List Str := ["FilterError", "InvalidSemigroup", "InvalidValue", "NoLength", "MOST_VALUES", "MOST_LETTERS", "is_associative", "fault_of", "check", "value_of", "is_value_set", "first_words"]
def loose2 : List Str := ["check_sets", "words_below", "ends_of", "tells_apart", "stayers", "middle_for", "rounds_of", "round_words", "ends_apart", "_law_draws", "_law_box", "_law_next"]
def loose3 : List Str := ["_law_simple", "_law_associative", "_law_table", "_law_semigroup", "_law_subset", "_law_word", "_law_value", "_law_refused", "_law_same_ends", "_law_times", "_law_drawn"]
def loose : List Str := loose1 ++ (loose2 ++ loose3)
theorem run (w : World) : HandSHeadRun.RunEq R (PySem.W.view R.prog [40]) hk ob 3000 loose w := by
  intro os
  kernel_rfl
end K37
set_option Elab.async false
set_option linter.all false
set_option maxRecDepth 100000
set_option maxHeartbeats 0
namespace K37
open PySem PySem.Spec PyProof.Rows L2
open C8 (Cal pe_c)
def cs (K : PySem.W.Frag) : List (Addr × Addr) := tf.map (He.cT K)
def TT (K : PySem.W.Frag) : List Addr := tf.map fun p => (He.cT K p).2
section
variable {P : Program} {w : World} {K : PySem.W.Frag} {h : Heap} {mg : Str → Option Value} {base : Heap}
theorem mem_fa {x : Str} {st : Stmt} (hx : dfn x st ∈ fn) : He.Fa.glo x ∈ fa := List.mem_append_left _ (List.mem_map.mpr ⟨_, hx, rfl⟩)
theorem mkD (KX : K.In h) (G : h.Ns mainGlobals mg) (c : He.SaysD fa fn K) (i : Nat) {x : Str} {st : Stmt} (hi : fn[i]? = some (dfn x st)) : Dn K mg x st := by
  obtain ⟨fd, F⟩ := c.def_ i hi
  exact ⟨He.ga K x, fd, F, He.glo_ok KX G (c.facts (mem_fa (List.mem_of_getElem? hi)))⟩
theorem mkT (KX : K.In h) (G : h.Ns mainGlobals mg) (c : He.SaysD fa fn K) (TB : ∀ p ∈ cs K, LamX.TabB base mg p.1 p.2) (i j : Nat) {x : Str} {st : Stmt} (hi : fn[i]? = some (dfn x st)) (hj : tf[j]? = some (x, none)) :
    Tn K mg base (TT K) x st := by
  obtain ⟨fd, F⟩ := c.def_ i hi
  obtain ⟨oc, od, dV, kV, doc, pm, an, cdv, ct, osl, rfl, lk, hcd, _⟩ := id F.ex
  obtain ⟨c0, rfl⟩ := He.codeIn_ref hcd
  have e : He.codeOf K (x, none) = c0 := He.codeOf_eq lk rfl
  have hm : (x, none) ∈ tf := List.mem_of_getElem? hj
  have tb := TB (He.cT K (x, none)) (List.mem_map.mpr ⟨_, hm, rfl⟩)
  exact ⟨He.ga K x, _, c0, (He.cT K (x, none)).2, F, He.glo_ok KX G (c.facts (mem_fa (List.mem_of_getElem? hi))), rfl, ⟨e ▸ tb.code, tb.bm, tb.gP⟩, List.mem_map.mpr ⟨_, hm, rfl⟩⟩
theorem mkB (KX : K.In h) (G : h.Ns mainGlobals mg) (c : He.SaysD fa fn K) : Bn mg :=
  have go : ∀ x : Str, He.Fa.free x ∈ fa → mg x = none := fun x hx => He.free_ok KX G (c.facts hx)
  ⟨go "list" (by simp [fa]), go "range" (by simp [fa]), go "len" (by simp [fa]), go "all" (by simp [fa]), go "any" (by simp [fa]), go "set" (by simp [fa]), go "enumerate" (by simp [fa]), go "tuple" (by simp [fa]),
    go "max" (by simp [fa]), go "min" (by simp [fa]), go "int" (by simp [fa]), go "isinstance" (by simp [fa])⟩
theorem mkE (KX : K.In h) (G : h.Ns mainGlobals mg) (c : He.SaysD fa fn K) (m : exB K = true) : ExD K mg (He.ga K "NoLength") (He.ga K "FilterError") := by
  obtain ⟨e1, e2, e3, e4⟩ := He.exc_ok (c.facts (f := .exc "NoLength") (by simp [fa]))
  obtain ⟨m1, m⟩ := He.ba m
  obtain ⟨m2, m⟩ := He.ba m
  obtain ⟨m3, m⟩ := He.ba m
  obtain ⟨m4, m⟩ := He.ba m
  obtain ⟨m5, m⟩ := He.ba m
  obtain ⟨m6, m⟩ := He.ba m
  obtain ⟨m7, m⟩ := He.ba m
  obtain ⟨m8, m9⟩ := He.ba m
  exact ⟨e1, He.glo_ok KX G (c.facts (f := .glo "NoLength") (by simp [fa])), e2, e3, e4,
    ⟨He.eqO_ok m1, He.eqO_ok m2, of_decide_eq_true m3, m4, He.eqO_ok m5, He.eqO_ok m6, of_decide_eq_true m7, of_decide_eq_true m8⟩,
    He.glo_ok KX G (c.facts (f := .glo "FilterError") (by simp [fa])), of_decide_eq_true m9, He.exm_ok (c.facts (f := .exm "NoLength" "NoLength" true) (by simp [fa]))⟩
theorem fin (KX : K.In h) (G : h.Ns mainGlobals mg) (c : He.SaysD fa fn K) (m : exB K = true) :
    ∃ fd : FuncData, (∀ (s : Shared) (v : Value), BindsTo s fd ⟨[v], []⟩ [("_law_script", v)]) ∧
      ∀ base : Heap, (∀ p ∈ cs K, LamX.TabB base mg p.1 p.2) → FnOk P w K mg base CX0 10 (He.ga K "law") fd ["_law_script"] (spLaw (TT K) K) := by
  obtain ⟨fd, F⟩ := c.def_ 28 (d := dfn "law" sLaw) rfl
  have b := FunD.bindsA (ps := ["_law_script"]) F fun _ _ _ _ _ _ us hl => by match us, hl with | [_], _ => rfl
  refine ⟨fd, fun s v => b s [v] rfl, fun base TB => ?_⟩
  have B : Bn mg := mkB KX G c
  have Ex := mkE KX G c m
  obtain ⟨u1, hMV⟩ := He.int_ok KX G (c.facts (f := .int "MOST_VALUES" 4) (by simp [fa]))
  obtain ⟨u2, hML⟩ := He.int_ok KX G (c.facts (f := .int "MOST_LETTERS" 3) (by simp [fa]))
  have c_assoc : Cal P w K mg base 2 "is_associative" (spAssoc (TT K) K) [] := ok_assoc (mkT KX G c TB 0 0 rfl rfl) B
  have c_fault : Cal P w K mg base 4 "fault_of" (spFault (TT K) K) [] := ok_fault (mkT KX G c TB 1 1 rfl rfl) B hMV hML c_assoc
  have c_check : Cal P w K mg base 5 "check" (spFault (TT K) K) [] := ok_check (mkD KX G c 2 rfl) c_fault
  have c_value : Cal P w K mg base 1 "value_of" (spValue K) [] := ok_value (mkD KX G c 3 rfl)
  have c_isvs : Cal P w K mg base 2 "is_value_set" (spIsVS (TT K) K) [] := ok_isvs (mkT KX G c TB 4 2 rfl rfl) B
  have c_first : Cal P w K mg base 1 "first_words" (spFirst (TT K) K) [] := ok_first (mkD KX G c 5 rfl) B
  have c_cs : Cal P w K mg base 6 "check_sets" (spChkSets (TT K) K) [] := ok_chkSets (mkT KX G c TB 6 3 rfl rfl) B c_check c_isvs
  have c_words : Cal P w K mg base 1 "words_below" (spWords (TT K)) [] := ok_words (mkD KX G c 7 rfl) B
  have c_ends : Cal P w K mg base 3 "ends_of" (spEnds (TT K) K) [] := ok_ends (mkT KX G c TB 8 4 rfl rfl) B c_words c_first c_value
  have c_tells : Cal P w K mg base 4 "tells_apart" (spTells (TT K) K) [] := ok_tells (mkT KX G c TB 9 5 rfl rfl) B c_ends
  have c_stay : Cal P w K mg base 2 "stayers" (spStay (TT K) K) [] := ok_stay (mkD KX G c 10 rfl) B c_first
  have c_mid : Cal P w K mg base 2 "middle_for" (spMid (TT K) K) [] := ok_mid (mkD KX G c 11 rfl) B c_first
  have c_rounds : Cal P w K mg base 3 "rounds_of" (spRounds (TT K) K) [] := ok_rounds (mkD KX G c 12 rfl) B c_stay c_mid
  have c_rw : Cal P w K mg base 1 "round_words" (spRW (TT K)) [] := ok_rw (mkD KX G c 13 rfl) B
  obtain ⟨fE, FE⟩ := c.def_ 14 (d := dfn "ends_apart" sEA) rfl
  have g_ea := ok_ea (P := P) (w := w) (base := base) (T := TT K) FE B Ex c_cs c_first c_rounds c_tells
  have b_ea := FunD.bindsN (ps := ["semigroup", "first", "second", "most"]) FE fun _ _ _ _ _ _ us hl => by match us, hl with | [_, _, _, _], _ => rfl
  have gE : mg "ends_apart" = some (.ref (He.ga K "ends_apart")) := He.glo_ok KX G (c.facts (mem_fa (List.mem_of_getElem? (i := 14) (a := dfn "ends_apart" sEA) rfl)))
  have c_draws : Cal P w K mg base 1 "_law_draws" (spDraws (TT K)) [] := ok_draws (mkD KX G c 15 rfl) B
  have c_box : Cal P w K mg base 2 "_law_box" (spBox (TT K) K) [] := ok_box (mkD KX G c 16 rfl) B c_draws
  have c_next : Cal P w K mg base 1 "_law_next" (spNext (TT K)) [] := ok_next (mkD KX G c 17 rfl) B
  have c_simple : Cal P w K mg base 1 "_law_simple" spSimple [] := ok_simple (mkD KX G c 18 rfl) B
  have c_lassoc : Cal P w K mg base 1 "_law_associative" spLAssoc [] := ok_lassoc (mkD KX G c 19 rfl) B
  have c_table : Cal P w K mg base 2 "_law_table" (spTable (TT K) K) [] := ok_table (mkD KX G c 20 rfl) B c_next c_lassoc c_simple
  have c_semi : Cal P w K mg base 3 "_law_semigroup" (spSemi (TT K) K) [] := ok_semi (mkD KX G c 21 rfl) B c_next c_table
  have c_subset : Cal P w K mg base 2 "_law_subset" (spSubset (TT K) K) [] := ok_subset (mkD KX G c 22 rfl) B c_next
  have c_lval : Cal P w K mg base 1 "_law_value" (spValue K) [] := ok_lvalue (mkD KX G c 23 rfl)
  have c_ref : Cal P w K mg base 9 "_law_refused" (spRefused (TT K) K) [] := ok_refused (mkD KX G c 24 rfl) B Ex g_ea gE FE.kp b_ea
  have c_same : Cal P w K mg base 1 "_law_same_ends" (spSame K (TT K)) [] := ok_same (mkD KX G c 25 rfl) B
  have c_times : Cal P w K mg base 1 "_law_times" (spTimes (TT K)) [] := ok_times (mkD KX G c 26 rfl) B
  have c_drawn : Cal P w K mg base 2 "_law_drawn" (spDrawn (TT K)) [] := ok_drawn (mkD KX G c 27 rfl) B c_next c_times c_rw
  exact ok_law F B c_box c_semi c_subset c_drawn c_ref c_next c_rw c_times c_lval c_same
end
end K37
open PySem PySem.W PySem.Calls PyProof.Rows
theorem PySem.Challenge.cw_partfilter_k37_whole_rounds_holds : PySem.Challenge.rw_partfilter_k37_whole_rounds.Holds := by
  w_on; o_law
  refine HandSHeadRun.head_any (r := OpenLaw.row PySem.Challenge.rw_partfilter_k37_whole_rounds) (q := view (OpenLaw.row PySem.Challenge.rw_partfilter_k37_whole_rounds).prog [40]) (H := K37.hk) (ob := K37.ob) (M := 3000) (loose := K37.loose) (d := HandSHeadRun.topDef (OpenLaw.row PySem.Challenge.rw_partfilter_k37_whole_rounds).prog 40) (kwd := []) K37.ob_eq
    (by kernel_rfl) (fun s => by kernel_rfl) K37.run (by kernel_rfl) (by kernel_rfl) (by kernel_rfl) (by rfl) (by first | assumption | decide +kernel) (by decide +kernel) ⟨rfl, rfl, rfl, rfl, rfl, by decide +kernel⟩ ?hw ?hc
  case hw => w_witness2
  case hc =>
    refine LamX.walk_ofTsE (l := PySem.Challenge.rw_partfilter_k37_whole_rounds) (n := 63) (k := 10) (x := "_law_script") (CX := fun _ => L2.CX0) rfl (by decide) (by kernel_rfl) ⟨rfl, by decide, by decide⟩ ?F (fun _ _ _ _ _ z => z)
    intro w mg f h Y G hmg0
    obtain ⟨K, KX, c⟩ := Y
    have hmg : mg ("law" : PySem.Str) = some (.ref f) := by
      have e : (HandSHeadRun.topDef (OpenLaw.row PySem.Challenge.rw_partfilter_k37_whole_rounds).prog 40).name = ("law" : PySem.Str) := by kernel_rfl
      rw [← e]
      exact hmg0
    have ef := hmg.symm.trans (He.glo_ok KX G (c.t.d.facts (K37.mem_fa (List.mem_of_getElem? (i := 28) (a := K37.dfn "law" K37.sLaw) rfl))))
    cases ef
    obtain ⟨fd, hb, hF⟩ := K37.fin (P := (PySem.Challenge.rw_partfilter_k37_whole_rounds).prog) (w := w) KX G c.t.d c.more
    refine ⟨K, KX, fd, K37.cs K, K37.spLaw (K37.TT K) K, fun p hp => ?_, fun p hp => ?_, fun p hp => ?_, hb, fun H a ns hl _ hT hS => ?_, fun base _ _ TB => hF base TB⟩
    · obtain ⟨q, hq, rfl⟩ := List.mem_map.mp hp
      exact c.empty q hq
    · obtain ⟨q, hq, rfl⟩ := List.mem_map.mp hp
      exact c.out q hq
    · obtain ⟨q, hq, rfl⟩ := List.mem_map.mp hp
      exact codeHd_of_K KX (c.hd q hq)
    · refine ⟨a, ns, rfl, hS, hl, fun p hp => ?_, fun _ => rfl⟩
      obtain ⟨q, hq, rfl⟩ := List.mem_map.mp hp
      exact ⟨#[], hT _ (List.mem_map.mpr ⟨q, hq, rfl⟩), trivial⟩
